/- Split and Widest return what the document says, From returns the interval of two numbers; where what it reads is of bulk at most 1048576. -/
import Derived.Test.YtlnhbjpphecakaaGreatDoorLn12
import Derived.Test.YtlnhbjpphecakaaGreatDoorLn13
import Derived.JoinedCond

set_option linter.all false
set_option maxHeartbeats 8000000
set_option maxRecDepth 100000
namespace Go.Proofs.YtlnhbjpphecakaaGreatDoor
open Go.Am
theorem andT {a b:Bool}(h:a=true) (h':b=true):(a && b)=true:=by rw [h,h'];rfl
theorem rangesSplits_closed:joinedFacts Tryz.prog 4 Tryz.f4 (Rows.OpenSpec.upto Rows.rangesSplitsSpec).bare Rows.rangesSplitsUptoRow=true:=by
 unfold joinedFacts
 exact andT (andT (andT (andT (andT (andT (andT (andT (andT (andT (andT (andT (andT (andT (andT (andT (andT (andT (andT (andT (andT (andT (andT (andT (andT (andT (andT (andT (andT (andT (andT rangesSplitsUpto_c0 rangesSplitsUpto_c1) rangesSplitsUpto_c2) rangesSplitsUpto_c3) rangesSplitsUpto_c4) rangesSplitsUpto_c5) rangesSplitsUpto_c6) rangesSplitsUpto_c7) rangesSplitsUpto_c8) rangesSplitsUpto_c9) rangesSplitsUpto_c10) rangesSplitsUpto_c11) rangesSplitsUpto_c12) rangesSplitsUpto_c13) rangesSplitsUpto_c14) rangesSplitsUpto_c15) rangesSplitsUpto_c16) rangesSplitsUpto_c17) rangesSplitsUpto_c18) rangesSplitsUpto_c19) rangesSplitsUpto_c20) rangesSplitsUpto_c21) rangesSplitsUpto_c22) rangesSplitsUpto_c23) rangesSplitsUpto_c24) rangesSplitsUpto_c25) rangesSplitsUpto_c26) rangesSplitsUpto_c27) rangesSplitsUpto_c28) rangesSplitsUpto_c29) rangesSplitsUpto_c30) rangesSplitsUpto_c31
theorem rangesSplits_inst:Tryz.f4.isInstance Tryz.prog Rows.rangesSplitsUptoRow.origin Rows.rangesSplitsUptoRow.targs:=of_decide_eq_true (by kernel_rfl)
theorem rangesSplits_wrap:Tryz.f4.isWrapper Tryz.prog Rows.rangesSplitsUptoRow.wrapper Rows.rangesSplitsUptoRow.mainSum:=by
 unfold Func.isWrapper;first|(rw [if_pos (by decide +kernel)];kernel_rfl)|(rw [if_neg (by decide +kernel)];exact⟨rfl,rfl⟩)
theorem rangesSplits_named:Tryz.prog.funcNamed "vernier/vernierlaw06.RangesSplits" = some 4:=by kernel_rfl
theorem rangesSplits_row:Rows.RangesSplitsUptoSaid:=
 OpenClaim.holds_of_cond 4 Tryz.f4 rfl rfl rfl rfl rfl rfl rfl ⟨rfl,rfl,rfl,rfl,rfl⟩ rfl rfl rfl rfl rfl rangesSplits_named Tryz.func4 rangesSplits_closed
  rangesSplits_inst rangesSplits_wrap (fun os started H enc _ F=>by rw [OpenClaim.pre_eq_preRow];exact rangesSplits_lifted os started H enc F)
theorem rangesSplits_main:Tryz.prog.mainIs=some (true, "2a0c8551fcac9bd4479dad2e8354c207b20139728c42eb23b05169ecbf8b7edf".toList):=by kernel_rfl
theorem rangesSplits_looks:false=Tryz.prog.looks []:=by kernel_rfl
theorem rangesSplits_stand:([71,3,9].all fun u=>!Tryz.prog.wantsStandIn u)=true:=by kernel_rfl
theorem rangesSplits_wf:Rows.rangesSplitsUptoRow.wfByText (Rows.OpenSpec.upto Rows.rangesSplitsSpec)=true:=by kernel_rfl
theorem rangesSplits_goes:false=Rows.rangesSplitsUptoRow.goesBy Tryz.prog:=by kernel_rfl
theorem rangesSplits_card:Rows.RangesSplitsUptoCardSaid:=
 Claim7.holds_tied_plain_at .later [] [.data,.data,.data,.data,.data,.pinned] true (true, "2a0c8551fcac9bd4479dad2e8354c207b20139728c42eb23b05169ecbf8b7edf") false
  rangesSplits_row (fun _ h=>by cases h) rangesSplits_wf (fun _ h=>by cases h) rangesSplitsUpto_row_tie rfl ⟨rfl,rfl⟩ rangesSplits_main rfl
  (fun f fn hf hfn=>by
   obtain rfl:f=4:=Option.some.inj (rangesSplits_named.symm.trans hf) |>.symm
   obtain rfl:fn=Tryz.f4:=(Option.some.inj (Tryz.func4.symm.trans hfn)).symm
   exact⟨rangesSplits_looks,fun j t ht=>by
    rw [Tryz.params4] at ht
    have hm:t∈[71,3,9]:=by simpa using Array.mem_of_getElem? ht
    exact (show Tryz.prog.wantsStandIn t=false by simpa using List.all_eq_true.1 rangesSplits_stand t hm)⟩)
  rangesSplits_goes
end Go.Proofs.YtlnhbjpphecakaaGreatDoor
