/- RangesHalves in its second form (where what it reads is of bulk at most 1048576): the walk, the row and the card. -/
import Derived.Test.YtanjfmmjpnjkbaaGreatDoorRn13
import Derived.Test.YtanjfmmjpnjkbaaGreatDoorRn14
import Derived.JoinedCond

set_option linter.all false
set_option maxHeartbeats 8000000
set_option maxRecDepth 100000
namespace Go.Proofs.YtanjfmmjpnjkbaaGreatDoor
open Go.Am
theorem andT {a b:Bool}(h:a=true) (h':b=true):(a && b)=true:=by rw [h,h'];rfl
theorem rangesHalves_closed:joinedFacts Tryz.prog 3 Tryz.f3 (Rows.OpenSpec.upto Rows.rangesHalvesSpec).bare Rows.rangesHalvesUptoRow=true:=by
 unfold joinedFacts
 exact andT (andT (andT (andT (andT (andT (andT (andT (andT (andT (andT (andT (andT (andT (andT (andT (andT (andT (andT (andT (andT (andT (andT (andT (andT (andT (andT (andT (andT (andT (andT rangesHalvesUpto_c0 rangesHalvesUpto_c1) rangesHalvesUpto_c2) rangesHalvesUpto_c3) rangesHalvesUpto_c4) rangesHalvesUpto_c5) rangesHalvesUpto_c6) rangesHalvesUpto_c7) rangesHalvesUpto_c8) rangesHalvesUpto_c9) rangesHalvesUpto_c10) rangesHalvesUpto_c11) rangesHalvesUpto_c12) rangesHalvesUpto_c13) rangesHalvesUpto_c14) rangesHalvesUpto_c15) rangesHalvesUpto_c16) rangesHalvesUpto_c17) rangesHalvesUpto_c18) rangesHalvesUpto_c19) rangesHalvesUpto_c20) rangesHalvesUpto_c21) rangesHalvesUpto_c22) rangesHalvesUpto_c23) rangesHalvesUpto_c24) rangesHalvesUpto_c25) rangesHalvesUpto_c26) rangesHalvesUpto_c27) rangesHalvesUpto_c28) rangesHalvesUpto_c29) rangesHalvesUpto_c30) rangesHalvesUpto_c31
theorem rangesHalves_inst:Tryz.f3.isInstance Tryz.prog Rows.rangesHalvesUptoRow.origin Rows.rangesHalvesUptoRow.targs:=of_decide_eq_true (by kernel_rfl)
theorem rangesHalves_wrap:Tryz.f3.isWrapper Tryz.prog Rows.rangesHalvesUptoRow.wrapper Rows.rangesHalvesUptoRow.mainSum:=by
 unfold Func.isWrapper;first|(rw [if_pos (by decide +kernel)];kernel_rfl)|(rw [if_neg (by decide +kernel)];exact⟨rfl,rfl⟩)
theorem rangesHalves_named:Tryz.prog.funcNamed "vernier/vernierlaw06.RangesHalves" = some 3:=by kernel_rfl
theorem rangesHalves_row:Rows.RangesHalvesUptoSaid:=
 OpenClaim.holds_of_cond 3 Tryz.f3 rfl rfl rfl rfl rfl rfl rfl ⟨rfl,rfl,rfl,rfl,rfl⟩ rfl rfl rfl rfl rfl rangesHalves_named Tryz.func3 rangesHalves_closed
  rangesHalves_inst rangesHalves_wrap (fun os started H enc _ F=>by rw [OpenClaim.pre_eq_preRow];exact rangesHalves_lifted os started H enc F)
theorem rangesHalves_main:Tryz.prog.mainIs=some (true, "da512689e7894f16eec77074dc6ea2434418e4976f04a6fcb573a8636e8f20d2".toList):=by kernel_rfl
theorem rangesHalves_looks:false=Tryz.prog.looks []:=by kernel_rfl
theorem rangesHalves_stand:([22,23,3].all fun u=>!Tryz.prog.wantsStandIn u)=true:=by kernel_rfl
theorem rangesHalves_wf:Rows.rangesHalvesUptoRow.wfByText (Rows.OpenSpec.upto Rows.rangesHalvesSpec)=true:=by kernel_rfl
theorem rangesHalves_goes:false=Rows.rangesHalvesUptoRow.goesBy Tryz.prog:=by kernel_rfl
theorem rangesHalves_card:Rows.RangesHalvesUptoCardSaid:=
 Claim7.holds_tied_plain_at .later [] [.data,.data,.data,.data,.data,.pinned] true (true, "da512689e7894f16eec77074dc6ea2434418e4976f04a6fcb573a8636e8f20d2") false
  rangesHalves_row (fun _ h=>by cases h) rangesHalves_wf (fun _ h=>by cases h) rangesHalvesUpto_row_tie rfl ⟨rfl,rfl⟩ rangesHalves_main rfl
  (fun f fn hf hfn=>by
   obtain rfl:f=3:=Option.some.inj (rangesHalves_named.symm.trans hf) |>.symm
   obtain rfl:fn=Tryz.f3:=(Option.some.inj (Tryz.func3.symm.trans hfn)).symm
   exact⟨rangesHalves_looks,fun j t ht=>by
    rw [Tryz.params3] at ht
    have hm:t∈[22,23,3]:=by simpa using Array.mem_of_getElem? ht
    exact (show Tryz.prog.wantsStandIn t=false by simpa using List.all_eq_true.1 rangesHalves_stand t hm)⟩)
  rangesHalves_goes
end Go.Proofs.YtanjfmmjpnjkbaaGreatDoor
