/- Intervals are computed as the document says. -/
import Derived.Test.YtlnhbjpphecakaaGreatDoorOn13
import Derived.Test.YtlnhbjpphecakaaGreatDoorOn14

set_option linter.all false
set_option maxHeartbeats 8000000
set_option maxRecDepth 100000
namespace Go.Proofs.YtlnhbjpphecakaaGreatDoor
open Go.Am
theorem andT_rangesOps {a b:Bool}(h:a=true) (h':b=true):(a && b)=true:=by rw [h,h'];rfl
theorem rangesOps_closed:joinedFacts Tryz.prog 3 Tryz.f3 Rows.rangesOpsSpec Rows.rangesOpsRow=true:=by
 unfold joinedFacts
 exact andT_rangesOps (andT_rangesOps (andT_rangesOps (andT_rangesOps (andT_rangesOps (andT_rangesOps (andT_rangesOps (andT_rangesOps (andT_rangesOps (andT_rangesOps (andT_rangesOps (andT_rangesOps (andT_rangesOps (andT_rangesOps (andT_rangesOps (andT_rangesOps (andT_rangesOps (andT_rangesOps (andT_rangesOps (andT_rangesOps (andT_rangesOps (andT_rangesOps (andT_rangesOps (andT_rangesOps (andT_rangesOps (andT_rangesOps (andT_rangesOps (andT_rangesOps (andT_rangesOps (andT_rangesOps (andT_rangesOps rangesOps_c0 rangesOps_c1) rangesOps_c2) rangesOps_c3) rangesOps_c4) rangesOps_c5) rangesOps_c6) rangesOps_c7) rangesOps_c8) rangesOps_c9) rangesOps_c10) rangesOps_c11) rangesOps_c12) rangesOps_c13) rangesOps_c14) rangesOps_c15) rangesOps_c16) rangesOps_c17) rangesOps_c18) rangesOps_c19) rangesOps_c20) rangesOps_c21) rangesOps_c22) rangesOps_c23) rangesOps_c24) rangesOps_c25) rangesOps_c26) rangesOps_c27) rangesOps_c28) rangesOps_c29) rangesOps_c30) rangesOps_c31
theorem rangesOps_inst:Tryz.f3.isInstance Tryz.prog Rows.rangesOpsRow.origin Rows.rangesOpsRow.targs:=of_decide_eq_true (by kernel_rfl)
theorem rangesOps_wrap:Tryz.f3.isWrapper Tryz.prog Rows.rangesOpsRow.wrapper Rows.rangesOpsRow.mainSum:=by
 unfold Func.isWrapper;first|(rw [if_pos (by decide +kernel)];kernel_rfl)|(rw [if_neg (by decide +kernel)];exact⟨rfl,rfl⟩)
theorem rangesOps_named:Tryz.prog.funcNamed "vernier/vernierlaw06.RangesOps" = some 3:=by kernel_rfl
theorem rangesOps_row:Rows.RangesOpsSaid:=
 OpenClaim.holds_of_wide 3 Tryz.f3 rfl rfl rfl rfl rfl rfl rfl ⟨rfl,rfl,rfl,rfl,rfl⟩ rfl rfl rfl rfl rfl rangesOps_named Tryz.func3 rangesOps_closed
  rangesOps_inst rangesOps_wrap (fun os started H enc _=>rangesOps_lifted os started H enc)
theorem rangesOps_main:Tryz.prog.mainIs=some (true, "2a0c8551fcac9bd4479dad2e8354c207b20139728c42eb23b05169ecbf8b7edf".toList):=by kernel_rfl
theorem rangesOps_looks:false=Tryz.prog.looks []:=by kernel_rfl
theorem rangesOps_stand:([26].all fun u=>!Tryz.prog.wantsStandIn u)=true:=by kernel_rfl
theorem rangesOps_wf:Rows.rangesOpsRow.wfByText (OpenSpec.ofChange Rows.rangesOpsSpec)=true:=by kernel_rfl
theorem rangesOps_goes:false=Rows.rangesOpsRow.goesBy Tryz.prog:=by kernel_rfl
theorem rangesOps_card:Rows.RangesOpsCardSaid:=
 Claim7.holds_tied_plain_at .later [] [.data,.data,.data,.data,.data,.pinned] true (true, "2a0c8551fcac9bd4479dad2e8354c207b20139728c42eb23b05169ecbf8b7edf") false
  rangesOps_row (fun _ h=>by cases h) rangesOps_wf (fun _ h=>by cases h) rangesOps_row_tie rfl ⟨rfl,rfl⟩ rangesOps_main rfl
  (fun f fn hf hfn=>by
   obtain rfl:f=3:=Option.some.inj (rangesOps_named.symm.trans hf) |>.symm
   obtain rfl:fn=Tryz.f3:=(Option.some.inj (Tryz.func3.symm.trans hfn)).symm
   exact⟨rangesOps_looks,fun j t ht=>by
    rw [Tryz.params3] at ht
    have hm:t∈[26]:=by simpa using Array.mem_of_getElem? ht
    exact (show Tryz.prog.wantsStandIn t=false by simpa using List.all_eq_true.1 rangesOps_stand t hm)⟩)
  rangesOps_goes
end Go.Proofs.YtlnhbjpphecakaaGreatDoor
