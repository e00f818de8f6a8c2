/- RangesValues in its second form (where what it reads is of bulk at most 1048576): the walk, the row and the card. -/
import Derived.Test.YtanjfmmjpnjkbaaGreatDoorQn13
import Derived.Test.YtanjfmmjpnjkbaaGreatDoorQn14
import Derived.JoinedCond

set_option linter.all false
set_option maxHeartbeats 8000000
set_option maxRecDepth 100000
namespace Go.Proofs.YtanjfmmjpnjkbaaGreatDoor
open Go.Am
theorem andT {a b:Bool}(h:a=true) (h':b=true):(a && b)=true:=by rw [h,h'];rfl
theorem rangesValues_closed:joinedFacts Tryz.prog 5 Tryz.f5 (Rows.OpenSpec.upto Rows.rangesValuesSpec).bare Rows.rangesValuesUptoRow=true:=by
 unfold joinedFacts
 exact andT (andT (andT (andT (andT (andT (andT (andT (andT (andT (andT (andT (andT (andT (andT (andT (andT (andT (andT (andT (andT (andT (andT (andT (andT (andT (andT (andT (andT (andT (andT rangesValuesUpto_c0 rangesValuesUpto_c1) rangesValuesUpto_c2) rangesValuesUpto_c3) rangesValuesUpto_c4) rangesValuesUpto_c5) rangesValuesUpto_c6) rangesValuesUpto_c7) rangesValuesUpto_c8) rangesValuesUpto_c9) rangesValuesUpto_c10) rangesValuesUpto_c11) rangesValuesUpto_c12) rangesValuesUpto_c13) rangesValuesUpto_c14) rangesValuesUpto_c15) rangesValuesUpto_c16) rangesValuesUpto_c17) rangesValuesUpto_c18) rangesValuesUpto_c19) rangesValuesUpto_c20) rangesValuesUpto_c21) rangesValuesUpto_c22) rangesValuesUpto_c23) rangesValuesUpto_c24) rangesValuesUpto_c25) rangesValuesUpto_c26) rangesValuesUpto_c27) rangesValuesUpto_c28) rangesValuesUpto_c29) rangesValuesUpto_c30) rangesValuesUpto_c31
theorem rangesValues_inst:Tryz.f5.isInstance Tryz.prog Rows.rangesValuesUptoRow.origin Rows.rangesValuesUptoRow.targs:=of_decide_eq_true (by kernel_rfl)
theorem rangesValues_wrap:Tryz.f5.isWrapper Tryz.prog Rows.rangesValuesUptoRow.wrapper Rows.rangesValuesUptoRow.mainSum:=by
 unfold Func.isWrapper;first|(rw [if_pos (by decide +kernel)];kernel_rfl)|(rw [if_neg (by decide +kernel)];exact⟨rfl,rfl⟩)
theorem rangesValues_named:Tryz.prog.funcNamed "vernier/vernierlaw06.RangesValues" = some 5:=by kernel_rfl
theorem rangesValues_row:Rows.RangesValuesUptoSaid:=
 OpenClaim.holds_of_cond 5 Tryz.f5 rfl rfl rfl rfl rfl rfl rfl ⟨rfl,rfl,rfl,rfl,rfl⟩ rfl rfl rfl rfl rfl rangesValues_named Tryz.func5 rangesValues_closed
  rangesValues_inst rangesValues_wrap (fun os started H enc _ F=>by rw [OpenClaim.pre_eq_preRow];exact rangesValues_lifted os started H enc F)
theorem rangesValues_main:Tryz.prog.mainIs=some (true, "da512689e7894f16eec77074dc6ea2434418e4976f04a6fcb573a8636e8f20d2".toList):=by kernel_rfl
theorem rangesValues_looks:false=Tryz.prog.looks []:=by kernel_rfl
theorem rangesValues_stand:([22,23,47].all fun u=>!Tryz.prog.wantsStandIn u)=true:=by kernel_rfl
theorem rangesValues_wf:Rows.rangesValuesUptoRow.wfByText (Rows.OpenSpec.upto Rows.rangesValuesSpec)=true:=by kernel_rfl
theorem rangesValues_goes:false=Rows.rangesValuesUptoRow.goesBy Tryz.prog:=by kernel_rfl
theorem rangesValues_card:Rows.RangesValuesUptoCardSaid:=
 Claim7.holds_tied_plain_at .later [] [.data,.data,.data,.data,.data,.pinned] true (true, "da512689e7894f16eec77074dc6ea2434418e4976f04a6fcb573a8636e8f20d2") false
  rangesValues_row (fun _ h=>by cases h) rangesValues_wf (fun _ h=>by cases h) rangesValuesUpto_row_tie rfl ⟨rfl,rfl⟩ rangesValues_main rfl
  (fun f fn hf hfn=>by
   obtain rfl:f=5:=Option.some.inj (rangesValues_named.symm.trans hf) |>.symm
   obtain rfl:fn=Tryz.f5:=(Option.some.inj (Tryz.func5.symm.trans hfn)).symm
   exact⟨rangesValues_looks,fun j t ht=>by
    rw [Tryz.params5] at ht
    have hm:t∈[22,23,47]:=by simpa using Array.mem_of_getElem? ht
    exact (show Tryz.prog.wantsStandIn t=false by simpa using List.all_eq_true.1 rangesValues_stand t hm)⟩)
  rangesValues_goes
end Go.Proofs.YtanjfmmjpnjkbaaGreatDoor
