/- RangesPolys in its second form (where what it reads is of bulk at most 1048576): the walk, the row and the card. -/
import Derived.Test.YtanjfmmjpnjkbaaGreatDoorSn14
import Derived.Test.YtanjfmmjpnjkbaaGreatDoorSn15
import Derived.JoinedCond

set_option linter.all false
set_option maxHeartbeats 8000000
set_option maxRecDepth 100000
namespace Go.Proofs.YtanjfmmjpnjkbaaGreatDoor
open Go.Am
theorem iM{a b:Bool}(h:a=true)(h':b=true):(a&&b)=true:=by rw[h,h'];rfl
theorem sN:joinedFacts Tryz.prog 4 Tryz.f4 (Rows.OpenSpec.upto Rows.rangesPolysSpec).bare Rows.rangesPolysUptoRow=true:=by
 unfold joinedFacts;exact iM (iM (iM (iM (iM (iM (iM (iM (iM (iM (iM (iM (iM (iM (iM (iM (iM (iM (iM (iM (iM (iM (iM (iM (iM (iM (iM (iM (iM (iM (iM sH rQ) rU) sF) sC) su) rR) sM) sL) r6) qD) qE) qJ) ry) qV) qC) qR) qX) qM) qH) qO) rE) ri) qA) qT) qQ) rz) qW) qI) qU) qN) qL
theorem vz:Tryz.f4.isInstance Tryz.prog Rows.rangesPolysUptoRow.origin Rows.rangesPolysUptoRow.targs:=of_decide_eq_true (by kernel_rfl)
theorem uV:Tryz.f4.isWrapper Tryz.prog Rows.rangesPolysUptoRow.wrapper Rows.rangesPolysUptoRow.mainSum:=by
 unfold Func.isWrapper;first|(rw[if_pos (by decide +kernel)];kernel_rfl)|(rw[if_neg (by decide +kernel)];exact⟨rfl,rfl⟩)
theorem mg:Tryz.prog.funcNamed "vernier/vernierlaw06.RangesPolys" = some 4:=by kernel_rfl
theorem wO:Rows.RangesPolysUptoSaid:=
 OpenClaim.holds_of_cond 4 Tryz.f4 rfl rfl rfl rfl rfl rfl rfl ⟨rfl,rfl,rfl,rfl,rfl⟩ rfl rfl rfl rfl rfl mg Tryz.func4 sN
  vz uV (λos started H enc _ F=>by rw[OpenClaim.pre_eq_preRow];exact rO os started H enc F)
theorem uU:Tryz.prog.mainIs=some (true, "da512689e7894f16eec77074dc6ea2434418e4976f04a6fcb573a8636e8f20d2".toList):=by kernel_rfl
theorem tY:false=Tryz.prog.looks []:=by kernel_rfl
theorem tR:([22,23,47].all λu=>!Tryz.prog.wantsStandIn u)=true:=by kernel_rfl
theorem xY:Rows.rangesPolysUptoRow.wfByText (Rows.OpenSpec.upto Rows.rangesPolysSpec)=true:=by kernel_rfl
theorem vv:false=Rows.rangesPolysUptoRow.goesBy Tryz.prog:=by kernel_rfl
theorem rangesPolys_card:Rows.RangesPolysUptoCardSaid:=
 Claim7.holds_tied_plain_at .later [] [.data,.data,.data,.data,.data,.pinned] true (true, "da512689e7894f16eec77074dc6ea2434418e4976f04a6fcb573a8636e8f20d2") false
  wO (λ_ h=>by cases h) xY (λ_ h=>by cases h) rangesPolysUpto_row_tie rfl ⟨rfl,rfl⟩ uU rfl
  (λf fn hf hfn=>by
   obtain rfl:f=4:=aeW (mg.symm.trans hf) |>.symm;obtain rfl:fn=Tryz.f4:=(aeW (Tryz.func4.symm.trans hfn)).symm
   exact⟨tY,λj t ht=>by
    rw[Tryz.params4]at ht;have hm:t∈[22,23,47]:=by simpa using Array.mem_of_getElem? ht
    exact(show Tryz.prog.wantsStandIn t=false by simpa using List.all_eq_true.1 tR t hm)⟩)
  vv
end Go.Proofs.YtanjfmmjpnjkbaaGreatDoor
