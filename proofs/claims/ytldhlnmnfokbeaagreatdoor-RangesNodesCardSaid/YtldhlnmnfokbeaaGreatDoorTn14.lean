/- RangesNodes. -/
import Derived.Test.YtldhlnmnfokbeaaGreatDoorTn12
import Derived.Test.YtldhlnmnfokbeaaGreatDoorTn13

set_option linter.all false
set_option maxHeartbeats 8000000
set_option maxRecDepth 100000
namespace Go.Proofs.YtldhlnmnfokbeaaGreatDoor
open Go.Am
theorem aK{a b:Bool}(h:a=true)(h':b=true):(a&&b)=true:=by rw[h,h'];rfl
theorem ud:joinedFacts Tryz.prog 3 Tryz.f3 Rows.rangesNodesSpec Rows.rangesNodesRow=true:=by
 unfold joinedFacts;exact aK (aK (aK (aK (aK (aK (aK (aK (aK (aK (aK (aK (aK (aK (aK (aK (aK (aK (aK (aK (aK (aK (aK (aK (aK (aK (aK (aK (aK (aK (aK Bg Bb) AX) AY) zS) Af) AA) zE) Ag) Ah) yK) yD) yw) yq) ye) yu) ya) yA) yS) yc) yg) yE) yx) yj) yJ) yR) yl) yt) yF) yC) yI) yP
theorem wR:Tryz.f3.isInstance Tryz.prog Rows.rangesNodesRow.origin Rows.rangesNodesRow.targs:=of_decide_eq_true zt
theorem wP:Tryz.f3.isWrapper Tryz.prog Rows.rangesNodesRow.wrapper Rows.rangesNodesRow.mainSum:=by
 unfold Func.isWrapper;first|(rw[if_pos ae];kernel_rfl)|(rw[if_neg ae];exact⟨rfl,rfl⟩)
theorem nR:Tryz.prog.funcNamed "vernier/vernierlaw06.RangesNodes" = some 3:=zt
theorem yQ:Rows.RangesNodesSaid:=
 OpenClaim.holds_of_wide 3 Tryz.f3 rfl rfl rfl rfl rfl rfl rfl ⟨rfl,rfl,rfl,rfl,rfl⟩ rfl rfl rfl rfl rfl nR Tryz.func3 ud
  wR wP (λos started H enc _=>tG os started H enc)
theorem xq:Tryz.prog.mainIs=some (true, "ff362ee8417e99231c08e35fba4c9ecadb21cb840c65fe1fb57c779df7bb40c3".toList):=zt
theorem u7:false=Tryz.prog.looks []:=zt
theorem vZ:([30].all λu=>!Tryz.prog.wantsStandIn u)=true:=zt
theorem zG:Rows.rangesNodesRow.wfByText (OpenSpec.ofChange Rows.rangesNodesSpec)=true:=zt
theorem wT:false=Rows.rangesNodesRow.goesBy Tryz.prog:=zt
theorem rangesNodes_card:Rows.RangesNodesCardSaid:=
 Claim7.holds_tied_plain_at .later [] [.data,.data,.data,.data,.data,.pinned] true (true, "ff362ee8417e99231c08e35fba4c9ecadb21cb840c65fe1fb57c779df7bb40c3") false
  yQ (λ_ h=>by cases h) zG (λ_ h=>by cases h) rangesNodes_row_tie rfl ⟨rfl,rfl⟩ xq rfl
  (λf fn hf hfn=>by
   obtain rfl:f=3:=aeI (nR.symm.trans hf) |>.symm;obtain rfl:fn=Tryz.f3:=(aeI (Tryz.func3.symm.trans hfn)).symm
   exact⟨u7,λj t ht=>by
    rw[Tryz.params3]at ht;have hm:t∈[30]:=by simpa using Array.mem_of_getElem? ht
    exact(show Tryz.prog.wantsStandIn t=false by simpa using List.all_eq_true.1 vZ t hm)⟩)
  wT
end Go.Proofs.YtldhlnmnfokbeaaGreatDoor
