/- Canon returns the canonical form. -/
import Derived.Test.YticmbkclbnjnaaaGreatDoorJn15
import Derived.Test.YticmbkclbnjnaaaGreatDoorJn16

set_option linter.all false
set_option maxHeartbeats 8000000
set_option maxRecDepth 100000
namespace Go.Proofs.YticmbkclbnjnaaaGreatDoor
open Go.Am
theorem aB{a b:Bool}(h:a=true)(h':b=true):(a&&b)=true:=by rw[h,h'];rfl
theorem uo:joinedFacts Tryz.prog 3 Tryz.f3 Rows.langCanonsSpec Rows.langCanonsRow=true:=by
 unfold joinedFacts;exact aB (aB (aB (aB (aB (aB (aB (aB (aB (aB (aB (aB (aB (aB (aB (aB (aB (aB (aB (aB (aB (aB (aB (aB (aB (aB (aB (aB (aB (aB (aB BE Bu) BQ) Bq) BK) BA) Bz) Bp) BF) BO) zQ) AM) A7) zT) zM) zm) zA) y9) zg) Aj) zq) yX) zO) AQ) AO) A5) yY) Ax) zZ) Ay) AX) Al
theorem xQ:Tryz.f3.isInstance Tryz.prog Rows.langCanonsRow.origin Rows.langCanonsRow.targs:=of_decide_eq_true (by kernel_rfl)
theorem xW:Tryz.f3.isWrapper Tryz.prog Rows.langCanonsRow.wrapper Rows.langCanonsRow.mainSum:=by
 unfold Func.isWrapper;first|(rw[if_pos (by decide +kernel)];kernel_rfl)|(rw[if_neg (by decide +kernel)];exact⟨rfl,rfl⟩)
theorem ny:Tryz.prog.funcNamed "vernier/vernierlaw04.LangCanons" = some 3:=by kernel_rfl
theorem Az:Rows.LangCanonsSaid:=
 OpenClaim.holds_of_wide 3 Tryz.f3 rfl rfl rfl rfl rfl rfl rfl ⟨rfl,rfl,rfl,rfl,rfl⟩ rfl rfl rfl rfl rfl ny Tryz.func3 uo
  xQ xW (λos started H enc _=>uD os started H enc)
theorem xU:Tryz.prog.mainIs=some (true, "22bd089e22b988ab6a43d779268ab13858b0e5b99fe3f277cf523fbeb30ef371".toList):=by kernel_rfl
theorem vT:true=Tryz.prog.looks []:=by kernel_rfl
theorem wG:([27].all λu=>!Tryz.prog.wantsStandIn u)=true:=by kernel_rfl
theorem Bj:Rows.langCanonsRow.wfByText (OpenSpec.ofChange Rows.langCanonsSpec)=true:=by kernel_rfl
theorem xY:false=Rows.langCanonsRow.goesBy Tryz.prog:=by kernel_rfl
theorem langCanons_card:Rows.LangCanonsCardSaid:=
 Claim7.holds_tied_plain_at .later [] [.data,.data,.data,.data,.data,.data,.widerDeep,.data,.pinned] true (true, "22bd089e22b988ab6a43d779268ab13858b0e5b99fe3f277cf523fbeb30ef371") true
  Az (λ_ h=>by cases h) Bj (λ_ h=>by cases h) langCanons_row_tie rfl ⟨rfl,rfl⟩ xU rfl
  (λf fn hf hfn=>by
   obtain rfl:f=3:=adU (ny.symm.trans hf) |>.symm;obtain rfl:fn=Tryz.f3:=(adU (Tryz.func3.symm.trans hfn)).symm
   exact⟨vT,λj t ht=>by
    rw[Tryz.params3]at ht;have hm:t∈[27]:=by simpa using Array.mem_of_getElem? ht
    have hm:t∈[27]:=by simpa using hm
    exact(show Tryz.prog.wantsStandIn t=false by simpa using List.all_eq_true.1 wG t hm)⟩)
  xY
end Go.Proofs.YticmbkclbnjnaaaGreatDoor
