/- langNeeds_card: Needs of the program returns what the document says, for any program (as in LangChecks); the card's conditions: one of the listed variables is tied by the deep look, one is a pinned table of Go's library. -/
import Derived.Test.YtfkfimmphlpllaaGreatDoorEn14
import Derived.Test.YtfkfimmphlpllaaGreatDoorEn15

set_option linter.all false
set_option maxHeartbeats 8000000
set_option maxRecDepth 100000
namespace Go.Proofs.YtfkfimmphlpllaaGreatDoor
open Go.Am
theorem aE {a b:Bool}(h:a=true) (h':b=true):(a && b)=true:=by rw [h,h'];rfl
theorem s5:joinedFacts Tryz.prog 7 Tryz.f7 Rows.langNeedsSpec Rows.langNeedsRow=true:=by
 unfold joinedFacts;exact aE (aE (aE (aE (aE (aE (aE (aE (aE (aE (aE (aE (aE (aE (aE (aE (aE (aE (aE (aE (aE (aE (aE (aE (aE (aE (aE (aE (aE (aE (aE AS AI) AR) As) Ak) AB) zA) zn) zS) zM) xo) w8) xD) xI) xe) xb) xJ) xg) xW) xV) xN) xw) yd) xk) xM) xd) xF) xX) xK) xE) xl) yc
theorem vN:Tryz.f7.isInstance Tryz.prog Rows.langNeedsRow.origin Rows.langNeedsRow.targs:=of_decide_eq_true (by kernel_rfl)
theorem vn:Tryz.f7.isWrapper Tryz.prog Rows.langNeedsRow.wrapper Rows.langNeedsRow.mainSum:=by
 unfold Func.isWrapper;first|(rw [if_pos (by decide +kernel)];kernel_rfl)|(rw [if_neg (by decide +kernel)];exact⟨rfl,rfl⟩)
theorem mJ:Tryz.prog.funcNamed "vernier/vernierlaw04.LangNeeds" = some 7:=by kernel_rfl
theorem x9:Rows.LangNeedsSaid:=
 OpenClaim.holds_of_wide 7 Tryz.f7 rfl rfl rfl rfl rfl rfl rfl ⟨rfl,rfl,rfl,rfl,rfl⟩ rfl rfl rfl rfl rfl mJ Tryz.func7 s5
  vN vn (fun os started H enc _=>sC os started H enc)
theorem wT:Tryz.prog.mainIs=some (true, "f9aa27ec0540fb991073fd614668d7c417367d1e99766ef4b84ee195baee3c0e".toList):=by kernel_rfl
theorem uw:true=Tryz.prog.looks []:=by kernel_rfl
theorem uo:([27].all fun u=>!Tryz.prog.wantsStandIn u)=true:=by kernel_rfl
theorem AQ:Rows.langNeedsRow.wfByText (OpenSpec.ofChange Rows.langNeedsSpec)=true:=by kernel_rfl
theorem wj:false=Rows.langNeedsRow.goesBy Tryz.prog:=by kernel_rfl
theorem langNeeds_card:Rows.LangNeedsCardSaid:=
 Claim7.holds_tied_plain_at .later [] [.data,.data,.data,.data,.data,.data,.widerDeep,.data,.pinned] true (true, "f9aa27ec0540fb991073fd614668d7c417367d1e99766ef4b84ee195baee3c0e") true
  x9 (fun _ h=>by cases h) AQ (fun _ h=>by cases h) langNeeds_row_tie rfl ⟨rfl,rfl⟩ wT rfl
  (fun f fn hf hfn=>by
   obtain rfl:f=7:=Option.some.inj (mJ.symm.trans hf) |>.symm;obtain rfl:fn=Tryz.f7:=(Option.some.inj (Tryz.func7.symm.trans hfn)).symm
   exact⟨uw,fun j t ht=>by
    rw [Tryz.params7] at ht;have hm:t∈[27]:=by simpa using Array.mem_of_getElem? ht
    have hm:t∈[27]:=by simpa using hm
    exact (show Tryz.prog.wantsStandIn t=false by simpa using List.all_eq_true.1 uo t hm)⟩)
  wj
end Go.Proofs.YtfkfimmphlpllaaGreatDoor
