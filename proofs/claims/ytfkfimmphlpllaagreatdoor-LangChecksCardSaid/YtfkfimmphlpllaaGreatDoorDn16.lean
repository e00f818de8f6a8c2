/- The row and the tied card of the law LangChecks (vernierlaw04): for every program and any node it gives true and leaves its arguments as they were. Condition: the listed tables of the package hold what the card says. -/
import Derived.Test.YtfkfimmphlpllaaGreatDoorDn14
import Derived.Test.YtfkfimmphlpllaaGreatDoorDn15

set_option linter.all false

namespace Go.Proofs.YtfkfimmphlpllaaGreatDoor
open Go.Am
set_option maxRecDepth 100000
theorem aD {a b:Bool}(h:a=true) (h':b=true):(a && b)=true:=by rw [h,h'];rfl
theorem qT:joinedFacts Tryz.prog 8 Tryz.f8 Rows.langChecksSpec Rows.langChecksRow=true:=by
 unfold joinedFacts;exact aD (aD (aD (aD (aD (aD (aD (aD (aD (aD (aD (aD (aD (aD (aD (aD (aD (aD (aD (aD (aD (aD (aD (aD (aD (aD (aD (aD (aD (aD (aD xp xA) xe) xu) wT) wV) xd) wY) wW) wN) ve) vM) vX) vz) vO) wz) uT) vY) uJ) vK) wg) v7) uH) uP) wC) vJ) vi) uE) vC) uv) wu) wA
theorem tq:Tryz.f8.isInstance Tryz.prog Rows.langChecksRow.origin Rows.langChecksRow.targs:=of_decide_eq_true (by kernel_rfl)
theorem tL:Tryz.f8.isWrapper Tryz.prog Rows.langChecksRow.wrapper Rows.langChecksRow.mainSum:=by
 unfold Func.isWrapper;first|(rw [if_pos (by decide +kernel)];kernel_rfl)|(rw [if_neg (by decide +kernel)];exact⟨rfl,rfl⟩)
theorem kO:Tryz.prog.funcNamed "vernier/vernierlaw04.LangChecks" = some 8:=by kernel_rfl
theorem uG:Rows.LangChecksSaid:=
 OpenClaim.holds_of_wide 8 Tryz.f8 rfl rfl rfl rfl rfl rfl rfl ⟨rfl,rfl,rfl,rfl,rfl⟩ rfl rfl rfl rfl rfl kO Tryz.func8 qT
  tq tL (fun os started H enc _=>pJ os started H enc)
theorem tB:Tryz.prog.mainIs=some (true, "f9aa27ec0540fb991073fd614668d7c417367d1e99766ef4b84ee195baee3c0e".toList):=by kernel_rfl
theorem rW:true=Tryz.prog.looks []:=by kernel_rfl
theorem rJ:([27,3].all fun u=>!Tryz.prog.wantsStandIn u)=true:=by kernel_rfl
theorem xo:Rows.langChecksRow.wfByText (OpenSpec.ofChange Rows.langChecksSpec)=true:=by kernel_rfl
theorem tn:false=Rows.langChecksRow.goesBy Tryz.prog:=by kernel_rfl
theorem langChecks_card:Rows.LangChecksCardSaid:=
 Claim7.holds_tied_plain_at .later [] [.data,.data,.data,.data,.data,.data,.widerDeep,.data,.pinned] true (true, "f9aa27ec0540fb991073fd614668d7c417367d1e99766ef4b84ee195baee3c0e") true
  uG (fun _ h=>by cases h) xo (fun _ h=>by cases h) langChecks_row_tie rfl ⟨rfl,rfl⟩ tB rfl
  (fun f fn hf hfn=>by
   obtain rfl:f=8:=Option.some.inj (kO.symm.trans hf) |>.symm;obtain rfl:fn=Tryz.f8:=(Option.some.inj (Tryz.func8.symm.trans hfn)).symm
   exact⟨rW,fun j t ht=>by
    rw [Tryz.params8] at ht;have hm:t∈[27,3]:=by simpa using Array.mem_of_getElem? ht
    have hm:t∈[27,3]:=by simpa using hm
    exact (show Tryz.prog.wantsStandIn t=false by simpa using List.all_eq_true.1 rJ t hm)⟩)
  tn
end Go.Proofs.YtfkfimmphlpllaaGreatDoor
