/- langSettles_card: for every program p, vernierlaw04.LangSettles(p) returns true (the tied card; no condition). -/
import Derived.Test.YtfkfimmphlpllaaGreatDoorHn15
import Derived.Test.YtfkfimmphlpllaaGreatDoorHn16

set_option linter.all false
set_option maxHeartbeats 8000000
set_option maxRecDepth 100000
namespace Go.Proofs.YtfkfimmphlpllaaGreatDoor
open Go.Am
theorem aA {a b:Bool}(h:a=true) (h':b=true):(a && b)=true:=by rw [h,h'];rfl
theorem qw:joinedFacts Tryz.prog 13 Tryz.f13 Rows.langSettlesSpec Rows.langSettlesRow=true:=by
 unfold joinedFacts;exact aA (aA (aA (aA (aA (aA (aA (aA (aA (aA (aA (aA (aA (aA (aA (aA (aA (aA (aA (aA (aA (aA (aA (aA (aA (aA (aA (aA (aA (aA (aA yL xo) xp) xg) yX) xU) zf) w8) yu) ye) vK) vT) vI) vD) vS) wg) vM) wh) vC) vP) v7) we) v8) vY) vH) vJ) vA) wk) vG) vW) wj) wo
theorem uA:Tryz.f13.isInstance Tryz.prog Rows.langSettlesRow.origin Rows.langSettlesRow.targs:=of_decide_eq_true (by kernel_rfl)
theorem uK:Tryz.f13.isWrapper Tryz.prog Rows.langSettlesRow.wrapper Rows.langSettlesRow.mainSum:=by
 unfold Func.isWrapper;first|(rw [if_pos (by decide +kernel)];kernel_rfl)|(rw [if_neg (by decide +kernel)];exact⟨rfl,rfl⟩)
theorem kP:Tryz.prog.funcNamed "vernier/vernierlaw04.LangSettles" = some 13:=by kernel_rfl
theorem wq:Rows.LangSettlesSaid:=
 OpenClaim.holds_of_wide 13 Tryz.f13 rfl rfl rfl rfl rfl rfl rfl ⟨rfl,rfl,rfl,rfl,rfl⟩ rfl rfl rfl rfl rfl kP Tryz.func13 qw
  uA uK (fun os started H enc _=>qR os started H enc)
theorem uC:Tryz.prog.mainIs=some (true, "f9aa27ec0540fb991073fd614668d7c417367d1e99766ef4b84ee195baee3c0e".toList):=by kernel_rfl
theorem rQ:true=Tryz.prog.looks []:=by kernel_rfl
theorem r9:([27].all fun u=>!Tryz.prog.wantsStandIn u)=true:=by kernel_rfl
theorem w9:Rows.langSettlesRow.wfByText (OpenSpec.ofChange Rows.langSettlesSpec)=true:=by kernel_rfl
theorem uo:false=Rows.langSettlesRow.goesBy Tryz.prog:=by kernel_rfl
theorem langSettles_card:Rows.LangSettlesCardSaid:=
 Claim7.holds_tied_plain_at .later [] [.data,.data,.data,.data,.data,.data,.widerDeep,.data,.pinned] true (true, "f9aa27ec0540fb991073fd614668d7c417367d1e99766ef4b84ee195baee3c0e") true
  wq (fun _ h=>by cases h) w9 (fun _ h=>by cases h) langSettles_row_tie rfl ⟨rfl,rfl⟩ uC rfl
  (fun f fn hf hfn=>by
   obtain rfl:f=13:=Zs (kP.symm.trans hf) |>.symm;obtain rfl:fn=Tryz.f13:=(Zs (Tryz.func13.symm.trans hfn)).symm
   exact⟨rQ,fun j t ht=>by
    rw [Tryz.params13] at ht;have hm:t∈[27]:=by simpa using Array.mem_of_getElem? ht
    have hm:t∈[27]:=by simpa using hm
    exact (show Tryz.prog.wantsStandIn t=false by simpa using List.all_eq_true.1 r9 t hm)⟩)
  uo
end Go.Proofs.YtfkfimmphlpllaaGreatDoor
