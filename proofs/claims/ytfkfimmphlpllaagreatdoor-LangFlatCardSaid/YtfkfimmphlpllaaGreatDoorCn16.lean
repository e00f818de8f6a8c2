/- The row and the tied card of the law LangFlat (vernierlaw04): for every program and any two numbers of steps it gives true and leaves its arguments as they were. Condition: the listed tables of the package hold what the card says. -/
import Derived.Test.YtfkfimmphlpllaaGreatDoorCn14
import Derived.Test.YtfkfimmphlpllaaGreatDoorCn15

set_option linter.all false

namespace Go.Proofs.YtfkfimmphlpllaaGreatDoor
open Go.Am
set_option maxRecDepth 100000
theorem aH {a b:Bool}(h:a=true) (h':b=true):(a && b)=true:=by rw [h,h'];rfl
theorem sY:joinedFacts Tryz.prog 11 Tryz.f11 Rows.langFlatSpec Rows.langFlatRow=true:=by
 unfold joinedFacts
 exact aH (aH (aH (aH (aH (aH (aH (aH (aH (aH (aH (aH (aH (aH (aH (aH (aH (aH (aH (aH (aH (aH (aH (aH (aH (aH (aH (aH (aH (aH (aH AB Aw) Bk) zZ) Bd) Ay) Bi) An) Ar) Bu) yV) xZ) yp) xN) yC) xJ) yX) y7) yO) zi) yy) x8) zh) yW) zx) y4) yt) yB) yQ) yF) yR) yw
theorem wj:Tryz.f11.isInstance Tryz.prog Rows.langFlatRow.origin Rows.langFlatRow.targs:=of_decide_eq_true (by kernel_rfl)
theorem wo:Tryz.f11.isWrapper Tryz.prog Rows.langFlatRow.wrapper Rows.langFlatRow.mainSum:=by
 unfold Func.isWrapper;first|(rw [if_pos (by decide +kernel)];kernel_rfl)|(rw [if_neg (by decide +kernel)];exact⟨rfl,rfl⟩)
theorem mg:Tryz.prog.funcNamed "vernier/vernierlaw04.LangFlat" = some 11:=by kernel_rfl
theorem x9:Rows.LangFlatSaid:=
 OpenClaim.holds_of_wide 11 Tryz.f11 rfl rfl rfl rfl rfl rfl rfl ⟨rfl,rfl,rfl,rfl,rfl⟩ rfl rfl rfl rfl rfl mg Tryz.func11 sY
  wj wo (fun os started H enc _=>sS os started H enc)
theorem wm:Tryz.prog.mainIs=some (true, "f9aa27ec0540fb991073fd614668d7c417367d1e99766ef4b84ee195baee3c0e".toList):=by kernel_rfl
theorem vk:true=Tryz.prog.looks []:=by kernel_rfl
theorem uf:([27,5].all fun u=>!Tryz.prog.wantsStandIn u)=true:=by kernel_rfl
theorem Bg:Rows.langFlatRow.wfByText (OpenSpec.ofChange Rows.langFlatSpec)=true:=by kernel_rfl
theorem vO:false=Rows.langFlatRow.goesBy Tryz.prog:=by kernel_rfl
theorem langFlat_card:Rows.LangFlatCardSaid:=
 Claim7.holds_tied_plain_at .later [] [.data,.data,.data,.data,.data,.data,.widerDeep,.data,.pinned] true (true, "f9aa27ec0540fb991073fd614668d7c417367d1e99766ef4b84ee195baee3c0e") true
  x9 (fun _ h=>by cases h) Bg (fun _ h=>by cases h) langFlat_row_tie rfl ⟨rfl,rfl⟩ wm rfl
  (fun f fn hf hfn=>by
   obtain rfl:f=11:=Option.some.inj (mg.symm.trans hf) |>.symm
   obtain rfl:fn=Tryz.f11:=(Option.some.inj (Tryz.func11.symm.trans hfn)).symm
   exact⟨vk,fun j t ht=>by
    rw [Tryz.params11] at ht
    have hm:t∈[27,5,5]:=by simpa using Array.mem_of_getElem? ht
    have hm:t∈[27,5]:=by simpa using hm
    exact (show Tryz.prog.wantsStandIn t=false by simpa using List.all_eq_true.1 uf t hm)⟩)
  vO
end Go.Proofs.YtfkfimmphlpllaaGreatDoor
