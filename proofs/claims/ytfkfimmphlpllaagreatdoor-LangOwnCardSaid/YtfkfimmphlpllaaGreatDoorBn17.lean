/- The row and the tied card of the law LangOwn (vernierlaw04): for every program it gives true and leaves its argument as it was. Condition: the listed tables of the package hold what the card says. -/
import Derived.Test.YtfkfimmphlpllaaGreatDoorBn15
import Derived.Test.YtfkfimmphlpllaaGreatDoorBn16

set_option linter.all false

namespace Go.Proofs.YtfkfimmphlpllaaGreatDoor
open Go.Am
set_option maxRecDepth 100000
theorem andT_langOwn {a b:Bool}(h:a=true) (h':b=true):(a && b)=true:=by rw [h,h'];rfl
theorem langOwn_closed:joinedFacts Tryz.prog 15 Tryz.f15 Rows.langOwnSpec Rows.langOwnRow=true:=by
 unfold joinedFacts
 exact andT_langOwn (andT_langOwn (andT_langOwn (andT_langOwn (andT_langOwn (andT_langOwn (andT_langOwn (andT_langOwn (andT_langOwn (andT_langOwn (andT_langOwn (andT_langOwn (andT_langOwn (andT_langOwn (andT_langOwn (andT_langOwn (andT_langOwn (andT_langOwn (andT_langOwn (andT_langOwn (andT_langOwn (andT_langOwn (andT_langOwn (andT_langOwn (andT_langOwn (andT_langOwn (andT_langOwn (andT_langOwn (andT_langOwn (andT_langOwn (andT_langOwn langOwn_c0 langOwn_c1) langOwn_c2) langOwn_c3) langOwn_c4) langOwn_c5) langOwn_c6) langOwn_c7) langOwn_c8) langOwn_c9) langOwn_c10) langOwn_c11) langOwn_c12) langOwn_c13) langOwn_c14) langOwn_c15) langOwn_c16) langOwn_c17) langOwn_c18) langOwn_c19) langOwn_c20) langOwn_c21) langOwn_c22) langOwn_c23) langOwn_c24) langOwn_c25) langOwn_c26) langOwn_c27) langOwn_c28) langOwn_c29) langOwn_c30) langOwn_c31
theorem langOwn_inst:Tryz.f15.isInstance Tryz.prog Rows.langOwnRow.origin Rows.langOwnRow.targs:=of_decide_eq_true (by kernel_rfl)
theorem langOwn_wrap:Tryz.f15.isWrapper Tryz.prog Rows.langOwnRow.wrapper Rows.langOwnRow.mainSum:=by
 unfold Func.isWrapper;first|(rw [if_pos (by decide +kernel)];kernel_rfl)|(rw [if_neg (by decide +kernel)];exact⟨rfl,rfl⟩)
theorem langOwn_named:Tryz.prog.funcNamed "vernier/vernierlaw04.LangOwn" = some 15:=by kernel_rfl
theorem langOwn_row:Rows.LangOwnSaid:=
 OpenClaim.holds_of_wide 15 Tryz.f15 rfl rfl rfl rfl rfl rfl rfl ⟨rfl,rfl,rfl,rfl,rfl⟩ rfl rfl rfl rfl rfl langOwn_named Tryz.func15 langOwn_closed
  langOwn_inst langOwn_wrap (fun os started H enc _=>langOwn_lifted os started H enc)
theorem langOwn_main:Tryz.prog.mainIs=some (true, "f9aa27ec0540fb991073fd614668d7c417367d1e99766ef4b84ee195baee3c0e".toList):=by kernel_rfl
theorem langOwn_looks:true=Tryz.prog.looks []:=by kernel_rfl
theorem langOwn_stand:([27].all fun u=>!Tryz.prog.wantsStandIn u)=true:=by kernel_rfl
theorem langOwn_wf:Rows.langOwnRow.wfByText (OpenSpec.ofChange Rows.langOwnSpec)=true:=by kernel_rfl
theorem langOwn_goes:false=Rows.langOwnRow.goesBy Tryz.prog:=by kernel_rfl
theorem langOwn_card:Rows.LangOwnCardSaid:=
 Claim7.holds_tied_plain_at .later [] [.data,.data,.data,.data,.data,.data,.widerDeep,.data,.pinned] true (true, "f9aa27ec0540fb991073fd614668d7c417367d1e99766ef4b84ee195baee3c0e") true
  langOwn_row (fun _ h=>by cases h) langOwn_wf (fun _ h=>by cases h) langOwn_row_tie rfl ⟨rfl,rfl⟩ langOwn_main rfl
  (fun f fn hf hfn=>by
   obtain rfl:f=15:=Option.some.inj (langOwn_named.symm.trans hf) |>.symm
   obtain rfl:fn=Tryz.f15:=(Option.some.inj (Tryz.func15.symm.trans hfn)).symm
   exact⟨langOwn_looks,fun j t ht=>by
    rw [Tryz.params15] at ht
    have hm:t∈[27]:=by simpa using Array.mem_of_getElem? ht
    exact (show Tryz.prog.wantsStandIn t=false by simpa using List.all_eq_true.1 langOwn_stand t hm)⟩)
  langOwn_goes
end Go.Proofs.YtfkfimmphlpllaaGreatDoor
