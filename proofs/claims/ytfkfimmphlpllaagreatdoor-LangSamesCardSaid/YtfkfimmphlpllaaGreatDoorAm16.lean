/- The statement that vernierlaw04.LangSames returns true for every input, and leaves its arguments alone, is proved; conditions: the listed package-level variables hold what the program text lays (tied). -/
import Derived.Test.YtfkfimmphlpllaaGreatDoorAm14
import Derived.Test.YtfkfimmphlpllaaGreatDoorAm15

set_option linter.all false

namespace Go.Proofs.YtfkfimmphlpllaaGreatDoor
open Go.Am
set_option maxRecDepth 100000

theorem andT {a b : Bool} (h : a = true) (h' : b = true) : (a && b) = true := by rw [h, h']; rfl
theorem langSames_closed : joinedFacts Tryz.prog 9 Tryz.f9 Rows.langSamesSpec Rows.langSamesRow = true := by
  unfold joinedFacts
  exact andT (andT (andT (andT (andT (andT (andT (andT (andT (andT (andT (andT (andT (andT (andT (andT (andT (andT (andT (andT (andT (andT (andT (andT (andT (andT (andT (andT (andT (andT (andT langSames_c0 langSames_c1) langSames_c2) langSames_c3) langSames_c4) langSames_c5) langSames_c6) langSames_c7) langSames_c8) langSames_c9) langSames_c10) langSames_c11) langSames_c12) langSames_c13) langSames_c14) langSames_c15) langSames_c16) langSames_c17) langSames_c18) langSames_c19) langSames_c20) langSames_c21) langSames_c22) langSames_c23) langSames_c24) langSames_c25) langSames_c26) langSames_c27) langSames_c28) langSames_c29) langSames_c30) langSames_c31
theorem langSames_inst : Tryz.f9.isInstance Tryz.prog Rows.langSamesRow.origin Rows.langSamesRow.targs := of_decide_eq_true (by kernel_rfl)
theorem langSames_wrap : Tryz.f9.isWrapper Tryz.prog Rows.langSamesRow.wrapper Rows.langSamesRow.mainSum := by
  unfold Func.isWrapper; first | (rw [if_pos (by decide +kernel)]; kernel_rfl) | (rw [if_neg (by decide +kernel)]; exact ⟨rfl, rfl⟩)
theorem langSames_named : Tryz.prog.funcNamed "vernier/vernierlaw04.LangSames" = some 9 := by kernel_rfl

theorem langSames_row : Rows.LangSamesSaid :=
  OpenClaim.holds_of_wide 9 Tryz.f9 rfl rfl rfl rfl rfl rfl rfl ⟨rfl, rfl, rfl, rfl, rfl⟩ rfl rfl rfl rfl rfl langSames_named Tryz.func9 langSames_closed
    langSames_inst langSames_wrap (fun os started H enc _ => langSames_lifted os started H enc)

theorem card_main : Tryz.prog.mainIs = some (true, "f9aa27ec0540fb991073fd614668d7c417367d1e99766ef4b84ee195baee3c0e".toList) := by kernel_rfl
theorem card_looks : true = Tryz.prog.looks [] := by kernel_rfl
theorem card_stand : ([27].all fun u => !Tryz.prog.wantsStandIn u) = true := by kernel_rfl
theorem langSames_wf : Rows.langSamesRow.wfByText (OpenSpec.ofChange Rows.langSamesSpec) = true := by kernel_rfl
theorem langSames_goes : false = Rows.langSamesRow.goesBy Tryz.prog := by kernel_rfl

theorem langSames_card : Rows.LangSamesCardSaid :=
  Claim7.holds_tied_plain_at .later [] [.data, .data, .data, .data, .data, .data, .widerDeep, .data, .pinned] true (true, "f9aa27ec0540fb991073fd614668d7c417367d1e99766ef4b84ee195baee3c0e") true
    langSames_row (fun _ h => by cases h) langSames_wf (fun _ h => by cases h) langSames_row_tie rfl ⟨rfl, rfl⟩ card_main rfl
    (fun f fn hf hfn => by
      obtain rfl : f = 9 := Option.some.inj (langSames_named.symm.trans hf) |>.symm
      obtain rfl : fn = Tryz.f9 := (Option.some.inj (Tryz.func9.symm.trans hfn)).symm
      exact ⟨card_looks, fun j t ht => by
        rw [Tryz.params9] at ht
        have hm : t ∈ [27, 27] := by simpa using Array.mem_of_getElem? ht
        have hm' : t ∈ [27] := by simpa using hm
        exact (show Tryz.prog.wantsStandIn t = false by simpa using List.all_eq_true.1 card_stand t hm')⟩)
    langSames_goes
end Go.Proofs.YtfkfimmphlpllaaGreatDoor
