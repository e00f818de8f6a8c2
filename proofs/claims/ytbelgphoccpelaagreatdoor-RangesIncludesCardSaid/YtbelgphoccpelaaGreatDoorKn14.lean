/- Results of numbers are in the results of their intervals, whose ends are such results. -/
import Derived.Test.YtbelgphoccpelaaGreatDoorKn12
import Derived.Test.YtbelgphoccpelaaGreatDoorKn13

set_option linter.all false
set_option maxHeartbeats 8000000
set_option maxRecDepth 100000
namespace Go.Proofs.YtbelgphoccpelaaGreatDoor
open Go.Am

theorem andT_rangesIncludes {a b : Bool} (h : a = true) (h' : b = true) : (a && b) = true := by rw [h, h']; rfl
theorem rangesIncludes_closed : joinedFacts Tryz.prog 3 Tryz.f3 Rows.rangesIncludesSpec Rows.rangesIncludesRow = true := by
  unfold joinedFacts
  exact andT_rangesIncludes (andT_rangesIncludes (andT_rangesIncludes (andT_rangesIncludes (andT_rangesIncludes (andT_rangesIncludes (andT_rangesIncludes (andT_rangesIncludes (andT_rangesIncludes (andT_rangesIncludes (andT_rangesIncludes (andT_rangesIncludes (andT_rangesIncludes (andT_rangesIncludes (andT_rangesIncludes (andT_rangesIncludes (andT_rangesIncludes (andT_rangesIncludes (andT_rangesIncludes (andT_rangesIncludes (andT_rangesIncludes (andT_rangesIncludes (andT_rangesIncludes (andT_rangesIncludes (andT_rangesIncludes (andT_rangesIncludes (andT_rangesIncludes (andT_rangesIncludes (andT_rangesIncludes (andT_rangesIncludes (andT_rangesIncludes rangesIncludes_c0 rangesIncludes_c1) rangesIncludes_c2) rangesIncludes_c3) rangesIncludes_c4) rangesIncludes_c5) rangesIncludes_c6) rangesIncludes_c7) rangesIncludes_c8) rangesIncludes_c9) rangesIncludes_c10) rangesIncludes_c11) rangesIncludes_c12) rangesIncludes_c13) rangesIncludes_c14) rangesIncludes_c15) rangesIncludes_c16) rangesIncludes_c17) rangesIncludes_c18) rangesIncludes_c19) rangesIncludes_c20) rangesIncludes_c21) rangesIncludes_c22) rangesIncludes_c23) rangesIncludes_c24) rangesIncludes_c25) rangesIncludes_c26) rangesIncludes_c27) rangesIncludes_c28) rangesIncludes_c29) rangesIncludes_c30) rangesIncludes_c31
theorem rangesIncludes_inst : Tryz.f3.isInstance Tryz.prog Rows.rangesIncludesRow.origin Rows.rangesIncludesRow.targs := of_decide_eq_true (by kernel_rfl)
theorem rangesIncludes_wrap : Tryz.f3.isWrapper Tryz.prog Rows.rangesIncludesRow.wrapper Rows.rangesIncludesRow.mainSum := by
  unfold Func.isWrapper; first | (rw [if_pos (by decide +kernel)]; kernel_rfl) | (rw [if_neg (by decide +kernel)]; exact ⟨rfl, rfl⟩)
theorem rangesIncludes_named : Tryz.prog.funcNamed "vernier/vernierlaw06.RangesIncludes" = some 3 := by kernel_rfl

theorem rangesIncludes_row : Rows.RangesIncludesSaid :=
  OpenClaim.holds_of_wide 3 Tryz.f3 rfl rfl rfl rfl rfl rfl rfl ⟨rfl, rfl, rfl, rfl, rfl⟩ rfl rfl rfl rfl rfl rangesIncludes_named Tryz.func3 rangesIncludes_closed
    rangesIncludes_inst rangesIncludes_wrap (fun os started H enc _ => rangesIncludes_lifted os started H enc)

theorem rangesIncludes_main : Tryz.prog.mainIs = some (true, "490b3a0fffc094f0993e927124d1cc15ee67049c7973f1a6bde0d82affff94bb".toList) := by kernel_rfl
theorem rangesIncludes_looks : false = Tryz.prog.looks [] := by kernel_rfl
theorem rangesIncludes_stand : ([26, 9].all fun u => !Tryz.prog.wantsStandIn u) = true := by kernel_rfl
theorem rangesIncludes_wf : Rows.rangesIncludesRow.wfByText (OpenSpec.ofChange Rows.rangesIncludesSpec) = true := by kernel_rfl
theorem rangesIncludes_goes : false = Rows.rangesIncludesRow.goesBy Tryz.prog := by kernel_rfl

theorem rangesIncludes_card : Rows.RangesIncludesCardSaid :=
  Claim7.holds_tied_plain_at .later [] [.data, .data, .data, .data, .data, .pinned] true (true, "490b3a0fffc094f0993e927124d1cc15ee67049c7973f1a6bde0d82affff94bb") false
    rangesIncludes_row (fun _ h => by cases h) rangesIncludes_wf (fun _ h => by cases h) rangesIncludes_row_tie rfl ⟨rfl, rfl⟩ rangesIncludes_main rfl
    (fun f fn hf hfn => by
      obtain rfl : f = 3 := Option.some.inj (rangesIncludes_named.symm.trans hf) |>.symm
      obtain rfl : fn = Tryz.f3 := (Option.some.inj (Tryz.func3.symm.trans hfn)).symm
      exact ⟨rangesIncludes_looks, fun j t ht => by
        rw [Tryz.params3] at ht
        have hm : t ∈ [26, 9] := by simpa using Array.mem_of_getElem? ht
        have hm : t ∈ [26, 9] := by simpa using hm
        exact (show Tryz.prog.wantsStandIn t = false by simpa using List.all_eq_true.1 rangesIncludes_stand t hm)⟩)
    rangesIncludes_goes
end Go.Proofs.YtbelgphoccpelaaGreatDoor
