/- Helpers: an abstract machine for Go functions, and walks of functions of the program. -/
import Derived.Test.YtfkfimmphlpllaaGreatDoorAm12

set_option linter.all false

set_option linter.unusedSimpArgs false
namespace Go.Am
open Go.Am.Ty Go.Proofs N

@[simp] theorem PD.pure (p : PD) : (AV.agg [scC p.f, .d (.int .i64 p.mode), scC p.ins, scC p.nodes, .d (.int .i64 p.head), .d (.int .i64 p.tail), scC p.states, .d (.int .i64 p.res)]).pure = true := by
  obtain ⟨f, a, i, n, b, c, s, d⟩ := p
  cases f <;> cases i <;> cases n <;> cases s <;> rfl

theorem eqBB (b : Bool) : stepBin Tryz.prog .eql 4 (.c (.d (.bool b))) (.c (.d (.bool b))) = some (.c (.d (.bool true)), [], [], True) := by
  cases b <;> kernel_rfl

set_option maxHeartbeats 2000000 in
theorem langSames_ok (m : Int) (p q : PD) (hp : p.ok) (hq : q.ok) : CallsP Tryz.prog (GG m) 9 [p.A, q.A] (.c (.d (.bool true))) := by
  refine CallsP.of_AW Go.Proofs.Tryz.func9 rfl (by rw [Tryz.ntmps9]; simp) ?_
  rintro ⟨_, _, w0, F0, W0, _, lv0, β0⟩ rfl rfl rfl
  refine AW.seqK fun K hK => ?_
  refine AW.regionP rfl ?_
  simp
  repeat (refine And.intro (by omega) ?_)
  apply hK; clear hK K
  refine AW.seqK fun K hK => ?_
  refine AW.seqK fun K1 hK1 => ?_
  refine AW.regionP rfl ?_
  simp
  refine CallDo.pure 2 7 (great_ok _ _ hp) (by simp) (by simp) rfl ?_
  by_cases g1 : greatB p = true
  · simp [g1]
    repeat (refine And.intro (by omega) ?_)
    apply hK1; clear hK1 K1
    refine AW.cond (b := true) (by first | (simp []; done) | (simp []; omega)) ?_
    refine AW.seqK fun K1 hK1 => ?_
    refine AW.regionP rfl ?_
    simp
    refine CallDo.pure 2 7 (shown_ok m) (by simp) (by simp) rfl ?_
    simp
    repeat (refine And.intro (by omega) ?_)
    apply hK1; clear hK1 K1
    exact AW.ret (κ := 0) (FinP.tmp (κ := 0) rfl 4 (by simp []) (by first | rfl | simp) (by first | rfl | simp) (by first | rfl | simp))
  simp [g1]
  refine CallDo.pure 2 7 (great_ok _ _ hq) (by simp) (by simp) rfl ?_
  by_cases g2 : greatB q = true
  · simp [g2]
    repeat (refine And.intro (by omega) ?_)
    apply hK1; clear hK1 K1
    refine AW.cond (b := true) (by first | (simp []; done) | (simp []; omega)) ?_
    refine AW.seqK fun K1 hK1 => ?_
    refine AW.regionP rfl ?_
    simp
    refine CallDo.pure 2 7 (shown_ok m) (by simp) (by simp) rfl ?_
    simp
    repeat (refine And.intro (by omega) ?_)
    apply hK1; clear hK1 K1
    exact AW.ret (κ := 0) (FinP.tmp (κ := 0) rfl 4 (by simp []) (by first | rfl | simp) (by first | rfl | simp) (by first | rfl | simp))
  simp [g2]
  repeat (refine And.intro (by omega) ?_)
  apply hK1; clear hK1 K1
  refine AW.cond (b := false) (by first | (simp []; done) | (simp []; omega)) ?_
  refine AW.skip ?_
  simp
  repeat (refine And.intro (by omega) ?_)
  apply hK; clear hK K
  refine AW.seqK fun K hK => ?_
  refine AW.drawP mixed (by kernel_rfl) rfl ?_
  simp
  refine CallDo.pure 2 7 (same_ok _ _ _ hp hq) (by simp) (by simp) rfl ?_
  simp
  refine CallDo.pure 2 7 (refSame_ok _ _ _ hp hq) (by simp) (by simp) rfl ?_
  simp [eqBB]
  refine CallDo.pure 2 7 (same_ok _ _ _ hp hp) (by simp) (by simp) rfl ?_
  simp [sameB_refl hp]
  refine CallDo.pure 2 7 (same_ok _ _ _ hq hq) (by simp) (by simp) rfl ?_
  simp [sameB_refl hq]
  refine CallDo.pure 2 7 (shown_ok m) (by simp) (by simp) rfl ?_
  simp
  refine ⟨by kernel_rfl, ?_⟩
  repeat (refine And.intro (by omega) ?_)
  apply hK; clear hK K
  exact AW.ret (κ := 0) (FinP.tmp (κ := 0) rfl 4 (by simp []) (by first | rfl | simp) (by first | rfl | simp) (by first | rfl | simp))
end Go.Am
