/- Helpers: an abstract machine for Go functions, and walks of functions of the program. -/
import Derived.Test.YtbelgphoccpelaaGreatDoorKn09

set_option linter.all false
set_option maxHeartbeats 8000000
set_option maxRecDepth 100000
namespace Go.Am
open Go.Am.Ty Go.Proofs N

abbrev soL (a b : Iv) (x : Rat) : Key → LB := upd (upd (upd (upd (upd (fun _ => .hole) 0 (.cells true false 32 [.d (.bool (decide (a.1.num < 0))), nC (natO a.1.num.natAbs), nC (denO a.1.den), .d (.bool (decide (a.2.num < 0))), nC (natO a.2.num.natAbs), nC (denO a.2.den)])) 1 (.cells true false 32 [.d (.bool (decide (b.1.num < 0))), nC (natO b.1.num.natAbs), nC (denO b.1.den), .d (.bool (decide (b.2.num < 0))), nC (natO b.2.num.natAbs), nC (denO b.2.den)])) 2 (.cells true false 30 [.d (.bool (decide (x.num < 0))), nC (natO x.num.natAbs), nC (denO x.den)])) 3 (.cells true false 30 [.d (.bool (decide (a.1.num < 0))), nC (natO a.1.num.natAbs), nC (denO a.1.den), .d (.bool (decide (a.2.num < 0))), nC (natO a.2.num.natAbs), nC (denO a.2.den)])) 4 (.cells true false 30 [.d (.bool (decide (b.1.num < 0))), nC (natO b.1.num.natAbs), nC (denO b.1.den), .d (.bool (decide (b.2.num < 0))), nC (natO b.2.num.natAbs), nC (denO b.2.den)])

theorem some_ok (G : List (List DV)) (a b : Iv) (op : Int) (x : Rat) (ha : a.sz 10000000) (hb : b.sz 10000000) (hx : szR x 10000000000) :
    CallsP Tryz.prog G 38 [ivV a, ivV b, .c (.d (.int .i64 op)), ratV x] (.c (.d (.bool (decide (someR a b op x))))) := by
  have l1 := iv_Lo G a
  have l2 := iv_Hi G a
  have l3 := iv_Lo G b
  have l4 := iv_Hi G b
  have sz : ∀ {x : Rat}, szR x 10000000 → szR x 10000000000 := fun h => szR_mono h (by decide)
  refine CallsP.en0 Go.Proofs.Tryz.func38 rfl fun _ => AW.q ?_
  refine AW.seqK fun K hK => ?_
  refine AW.drawP mixed (by kernel_rfl) rfl ?_
  simp
  refine CallDo.p 3 9 l1 ?_
  simp
  refine CallDo.p 3 9 l2 ?_
  simp [fill2]
  refine CallDo.p 4 9 l3 ?_
  simp
  refine CallDo.p 4 9 l4 ?_
  simp [fill2]
  refine ⟨by kernel_rfl, ?_⟩
  repeat refine and_o ?_
  apply hK
  refine AW.seqK fun K hK => AW.q ?_
  refine AW.block ?_
  refine AW.loopV (fun (i : Nat) => ⟨frOf [(2, .c (.d (.int .i64 op))), (7, .c (.ptr 2 0)), (9, .c (.lsl 3 0 2 3)), (10, .c (.lsl 4 0 2 3)), (11, .c (.d (.int .i64 (i : Int))))], soL a b x⟩) 5
    (fun i => i ≤ 2 ∧ ∀ i' < i, ∀ j < 2, opR op (a.nth i') (b.nth j) ≠ x) (fun i => 2 - i) 0 (Le.mk2 _) ⟨by decide, fun i' h => absurd h (Nat.not_lt_zero i')⟩ ?_
  rintro i ⟨hi, hall⟩
  try simp only at hi hall
  refine AW.seqK fun K2 hK2 => AW.q ?_
  by_cases hi2 : i < 2
  rotate_left
  · have hi2' : ¬ (i : Int) < 2 := by omega
    have hr : decide (someR a b op x) = false := by
      refine decide_eq_false fun h => ?_
      obtain ⟨i', h1, j, h2, h3⟩ := someR_nth.1 h
      exact hall i' (by omega) j h2 h3
    refine AW.fn (by simp [hi2'] <;> omega) (AW.exit ?_)
    simp
    repeat refine and_o ?_
    apply hK
    refine AW.q ?_
    rw [hr]
    exact AW.r0 (FinP.rt rfl 8 (by simp))
  have hi2' : (i : Int) < 2 := by omega
  have hai := ldNth a i hi2
  have hi3 : 3 ≤ 6 - i * 3 := by omega
  refine AW.fy (by simp [hi2'] <;> omega) (AW.skip (hK2 _ _ (AW.seqK fun K4 hK4 => AW.block (AW.q ?_))))
  refine AW.block ?_
  refine AW.loopV (fun (j : Nat) => ⟨frOf [(2, .c (.d (.int .i64 op))), (7, .c (.ptr 2 0)), (9, .c (.lsl 3 0 2 3)), (10, .c (.lsl 4 0 2 3)), (11, .c (.d (.int .i64 (i : Int)))), (12, .c (.d (.int .i64 (j : Int))))], soL a b x⟩) 5
    (fun j => j ≤ 2 ∧ ∀ j' < j, opR op (a.nth i) (b.nth j') ≠ x) (fun j => 2 - j) 0 (Le.mk2 _) ⟨by decide, fun j' h => absurd h (Nat.not_lt_zero j')⟩ ?_
  rintro j ⟨hj, hjall⟩
  try simp only at hj hjall
  refine AW.seqK fun K6 hK6 => AW.q ?_
  by_cases hj2 : j < 2
  rotate_left
  · have hj2' : ¬ (j : Int) < 2 := by omega
    have w1 := w64 (n := (i : Int) + 1) (by omega) (by omega)
    refine AW.fn (by simp [hj2'] <;> omega) (AW.exit (hK4 _ _ (AW.rP ?_)))
    simp [w1]
    refine ⟨i + 1, Le.mk2 _, ⟨by omega, fun i' h' j' h2 => ?_⟩, by omega⟩
    by_cases e : i' = i
    · subst e; exact hjall j' (by omega)
    · exact hall i' (by omega) j' h2
  have hj2' : (j : Int) < 2 := by omega
  have hbj := ldNth b j hj2
  have hj3 : 3 ≤ 6 - j * 3 := by omega
  have w2 := w64 (n := (j : Int) + 1) (by omega) (by omega)
  have si := nth_sz ha i
  have sj := nth_sz hb j
  have c0 := rat_Add G _ _ (sz si) (sz sj)
  have c1 := rat_Sub G _ _ (sz si) (sz sj)
  have c2 := rat_Mul G _ _ (sz si) (sz sj)
  have c3 := rat_Quo G _ _ (sz si) (sz sj)
  have sy : szR (opR op (a.nth i) (b.nth j)) 10000000000 := by
    unfold opR
    (repeat' split)
    · rw [Rat.sub_eq_add_neg]; exact szR_mono (szR_add si (szR_neg sj)) (by decide)
    · exact szR_mono (szR_mul si sj) (by decide)
    · exact szR_mono (szR_div si sj) (by decide)
    · exact szR_mono (szR_add si sj) (by decide)
  have cc := rat_Cmp G (opR op (a.nth i) (b.nth j)) x sy hx
  refine AW.fy (by simp [hj2'] <;> omega) (AW.skip ?_)
  simp
  repeat refine and_o ?_
  apply hK6
  refine AW.seqK fun K8 hK8 => AW.block (AW.seqK fun K9 hK9 => ?_)
  refine AW.drawP mixed (by kernel_rfl) rfl ?_
  simp [hai, hbj, hi3, hj3, hi2', hj2']
  refine CallDo.p 5 9 c0 ?_
  simp [setSeg]
  refine ⟨by kernel_rfl, ?_⟩
  repeat refine and_o ?_
  apply hK9
  refine AW.seqK fun K10 hK10 => ?_
  have fin : ∀ (fr : Nat → AV) (lv : Key → LB) (κ : Nat) (y : Rat), opR op (a.nth i) (b.nth j) = y → lv = upd (soL a b x) 5 (.cells true false 30 [.d (.bool (decide (y.num < 0))), nC (natO y.num.natAbs), nC (denO y.den)]) → fr 2 = .c (.d (.int .i64 op)) → fr 7 = .c (.ptr 2 0) → fr 9 = .c (.lsl 3 0 2 3) → fr 10 = .c (.lsl 4 0 2 3) → fr 11 = .c (.d (.int .i64 (i : Int))) → fr 12 = .c (.d (.int .i64 (j : Int))) → fr 13 = .c (.ptr 5 0) → K10 ⟨fr, lv⟩ κ := by
    intro fr lv κ y ey elv z2 z7 z9 z10 z11 z12 z13
    subst elv
    rw [ey] at cc
    by_cases hyx : y = x
    · have hc0 := cmpR_zero.2 hyx
      have hr : decide (someR a b op x) = true := decide_eq_true (someR_nth.2 ⟨i, hi2, j, hj2, ey.trans hyx⟩)
      rw [hc0] at cc
      repeat refine and_o ?_
      apply hK10
      refine AW.c2 κ cc z7 z13 ?_
      refine AW.cy (AW.q ?_)
      rw [hr]
      exact AW.r0 (FinP.rt rfl 8 (by simp))
    · have hc0 : ¬ cmpR y x = 0 := fun h => hyx (cmpR_zero.1 h)
      repeat refine and_o ?_
      apply hK10
      refine AW.seqK fun K13 hK13 => AW.rP ?_
      simp [z7, z13]
      refine CallDo.p κ 9 cc ?_
      simp [z7, z13, hc0]
      repeat refine and_o ?_
      apply hK13
      refine AW.fn (by simp [hc0] <;> omega) (AW.skip ?_)
      simp
      repeat refine and_o ?_
      apply hK8
      refine AW.rP ?_
      simp [z12, w2]
      refine ⟨j + 1, (Le.drop2 [5] 9 (hl := by simp [drG, z2, z7, z9, z10, z11, z12])), ⟨by omega, fun j' h' => ?_⟩, by omega⟩
      by_cases e : j' = j
      · subst e; rw [ey]; exact hyx
      · exact hjall j' (by omega)
  refine AW.q ?_
  refine AW.block (AW.q ?_)
  by_cases o1 : op = 1
  · refine AW.fy (by simp [o1] <;> omega) ?_
    refine AW.drawP mixed (by kernel_rfl) rfl ?_
    simp [hai, hbj, hi3, hj3, hi2', hj2']
    refine CallDo.p 6 9 c1 ?_
    simp [setSeg]
    refine ⟨by kernel_rfl, ?_⟩
    exact fin _ _ _ _ (by unfold opR; rw [if_pos o1]) (by simp [setSeg]) (by simp) (by simp) (by simp) (by simp) (by simp) (by simp) (by simp)
  refine AW.fn (by simp [o1] <;> omega) (AW.q ?_)
  by_cases o2 : op = 2
  · refine AW.fy (by simp [o2] <;> omega) ?_
    refine AW.drawP mixed (by kernel_rfl) rfl ?_
    simp [hai, hbj, hi3, hj3, hi2', hj2']
    refine CallDo.p 6 9 c2 ?_
    simp [setSeg]
    refine ⟨by kernel_rfl, ?_⟩
    exact fin _ _ _ _ (by unfold opR; rw [if_neg o1, if_pos o2]) (by simp [setSeg]) (by simp) (by simp) (by simp) (by simp) (by simp) (by simp) (by simp)
  refine AW.fn (by simp [o2] <;> omega) (AW.q ?_)
  by_cases o3 : op = 3
  · refine AW.fy (by simp [o3] <;> omega) ?_
    refine AW.drawP mixed (by kernel_rfl) rfl ?_
    simp [hai, hbj, hi3, hj3, hi2', hj2']
    refine CallDo.p 6 9 c3 ?_
    simp [setSeg]
    refine ⟨by kernel_rfl, ?_⟩
    exact fin _ _ _ _ (by unfold opR; rw [if_neg o1, if_neg o2, if_pos o3]) (by simp [setSeg]) (by simp) (by simp) (by simp) (by simp) (by simp) (by simp) (by simp)
  refine AW.fn (by simp [o3] <;> omega) (AW.skip ?_)
  simp
  exact fin _ _ _ _ (by unfold opR; rw [if_neg o1, if_neg o2, if_neg o3]) (by simp [setSeg]) (by simp) (by simp) (by simp) (by simp) (by simp) (by simp) (by simp)

/-- exactly, where it is true. -/
theorem exactly_ok (G : List (List DV)) (a b c : Iv) (op : Int) (x : Rat) (ha : a.sz 10000000) (hb : b.sz 10000000) (hc : c.sz 10000000000) (hx : szR x 10000000000) (h : exR a b c op x) :
    CallsP Tryz.prog G 7 [ivV a, ivV b, ivV c, .c (.d (.int .i64 op)), ratV x] (.c (.d (.bool true))) := by
  have c1 := iv_Has G c x hc hx
  have c2 := some_ok G a b op c.1 ha hb hc.1
  have c3 := some_ok G a b op c.2 ha hb hc.2
  have l1 := iv_Lo G c
  have l2 := iv_Hi G c
  rw [decide_eq_true h.1] at c1
  rw [decide_eq_true h.2.1] at c2
  rw [decide_eq_true h.2.2] at c3
  refine CallsP.en Go.Proofs.Tryz.func7 rfl fun _ => AW.q ?_
  refine AW.seqK fun K hK => ?_
  refine AW.drawP mixed (by kernel_rfl) rfl ?_
  simp
  refine CallDo.p 4 9 c1 ?_
  simp
  refine CallDo.p 4 9 l1 ?_
  simp
  refine CallDo.p 4 9 c2 ?_
  simp
  refine CallDo.p 4 9 l2 ?_
  simp
  refine CallDo.p 4 9 c3 ?_
  simp
  refine ⟨by kernel_rfl, ?_⟩
  repeat refine and_o ?_
  apply hK
  exact AW.r0 (FinP.rt rfl 10 (by simp))

/-! ### two spans, a number of each -/

abbrev pairA (al ah bl bh : List UInt8) (bits : Int) (X : List UInt8) : AV := .agg [.d (.str al), .d (.str ah), .d (.str bl), .d (.str bh), .d (.int .i64 bits), .d (.str X)]
abbrev oneV (a b : Iv) (p q : Rat) (is : Bool) : AV := .tup [ivV a, ivV b, ratV p, ratV q, .c (.d (.bool is))]
@[simp] theorem one_dRes (lv : Key → LB) (a b : Iv) (p q : Rat) (is : Bool) : dRes lv (oneV a b p q is) = some (oneV a b p q is, []) := by
  simp only [oneV, ivV, ratV, nmA, nC_nD]; rfl
@[simp] theorem two_pure (a b : List UInt8) : (AV.agg [.d (.str a), .d (.str b)]).pure = true := rfl
@[simp] theorem pairA_pure (al ah bl bh : List UInt8) (bits : Int) (X : List UInt8) : (AV.agg [.d (.str al), .d (.str ah), .d (.str bl), .d (.str bh), .d (.int .i64 bits), .d (.str X)]).pure = true := rfl
@[simp] theorem one_pure (a b : Iv) (p q : Rat) (is : Bool) : (AV.tup [.agg [.d (.bool (decide (a.1.num < 0))), nC (natO a.1.num.natAbs), nC (denO a.1.den), .d (.bool (decide (a.2.num < 0))), nC (natO a.2.num.natAbs), nC (denO a.2.den)], .agg [.d (.bool (decide (b.1.num < 0))), nC (natO b.1.num.natAbs), nC (denO b.1.den), .d (.bool (decide (b.2.num < 0))), nC (natO b.2.num.natAbs), nC (denO b.2.den)], .agg [.d (.bool (decide (p.num < 0))), nC (natO p.num.natAbs), nC (denO p.den)], .agg [.d (.bool (decide (q.num < 0))), nC (natO q.num.natAbs), nC (denO q.den)], .c (.d (.bool is))]).pure = true := by
  simp only [nC_nD]; rfl
theorem ext5 (l : List AV) (i : Nat) (y : AV) (h : l[i]? = some y) (hy : y.noTup = true) : extA i (.tup l) = some (y, [], [], True) := by
  unfold extA; simp only [h]; cases y <;> first | rfl | cases hy
@[simp] theorem ext5a {x y z u v : AV} (h : x.noTup = true) : extA 0 (.tup [x, y, z, u, v]) = some (x, [], [], True) := ext5 _ _ _ rfl h
@[simp] theorem ext5b {x y z u v : AV} (h : y.noTup = true) : extA 1 (.tup [x, y, z, u, v]) = some (y, [], [], True) := ext5 _ _ _ rfl h
@[simp] theorem ext5c {x y z u v : AV} (h : z.noTup = true) : extA 2 (.tup [x, y, z, u, v]) = some (z, [], [], True) := ext5 _ _ _ rfl h
@[simp] theorem ext5d {x y z u v : AV} (h : u.noTup = true) : extA 3 (.tup [x, y, z, u, v]) = some (u, [], [], True) := ext5 _ _ _ rfl h
@[simp] theorem ext5e {x y z u v : AV} (h : v.noTup = true) : extA 4 (.tup [x, y, z, u, v]) = some (v, [], [], True) := ext5 _ _ _ rfl h
theorem FinC.one {c : Ctx} {fn : Func} {s : LSt} {κ : Nat} {a b : Iv} {p q : Rat} {is : Bool} (hr : c.P = Tryz.prog ∧ fn.results = #[.cell 4 32, .cell 5 32, .cell 6 30, .cell 7 30, .tmp 8])
    (h4 : s.fr 4 = .c (.ptr 1 0)) (h5 : s.fr 5 = .c (.ptr 2 0)) (h6 : s.fr 6 = .c (.ptr 3 0)) (h7 : s.fr 7 = .c (.ptr 4 0)) (h8 : s.fr 8 = .c (.d (.bool is)))
    (k1 : s.lv 1 = .cells true false 32 [.d (.bool (decide (a.1.num < 0))), nC (natO a.1.num.natAbs), nC (denO a.1.den), .d (.bool (decide (a.2.num < 0))), nC (natO a.2.num.natAbs), nC (denO a.2.den)]) (k2 : s.lv 2 = .cells true false 32 [.d (.bool (decide (b.1.num < 0))), nC (natO b.1.num.natAbs), nC (denO b.1.den), .d (.bool (decide (b.2.num < 0))), nC (natO b.2.num.natAbs), nC (denO b.2.den)])
    (k3 : s.lv 3 = .cells true false 30 [.d (.bool (decide (p.num < 0))), nC (natO p.num.natAbs), nC (denO p.den)]) (k4 : s.lv 4 = .cells true false 30 [.d (.bool (decide (q.num < 0))), nC (natO q.num.natAbs), nC (denO q.den)]) : FinC c fn (oneV a b p q is) .ret s κ := by
  show resA c.P s fn.results.toList = some _
  rw [hr.1, hr.2]
  simp only [resA, resL, resV, h4, h5, h6, h7, h8, k1, k2, k3, k4, List.drop_zero, loadIv, loadNum]
  rfl

theorem one_bad (m : Int) (al ah bl bh : List UInt8) (bits : Int) (X s : List UInt8) (h : ¬ (ofE al ah = 0 ∧ ofE bl bh = 0 ∧ ratE X = 0 ∧ ratE s = 0)) :
    CallsP Tryz.prog (GG m) 4 [pairA al ah bl bh bits X, .c (.d (.str s))] (.tup [ivV (ofI al ah), ivV (ofI bl bh), ratV (ratP X), ratV (ratP s), .c (.d (.bool false))]) := by
  have c1 := of_ok m al ah
  have c2 := of_ok m bl bh
  have c3 := rat_Parse m X
  have c4 := rat_Parse m s
  generalize ofI al ah = a at *
  generalize ofI bl bh = b at *
  generalize ratP X = p at *
  generalize ratP s = q at *
  generalize ofE al ah = e1 at *
  generalize ofE bl bh = e2 at *
  generalize ratE X = e3 at *
  generalize ratE s = e4 at *
  refine CallsP.enc Go.Proofs.Tryz.func4 rfl (fun lv => one_dRes lv _ _ _ _ _) fun _ => AW.seqK fun K hK => AW.rP ?_
  simp
  repeat refine and_o ?_
  apply hK
  refine AW.seqK fun K hK => AW.rP ?_
  simp
  refine CallDo.p 5 9 c1 ?_
  simp
  repeat refine and_o ?_
  apply hK
  refine AW.seqK fun K hK => AW.rP ?_
  simp
  refine CallDo.p 6 9 c2 ?_
  simp
  repeat refine and_o ?_
  apply hK
  refine AW.c0 7 c3 ?_
  refine AW.c0 8 c4 ?_
  refine AW.seqK fun K hK => AW.seqK fun K1 hK1 => ?_
  by_cases h1 : e1 = 0
  · by_cases h2 : e2 = 0
    · by_cases h3 : e3 = 0
      · have h4 : ¬ e4 = 0 := fun h4 => h ⟨h1, h2, h3, h4⟩
        refine AW.l4 h1 h2 h3 h4 (hK1 _ _ ?_)
        refine AW.fy (by simp [h4] <;> omega) (AW.seqK fun K1 hK1 => AW.dl1 mixed @setSeg.eq_1 (hK1 _ _ ?_))
        exact AW.ret (FinC.one (κ := 0) ⟨rfl, rfl⟩ (by simp) (by simp) (by simp) (by simp) (by simp) (by simp [setSeg]) (by simp [setSeg]) (by simp [setSeg]) (by simp [setSeg]))
      · refine AW.l3 h1 h2 h3 (hK1 _ _ ?_)
        refine AW.fy (by simp [h3] <;> omega) (AW.seqK fun K1 hK1 => AW.dl1 mixed @setSeg.eq_1 (hK1 _ _ ?_))
        exact AW.ret (FinC.one (κ := 0) ⟨rfl, rfl⟩ (by simp) (by simp) (by simp) (by simp) (by simp) (by simp [setSeg]) (by simp [setSeg]) (by simp [setSeg]) (by simp [setSeg]))
    · refine AW.l2 h1 h2 (hK1 _ _ ?_)
      refine AW.fy (by simp [h2] <;> omega) (AW.seqK fun K1 hK1 => AW.dl1 mixed @setSeg.eq_1 (hK1 _ _ ?_))
      exact AW.ret (FinC.one (κ := 0) ⟨rfl, rfl⟩ (by simp) (by simp) (by simp) (by simp) (by simp) (by simp [setSeg]) (by simp [setSeg]) (by simp [setSeg]) (by simp [setSeg]))
  · refine AW.l1 h1 (hK1 _ _ ?_)
    refine AW.fy (by simp [h1] <;> omega) (AW.seqK fun K1 hK1 => AW.dl1 mixed @setSeg.eq_1 (hK1 _ _ ?_))
    exact AW.ret (FinC.one (κ := 0) ⟨rfl, rfl⟩ (by simp) (by simp) (by simp) (by simp) (by simp) (by simp [setSeg]) (by simp [setSeg]) (by simp [setSeg]) (by simp [setSeg]))

theorem one_good (m : Int) (al ah bl bh : List UInt8) (bits : Int) (X s : List UInt8) (h1 : ofE al ah = 0) (h2 : ofE bl bh = 0) (h3 : ratE X = 0) (h4 : ratE s = 0) :
    CallsP Tryz.prog (GG m) 4 [pairA al ah bl bh bits X, .c (.d (.str s))]
      (.tup [ivV (ofI al ah), ivV (ofI bl bh), ratV (minR (maxR (ratP X) (ofI al ah).1) (ofI al ah).2), ratV (minR (maxR (ratP s) (ofI bl bh).1) (ofI bl bh).2), .c (.d (.bool true))]) := by
  have c1 := of_ok m al ah
  have c2 := of_ok m bl bh
  have c3 := rat_Parse m X
  have c4 := rat_Parse m s
  have sa := ofI_sz al ah
  have sb := ofI_sz bl bh
  have sx := ratP_sz X
  have ss := ratP_sz s
  rw [h1] at c1
  rw [h2] at c2
  rw [h3] at c3
  rw [h4] at c4
  generalize ofI al ah = a at *
  generalize ofI bl bh = b at *
  generalize ratP X = x at *
  generalize ratP s = y at *
  have l1 := iv_Lo (GG m) a
  have l2 := iv_Hi (GG m) a
  have l3 := iv_Lo (GG m) b
  have l4 := iv_Hi (GG m) b
  have d1 := rat_Max (GG m) x a.1 (szB sx) (szB sa.1)
  have d2 := rat_Min (GG m) _ a.2 (szB (szR_max sx sa.1)) (szB sa.2)
  have d3 := rat_Max (GG m) y b.1 (szB ss) (szB sb.1)
  have d4 := rat_Min (GG m) _ b.2 (szB (szR_max ss sb.1)) (szB sb.2)
  generalize minR (maxR x a.1) a.2 = p at *
  generalize minR (maxR y b.1) b.2 = q at *
  generalize maxR x a.1 = u at *
  generalize maxR y b.1 = v at *
  refine CallsP.enc Go.Proofs.Tryz.func4 rfl (fun lv => one_dRes lv _ _ _ _ _) fun _ => AW.seqK fun K hK => AW.rP ?_
  simp
  repeat refine and_o ?_
  apply hK
  refine AW.seqK fun K hK => AW.rP ?_
  simp
  refine CallDo.p 5 9 c1 ?_
  simp
  repeat refine and_o ?_
  apply hK
  refine AW.seqK fun K hK => AW.rP ?_
  simp
  refine CallDo.p 6 9 c2 ?_
  simp
  repeat refine and_o ?_
  apply hK
  refine AW.c0 7 c3 ?_
  refine AW.c0 8 c4 ?_
  refine AW.seqK fun K hK => AW.q ?_
  refine AW.cn (AW.skip (hK _ _ (AW.seqK fun K hK => ?_)))
  refine AW.drawP mixed (by kernel_rfl) rfl ?_
  simp [setSeg]
  refine CallDo.p 9 9 l1 ?_
  simp [setSeg]
  refine CallDo.p 9 9 d1 ?_
  simp [setSeg]
  refine CallDo.p 9 9 l2 ?_
  simp [setSeg]
  refine CallDo.p 9 9 d2 ?_
  simp [setSeg]
  refine CallDo.p 9 9 l3 ?_
  simp [setSeg]
  refine CallDo.p 9 9 d3 ?_
  simp [setSeg]
  refine CallDo.p 9 9 l4 ?_
  simp [setSeg]
  refine CallDo.p 9 9 d4 ?_
  simp [setSeg]
  refine ⟨by kernel_rfl, ?_⟩
  repeat refine and_o ?_
  apply hK
  exact AW.ret (FinC.one (κ := 0) ⟨rfl, rfl⟩ (by simp) (by simp) (by simp) (by simp) (by simp) (by simp [setSeg]) (by simp [setSeg]) (by simp [setSeg]) (by simp [setSeg]))

theorem bool_neq (a b : Bool) (h : a = b) : (a != b) = false := by subst h; cases a <;> rfl

theorem includes_ok' (m : Int) (hw : CallsP Tryz.prog (GG m) 5 [] (.c (.d (.bool true)))) (al ah bl bh : List UInt8) (bits : Int) (X s : List UInt8) :
    CallsP Tryz.prog (GG m) 3 [pairA al ah bl bh bits X, .c (.d (.str s))] (.c (.d (.bool true))) := by
  by_cases hall : ofE al ah = 0 ∧ ofE bl bh = 0 ∧ ratE X = 0 ∧ ratE s = 0
  rotate_left
  · have h1 := one_bad m al ah bl bh bits X s hall
    generalize ofI al ah = a at *
    generalize ofI bl bh = b at *
    generalize ratP X = p at *
    generalize ratP s = q at *
    refine CallsP.en Go.Proofs.Tryz.func3 rfl fun _ => AW.seqK fun K hK => AW.rP ?_
    simp
    repeat refine and_o ?_
    apply hK
    refine AW.seqK fun K hK => AW.rP ?_
    simp
    refine CallDo.p 1 9 h1 ?_
    simp
    repeat refine and_o ?_
    apply hK
    refine AW.seqK fun K hK => AW.seqK fun K1 hK1 => AW.rP ?_
    simp
    repeat refine and_o ?_
    apply hK1
    refine AW.cy (AW.seqK fun K1 hK1 => AW.rP ?_)
    simp
    refine CallDo.p 5 9 hw ?_
    simp
    repeat refine and_o ?_
    apply hK1
    exact AW.r0 (FinP.rt (t := 4) rfl 9 (by simp))
  obtain ⟨e1, e2, e3, e4⟩ := hall
  have h1 := one_good m al ah bl bh bits X s e1 e2 e3 e4
  have sa := ofI_sz al ah
  have sb := ofI_sz bl bh
  have la := ofI_le e1
  have lb := ofI_le e2
  have sp : szR (minR (maxR (ratP X) (ofI al ah).1) (ofI al ah).2) 300 := szR_min (szR_max (ratP_sz X) sa.1) sa.2
  have sq : szR (minR (maxR (ratP s) (ofI bl bh).1) (ofI bl bh).2) 300 := szR_min (szR_max (ratP_sz s) sb.1) sb.2
  have ap := clamp_has la (ratP X)
  have bq := clamp_has lb (ratP s)
  generalize minR (maxR (ratP X) (ofI al ah).1) (ofI al ah).2 = p at *
  generalize minR (maxR (ratP s) (ofI bl bh).1) (ofI bl bh).2 = q at *
  generalize ofI al ah = a at *
  generalize ofI bl bh = b at *
  clear e1 e2 e3 e4
  have up : ∀ {x : Rat}, szR x 300 → szR x 10000000000 := fun h => szB h
  have Sa : a.sz 10000000000 := Iv.sz_mono sa (by decide)
  have Sb : b.sz 10000000000 := Iv.sz_mono sb (by decide)
  have Ma : a.sz 10000000 := Iv.sz_mono sa (by decide)
  have Mb : b.sz 10000000 := Iv.sz_mono sb (by decide)
  -- the first tests
  have a1 := iv_Has (GG m) a p Sa (up sp)
  have a2 := iv_Has (GG m) b q Sb (up sq)
  rw [decide_eq_true ap] at a1
  rw [decide_eq_true bq] at a2
  have b1 := iv_Add (GG m) a b Sa Sb
  have b2 := rat_Add (GG m) p q (up sp) (up sq)
  have zadd : (a.add b).sz 10000000000 := ⟨szR_mono (szR_add sa.1 sb.1) (by decide), szR_mono (szR_add sa.2 sb.2) (by decide)⟩
  have b3 := exactly_ok (GG m) a b (a.add b) 0 (p + q) Ma Mb zadd (szR_mono (szR_add sp sq) (by decide)) (ex_add ap bq)
  have c1 := iv_Sub (GG m) a b Sa Sb
  have c2 := rat_Sub (GG m) p q (up sp) (up sq)
  have ssub : ∀ {x y : Rat}, szR x 300 → szR y 300 → szR (x - y) 10000000000 := fun h h' => by
    rw [Rat.sub_eq_add_neg]; exact szR_mono (szR_add h (szR_neg h')) (by decide)
  have c3 := exactly_ok (GG m) a b (a.sub b) 1 (p - q) Ma Mb ⟨ssub sa.1 sb.2, ssub sa.2 sb.1⟩ (ssub sp sq) (ex_sub ap bq)
  have d1 := iv_Mul (GG m) a b Ma Mb la lb
  have d2 := rat_Mul (GG m) p q (up sp) (up sq)
  have smul : ∀ {x y : Rat} {L : Nat}, szR x L → szR y L → szR (x * y) (2 * L) := fun h h' => szR_mul h h'
  have hul : ∀ {L : Nat} {w x y z : Rat}, szR w L → szR x L → szR y L → szR z L → (hull4 w x y z).sz L := fun h1 h2 h3 h4 => ⟨szR_min (szR_min (szR_min h1 h2) h3) h4, szR_max (szR_max (szR_max h1 h2) h3) h4⟩
  have zmul : (a.mul b).sz 10000000000 := Iv.sz_mono (hul (smul sa.1 sb.1) (smul sa.1 sb.2) (smul sa.2 sb.1) (smul sa.2 sb.2)) (by decide)
  have d3 := exactly_ok (GG m) a b (a.mul b) 2 (p * q) Ma Mb zmul (szR_mono (smul sp sq) (by decide)) (ex_mul ap bq)
  -- the second tests
  have zabs : a.abs.sz 10000000000 := ⟨by
    show szR a.near _
    unfold Iv.near
    split
    · exact szR_zero' _ (by decide)
    · exact szR_min (szR_abs Sa.1) (szR_abs Sa.2), szR_max (szR_abs Sa.1) (szR_abs Sa.2)⟩
  have f1 := iv_Abs (GG m) a Sa
  have f2 := rat_Abs (GG m) p
  have f3 := iv_Has (GG m) a.abs (absR p) zabs (szR_abs (up sp))
  rw [decide_eq_true (abs_has ap)] at f3
  have f4 := iv_Neg (GG m) a
  have f5 := rat_Neg (GG m) p
  have f6 := iv_Has (GG m) a.neg (-p) ⟨szR_neg Sa.2, szR_neg Sa.1⟩ (szR_neg (up sp))
  rw [decide_eq_true (neg_has ap)] at f6
  have f7 := iv_Out (GG m) a bits (Iv.sz_mono sa (by decide))
  have zgrid : ∀ {x : Rat} (away : Bool), szR x 300 → szR (gridR x bits away) 10000000000 := fun {x} away h => by
    unfold gridR
    split
    · exact szR_mono h (by decide)
    · rename_i h0
      have hl := logR_rng h0 h
      obtain ⟨r1, r2⟩ := rngI_r bits
      exact szR_mono (szR_shift (szR_whole (szR_shift h _) away) _) (by omega)
  have hout : Iv.has (downR a.1 bits, upR a.2 bits) p := ⟨Rat.le_trans (down_le _ _) ap.1, Rat.le_trans ap.2 (le_up _ _)⟩
  have f8 := iv_Has (GG m) (downR a.1 bits, upR a.2 bits) p ⟨zgrid _ sa.1, zgrid _ sa.2⟩ (up sp)
  rw [decide_eq_true hout] at f8
  have g1 := iv_Join (GG m) a b Sa Sb
  have zj : (a.join b).sz 10000000000 := ⟨szR_min Sa.1 Sb.1, szR_max Sa.2 Sb.2⟩
  have g2 := iv_Has (GG m) (a.join b) p zj (up sp)
  have g3 := iv_Has (GG m) (a.join b) q zj (up sq)
  rw [decide_eq_true (join_hasl ap)] at g2
  rw [decide_eq_true (join_hasr bq)] at g3
  have i1 := iv_Size (GG m) a Sa
  have i2 := rat_Cmp (GG m) a.size (absR p) zabs.2 (szR_abs (up sp))
  have i3 : ¬ cmpR a.size (absR p) < 0 := fun h => absurd (cmpR_neg.1 h) (Rat.not_lt.2 (size_le ap))
  have i4 := iv_Near (GG m) a Sa
  have i5 := rat_Cmp (GG m) a.near (absR p) zabs.1 (szR_abs (up sp))
  have i6 : ¬ 0 < cmpR a.near (absR p) := fun h => absurd (cmpR_pos.1 h) (Rat.not_lt.2 (near_le ap))
  -- what both contain
  have j1 := iv_Meet (GG m) a b Sa Sb
  have zm : (fromI (a.meet b).1 (a.meet b).2).sz 10000000000 := by
    unfold fromI; split
    · exact ⟨szR_max Sa.1 Sb.1, szR_min Sa.2 Sb.2⟩
    · exact ⟨szR_zero' _ (by decide), szR_zero' _ (by decide)⟩
  have j2 := iv_Has (GG m) (fromI (a.meet b).1 (a.meet b).2) p zm (up sp)
  have j3 := iv_Has (GG m) b p Sb (up sp)
  have j4 : decide (b.has p) = (decide ((a.meet b).1 ≤ (a.meet b).2) && decide ((fromI (a.meet b).1 (a.meet b).2).has p)) := by
    have hm := meet_has (b := b) ap
    rw [Bool.eq_iff_iff, decide_eq_true_eq, ← hm]
    by_cases h : (a.meet b).1 ≤ (a.meet b).2
    · rw [show fromI (a.meet b).1 (a.meet b).2 = a.meet b from if_pos h]; simp
    · simp [h]
  -- quotients
  have k1 := rat_Int (GG m) 0 (by decide) (by decide)
  change CallsP _ _ _ _ (ratV (0 : Rat)) at k1
  have k2 := iv_Has (GG m) b 0 Sb (szR_zero' _ (by decide))
  have k3 := iv_Quo (GG m) a b (Iv.sz_mono sa (by decide)) (Iv.sz_mono sb (by decide)) la lb
  have k4 := rat_Quo (GG m) p q (up sp) (up sq)
  have k5 : ¬ b.has 0 → CallsP Tryz.prog (GG m) 7 [ivV a, ivV b, ivV (quoI a b), .c (.d (.int .i64 3)), ratV (p / q)] (.c (.d (.bool true))) ∧ q ≠ 0 := fun h0 => by
    have s1 : szR (1 : Rat) 300 := ⟨by show nl 1 ≤ _; rw [nl_one]; decide, by show nl 1 ≤ _; rw [nl_one]; decide⟩
    have u : ∀ {x : Rat}, szR x 300 → szR (1 / x) 601 := fun h => szR_div s1 h
    have zq : (a.quo b).sz 10000000000 := Iv.sz_mono (hul (smul (szR_mono sa.1 (by decide)) (u sb.2)) (smul (szR_mono sa.1 (by decide)) (u sb.1)) (smul (szR_mono sa.2 (by decide)) (u sb.2)) (smul (szR_mono sa.2 (by decide)) (u sb.1))) (by decide)
    rw [show quoI a b = a.quo b from if_neg h0]
    exact ⟨exactly_ok (GG m) a b (a.quo b) 3 (p / q) Ma Mb zq (szR_mono (szR_div sp sq) (by decide)) (ex_quo ap bq h0), fun e => h0 (e ▸ bq)⟩
  clear zadd zmul zabs zj zm ssub smul hul zgrid hout Sa Sb Ma Mb la lb up sa sb sp sq
  generalize p + q = v1 at *
  generalize p - q = v2 at *
  generalize p * q = v3 at *
  generalize p / q = v4 at *
  generalize a.add b = w1 at *
  generalize a.sub b = w2 at *
  generalize a.mul b = w3 at *
  generalize quoI a b = w4 at *
  generalize fromI (a.meet b).1 (a.meet b).2 = w5 at *
  generalize hN : cmpR a.size (absR p) = n1 at *
  generalize hN2 : cmpR a.near (absR p) = n2 at *
  generalize a.size = r1 at *
  generalize a.near = r2 at *
  generalize a.abs = w6 at *
  generalize a.neg = w7 at *
  generalize a.join b = w8 at *
  generalize hO : (downR a.1 bits, upR a.2 bits) = w9 at *
  generalize absR p = r3 at *
  generalize -p = r4 at *
  refine CallsP.en Go.Proofs.Tryz.func3 rfl fun _ => AW.seqK fun K hK => AW.rP ?_
  simp
  repeat refine and_o ?_
  apply hK
  refine AW.seqK fun K hK => AW.rP ?_
  simp
  refine CallDo.p 1 9 h1 ?_
  simp
  repeat refine and_o ?_
  apply hK
  refine AW.seqK fun K hK => AW.sr fun K1 hK1 => ?_
  simp
  repeat refine and_o ?_
  apply hK1
  refine AW.cn (AW.skip ?_)
  simp
  repeat refine and_o ?_
  apply hK
  refine AW.seqK fun K hK => AW.seqK fun K1 hK1 => ?_
  refine AW.drawP mixed (by kernel_rfl) rfl ?_
  simp [setSeg]
  refine CallDo.p 5 9 a1 ?_
  simp [setSeg]
  refine CallDo.p 5 9 a2 ?_
  simp [setSeg]
  refine CallDo.p 5 9 b1 ?_
  simp [setSeg]
  refine CallDo.p 5 9 b2 ?_
  simp [setSeg]
  refine CallDo.p 5 9 b3 ?_
  simp [setSeg]
  refine CallDo.p 5 9 c1 ?_
  simp [setSeg]
  refine CallDo.p 5 9 c2 ?_
  simp [setSeg]
  refine CallDo.p 5 9 c3 ?_
  simp [setSeg]
  refine CallDo.p 5 9 d1 ?_
  simp [setSeg]
  refine CallDo.p 5 9 d2 ?_
  simp [setSeg]
  refine CallDo.p 5 9 d3 ?_
  simp [setSeg]
  refine ⟨by kernel_rfl, ?_⟩
  repeat refine and_o ?_
  apply hK1
  refine AW.cn (AW.skip (hK _ _ (AW.seqK fun K hK => AW.seqK fun K1 hK1 => ?_)))
  refine AW.drawP mixed (by kernel_rfl) rfl ?_
  simp [setSeg]
  refine CallDo.p 5 9 f1 ?_
  simp [setSeg]
  refine CallDo.p 5 9 f2 ?_
  simp [setSeg]
  refine CallDo.p 5 9 f3 ?_
  simp [setSeg]
  refine CallDo.p 5 9 f4 ?_
  simp [setSeg]
  refine CallDo.p 5 9 f5 ?_
  simp [setSeg]
  refine CallDo.p 5 9 f6 ?_
  simp [setSeg]
  refine CallDo.p 5 9 f7 ?_
  simp [setSeg]
  refine CallDo.p 5 9 f8 ?_
  simp [setSeg]
  refine CallDo.p 5 9 g1 ?_
  simp [setSeg]
  refine CallDo.p 5 9 g2 ?_
  simp [setSeg]
  refine CallDo.p 5 9 g1 ?_
  simp [setSeg]
  refine CallDo.p 5 9 g3 ?_
  simp [setSeg]
  refine CallDo.p 5 9 i1 ?_
  simp [setSeg]
  refine CallDo.p 5 9 f2 ?_
  simp [setSeg]
  refine CallDo.p 5 9 i2 ?_
  simp [setSeg, i3]
  refine CallDo.p 5 9 i4 ?_
  simp [setSeg]
  refine CallDo.p 5 9 f2 ?_
  simp [setSeg]
  refine CallDo.p 5 9 i5 ?_
  simp [setSeg, i6]
  refine ⟨by kernel_rfl, ?_⟩
  repeat refine and_o ?_
  apply hK1
  refine AW.cn (AW.skip (hK _ _ (AW.c1 5 j1 @setSeg.eq_1 ?_)))
  refine AW.seqK fun K hK => AW.seqK fun K1 hK1 => ?_
  have tail : ∀ (fr : Nat → AV) (lv : Key → LB), fr 5 = .c (.ptr 1 0) → fr 6 = .c (.ptr 2 0) → fr 7 = .c (.ptr 3 0) → fr 8 = .c (.ptr 4 0) → lv 1 = .cells true false 32 [.d (.bool (decide (a.1.num < 0))), nC (natO a.1.num.natAbs), nC (denO a.1.den), .d (.bool (decide (a.2.num < 0))), nC (natO a.2.num.natAbs), nC (denO a.2.den)] → lv 2 = .cells true false 32 [.d (.bool (decide (b.1.num < 0))), nC (natO b.1.num.natAbs), nC (denO b.1.den), .d (.bool (decide (b.2.num < 0))), nC (natO b.2.num.natAbs), nC (denO b.2.den)] →
      lv 3 = .cells true false 30 [.d (.bool (decide (p.num < 0))), nC (natO p.num.natAbs), nC (denO p.den)] → lv 4 = .cells true false 30 [.d (.bool (decide (q.num < 0))), nC (natO q.num.natAbs), nC (denO q.den)] → lv 6 = .hole → lv 7 = .hole → lv 9 = .hole → K ⟨fr, lv⟩ 6 := by
    intro fr lv z5 z6 z7 z8 y1 y2 y3 y4 y6 y7 y9
    by_cases h0 : b.has 0
    · rw [decide_eq_true h0] at k2
      rw [if_pos h0] at k3
      generalize (0 : Rat) = o at *
      repeat refine and_o ?_
      apply hK
      refine AW.seqK fun K hK => AW.rP ?_
      simp [z5, z6, z7, z8, y1, y2, y3, y4, y6, y7, y9]
      refine CallDo.p 6 9 k3 ?_ (hh := by simp [y9])
      simp [z5, z6, z7, z8, y1, y2, y3, y4, y6, y7, y9]
      repeat refine and_o ?_
      apply hK
      refine AW.seqK fun K hK => AW.seqK fun K1 hK1 => ?_
      refine AW.drawP mixed (by kernel_rfl) rfl ?_
      simp [setSeg, z5, z6, z7, z8, y1, y2, y3, y4, y6, y7, y9]
      refine CallDo.p 7 9 k1 ?_ (hh := by simp [y9])
      simp [setSeg, z5, z6, z7, z8, y1, y2, y3, y4, y6, y7, y9]
      refine CallDo.p 7 9 k2 ?_ (hh := by simp [y9])
      simp [setSeg, z5, z6, z7, z8, y1, y2, y3, y4, y6, y7, y9]
      refine ⟨by kernel_rfl, ?_⟩
      repeat refine and_o ?_
      apply hK1
      refine AW.cy (AW.sr fun K1 hK1 => ?_)
      simp
      refine CallDo.p 7 9 hw ?_ (hh := by simp [y9])
      simp
      repeat refine and_o ?_
      apply hK1
      exact AW.r0 (FinP.rt (t := 4) rfl 9 (by simp) rfl (by simp [y9]))
    · obtain ⟨k6, hq0⟩ := k5 h0
      clear k5
      rw [decide_eq_false h0] at k2
      rw [if_neg h0] at k3
      rw [if_neg hq0] at k4
      generalize (0 : Rat) = o at *
      repeat refine and_o ?_
      apply hK
      refine AW.seqK fun K hK => AW.rP ?_
      simp [z5, z6, z7, z8, y1, y2, y3, y4, y6, y7, y9]
      refine CallDo.p 6 9 k3 ?_ (hh := by simp [y9])
      simp [z5, z6, z7, z8, y1, y2, y3, y4, y6, y7, y9]
      repeat refine and_o ?_
      apply hK
      refine AW.seqK fun K hK => AW.seqK fun K1 hK1 => ?_
      refine AW.drawP mixed (by kernel_rfl) rfl ?_
      simp [setSeg, z5, z6, z7, z8, y1, y2, y3, y4, y6, y7, y9]
      refine CallDo.p 7 9 k1 ?_ (hh := by simp [y9])
      simp [setSeg, z5, z6, z7, z8, y1, y2, y3, y4, y6, y7, y9]
      refine CallDo.p 7 9 k2 ?_ (hh := by simp [y9])
      simp [setSeg, z5, z6, z7, z8, y1, y2, y3, y4, y6, y7, y9]
      refine ⟨by kernel_rfl, ?_⟩
      repeat refine and_o ?_
      apply hK1
      refine AW.cn (AW.skip (hK _ _ (AW.seqK fun K hK => AW.rP ?_)))
      simp [z5, z6, z7, z8, y1, y2, y3, y4, y6, y7, y9]
      refine CallDo.p 7 9 k4 ?_ (hh := by simp [y9])
      simp [z5, z6, z7, z8, y1, y2, y3, y4, y6, y7, y9]
      repeat refine and_o ?_
      apply hK
      refine AW.seqK fun K hK => AW.rP ?_
      simp [setSeg, z5, z6, z7, z8, y1, y2, y3, y4, y6, y7, y9]
      refine CallDo.p 8 9 k6 ?_ (hh := by simp [y9])
      simp [setSeg, z5, z6, z7, z8, y1, y2, y3, y4, y6, y7, y9]
      refine CallDo.p 8 9 hw ?_ (hh := by simp [y9])
      simp
      repeat refine and_o ?_
      apply hK
      exact AW.r0 (FinP.rt (t := 4) rfl 9 (by simp) rfl (by simp [y9]))
  rw [j4] at j3
  by_cases hm : decide ((a.meet b).1 ≤ (a.meet b).2) = true
  rotate_left
  · rw [Bool.not_eq_true] at hm
    rw [hm, Bool.false_and] at j3
    rw [hm]
    refine AW.drawP mixed (by kernel_rfl) rfl ?_
    simp [setSeg, neqBool]
    refine CallDo.p 6 9 j3 ?_
    simp [setSeg, neqBool]
    refine ⟨by kernel_rfl, ?_⟩
    repeat refine and_o ?_
    apply hK1
    refine AW.cn (AW.skip ?_)
    simp
    exact tail _ _ (by simp) (by simp) (by simp) (by simp) (by simp [setSeg]) (by simp [setSeg]) (by simp [setSeg]) (by simp [setSeg]) (by simp) (by simp) (by simp)
  rw [hm, Bool.true_and] at j3
  rw [hm]
  refine AW.drawP mixed (by kernel_rfl) rfl ?_
  simp [setSeg, neqBool]
  refine CallDo.p 6 9 j2 ?_
  simp [setSeg, neqBool]
  refine CallDo.p 6 9 j3 ?_
  simp [setSeg, neqBool]
  refine ⟨by kernel_rfl, ?_⟩
  repeat refine and_o ?_
  apply hK1
  refine AW.cn (AW.skip ?_)
  simp
  exact tail _ _ (by simp) (by simp) (by simp) (by simp) (by simp [setSeg]) (by simp [setSeg]) (by simp [setSeg]) (by simp [setSeg]) (by simp) (by simp) (by simp)
end Go.Am
