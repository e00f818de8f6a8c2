/- Helpers: an abstract machine for Go functions, and walks of functions of the program. -/
import Derived.Test.YtbelgphoccpelaaGreatDoorKn07
import Derived.Lib.IndexMore

set_option linter.all false
set_option maxHeartbeats 8000000
set_option maxRecDepth 100000
namespace Go.Am
open Go.Am.Ty Go.Proofs N

theorem eqNil (q : Option (List Nat)) : stepBin Tryz.prog .eql 28 (.c (nC q)) (.c (.d .nilsl)) = some (.c (.d (.bool q.isNone)), [], [], True) := by
  cases q with
  | none => kernel_rfl
  | some l => exact (show ∀ es, stepBin Tryz.prog .eql 28 (.c (.d (.sl es))) (.c (.d .nilsl)) = some (.c (.d (.bool false)), [], [], True) from fun es => by kernel_rfl) _
theorem lpC (lv : Key → LB) (o : Option (List Nat)) : lenP Tryz.prog 28 lv (.c (nC o)) = some (.c (.d (.int .i64 (dO o).length)), [], [], True) := by
  rw [← nK_nC]; simp
@[simp] theorem nmA_pure (neg : Bool) (p q : Option (List Nat)) : (AV.agg [.d (.bool neg), nC p, nC q]).pure = true := by cases p <;> cases q <;> rfl

def sgA (neg : Bool) (p : Option (List Nat)) : Int := if dO p = [] then 0 else if neg then -1 else 1
def botO : Option (List Nat) → Option (List Nat)
  | none => some (dig 4294967296 1)
  | some l => some l

theorem num_Sign_ok (G : List (List DV)) (neg : Bool) (p q : Option (List Nat)) : CallsP Tryz.prog G 45 [nmA neg p q] (.c (.d (.int .i64 (sgA neg p)))) := by
  refine CallsP.en Go.Proofs.Tryz.func45 rfl fun _ => AW.q ?_
  refine AW.seqK fun K hK => AW.block (AW.f1 @lpC ?_)
  by_cases hp : dO p = []
  · refine AW.fy (by simp_all) (AW.q ?_)
    exact AW.r0 (FinP.rt rfl 2 (by simp [sgA, hp]))
  · refine AW.fn (by simp_all) (AW.q ?_)
    cases neg with
    | true =>
      refine AW.cy (AW.q ?_)
      exact AW.r0 (FinP.rt rfl 2 (by simp [sgA, hp]))
    | false =>
      refine AW.cn (AW.skip (hK _ _ (AW.q ?_)))
      exact AW.r0 (FinP.rt rfl 2 (by simp [sgA, hp]))

theorem num_bottom_ok (G : List (List DV)) (neg : Bool) (p q : Option (List Nat)) : CallsP Tryz.prog G 40 [nmA neg p q] (.c (nC (botO q))) := by
  have hof := exact_of_ok G 1 (by decide)
  simp only [nK_nC] at hof
  refine CallsP.en Go.Proofs.Tryz.func40 rfl fun _ => AW.q ?_
  refine AW.seqK fun K hK => AW.sr fun K1 hK1 => ?_
  simp [eqNil]
  apply hK1
  cases q with
  | none =>
    refine AW.cy (AW.sr fun K1 hK1 => ?_)
    simp
    refine CallDo.pure 1 9 hof (by simp) (by simp) (by simp) ?_
    simp
    apply hK1
    exact AW.r0 (FinP.rt rfl 2 (by simp [botO]))
  | some l =>
    refine AW.cn (AW.skip (hK _ _ (AW.q ?_)))
    exact AW.r0 (FinP.rt rfl 2 (by simp [botO]))

theorem num_IsInt_ok (G : List (List DV)) (neg : Bool) (p q : Option (List Nat)) : CallsP Tryz.prog G 169 [nmA neg p q] (.c (.d (.bool q.isNone))) := by
  refine CallsP.en Go.Proofs.Tryz.func169 rfl fun _ => AW.q ?_
  refine AW.sr fun K hK => ?_
  simp [eqNil]
  apply hK
  exact AW.r0 (FinP.rt rfl 2 (by simp))

theorem num_Abs_ok (G : List (List DV)) (neg : Bool) (p q : Option (List Nat)) : CallsP Tryz.prog G 15 [nmA neg p q] (nmA false p q) := by
  refine CallsP.enc Go.Proofs.Tryz.func15 rfl (fun lv => nC_dArg lv _ _ _) fun _ => AW.q ?_
  refine AW.f1 @bNum ?_
  refine AW.ret ?_
  refine FinC.cell (κ := 0) (T := 30) (t := 2) (k := 1) (off := 0) (own := true) (fz := false) (U := 30) (cs := [.d (.bool false), nC p, nC q]) rfl ?_ ?_ ?_
  · simp
  · simp [setSeg]
  · rw [List.drop_zero, loadNum]

/-- How two numbers compare. -/
def cmA (neg : Bool) (p q : Option (List Nat)) (neg' : Bool) (p' q' : Option (List Nat)) : Int :=
  if sgA neg p = sgA neg' p' then sgA neg p * cmpN (val 4294967296 (dO p) * val 4294967296 (dO (botO q'))) (val 4294967296 (dO p') * val 4294967296 (dO (botO q)))
  else if sgA neg p < sgA neg' p' then -1 else 1

theorem sgA_rng (neg : Bool) (p : Option (List Nat)) : -1 ≤ sgA neg p ∧ sgA neg p ≤ 1 := by unfold sgA; split <;> (try split) <;> omega
theorem cmpN_rng (a b : Nat) : -1 ≤ cmpN a b ∧ cmpN a b ≤ 1 := by unfold cmpN; omega
theorem sg_mul (neg : Bool) (p : Option (List Nat)) (a b : Nat) : IntKind.i64.wrap (sgA neg p * cmpN a b) = sgA neg p * cmpN a b := by
  have h1 := cmpN_rng a b
  have h2 : sgA neg p = 0 ∨ sgA neg p = 1 ∨ sgA neg p = -1 := by unfold sgA; split <;> (try split) <;> simp
  rcases h2 with h | h | h <;> rw [h] <;> exact w64 (by omega) (by omega)
theorem botO_len {q : Option (List Nat)} {n : Nat} (h : (dO q).length ≤ n) (hn : 1 ≤ n) : (dO (botO q)).length ≤ n := by
  cases q with
  | none => exact Nat.le_trans (dig_len_le (m := 1) (by decide) (by decide)) hn
  | some l => exact h
theorem loadBox (lv : Key → LB) (k : Nat) (own fz : Bool) (a b c : CV) (h : lv k = .cells own fz 30 [a, b, c]) : stepLoad Tryz.prog 30 lv (.c (.ptr k 0)) = some (.agg [a, b, c], [], [k], True) := by
  simp [stepLoad, h]

theorem num_Cmp_ok (G : List (List DV)) (neg neg' : Bool) (p q p' q' : Option (List Nat)) (h1 : (dO p).length ≤ 100000000000) (h2 : (dO q).length ≤ 100000000000) (h3 : (dO p').length ≤ 100000000000) (h4 : (dO q').length ≤ 100000000000) :
    CallsP Tryz.prog G 21 [nmA neg p q, nmA neg' p' q'] (.c (.d (.int .i64 (cmA neg p q neg' p' q')))) := by
  have b1 := botO_len h2 (by decide)
  have b2 := botO_len h4 (by decide)
  have m1 := exact_mul_ok G p (botO q') (by omega) (by omega)
  have m2 := exact_mul_ok G p' (botO q) (by omega) (by omega)
  have m3 := exact_cmp_ok (G := G) (a := some (dig 4294967296 (val 4294967296 (dO p) * val 4294967296 (dO (botO q'))))) (b := some (dig 4294967296 (val 4294967296 (dO p') * val 4294967296 (dO (botO q))))) (dig_can (by decide) _) (dig_can (by decide) _)
  simp only [dO_some, dig_val (by decide : 2 ≤ 4294967296)] at m3
  simp only [nK_nC] at m1 m2 m3
  refine CallsP.en Go.Proofs.Tryz.func21 rfl fun _ => AW.q ?_
  refine AW.seqK fun K hK => ?_
  refine AW.drawP mixed (by kernel_rfl) rfl ?_
  simp
  refine CallDo.pure 2 9 (num_Sign_ok _ neg p q) (by simp) (by simp) rfl ?_
  simp
  refine CallDo.pure 2 9 (num_Sign_ok _ neg' p' q') (by simp) (by simp) rfl ?_
  simp
  refine ⟨by kernel_rfl, ?_⟩
  apply hK
  refine AW.seqK fun K hK => AW.q ?_
  by_cases hs : sgA neg p = sgA neg' p'
  · refine AW.fn (by simp_all) (AW.skip (hK _ _ (AW.seqK fun K hK => ?_)))
    refine AW.drawP mixed (by kernel_rfl) rfl ?_
    simp [hs]
    refine CallDo.pure 2 9 (num_bottom_ok _ neg' p' q') (by simp) (by simp) rfl ?_
    simp
    refine CallDo.pure 2 9 m1 (by simp) (by simp) rfl ?_
    simp
    refine CallDo.pure 2 9 (num_bottom_ok _ neg p q) (by simp) (by simp) rfl ?_
    simp
    refine CallDo.pure 2 9 m2 (by simp) (by simp) rfl ?_
    simp
    refine CallDo.pure 2 9 m3 (by simp) (by simp) rfl ?_
    simp [sg_mul]
    refine ⟨by kernel_rfl, ?_⟩
    apply hK
    exact AW.r0 (FinP.rt rfl 4 (by simp [cmA, hs]))
  · refine AW.fy (by simp_all) (AW.seqK fun K1 hK1 => AW.q ?_)
    by_cases hlt : sgA neg p < sgA neg' p'
    · refine AW.fy (by simp_all) (AW.q ?_)
      exact AW.r0 (FinP.rt rfl 4 (by simp [cmA, hs, hlt]))
    · refine AW.fn (by simp_all) (AW.skip (hK1 _ _ (AW.q ?_)))
      exact AW.r0 (FinP.rt rfl 4 (by simp [cmA, hs, hlt]))

/-! ### rational numbers as the program holds them -/

/-- A natural number's words (nothing for 0). -/
def natO (n : Nat) : Option (List Nat) := if n = 0 then none else some (dig 4294967296 n)
/-- A denominator's words (nothing for 1). -/
def denO (n : Nat) : Option (List Nat) := if n = 1 then none else some (dig 4294967296 n)
/-- A rational number. -/
abbrev ratV (x : Rat) : AV := nmA (decide (x.num < 0)) (natO x.num.natAbs) (denO x.den)
def sgI (neg : Bool) (a : Nat) : Int := if neg then -(a : Int) else a

theorem natO_d (n : Nat) : dO (natO n) = (dig 4294967296 n) := by
  unfold natO; split
  · simp_all
  · rfl
theorem denO_b (n : Nat) : botO (denO n) = some (dig 4294967296 n) := by
  unfold denO; split
  · rename_i h; subst h; rfl
  · rfl
theorem val_dig (n : Nat) : val 4294967296 (dig 4294967296 n) = n := dig_val (by decide) n
theorem can_dig (n : Nat) : can 4294967296 (dig 4294967296 n) := dig_can (by decide) n
theorem natO_v (n : Nat) : (val 4294967296 (dO (natO n))) = n := by rw [natO_d, val_dig]
theorem denO_v (n : Nat) : (val 4294967296 (dO (botO (denO n)))) = n := by rw [denO_b, dO_some, val_dig]
theorem natO_can (n : Nat) : can 4294967296 (dO (natO n)) := by rw [natO_d]; exact can_dig n
theorem denO_can (n : Nat) : can 4294967296 (dO (botO (denO n))) := by rw [denO_b]; exact can_dig n
theorem dig_ne {n : Nat} (h : n ≠ 0) : (dig 4294967296 n) ≠ [] := fun e => h ((dig_nil (by decide)).1 e)

theorem some_of_ne {o : Option (List Nat)} (hc : can 4294967296 (dO o)) (h : dO o ≠ []) : o = some (dig 4294967296 (val 4294967296 (dO o))) := by
  cases o with
  | none => simp_all
  | some l => exact congrArg some (dig_of (by decide) hc rfl)

theorem mkRat_sg (neg : Bool) {a b : Nat} (hb : b ≠ 0) : (mkRat (sgI neg a) b).num = sgI neg (a / Nat.gcd a b) ∧ (mkRat (sgI neg a) b).den = b / Nat.gcd a b := by
  have h1 : (sgI neg a).natAbs = a := by unfold sgI; split <;> omega
  rw [Rat.num_mkRat, Rat.den_mkRat, if_neg hb, if_neg hb, h1, Nat.gcd_comm b a]
  refine ⟨?_, rfl⟩
  cases neg with
  | false => rfl
  | true =>
    show -(a : Int) / ((Nat.gcd a b : Nat) : Int) = -((a / Nat.gcd a b : Nat) : Int)
    rw [Int.neg_ediv_of_dvd (Int.ofNat_dvd.2 (Nat.gcd_dvd_left a b))]; rfl
theorem sgI_abs (neg : Bool) (a : Nat) : (sgI neg a).natAbs = a := by unfold sgI; omega
theorem sgI_neg (neg : Bool) {a : Nat} (h : a ≠ 0) : decide (sgI neg a < 0) = neg := by
  cases neg <;> simp [sgI] <;> omega

theorem mP_eq {p q : Option (List Nat)} (hp : can 4294967296 (dO p)) (hq : can 4294967296 (dO q)) (h0 : dO p ≠ []) : mP p q = natO ((val 4294967296 (dO p)) / Nat.gcd (val 4294967296 (dO p)) (val 4294967296 (dO q))) := by
  have ha : 0 < (val 4294967296 (dO p)) := can_pos hp h0
  have ep := some_of_ne hp h0
  have hgv : (val 4294967296 (dO (gO p q))) = Nat.gcd (val 4294967296 (dO p)) (val 4294967296 (dO q)) := by unfold gO; rw [gcdO_d hp hq, val_dig]
  have hgp : 0 < Nat.gcd (val 4294967296 (dO p)) (val 4294967296 (dO q)) := Nat.gcd_pos_of_pos_left _ ha
  have hle : Nat.gcd (val 4294967296 (dO p)) (val 4294967296 (dO q)) ≤ (val 4294967296 (dO p)) := Nat.le_of_dvd ha (Nat.gcd_dvd_left _ _)
  have hag : (val 4294967296 (dO p)) / Nat.gcd (val 4294967296 (dO p)) (val 4294967296 (dO q)) ≠ 0 := Nat.ne_of_gt (Nat.div_pos hle hgp)
  unfold natO; rw [if_neg hag]; unfold mP
  split
  · rename_i h; rw [h, Nat.gcd_one_right, Nat.div_one]; exact ep
  · split
    · grind
    · unfold divQ; grind

theorem mQ_eq {p q : Option (List Nat)} (hp : can 4294967296 (dO p)) (hq : can 4294967296 (dO q)) (h0 : dO q ≠ []) : mQ p q = denO ((val 4294967296 (dO q)) / Nat.gcd (val 4294967296 (dO p)) (val 4294967296 (dO q))) := by
  have hb : 0 < (val 4294967296 (dO q)) := can_pos hq h0
  have eq := some_of_ne hq h0
  have hgv : (val 4294967296 (dO (gO p q))) = Nat.gcd (val 4294967296 (dO p)) (val 4294967296 (dO q)) := by unfold gO; rw [gcdO_d hp hq, val_dig]
  have hle : Nat.gcd (val 4294967296 (dO p)) (val 4294967296 (dO q)) ≤ (val 4294967296 (dO q)) := Nat.le_of_dvd hb (Nat.gcd_dvd_right _ _)
  have e : mQ0 p q = some (dig 4294967296 ((val 4294967296 (dO q)) / Nat.gcd (val 4294967296 (dO p)) (val 4294967296 (dO q)))) := by
    unfold mQ0
    split
    · rename_i h; rw [h, Nat.gcd_one_right, Nat.div_one, ← h]; exact eq
    · split
      · grind
      · unfold divQ; grind
  unfold mQ denO
  rw [e, dO_some, val_dig]

/-- WHAT made GIVES is the rational number. -/
theorem madeA_rat (neg : Bool) {p q : Option (List Nat)} (hp : can 4294967296 (dO p)) (hq : can 4294967296 (dO q)) (hq0 : dO q ≠ []) : madeA neg p q = ratV (mkRat (sgI neg (val 4294967296 (dO p))) (val 4294967296 (dO q))) := by
  have hb : (val 4294967296 (dO q)) ≠ 0 := Nat.ne_of_gt (can_pos hq hq0)
  unfold madeA
  by_cases h0 : dO p = []
  · have e : sgI neg (val 4294967296 (dO p)) = 0 := by rw [h0, val_nil]; cases neg <;> rfl
    rw [if_pos h0, e, Rat.zero_mkRat]; rfl
  · have ha : 0 < (val 4294967296 (dO p)) := can_pos hp h0
    have hgp : 0 < Nat.gcd (val 4294967296 (dO p)) (val 4294967296 (dO q)) := Nat.gcd_pos_of_pos_left _ ha
    have hle : Nat.gcd (val 4294967296 (dO p)) (val 4294967296 (dO q)) ≤ (val 4294967296 (dO p)) := Nat.le_of_dvd ha (Nat.gcd_dvd_left _ _)
    have hag : (val 4294967296 (dO p)) / Nat.gcd (val 4294967296 (dO p)) (val 4294967296 (dO q)) ≠ 0 := Nat.ne_of_gt (Nat.div_pos hle hgp)
    obtain ⟨n1, n2⟩ := mkRat_sg neg (a := (val 4294967296 (dO p))) hb
    rw [if_neg h0, mP_eq hp hq h0, mQ_eq hp hq hq0]
    show nmA neg _ _ = nmA (decide (_ < 0)) (natO _) (denO _)
    rw [n1, n2, sgI_abs, sgI_neg neg hag]

theorem rat_sg (x : Rat) : sgI (decide (x.num < 0)) x.num.natAbs = x.num := by
  unfold sgI
  grind
theorem rat_self (x : Rat) : mkRat (sgI (decide (x.num < 0)) x.num.natAbs) x.den = x := by rw [rat_sg, Rat.mkRat_self]

/-! ### sizes -/

def nl (n : Nat) : Nat := (dig 4294967296 n).length
theorem nl_le {n m : Nat} (h : n < 4294967296 ^ m) : nl n ≤ m := dig_len_le (by decide) h
theorem nl_lt (n : Nat) : n < 4294967296 ^ nl n := dig_lt (by decide)
theorem nl_mono {m n : Nat} (h : m ≤ n) : nl m ≤ nl n := dig_len_mono (by decide) h
theorem nl_mul (a b : Nat) : nl (a * b) ≤ nl a + nl b := by
  refine nl_le ?_
  rw [Nat.pow_add]
  exact Nat.mul_lt_mul'' (nl_lt a) (nl_lt b)
theorem nl_add (a b : Nat) : nl (a + b) ≤ max (nl a) (nl b) + 1 := by
  refine nl_le ?_
  have h1 : a < 4294967296 ^ max (nl a) (nl b) := Nat.lt_of_lt_of_le (nl_lt a) (Nat.pow_le_pow_right (by decide) (by omega))
  have h2 : b < 4294967296 ^ max (nl a) (nl b) := Nat.lt_of_lt_of_le (nl_lt b) (Nat.pow_le_pow_right (by decide) (by omega))
  omega
theorem pow32 (m : Nat) : (2 : Nat) ^ (32 * m) = 4294967296 ^ m := by rw [Nat.pow_mul]
theorem nl_two (k : Nat) : nl (2 ^ k) ≤ k / 32 + 1 := by
  refine nl_le ?_
  rw [← pow32]
  exact Nat.pow_lt_pow_right (by decide) (by omega)
theorem nl_one : nl 1 = 1 := by rfl
theorem nl_pos {n : Nat} (h : n ≠ 0) : 1 ≤ nl n := by rw [← nl_one]; exact nl_mono (by omega)
theorem nl_ten {a L : Nat} (h : a < 10 ^ L) : nl a ≤ (L + 8) / 9 := by
  refine nl_le (Nat.lt_of_lt_of_le h ?_)
  have h1 : (10 : Nat) ^ L ≤ 10 ^ (9 * ((L + 8) / 9)) := Nat.pow_le_pow_right (by decide) (by omega)
  rw [Nat.pow_mul] at h1
  exact Nat.le_trans h1 (Nat.pow_le_pow_left (by decide) _)
theorem blen_nl {n : Nat} (h : n ≠ 0) : blen n ≤ 32 * nl n := by
  have h1 := nl_lt n
  rw [← pow32] at h1
  have h2 := blen_le h
  have h3 : blen n - 1 < 32 * nl n := (Nat.pow_lt_pow_iff_right (by decide)).1 (Nat.lt_of_le_of_lt h2 h1)
  omega

/-- How many words a rational number's parts have at most. -/
def szR (x : Rat) (L : Nat) : Prop := nl x.num.natAbs ≤ L ∧ nl x.den ≤ L
theorem szR_mono {x : Rat} {L M : Nat} (h : szR x L) (hm : L ≤ M) : szR x M := ⟨Nat.le_trans h.1 hm, Nat.le_trans h.2 hm⟩
theorem szR_mk (neg : Bool) {a b L : Nat} (hb : b ≠ 0) (h1 : nl a ≤ L) (h2 : nl b ≤ L) : szR (mkRat (sgI neg a) b) L := by
  obtain ⟨n1, n2⟩ := mkRat_sg neg (a := a) hb
  unfold szR
  rw [n1, n2, sgI_abs]
  exact ⟨Nat.le_trans (nl_mono (Nat.div_le_self _ _)) h1, Nat.le_trans (nl_mono (Nat.div_le_self _ _)) h2⟩
theorem szR_neg {x : Rat} {L : Nat} (h : szR x L) : szR (-x) L := by
  unfold szR at *; simp_all
theorem szR_int (n : Int) (L : Nat) (h : nl n.natAbs ≤ L) (h1 : 1 ≤ L) : szR (n : Rat) L := ⟨by rw [Rat.num_intCast]; exact h, by rw [Rat.den_intCast, nl_one]; exact h1⟩

/-- A number times a power of two. -/
def shiftR (x : Rat) (k : Int) : Rat := if k < 0 then mkRat x.num (x.den * 2 ^ (-k).toNat) else mkRat (x.num * 2 ^ k.toNat) x.den
theorem den_pow_ne (x : Rat) (k : Nat) : x.den * 2 ^ k ≠ 0 := Nat.ne_of_gt (Nat.mul_pos x.den_pos (Nat.pow_pos (by decide)))
theorem shiftR_neg {x : Rat} {k : Int} (h : k < 0) : shiftR x k = mkRat (sgI (decide (x.num < 0)) x.num.natAbs) (x.den * 2 ^ (-k).toNat) := by rw [rat_sg]; unfold shiftR; grind
theorem sgI_mul (neg : Bool) (a b : Nat) : sgI neg a * (b : Int) = sgI neg (a * b) := by
  unfold sgI; grind
theorem shiftR_pos {x : Rat} {k : Int} (h : ¬ k < 0) : shiftR x k = mkRat (sgI (decide (x.num < 0)) (x.num.natAbs * 2 ^ k.toNat)) x.den := by
  unfold shiftR; rw [if_neg h, ← sgI_mul, rat_sg]
  congr 2
theorem szR_shift {x : Rat} {L : Nat} (h : szR x L) (k : Int) : szR (shiftR x k) (L + k.natAbs / 32 + 1) := by
  by_cases hk : k < 0
  · rw [shiftR_neg hk]
    refine szR_mk _ (den_pow_ne _ _) (by have := h.1; omega) ?_
    have h1 := nl_mul x.den (2 ^ (-k).toNat)
    have h2 := nl_two (-k).toNat
    have h3 : (-k).toNat = k.natAbs := by omega
    have := h.2
    omega
  · rw [shiftR_pos hk]
    refine szR_mk _ x.den_nz ?_ (by have := h.2; omega)
    have h1 := nl_mul x.num.natAbs (2 ^ k.toNat)
    have h2 := nl_two k.toNat
    have h3 : k.toNat = k.natAbs := by omega
    have := h.1
    omega
theorem add_mk (x y : Rat) : x + y = mkRat (sgI (decide (x.num < 0)) (x.num.natAbs * y.den) + sgI (decide (y.num < 0)) (y.num.natAbs * x.den)) (x.den * y.den) := by
  rw [Rat.add_def', ← sgI_mul, ← sgI_mul, rat_sg, rat_sg]
theorem sgI_add (neg : Bool) (a b : Nat) : sgI neg a + sgI neg b = sgI neg (a + b) := by unfold sgI; grind
theorem sgI_lt {neg neg' : Bool} (h : neg ≠ neg') {a b : Nat} (hab : a < b) : sgI neg a + sgI neg' b = sgI neg' (b - a) := by
  unfold sgI; grind
theorem sgI_ge {neg neg' : Bool} (h : neg ≠ neg') {a b : Nat} (hab : ¬ a < b) : sgI neg a + sgI neg' b = sgI neg (a - b) := by
  unfold sgI; grind
theorem szR_add {x y : Rat} {L : Nat} (hx : szR x L) (hy : szR y L) : szR (x + y) (2 * L + 1) := by
  have hd : x.den * y.den ≠ 0 := Nat.ne_of_gt (Nat.mul_pos x.den_pos y.den_pos)
  have e1 := nl_mul x.num.natAbs y.den
  have e2 := nl_mul y.num.natAbs x.den
  have e3 := nl_mul x.den y.den
  obtain ⟨a1, a2⟩ := hx
  obtain ⟨b1, b2⟩ := hy
  rw [add_mk]
  by_cases h : decide (x.num < 0) = decide (y.num < 0)
  · rw [h, sgI_add]
    refine szR_mk _ hd ?_ (by omega)
    have := nl_add (x.num.natAbs * y.den) (y.num.natAbs * x.den)
    omega
  · by_cases hab : x.num.natAbs * y.den < y.num.natAbs * x.den
    · rw [sgI_lt h hab]
      refine szR_mk _ hd ?_ (by omega)
      have := nl_mono (Nat.sub_le (y.num.natAbs * x.den) (x.num.natAbs * y.den))
      omega
    · rw [sgI_ge h hab]
      refine szR_mk _ hd ?_ (by omega)
      have := nl_mono (Nat.sub_le (x.num.natAbs * y.den) (y.num.natAbs * x.den))
      omega
/-- Less, equal, more. -/
def cmpR (x y : Rat) : Int := if x < y then -1 else if y < x then 1 else 0

theorem eqBool (a b : Bool) : stepBin Tryz.prog .eql 4 (.c (.d (.bool a))) (.c (.d (.bool b))) = some (.c (.d (.bool (a == b))), [], [], True) := by
  rfl

/-- made, in rational numbers. -/
theorem rat_made (G : List (List DV)) (neg : Bool) (p q : Option (List Nat)) (hp : can 4294967296 (dO p)) (hq : can 4294967296 (dO q)) (hq0 : dO q ≠ []) (hl : (dO p).length < 1000000000000) (hl' : (dO q).length < 1000000000000) :
    CallsP Tryz.prog G 41 [.c (.d (.bool neg)), .c (nC p), .c (nC q)] (ratV (mkRat (sgI neg (val 4294967296 (dO p))) (val 4294967296 (dO q)))) := by
  have := exact_made_ok G neg p q hp hq hq0 hl hl'
  rw [madeA_rat neg hp hq hq0] at this
  simp only [nK_nC] at this
  omega
/-- Of words that are given. -/
theorem rat_made' (G : List (List DV)) (neg : Bool) (a b : Nat) (hb : b ≠ 0) (hl : nl a < 1000000000000) (hl' : nl b < 1000000000000) :
    CallsP Tryz.prog G 41 [.c (.d (.bool neg)), .c (nC (some (dig 4294967296 a))), .c (nC (some (dig 4294967296 b)))] (ratV (mkRat (sgI neg a) b)) := by
  have := rat_made G neg (some (dig 4294967296 a)) (some (dig 4294967296 b)) (can_dig a) (can_dig b) (dig_ne hb) hl hl'
  simp only [dO_some, val_dig] at this
  omega

theorem num_Neg_ok (G : List (List DV)) (neg : Bool) (p q : Option (List Nat)) : CallsP Tryz.prog G 17 [nmA neg p q] (nmA (!neg && decide (dO p ≠ [])) p q) := by
  cases neg with
  | true =>
    show CallsP Tryz.prog G 17 [nmA true p q] (nmA false p q)
    refine CallsP.enc Go.Proofs.Tryz.func17 rfl (fun lv => nC_dArg lv _ _ _) fun _ => AW.q ?_
    refine AW.f1 @bNum ?_
    refine AW.ret ?_
    rfl
  | false =>
    by_cases hp : dO p = []
    · rw [show (!false && decide (dO p ≠ [])) = false by simp [hp]]
      refine CallsP.enc Go.Proofs.Tryz.func17 rfl (fun lv => nC_dArg lv _ _ _) fun _ => AW.q ?_
      refine AW.f3 @bNum @lpC hp ?_
      refine AW.ret ?_
      rfl
    · rw [show (!false && decide (dO p ≠ [])) = true by simp [hp]]
      refine CallsP.enc Go.Proofs.Tryz.func17 rfl (fun lv => nC_dArg lv _ _ _) fun _ => AW.q ?_
      refine AW.seqK fun K hK => ?_
      have hp' := List.length_pos_iff.2 hp
      refine AW.l4 @bNum @lpC hp hp' (hK _ _ ?_)
      refine AW.ret ?_
      rfl

theorem rat_Neg (G : List (List DV)) (x : Rat) : CallsP Tryz.prog G 17 [ratV x] (ratV (-x)) := by
  have h := num_Neg_ok G (decide (x.num < 0)) (natO x.num.natAbs) (denO x.den)
  have e : (!decide (x.num < 0) && decide (dO (natO x.num.natAbs) ≠ [])) = decide ((-x).num < 0) := by
    rw [Rat.neg_num, natO_d]
    by_cases h0 : x.num = 0
    · simp_all
    · have h1 : (dig 4294967296 x.num.natAbs) ≠ [] := dig_ne (by omega)
      grind
  rw [e] at h
  show CallsP _ _ _ _ (nmA (decide ((-x).num < 0)) (natO (-x).num.natAbs) (denO (-x).den))
  rw [show (-x).num.natAbs = x.num.natAbs by simp, Rat.neg_den]
  exact h

theorem mkRat_int (neg : Bool) (a : Nat) : mkRat (sgI neg a) 1 = ((sgI neg a : Int) : Rat) := by
  rw [Rat.mkRat_one]

theorem rat_Int (G : List (List DV)) (n : Int) (h1 : -9223372036854775808 ≤ n) (h2 : n ≤ 9223372036854775807) : CallsP Tryz.prog G 25 [.c (.d (.int .i64 n))] (ratV (n : Rat)) := by
  have hof1 := exact_of_ok G 1 (by decide)
  have hofn := exact_of_ok G n.natAbs (by omega)
  have hl : nl n.natAbs < 1000000000000 := by
    have e2 : (4294967296 : Nat) ^ 2 = 18446744073709551616 := by decide
    have := nl_le (n := n.natAbs) (m := 2) (by omega)
    omega
  have hm := fun neg => rat_made' G neg n.natAbs 1 (by decide) hl (by rw [nl_one]; decide)
  simp only [nK_nC] at hof1 hofn
  simp only [mkRat_int] at hm
  by_cases hn : n < 0
  · have e : sgI true n.natAbs = n := by unfold sgI; rw [if_pos rfl]; omega
    have hm1 := hm true
    rw [e] at hm1
    have ew : IntKind.u64.wrap (-IntKind.u64.wrap n) = (n.natAbs : Int) := by rw [wu64m, wu64m]; omega
    refine CallsP.enc Go.Proofs.Tryz.func25 rfl (fun lv => nC_dArg lv _ _ _) fun _ => AW.q ?_
    refine AW.seqK fun K hK => AW.f1 hn ?_
    refine AW.fy (by rfl) (AW.sr fun K1 hK1 => ?_)
    simp [ew]
    refine CallDo.p 1 9 hofn ?_
    simp
    refine CallDo.p 1 9 hof1 ?_
    simp
    refine CallDo.p 1 9 hm1 ?_
    simp
    apply hK1
    refine AW.ret ?_
    rfl
  · have e : sgI false n.natAbs = n := by unfold sgI; rw [if_neg (by decide)]; omega
    have hm1 := hm false
    rw [e] at hm1
    have ew : IntKind.u64.wrap n = (n.natAbs : Int) := by rw [wu64m]; omega
    refine CallsP.enc Go.Proofs.Tryz.func25 rfl (fun lv => nC_dArg lv _ _ _) fun _ => AW.q ?_
    refine AW.seqK fun K hK => AW.f1 hn ?_
    refine AW.fn (by rfl) (AW.skip (hK _ _ (AW.sr fun K hK => ?_)))
    simp [ew]
    refine CallDo.p 1 9 hofn ?_
    simp
    refine CallDo.p 1 9 hof1 ?_
    simp
    refine CallDo.p 1 9 hm1 ?_
    simp
    apply hK
    refine AW.ret ?_
    rfl

/-- What Add gives. -/
def addR (neg : Bool) (a : Nat) (neg' : Bool) (b q : Nat) : Rat :=
  if neg = neg' then mkRat (sgI neg (a + b)) q else if a < b then mkRat (sgI neg' (b - a)) q else mkRat (sgI neg (a - b)) q

theorem cmpN_neg {a b : Nat} : (cmpN a b < 0) ↔ a < b := by unfold cmpN; omega

theorem num_Add_ok (G : List (List DV)) (neg neg' : Bool) (p q p' q' : Option (List Nat)) (h1 : (dO p).length ≤ 10000000000) (h2 : (dO q).length ≤ 10000000000) (h3 : (dO p').length ≤ 10000000000) (h4 : (dO q').length ≤ 10000000000)
    (c1 : can 4294967296 (dO p)) (c2 : can 4294967296 (dO (botO q))) (c3 : can 4294967296 (dO p')) (c4 : can 4294967296 (dO (botO q'))) (z2 : (val 4294967296 (dO (botO q))) ≠ 0) (z4 : (val 4294967296 (dO (botO q'))) ≠ 0) :
    CallsP Tryz.prog G 9 [nmA neg p q, nmA neg' p' q'] (ratV (addR neg ((val 4294967296 (dO p)) * (val 4294967296 (dO (botO q')))) neg' ((val 4294967296 (dO p')) * (val 4294967296 (dO (botO q)))) ((val 4294967296 (dO (botO q))) * (val 4294967296 (dO (botO q')))))) := by
  have b1 := botO_len h2 (by decide)
  have b2 := botO_len h4 (by decide)
  have m1 := exact_mul_ok G p (botO q') (by omega) (by omega)
  have m2 := exact_mul_ok G p' (botO q) (by omega) (by omega)
  have m3 := exact_mul_ok G (botO q) (botO q') (by omega) (by omega)
  have hQ : (val 4294967296 (dO (botO q))) * (val 4294967296 (dO (botO q'))) ≠ 0 := Nat.ne_of_gt (Nat.mul_pos (Nat.pos_of_ne_zero z2) (Nat.pos_of_ne_zero z4))
  have lv : ∀ {o : Option (List Nat)}, can 4294967296 (dO o) → nl (val 4294967296 (dO o)) = (dO o).length := fun {o} hc => by unfold nl; rw [← dig_of (by decide) hc rfl]
  have l1 : nl ((val 4294967296 (dO p)) * (val 4294967296 (dO (botO q')))) ≤ 20000000000 := by
    have := nl_mul (val 4294967296 (dO p)) (val 4294967296 (dO (botO q')))
    rw [lv c1, lv c4] at this; omega
  have l2 : nl ((val 4294967296 (dO p')) * (val 4294967296 (dO (botO q)))) ≤ 20000000000 := by
    have := nl_mul (val 4294967296 (dO p')) (val 4294967296 (dO (botO q)))
    rw [lv c3, lv c2] at this; omega
  have l3 : nl ((val 4294967296 (dO (botO q))) * (val 4294967296 (dO (botO q')))) ≤ 20000000000 := by
    have := nl_mul (val 4294967296 (dO (botO q))) (val 4294967296 (dO (botO q')))
    rw [lv c2, lv c4] at this; omega
  generalize (val 4294967296 (dO p)) * (val 4294967296 (dO (botO q'))) = a at *
  generalize (val 4294967296 (dO p')) * (val 4294967296 (dO (botO q))) = b at *
  generalize (val 4294967296 (dO (botO q))) * (val 4294967296 (dO (botO q'))) = Q at *
  have la : (dO (some (dig 4294967296 a))).length ≤ 20000000000 := l1
  have lb : (dO (some (dig 4294967296 b))).length ≤ 20000000000 := l2
  have k1 := exact_add_ok G (some (dig 4294967296 a)) (some (dig 4294967296 b)) (by omega) (by omega)
  have k2 := exact_cmp_ok (G := G) (a := some (dig 4294967296 a)) (b := some (dig 4294967296 b)) (can_dig _) (can_dig _)
  have k3 := fun h => exact_sub_ok G (some (dig 4294967296 a)) (some (dig 4294967296 b)) (by omega) h
  have k4 := fun h => exact_sub_ok G (some (dig 4294967296 b)) (some (dig 4294967296 a)) (by omega) h
  simp only [dO_some, val_dig] at k1 k2 k3 k4
  simp only [nK_nC, N32] at m1 m2 m3 k1 k2 k3 k4
  have mk1 := fun neg n (h : nl n ≤ 20000000001) => rat_made' G neg n Q hQ (by omega) (by omega)
  have hsum : nl (a + b) ≤ 20000000001 := by have := nl_add a b; omega
  have hs1 : nl (a - b) ≤ 20000000001 := by have := nl_mono (Nat.sub_le a b); omega
  have hs2 : nl (b - a) ≤ 20000000001 := by have := nl_mono (Nat.sub_le b a); omega
  refine CallsP.enc Go.Proofs.Tryz.func9 rfl (fun lv => nC_dArg lv _ _ _) fun _ => AW.q ?_
  refine AW.seqK fun K hK => ?_
  refine AW.drawP mixed (by kernel_rfl) rfl ?_
  simp
  refine CallDo.p 3 9 (num_bottom_ok _ neg' p' q') ?_
  simp
  refine CallDo.p 3 9 m1 ?_
  simp
  refine CallDo.p 3 9 (num_bottom_ok _ neg p q) ?_
  simp
  refine CallDo.p 3 9 m2 ?_
  simp
  refine CallDo.p 3 9 (num_bottom_ok _ neg p q) ?_
  simp
  refine CallDo.p 3 9 (num_bottom_ok _ neg' p' q') ?_
  simp
  refine CallDo.p 3 9 m3 ?_
  simp
  refine ⟨by kernel_rfl, ?_⟩
  apply hK
  refine AW.seqK fun K hK => AW.block (AW.f1 @eqBool ?_)
  by_cases hn : neg = neg'
  · subst hn
    have e : addR neg a neg b Q = mkRat (sgI neg (a + b)) Q := by unfold addR; rw [if_pos rfl]
    rw [e]
    refine AW.cy (AW.seqK fun K1 hK1 => ?_)
    refine AW.drawP mixed (by kernel_rfl) rfl ?_
    simp
    refine CallDo.p 3 9 k1 ?_
    simp
    refine CallDo.p 3 9 (mk1 neg _ hsum) ?_
    simp
    refine ⟨by kernel_rfl, ?_⟩
    apply hK1
    refine AW.ret ?_
    rfl
  have hn' : (neg == neg') = false := by cases neg <;> cases neg' <;> simp_all
  refine AW.fn (by simp_all) (AW.c0 3 k2 ?_)
  by_cases hab : a < b
  · have e : addR neg a neg' b Q = mkRat (sgI neg' (b - a)) Q := by unfold addR; rw [if_neg hn, if_pos hab]
    rw [e]
    have hc := cmpN_neg.2 hab
    refine AW.fy (by simp_all) (AW.seqK fun K1 hK1 => ?_)
    refine AW.drawP mixed (by kernel_rfl) rfl ?_
    simp
    refine CallDo.p 3 9 (k4 (by omega)) ?_
    simp
    refine CallDo.p 3 9 (mk1 neg' _ hs2) ?_
    simp
    refine ⟨by kernel_rfl, ?_⟩
    apply hK1
    refine AW.ret ?_
    rfl
  · have e : addR neg a neg' b Q = mkRat (sgI neg (a - b)) Q := by unfold addR; rw [if_neg hn, if_neg hab]
    have hc : ¬ cmpN a b < 0 := fun h => hab (cmpN_neg.1 h)
    refine AW.fn (by simp_all) (AW.skip (hK _ _ (AW.seqK fun K hK => ?_)))
    refine AW.drawP mixed (by kernel_rfl) rfl ?_
    simp
    refine CallDo.p 3 9 (k3 (by omega)) ?_
    simp
    refine CallDo.p 3 9 (mk1 neg _ hs1) ?_
    simp
    refine ⟨by kernel_rfl, ?_⟩
    apply hK
    refine AW.ret ?_
    refine FinC.cell (κ := 0) (T := 30) (t := 4) (k := 2) (off := 0) (own := true) (fz := false) (U := 30) (cs := [.d (.bool (decide ((mkRat (sgI neg (a - b)) Q).num < 0))), nC (natO (mkRat (sgI neg (a - b)) Q).num.natAbs), nC (denO (mkRat (sgI neg (a - b)) Q).den)]) rfl ?_ ?_ ?_
    · simp
    · rfl
    simp_all

theorem natO_len (n : Nat) : (dO (natO n)).length = nl n := by rw [natO_d]; rfl
theorem denO_len (n : Nat) : (dO (denO n)).length ≤ nl n := by
  unfold denO; split
  · simp
  · exact Nat.le_refl _

theorem rat_Add (G : List (List DV)) (x y : Rat) (hx : szR x 10000000000) (hy : szR y 10000000000) : CallsP Tryz.prog G 9 [ratV x, ratV y] (ratV (x + y)) := by
  have h := num_Add_ok G (decide (x.num < 0)) (decide (y.num < 0)) (natO x.num.natAbs) (denO x.den) (natO y.num.natAbs) (denO y.den)
    (by rw [natO_len]; exact hx.1) (Nat.le_trans (denO_len _) hx.2) (by rw [natO_len]; exact hy.1) (Nat.le_trans (denO_len _) hy.2) (natO_can _) (denO_can _) (natO_can _) (denO_can _) (by rw [denO_v]; exact x.den_nz) (by rw [denO_v]; exact y.den_nz)
  simp only [natO_v, denO_v] at h
  have e : addR (decide (x.num < 0)) (x.num.natAbs * y.den) (decide (y.num < 0)) (y.num.natAbs * x.den) (x.den * y.den) = x + y := by
    rw [add_mk]; unfold addR
    split
    · rename_i hh; rw [hh, sgI_add]
    · split
      · rename_i hh hl; rw [sgI_lt hh hl]
      · rename_i hh hl; rw [sgI_ge hh hl]
  grind

theorem rat_Sub (G : List (List DV)) (x y : Rat) (hx : szR x 10000000000) (hy : szR y 10000000000) : CallsP Tryz.prog G 11 [ratV x, ratV y] (ratV (x - y)) := by
  have h1 := rat_Neg G y
  have h2 := rat_Add G x (-y) hx (szR_neg hy)
  rw [← Rat.sub_eq_add_neg] at h2
  refine CallsP.enc Go.Proofs.Tryz.func11 rfl (fun lv => nC_dArg lv _ _ _) fun _ => AW.q ?_
  refine AW.seqK fun K hK => ?_
  refine AW.drawP mixed (by kernel_rfl) rfl ?_
  simp
  refine CallDo.p 3 9 h1 ?_
  simp
  refine CallDo.p 3 9 h2 ?_
  simp
  refine ⟨by kernel_rfl, ?_⟩
  apply hK
  refine AW.ret ?_
  rfl

theorem rat_shifted (G : List (List DV)) (x : Rat) (k : Int) (hx : szR x 10000000000) (h1 : -1000000 ≤ k) (h2 : k ≤ 1000000) : CallsP Tryz.prog G 92 [ratV x, .c (.d (.int .i64 k))] (ratV (shiftR x k)) := by
  have hbot := num_bottom_ok G (decide (x.num < 0)) (natO x.num.natAbs) (denO x.den)
  rw [denO_b] at hbot
  have hw : IntKind.i64.wrap (-k) = -k := w64 (by omega) (by omega)
  by_cases hk : k < 0
  · have e := shiftR_neg (x := x) hk
    have ht : ((-k).toNat : Int) = -k := by omega
    have hs := exact_shl_ok G (some (dig 4294967296 x.den)) (-k).toNat (by have := hx.2; show nl _ ≤ _; omega) (by omega)
    simp only [dO_some, dig_ne x.den_nz, if_false, val_dig, nK_nC, ht] at hs
    have hm := rat_made G (decide (x.num < 0)) (natO x.num.natAbs) (some (dig 4294967296 (x.den * 2 ^ (-k).toNat))) (natO_can _) (can_dig _) (dig_ne (den_pow_ne _ _)) (by rw [natO_len]; have := hx.1; omega) (by
      have h3 := nl_mul x.den (2 ^ (-k).toNat)
      have h4 := nl_two (-k).toNat
      have := hx.2
      show nl _ < _
      omega)
    rw [natO_v, dO_some, val_dig, ← e] at hm
    generalize shiftR x k = r at *
    refine CallsP.enc Go.Proofs.Tryz.func92 rfl (fun lv => nC_dArg lv _ _ _) fun _ => AW.q ?_
    refine AW.seqK fun K hK => AW.f1 hk ?_
    refine AW.fy (by rfl) (AW.seqK fun K1 hK1 => ?_)
    refine AW.drawP mixed (by kernel_rfl) rfl ?_
    simp
    refine CallDo.p 2 9 hbot ?_
    simp [hw]
    refine CallDo.p 2 9 hs ?_
    simp
    refine CallDo.p 2 9 hm ?_
    simp
    refine ⟨by kernel_rfl, ?_⟩
    apply hK1
    refine AW.ret ?_
    rfl
  · have e := shiftR_pos (x := x) hk
    have ht : (k.toNat : Int) = k := by omega
    have hs := exact_shl_ok G (natO x.num.natAbs) k.toNat (by rw [natO_len]; have := hx.1; omega) (by omega)
    have hs' : CallsP Tryz.prog G 86 [.c (nC (natO x.num.natAbs)), .c (.d (.int .i64 k))] (.c (nC (natO (x.num.natAbs * 2 ^ k.toNat)))) := by
      simp only [natO_v] at hs
      simp only [natO_d, ht, nK_nC] at hs
      by_cases h0 : x.num.natAbs = 0
      · have : (dig 4294967296 x.num.natAbs) = [] := by rw [h0]; rfl
        rw [if_pos this] at hs
        rw [h0, Nat.zero_mul]
        rw [h0] at hs
        exact hs
      · rw [if_neg (dig_ne h0)] at hs
        unfold natO at hs ⊢
        rw [if_neg h0] at hs
        rw [if_neg h0, if_neg (Nat.ne_of_gt (Nat.mul_pos (Nat.pos_of_ne_zero h0) (Nat.pow_pos (by decide))))]
        exact hs
    have hm := rat_made G (decide (x.num < 0)) (natO (x.num.natAbs * 2 ^ k.toNat)) (some (dig 4294967296 x.den)) (natO_can _) (can_dig _) (dig_ne x.den_nz) (by
      rw [natO_len]
      have h3 := nl_mul x.num.natAbs (2 ^ k.toNat)
      have h4 := nl_two k.toNat
      have := hx.1
      omega) (by have := hx.2; show nl _ < _; omega)
    rw [natO_v, dO_some, val_dig, ← e] at hm
    generalize shiftR x k = r at *
    refine CallsP.enc Go.Proofs.Tryz.func92 rfl (fun lv => nC_dArg lv _ _ _) fun _ => AW.q ?_
    refine AW.seqK fun K hK => AW.f1 hk ?_
    refine AW.fn (by rfl) (AW.skip (hK _ _ (AW.seqK fun K hK => ?_)))
    refine AW.drawP mixed (by kernel_rfl) rfl ?_
    simp
    refine CallDo.p 2 9 hs' ?_
    simp
    refine CallDo.p 2 9 hbot ?_
    simp
    refine CallDo.p 2 9 hm ?_
    simp
    refine ⟨by kernel_rfl, ?_⟩
    apply hK
    refine AW.ret ?_
    rfl

theorem dRes_num (lv : Key → LB) (b : Bool) (p q : Option (List Nat)) (n : Int) : dRes lv (.tup [nmA b p q, .c (.d (.int .i64 n))]) = some (.tup [nmA b p q, .c (.d (.int .i64 n))], []) := by
  cases p <;> cases q <;> rfl
@[simp] theorem tup_num_pure (b : Bool) (p q : Option (List Nat)) (n : Int) : (AV.tup [.agg [.d (.bool b), nC p, nC q], .c (.d (.int .i64 n))]).pure = true := by
  cases p <;> cases q <;> rfl

/-- Shift, in its range. -/
theorem rat_Shift (G : List (List DV)) (x : Rat) (k : Int) (hx : szR x 10000000000) (h1 : -20000 ≤ k) (h2 : k ≤ 20000) : CallsP Tryz.prog G 113 [ratV x, .c (.d (.int .i64 k))] (.tup [ratV (shiftR x k), .c (.d (.int .i64 0))]) := by
  have h := rat_shifted G x k hx (by omega) (by omega)
  generalize shiftR x k = r at *
  have i1 : ¬ k < -20000 := by omega
  have i2 : ¬ 20000 < k := by omega
  refine CallsP.enc Go.Proofs.Tryz.func113 rfl (fun lv => dRes_num lv _ _ _ _) fun _ => AW.q ?_
  refine AW.seqK fun K hK => AW.f2 i1 i2 ?_
  refine AW.cn (AW.skip (hK _ _ (AW.c0 2 h ?_)))
  refine AW.ret ?_
  rfl

/-- The logarithm to the base 2, as it is computed. -/
def logR (x : Rat) : Int :=
  let k := (blen x.num.natAbs : Int) - blen x.den
  if x.num.natAbs * 2 ^ (max (-k) 0).toNat < x.den * 2 ^ (max k 0).toNat then k - 1 else k

theorem logR_rng {x : Rat} (hx : x ≠ 0) {L : Nat} (h : szR x L) : -(32 * (L : Int)) ≤ logR x ∧ logR x ≤ 32 * L := by
  have h0 : x.num.natAbs ≠ 0 := by intro e; exact hx (Rat.num_eq_zero.1 (by omega))
  have h1 := blen_nl h0
  have h2 := blen_nl x.den_nz
  have h3 : 1 ≤ blen x.num.natAbs := by unfold blen; rw [if_neg h0]; omega
  have h4 : 1 ≤ blen x.den := by unfold blen; rw [if_neg x.den_nz]; omega
  have := h.1
  have := h.2
  unfold logR
  grind

theorem rat_log (G : List (List DV)) (x : Rat) (hx : x ≠ 0) (hs : szR x 10000000) : CallsP Tryz.prog G 90 [ratV x] (.c (.d (.int .i64 (logR x)))) := by
  have h0 : x.num.natAbs ≠ 0 := by intro e; exact hx (Rat.num_eq_zero.1 (by omega))
  have hbot := num_bottom_ok G (decide (x.num < 0)) (natO x.num.natAbs) (denO x.den)
  rw [denO_b] at hbot
  have l1 := hs.1
  have l2 := hs.2
  have b1 := blen_nl h0
  have b2 := blen_nl x.den_nz
  have p1 := exact_bits_ok G (natO x.num.natAbs) (natO_can _) (by rw [natO_len]; omega)
  have p2 := exact_bits_ok G (some (dig 4294967296 x.den)) (can_dig _) (by show nl _ ≤ _; omega)
  rw [natO_v] at p1
  rw [dO_some, val_dig] at p2
  have ek : ∃ k : Int, (blen x.num.natAbs : Int) - blen x.den = k ∧ -320000000 ≤ k ∧ k ≤ 320000000 := ⟨_, rfl, by omega, by omega⟩
  obtain ⟨k, hk, k1, k2⟩ := ek
  have ew : IntKind.i64.wrap ((blen x.num.natAbs : Int) - blen x.den) = k := by rw [hk]; exact w64 (by omega) (by omega)
  have ew2 : IntKind.i64.wrap (-k) = -k := w64 (by omega) (by omega)
  have mx1 : (List.foldl (fun a b : Int => if a < b then b else a) (-k) [0]) = ((max (-k) 0).toNat : Int) := by simp only [List.foldl]; split <;> omega
  have mx2 : (List.foldl (fun a b : Int => if a < b then b else a) k [0]) = ((max k 0).toNat : Int) := by simp only [List.foldl]; split <;> omega
  have hlog : logR x = if x.num.natAbs * 2 ^ (max (-k) 0).toNat < x.den * 2 ^ (max k 0).toNat then k - 1 else k := by unfold logR; simp only [hk]
  have s1 := exact_shl_ok G (natO x.num.natAbs) (max (-k) 0).toNat (by rw [natO_len]; omega) (by omega)
  have s2 := exact_shl_ok G (some (dig 4294967296 x.den)) (max k 0).toNat (by show nl _ ≤ _; omega) (by omega)
  rw [natO_d, if_neg (dig_ne h0), val_dig] at s1
  rw [dO_some, if_neg (dig_ne x.den_nz), val_dig] at s2
  have cm := exact_cmp_ok (G := G) (a := some (dig 4294967296 (x.num.natAbs * 2 ^ (max (-k) 0).toNat))) (b := some (dig 4294967296 (x.den * 2 ^ (max k 0).toNat))) (can_dig _) (can_dig _)
  simp only [dO_some, val_dig] at cm
  generalize x.num.natAbs * 2 ^ (max (-k) 0).toNat = a at *
  generalize x.den * 2 ^ (max k 0).toNat = b at *
  generalize (max (-k) 0).toNat = u at *
  generalize (max k 0).toNat = v at *
  simp only [nK_nC] at p1 p2 s1 s2 cm
  have ew3 : IntKind.i64.wrap (k - 1) = k - 1 := w64 (by omega) (by omega)
  refine CallsP.en Go.Proofs.Tryz.func90 rfl fun _ => AW.q ?_
  refine AW.c0 1 hbot ?_
  refine AW.sr fun K hK => ?_
  simp
  refine CallDo.p 1 9 p1 ?_
  simp
  refine CallDo.p 1 9 p2 ?_
  simp [ew]
  apply hK
  refine AW.seqK fun K hK => AW.sr fun K1 hK1 => ?_
  simp [ew2, intsOf, mx1, -List.foldl_cons, -List.foldl_nil]
  refine CallDo.p 1 9 s1 ?_
  simp [intsOf, mx2, -List.foldl_cons, -List.foldl_nil]
  refine CallDo.p 1 9 s2 ?_
  simp [-List.foldl_cons, -List.foldl_nil]
  refine CallDo.p 1 9 cm ?_
  simp
  apply hK1
  by_cases hab : a < b
  · have hc := cmpN_neg.2 hab
    rw [if_pos hab] at hlog
    refine AW.fy (by simp_all) (AW.l1 ew3 (hK _ _ ?_))
    refine AW.q ?_
    exact AW.r0 (FinP.rt rfl 2 (by simp [hlog]))
  · have hc : ¬ cmpN a b < 0 := fun h => hab (cmpN_neg.1 h)
    rw [if_neg hab] at hlog
    refine AW.fn (by simp_all) (AW.skip (hK _ _ (AW.q ?_)))
    exact AW.r0 (FinP.rt rfl 2 (by simp [hlog]))

theorem sgA_ne {x : Rat} (hx : x ≠ 0) : sgA (decide (x.num < 0)) (natO x.num.natAbs) ≠ 0 := by
  have h0 : x.num.natAbs ≠ 0 := by intro e; exact hx (Rat.num_eq_zero.1 (by omega))
  unfold sgA; rw [natO_d, if_neg (dig_ne h0)]; omega
theorem sgA_zero {x : Rat} (hx : x = 0) : sgA (decide (x.num < 0)) (natO x.num.natAbs) = 0 := by subst hx; rfl

theorem rat_Log (G : List (List DV)) (x : Rat) (hx : x ≠ 0) (hs : szR x 10000000) : CallsP Tryz.prog G 182 [ratV x] (.tup [.c (.d (.int .i64 (logR x))), .c (.d (.int .i64 0))]) := by
  have h := rat_log G x hx hs
  have hg := num_Sign_ok G (decide (x.num < 0)) (natO x.num.natAbs) (denO x.den)
  have hne := sgA_ne hx
  refine CallsP.en Go.Proofs.Tryz.func182 rfl fun _ => AW.q ?_
  refine AW.seqK fun K hK => AW.c1 1 hg hne ?_
  refine AW.fn (by rfl) (AW.skip (hK _ _ (AW.c0 1 h ?_)))
  exact AW.r0 (FinP.t2 rfl 9 (by simp) (by simp))

theorem rat_lt {x y : Rat} : x < y ↔ sgI (decide (x.num < 0)) (x.num.natAbs * y.den) < sgI (decide (y.num < 0)) (y.num.natAbs * x.den) := by
  rw [Rat.lt_iff, ← sgI_mul, ← sgI_mul, rat_sg, rat_sg]

theorem cmA_rat (x y : Rat) : cmA (decide (x.num < 0)) (natO x.num.natAbs) (denO x.den) (decide (y.num < 0)) (natO y.num.natAbs) (denO y.den) = cmpR x y := by
  unfold cmpR
  simp only [rat_lt]
  unfold cmA
  simp only [natO_v, denO_v]
  have hx : 0 < x.den := x.den_pos
  have hy : 0 < y.den := y.den_pos
  have sx : sgA (decide (x.num < 0)) (natO x.num.natAbs) = if x.num.natAbs = 0 then 0 else if x.num < 0 then -1 else 1 := by
    unfold sgA; rw [natO_d]; simp only [dig_nil (by decide : 2 ≤ 4294967296), decide_eq_true_eq]
  have sy : sgA (decide (y.num < 0)) (natO y.num.natAbs) = if y.num.natAbs = 0 then 0 else if y.num < 0 then -1 else 1 := by
    unfold sgA; rw [natO_d]; simp only [dig_nil (by decide : 2 ≤ 4294967296), decide_eq_true_eq]
  rw [sx, sy]
  have ha : x.num.natAbs * y.den = 0 ↔ x.num.natAbs = 0 := by rw [Nat.mul_eq_zero]; omega
  have hb : y.num.natAbs * x.den = 0 ↔ y.num.natAbs = 0 := by rw [Nat.mul_eq_zero]; omega
  generalize x.num.natAbs * y.den = a at *
  generalize y.num.natAbs * x.den = b at *
  unfold sgI cmpN
  grind

theorem rat_Cmp (G : List (List DV)) (x y : Rat) (hx : szR x 10000000000) (hy : szR y 10000000000) : CallsP Tryz.prog G 21 [ratV x, ratV y] (.c (.d (.int .i64 (cmpR x y)))) := by
  have h := num_Cmp_ok G (decide (x.num < 0)) (decide (y.num < 0)) (natO x.num.natAbs) (denO x.den) (natO y.num.natAbs) (denO y.den)
    (by rw [natO_len]; have := hx.1; omega) (Nat.le_trans (denO_len _) (by have := hx.2; omega)) (by rw [natO_len]; have := hy.1; omega) (Nat.le_trans (denO_len _) (by have := hy.2; omega))
  rw [cmA_rat] at h
  exact h

/-! ### products, quotients, whole parts and rounding of rational numbers, as the program computes them -/

theorem sgI_xor (a b : Bool) (m n : Nat) : sgI (a != b) (m * n) = sgI a m * sgI b n := by
  unfold sgI; cases a <;> cases b <;> simp [Int.neg_mul, Int.mul_neg]
theorem mul_mk (x y : Rat) : x * y = mkRat (sgI (decide (x.num < 0) != decide (y.num < 0)) (x.num.natAbs * y.num.natAbs)) (x.den * y.den) := by
  rw [Rat.mul_def', sgI_xor, rat_sg, rat_sg]
theorem num_ne {x : Rat} (h : x ≠ 0) : x.num.natAbs ≠ 0 := by intro e; exact h (Rat.num_eq_zero.1 (by omega))
theorem div_mk {x y : Rat} (hy : y ≠ 0) : x / y = mkRat (sgI (decide (x.num < 0) != decide (y.num < 0)) (x.num.natAbs * y.den)) (x.den * y.num.natAbs) := by
  have hn := num_ne hy
  have e : mkRat (sgI (decide (x.num < 0) != decide (y.num < 0)) (x.num.natAbs * y.den)) (x.den * y.num.natAbs) * y = x := by
    conv => lhs; rhs; rw [← Rat.mkRat_self y]
    conv => rhs; rw [← Rat.mkRat_self x]
    rw [Rat.mkRat_mul_mkRat, Rat.mkRat_eq_iff (Nat.ne_of_gt (Nat.mul_pos (Nat.mul_pos x.den_pos (Nat.pos_of_ne_zero hn)) y.den_pos)) x.den_nz, sgI_xor, rat_sg]
    have h1 : sgI (decide (y.num < 0)) y.den * y.num = (y.den : Int) * y.num.natAbs := by
      unfold sgI
      by_cases h : y.num < 0
      · rw [decide_eq_true h, if_pos rfl, show (y.num.natAbs : Int) = -y.num by omega, Int.neg_mul, Int.mul_neg]
      · rw [decide_eq_false h, if_neg (by decide), show (y.num.natAbs : Int) = y.num by omega]
    rw [Int.mul_assoc x.num, h1, Int.natCast_mul, Int.natCast_mul, Int.mul_assoc, Int.mul_comm _ (x.den : Int), Int.mul_comm (y.den : Int), Int.mul_assoc (x.den : Int)]
  rw [← Rat.mul_div_cancel (a := mkRat _ _) hy, e]
theorem szR_mul {x y : Rat} {L : Nat} (hx : szR x L) (hy : szR y L) : szR (x * y) (2 * L) := by
  have e1 := nl_mul x.num.natAbs y.num.natAbs
  have e2 := nl_mul x.den y.den
  obtain ⟨a1, a2⟩ := hx
  obtain ⟨b1, b2⟩ := hy
  rw [mul_mk]
  exact szR_mk _ (Nat.ne_of_gt (Nat.mul_pos x.den_pos y.den_pos)) (by omega) (by omega)
theorem szR_div {x y : Rat} {L : Nat} (hx : szR x L) (hy : szR y L) : szR (x / y) (2 * L + 1) := by
  by_cases h0 : y = 0
  · have : x / y = 0 := by rw [h0, Rat.div_def, Rat.inv_zero, Rat.mul_zero]
    rw [this]
    exact ⟨by show nl 0 ≤ _; exact Nat.zero_le _, by show nl 1 ≤ _; rw [nl_one]; omega⟩
  have e1 := nl_mul x.num.natAbs y.den
  have e2 := nl_mul x.den y.num.natAbs
  obtain ⟨a1, a2⟩ := hx
  obtain ⟨b1, b2⟩ := hy
  rw [div_mk h0]
  exact szR_mk _ (Nat.ne_of_gt (Nat.mul_pos x.den_pos (Nat.pos_of_ne_zero (num_ne h0)))) (by omega) (by omega)
theorem szR_min {x y : Rat} {L : Nat} (hx : szR x L) (hy : szR y L) : szR (minR x y) L := by unfold minR; split <;> assumption
theorem szR_max {x y : Rat} {L : Nat} (hx : szR x L) (hy : szR y L) : szR (maxR x y) L := by unfold maxR; split <;> assumption
theorem szR_abs {x : Rat} {L : Nat} (hx : szR x L) : szR (absR x) L := by
  unfold absR; split
  · exact szR_neg hx
  · exact hx

/-! whole parts -/

def wholeR (x : Rat) (away : Bool) : Rat := ((sgI (decide (x.num < 0)) (x.num.natAbs / x.den + if away = true ∧ x.num.natAbs % x.den ≠ 0 then 1 else 0) : Int) : Rat)
theorem int_le {z : Int} {y : Rat} : (z : Rat) ≤ y ↔ z * y.den ≤ y.num := by rw [Rat.le_iff, Rat.num_intCast, Rat.den_intCast]; simp
theorem le_int {z : Int} {y : Rat} : y ≤ (z : Rat) ↔ y.num ≤ z * y.den := by rw [Rat.le_iff, Rat.num_intCast, Rat.den_intCast]; simp
theorem whole_lo (y : Rat) : wholeR y (decide (y.num < 0)) ≤ y := by
  unfold wholeR
  rw [int_le]
  have h1 := Nat.div_add_mod y.num.natAbs y.den
  have h2 := Nat.mod_lt y.num.natAbs y.den_pos
  generalize y.num.natAbs / y.den = q at *
  generalize y.num.natAbs % y.den = r at *
  have h3 : ((y.den : Int) * q + r : Int) = y.num.natAbs := by exact_mod_cast h1
  by_cases hn : y.num < 0
  · rw [decide_eq_true hn]
    unfold sgI
    rw [if_pos rfl]
    split
    · have : ((q + 1 : Nat) : Int) * y.den = y.den * q + y.den := by rw [Int.natCast_add, Int.add_mul, Int.mul_comm]; simp
      rw [Int.neg_mul, this]; omega
    · rename_i h
      have hr : r = 0 := by simpa using h
      rw [Nat.add_zero, Int.neg_mul, Int.mul_comm]; omega
  · rw [decide_eq_false hn]
    unfold sgI
    rw [if_neg (by decide), if_neg (by simp), Nat.add_zero, Int.mul_comm]; omega
theorem whole_hi (y : Rat) : y ≤ wholeR y (!decide (y.num < 0)) := by
  unfold wholeR
  rw [le_int]
  have h1 := Nat.div_add_mod y.num.natAbs y.den
  have h2 := Nat.mod_lt y.num.natAbs y.den_pos
  generalize y.num.natAbs / y.den = q at *
  generalize y.num.natAbs % y.den = r at *
  have h3 : ((y.den : Int) * q + r : Int) = y.num.natAbs := by exact_mod_cast h1
  by_cases hn : y.num < 0
  · rw [decide_eq_true hn]
    unfold sgI
    rw [if_pos rfl, if_neg (by simp), Nat.add_zero, Int.neg_mul, Int.mul_comm]; omega
  · rw [decide_eq_false hn]
    unfold sgI
    rw [if_neg (by decide)]
    split
    · have : ((q + 1 : Nat) : Int) * y.den = y.den * q + y.den := by rw [Int.natCast_add, Int.add_mul, Int.mul_comm]; simp
      rw [this]; omega
    · rename_i h
      have hr : r = 0 := by simpa using h
      rw [Nat.add_zero, Int.mul_comm]; omega
theorem szR_whole {x : Rat} {L : Nat} (h : szR x L) (away : Bool) : szR (wholeR x away) (L + 1) := by
  unfold wholeR
  refine szR_int _ _ ?_ (by omega)
  rw [sgI_abs]
  have h1 := h.1
  refine Nat.le_trans (nl_mono (n := x.num.natAbs + 1) ?_) ?_
  · have := Nat.div_le_self x.num.natAbs x.den
    split <;> omega
  · have := nl_add x.num.natAbs 1
    have h2 := nl_one
    have h3 : 1 ≤ L := Nat.le_trans (nl_pos x.den_nz) h.2
    omega

/-! powers of two -/

theorem shift_pow (x : Rat) (k : Int) : shiftR x k = x * 2 ^ k := by
  unfold shiftR
  split
  · rename_i h
    have e : k = -((-k).toNat : Int) := by omega
    conv => rhs; rw [e, ← Rat.mkRat_self x, Rat.zpow_neg, Rat.zpow_natCast]
    have h1 : ((2 : Rat) ^ (-k).toNat)⁻¹ = mkRat 1 (2 ^ (-k).toNat) := by
      rw [Rat.mkRat_eq_div, Rat.div_def, Rat.natCast_pow]
      show _ = (1 : Rat) * _
      rw [Rat.one_mul]; rfl
    rw [h1, Rat.mkRat_mul_mkRat, Int.mul_one]
  · rename_i h
    have e : k = (k.toNat : Int) := by omega
    conv => rhs; rw [e, ← Rat.mkRat_self x, Rat.zpow_natCast]
    have h1 : (2 : Rat) ^ k.toNat = mkRat (2 ^ k.toNat) 1 := by
      rw [Rat.mkRat_one, Rat.intCast_pow]; rfl
    rw [h1, Rat.mkRat_mul_mkRat, Nat.mul_one]
theorem two_pos (k : Int) : (0 : Rat) < 2 ^ k := Rat.zpow_pos (by decide)
theorem shift_neg (x : Rat) (k : Int) : ((shiftR x k).num < 0) ↔ x.num < 0 := by
  have h1 : ∀ y : Rat, y.num < 0 ↔ y < 0 := fun y => by
    rw [← Rat.not_le, ← Rat.num_nonneg]; omega
  rw [h1, h1, shift_pow]
  exact Rat.mul_neg_iff_of_pos_right (two_pos k)
theorem shift_back (x : Rat) (k : Int) : shiftR x (-k) * 2 ^ k = x := by
  rw [shift_pow, Rat.mul_assoc, ← Rat.zpow_add (by decide), Int.add_left_neg, Rat.zpow_zero, Rat.mul_one]

def rngI (bits : Int) : Int := min (max bits 1) 4000
/-- Rounded to so many bits, away from 0 or towards it. -/
def gridR (x : Rat) (bits : Int) (away : Bool) : Rat := if x = 0 then x else shiftR (wholeR (shiftR x (-(logR x - rngI bits + 1))) away) (logR x - rngI bits + 1)
def downR (x : Rat) (bits : Int) : Rat := gridR x bits (decide (x.num < 0))
def upR (x : Rat) (bits : Int) : Rat := gridR x bits (!decide (x.num < 0))
theorem down_le (x : Rat) (bits : Int) : downR x bits ≤ x := by
  unfold downR gridR
  split
  · exact Rat.le_refl
  generalize logR x - rngI bits + 1 = k
  have h := whole_lo (shiftR x (-k))
  rw [show decide ((shiftR x (-k)).num < 0) = decide (x.num < 0) from decide_eq_decide.2 (shift_neg x (-k))] at h
  have := Rat.mul_le_mul_of_nonneg_right h (Rat.le_of_lt (two_pos k))
  rwa [shift_back, ← shift_pow] at this
theorem le_up (x : Rat) (bits : Int) : x ≤ upR x bits := by
  unfold upR gridR
  split
  · exact Rat.le_refl
  generalize logR x - rngI bits + 1 = k
  have h := whole_hi (shiftR x (-k))
  rw [show decide ((shiftR x (-k)).num < 0) = decide (x.num < 0) from decide_eq_decide.2 (shift_neg x (-k))] at h
  have := Rat.mul_le_mul_of_nonneg_right h (Rat.le_of_lt (two_pos k))
  rwa [shift_back, ← shift_pow] at this

theorem FinC.num {c : Ctx} {fn : Func} {t k : Nat} {s : LSt} {κ : Nat} {r : Rat} (hr : c.P = Tryz.prog ∧ fn.results = #[.cell t 30]) (ht : s.fr t = .c (.ptr k 0))
    (hk : s.lv k = .cells true false 30 [.d (.bool (decide (r.num < 0))), nC (natO r.num.natAbs), nC (denO r.den)]) : FinC c fn (ratV r) .ret s κ :=
  FinC.cell hr.2 ht hk (by rw [hr.1, List.drop_zero, loadNum])
theorem FinC.num2 {c : Ctx} {fn : Func} {t k u : Nat} {s : LSt} {κ : Nat} {r : Rat} {y : CV} (hr : c.P = Tryz.prog ∧ fn.results = #[.cell t 30, .tmp u]) (ht : s.fr t = .c (.ptr k 0))
    (hk : s.lv k = .cells true false 30 [.d (.bool (decide (r.num < 0))), nC (natO r.num.natAbs), nC (denO r.den)]) (hy : s.fr u = .c y) : FinC c fn (.tup [ratV r, .c y]) .ret s κ :=
  FinC.cell2 hr.2 ht hk (by rw [hr.1, List.drop_zero, loadNum]) hy rfl rfl

theorem neqBool (a b : Bool) : stepBin Tryz.prog .neq 4 (.c (.d (.bool a))) (.c (.d (.bool b))) = some (.c (.d (.bool (a != b))), [], [], True) := by
  cases a <;> cases b <;> kernel_rfl

theorem rat_Mul (G : List (List DV)) (x y : Rat) (hx : szR x 10000000000) (hy : szR y 10000000000) : CallsP Tryz.prog G 13 [ratV x, ratV y] (ratV (x * y)) := by
  have hbx := num_bottom_ok G (decide (x.num < 0)) (natO x.num.natAbs) (denO x.den)
  have hby := num_bottom_ok G (decide (y.num < 0)) (natO y.num.natAbs) (denO y.den)
  have m1 := exact_mul_ok G (natO x.num.natAbs) (natO y.num.natAbs) (by rw [natO_len]; have := hx.1; omega) (by rw [natO_len]; have := hy.1; omega)
  have m2 := exact_mul_ok G (some (dig 4294967296 x.den)) (some (dig 4294967296 y.den)) (by show nl _ ≤ _; have := hx.2; omega) (by show nl _ ≤ _; have := hy.2; omega)
  rw [denO_b] at hbx hby
  simp only [natO_v, dO_some, val_dig, nK_nC] at m1 m2
  have e1 := nl_mul x.num.natAbs y.num.natAbs
  have e2 := nl_mul x.den y.den
  have mk := rat_made' G (decide (x.num < 0) != decide (y.num < 0)) (x.num.natAbs * y.num.natAbs) (x.den * y.den) (Nat.ne_of_gt (Nat.mul_pos x.den_pos y.den_pos)) (by have := hx.1; have := hy.1; omega) (by have := hx.2; have := hy.2; omega)
  rw [← mul_mk] at mk
  generalize x * y = r at *
  refine CallsP.enc Go.Proofs.Tryz.func13 rfl (fun lv => nC_dArg lv _ _ _) fun _ => AW.q ?_
  refine AW.seqK fun K hK => ?_
  refine AW.drawP mixed (by kernel_rfl) rfl ?_
  simp [neqBool]
  refine CallDo.p 3 9 m1 ?_
  simp [neqBool]
  refine CallDo.p 3 9 hbx ?_
  simp [neqBool]
  refine CallDo.p 3 9 hby ?_
  simp [neqBool]
  refine CallDo.p 3 9 m2 ?_
  simp [neqBool]
  refine CallDo.p 3 9 mk ?_
  simp
  refine ⟨by kernel_rfl, ?_⟩
  repeat refine and_o ?_
  apply hK
  exact AW.ret (FinC.num (κ := 0) (t := 4) (k := 2) ⟨rfl, rfl⟩ (by simp) (by simp [setSeg]))

theorem rat_Quo (G : List (List DV)) (x y : Rat) (hx : szR x 10000000000) (hy : szR y 10000000000) : CallsP Tryz.prog G 26 [ratV x, ratV y] (.tup [ratV (x / y), .c (.d (.int .i64 (if y = 0 then 8 else 0)))]) := by
  have hg := num_Sign_ok G (decide (y.num < 0)) (natO y.num.natAbs) (denO y.den)
  by_cases h0 : y = 0
  · have e : x / y = 0 := by rw [h0, Rat.div_def, Rat.inv_zero, Rat.mul_zero]
    rw [sgA_zero h0] at hg
    rw [e, if_pos h0]
    have bz : buildA Tryz.prog 30 [] [] = some (ratV 0, [], [], True) := bNum0
    generalize (0 : Rat) = z at *
    refine CallsP.enc Go.Proofs.Tryz.func26 rfl (fun lv => dRes_num lv _ _ _ _) fun _ => AW.q ?_
    refine AW.seqK fun K hK => AW.seqK fun K1 hK1 => AW.rP ?_
    simp
    refine CallDo.p 3 9 hg ?_
    simp
    repeat refine and_o ?_
    apply hK1
    refine AW.cy (AW.seqK fun K1 hK1 => AW.rP ?_)
    simp [bz]
    repeat refine and_o ?_
    apply hK1
    exact AW.ret (FinC.num2 (κ := 0) (t := 4) (k := 2) (u := 5) ⟨rfl, rfl⟩ (by simp) (by simp [setSeg]) (by simp))
  have hne := sgA_ne h0
  have hbx := num_bottom_ok G (decide (x.num < 0)) (natO x.num.natAbs) (denO x.den)
  have hby := num_bottom_ok G (decide (y.num < 0)) (natO y.num.natAbs) (denO y.den)
  have m1 := exact_mul_ok G (natO x.num.natAbs) (some (dig 4294967296 y.den)) (by rw [natO_len]; have := hx.1; omega) (by show nl _ ≤ _; have := hy.2; omega)
  have m2 := exact_mul_ok G (some (dig 4294967296 x.den)) (natO y.num.natAbs) (by show nl _ ≤ _; have := hx.2; omega) (by rw [natO_len]; have := hy.1; omega)
  rw [denO_b] at hbx hby
  simp only [natO_v, dO_some, val_dig, nK_nC] at m1 m2
  have e1 := nl_mul x.num.natAbs y.den
  have e2 := nl_mul x.den y.num.natAbs
  have mk := rat_made' G (decide (x.num < 0) != decide (y.num < 0)) (x.num.natAbs * y.den) (x.den * y.num.natAbs) (Nat.ne_of_gt (Nat.mul_pos x.den_pos (Nat.pos_of_ne_zero (num_ne h0)))) (by have := hx.1; have := hy.2; omega) (by have := hx.2; have := hy.1; omega)
  rw [← div_mk h0] at mk
  rw [if_neg h0]
  generalize x / y = r at *
  refine CallsP.enc Go.Proofs.Tryz.func26 rfl (fun lv => dRes_num lv _ _ _ _) fun _ => AW.q ?_
  refine AW.seqK fun K hK => AW.c1 3 hg hne ?_
  refine AW.fn (by simp [hne] <;> omega) (AW.skip (hK _ _ (AW.seqK fun K hK => ?_)))
  refine AW.drawP mixed (by kernel_rfl) rfl ?_
  simp [neqBool]
  refine CallDo.p 3 9 hby ?_
  simp [neqBool]
  refine CallDo.p 3 9 m1 ?_
  simp [neqBool]
  refine CallDo.p 3 9 hbx ?_
  simp [neqBool]
  refine CallDo.p 3 9 m2 ?_
  simp [neqBool]
  refine CallDo.p 3 9 mk ?_
  simp
  refine ⟨by kernel_rfl, ?_⟩
  repeat refine and_o ?_
  apply hK
  exact AW.ret (FinC.num2 (κ := 0) (t := 4) (k := 2) (u := 5) ⟨rfl, rfl⟩ (by simp) (by simp [setSeg]) (by simp))

theorem rat_Abs (G : List (List DV)) (x : Rat) : CallsP Tryz.prog G 15 [ratV x] (ratV (absR x)) := by
  have h := num_Abs_ok G (decide (x.num < 0)) (natO x.num.natAbs) (denO x.den)
  have h1 : x.num < 0 ↔ x < 0 := by
    rw [← Rat.not_le, ← Rat.num_nonneg]; omega
  have e : nmA false (natO x.num.natAbs) (denO x.den) = ratV (absR x) := by
    unfold absR
    split
    · rename_i hn
      have := h1.2 hn
      show nmA _ _ _ = nmA (decide ((-x).num < 0)) (natO (-x).num.natAbs) (denO (-x).den)
      rw [Rat.neg_num, Int.natAbs_neg, Rat.neg_den, decide_eq_false (by omega)]
    · rename_i hn
      have : ¬ x.num < 0 := fun h => hn (h1.1 h)
      show nmA _ _ _ = nmA (decide (x.num < 0)) _ _
      rw [decide_eq_false this]
  rw [← e]
  exact h

theorem cmpR_neg {x y : Rat} : cmpR x y < 0 ↔ x < y := by unfold cmpR; (repeat' split) <;> simp_all
theorem cmpR_pos {x y : Rat} : 0 < cmpR x y ↔ y < x := by
  unfold cmpR
  split
  · rename_i h; simp; exact fun h' => by grind
  · split <;> simp_all
theorem cmpR_zero {x y : Rat} : cmpR x y = 0 ↔ x = y := by
  unfold cmpR
  split
  · rename_i h; simp; grind
  · split
    · rename_i h; simp; grind
    · simp; grind

theorem rat_Max (G : List (List DV)) (x y : Rat) (hx : szR x 10000000000) (hy : szR y 10000000000) : CallsP Tryz.prog G 29 [ratV x, ratV y] (ratV (maxR x y)) := by
  have hc := rat_Cmp G x y hx hy
  by_cases h : x < y
  · have h' := cmpR_neg.2 h
    unfold maxR; rw [if_pos h]
    generalize cmpR x y = n at *
    refine CallsP.enc Go.Proofs.Tryz.func29 rfl (fun lv => nC_dArg lv _ _ _) fun _ => AW.q ?_
    refine AW.seqK fun K hK => AW.c1 3 hc h' ?_
    refine AW.fy (by simp [h'] <;> omega) (AW.q ?_)
    exact AW.ret (FinC.num (κ := 0) (t := 4) (k := 2) ⟨rfl, rfl⟩ (by simp) (by simp [setSeg]))
  · have h' : ¬ cmpR x y < 0 := fun e => h (cmpR_neg.1 e)
    unfold maxR; rw [if_neg h]
    generalize cmpR x y = n at *
    refine CallsP.enc Go.Proofs.Tryz.func29 rfl (fun lv => nC_dArg lv _ _ _) fun _ => AW.q ?_
    refine AW.seqK fun K hK => AW.c1 3 hc h' ?_
    refine AW.fn (by simp [h'] <;> omega) (AW.skip (hK _ _ (AW.q ?_)))
    exact AW.ret (FinC.num (κ := 0) (t := 4) (k := 2) ⟨rfl, rfl⟩ (by simp) (by simp [setSeg]))

theorem rat_Min (G : List (List DV)) (x y : Rat) (hx : szR x 10000000000) (hy : szR y 10000000000) : CallsP Tryz.prog G 31 [ratV x, ratV y] (ratV (minR x y)) := by
  have hc := rat_Cmp G x y hx hy
  by_cases h : x < y
  · have h' := cmpR_neg.2 h
    unfold minR; rw [if_pos h]
    generalize cmpR x y = n at *
    refine CallsP.enc Go.Proofs.Tryz.func31 rfl (fun lv => nC_dArg lv _ _ _) fun _ => AW.q ?_
    refine AW.seqK fun K hK => AW.c1 3 hc h' ?_
    refine AW.fy (by simp [h'] <;> omega) (AW.q ?_)
    exact AW.ret (FinC.num (κ := 0) (t := 4) (k := 2) ⟨rfl, rfl⟩ (by simp) (by simp [setSeg]))
  · have h' : ¬ cmpR x y < 0 := fun e => h (cmpR_neg.1 e)
    unfold minR; rw [if_neg h]
    generalize cmpR x y = n at *
    refine CallsP.enc Go.Proofs.Tryz.func31 rfl (fun lv => nC_dArg lv _ _ _) fun _ => AW.q ?_
    refine AW.seqK fun K hK => AW.c1 3 hc h' ?_
    refine AW.fn (by simp [h'] <;> omega) (AW.skip (hK _ _ (AW.q ?_)))
    exact AW.ret (FinC.num (κ := 0) (t := 4) (k := 2) ⟨rfl, rfl⟩ (by simp) (by simp [setSeg]))

/-- What is cut off. -/
theorem whole_q (x : Rat) : dO (divQ (natO x.num.natAbs) (some (dig 4294967296 x.den))) = (dig 4294967296 (x.num.natAbs / x.den)) := by rw [divQ_d, natO_v, dO_some, val_dig]

theorem rat_whole (G : List (List DV)) (x : Rat) (away : Bool) (hx : szR x 10000000000) : CallsP Tryz.prog G 93 [ratV x, .c (.d (.bool away))] (ratV (wholeR x away)) := by
  have hb := num_bottom_ok G (decide (x.num < 0)) (natO x.num.natAbs) (denO x.den)
  rw [denO_b] at hb
  have hd := exact_div_ok G (natO x.num.natAbs) (some (dig 4294967296 x.den)) (natO_can _) (can_dig _) (dig_ne x.den_nz) (by rw [natO_len]; have := hx.1; omega)
  have hq := whole_q x
  have hr : dO (divR (natO x.num.natAbs) (some (dig 4294967296 x.den))) = (dig 4294967296 (x.num.natAbs % x.den)) := by rw [divR_d (natO_can _), natO_v, dO_some, val_dig]
  have ho := exact_of_ok G 1 (by decide)
  have hl : nl (x.num.natAbs / x.den) ≤ 10000000000 := Nat.le_trans (nl_mono (Nat.div_le_self _ _)) hx.1
  generalize divQ (natO x.num.natAbs) (some (dig 4294967296 x.den)) = q at *
  generalize divR (natO x.num.natAbs) (some (dig 4294967296 x.den)) = r at *
  have hrl : 0 < (dO r).length ↔ x.num.natAbs % x.den ≠ 0 := by
    rw [hr, List.length_pos_iff, Ne, dig_nil (by decide)]
  have hqc : can 4294967296 (dO q) := by rw [hq]; exact can_dig _
  have hqv : (val 4294967296 (dO q)) = x.num.natAbs / x.den := by rw [hq, val_dig]
  have hadd := exact_add_ok G q (some (dig 4294967296 1)) (by rw [hq]; show nl _ ≤ _; omega) (by show nl 1 ≤ _; rw [nl_one]; decide)
  rw [hqv, dO_some, val_dig] at hadd
  have m1 := rat_made G (decide (x.num < 0)) q (some (dig 4294967296 1)) hqc (can_dig _) (dig_ne (by decide)) (by rw [hq]; show nl _ < _; omega) (by show nl 1 < _; rw [nl_one]; decide)
  have hl2 := nl_add (x.num.natAbs / x.den) 1
  rw [nl_one] at hl2
  have m2 := rat_made' G (decide (x.num < 0)) (x.num.natAbs / x.den + 1) 1 (by decide) (by omega) (by rw [nl_one]; decide)
  rw [hqv, dO_some, val_dig, mkRat_int] at m1
  rw [mkRat_int] at m2
  simp only [nK_nC] at ho hadd hd
  have hdt := tup2_pure q r
  simp only [nK_nC] at hdt
  by_cases ha : away = true ∧ x.num.natAbs % x.den ≠ 0
  · have e : wholeR x away = ((sgI (decide (x.num < 0)) (x.num.natAbs / x.den + 1) : Int) : Rat) := by unfold wholeR; rw [if_pos ha]
    rw [e]
    obtain ⟨rfl, ha2⟩ := ha
    have hr1 := hrl.2 ha2
    generalize ((sgI (decide (x.num < 0)) (x.num.natAbs / x.den + 1) : Int) : Rat) = w at *
    refine CallsP.enc Go.Proofs.Tryz.func93 rfl (fun lv => nC_dArg lv _ _ _) fun _ => AW.q ?_
    refine AW.seqK fun K hK => ?_
    refine AW.drawP mixed (by kernel_rfl) rfl ?_
    simp
    refine CallDo.p 2 9 hb ?_
    simp
    refine CallDo.pure 2 9 hd hdt (by simp) (by simp) ?_
    simp
    refine ⟨by kernel_rfl, ?_⟩
    repeat refine and_o ?_
    apply hK
    refine AW.seqK fun K hK => AW.f2 @lpC hr1 ?_
    refine AW.fy (by simp [hr1] <;> omega) (AW.rP ?_)
    simp
    refine CallDo.p 2 9 ho ?_
    simp
    refine CallDo.p 2 9 hadd ?_
    simp
    repeat refine and_o ?_
    apply hK
    refine AW.seqK fun K hK => ?_
    refine AW.drawP mixed (by kernel_rfl) rfl ?_
    simp
    refine CallDo.p 2 9 ho ?_
    simp
    refine CallDo.p 2 9 m2 ?_
    simp
    refine ⟨by kernel_rfl, ?_⟩
    repeat refine and_o ?_
    apply hK
    exact AW.ret (FinC.num (κ := 0) (t := 4) (k := 1) ⟨rfl, rfl⟩ (by simp) (by simp [setSeg]))
  · have e : wholeR x away = ((sgI (decide (x.num < 0)) (x.num.natAbs / x.den) : Int) : Rat) := by unfold wholeR; rw [if_neg ha, Nat.add_zero]
    rw [e]
    have ha' : ¬ (away = true ∧ 0 < (dO r).length) := fun h => ha ⟨h.1, hrl.1 h.2⟩
    generalize ((sgI (decide (x.num < 0)) (x.num.natAbs / x.den) : Int) : Rat) = w at *
    refine CallsP.enc Go.Proofs.Tryz.func93 rfl (fun lv => nC_dArg lv _ _ _) fun _ => AW.q ?_
    refine AW.seqK fun K hK => ?_
    refine AW.drawP mixed (by kernel_rfl) rfl ?_
    simp
    refine CallDo.p 2 9 hb ?_
    simp
    refine CallDo.pure 2 9 hd hdt (by simp) (by simp) ?_
    simp
    refine ⟨by kernel_rfl, ?_⟩
    repeat refine and_o ?_
    apply hK
    cases away with
    | false =>
      refine AW.seqK fun K hK => AW.q ?_
      refine AW.cn (AW.skip (hK _ _ (AW.seqK fun K hK => ?_)))
      refine AW.drawP mixed (by kernel_rfl) rfl ?_
      simp
      refine CallDo.p 2 9 ho ?_
      simp
      refine CallDo.p 2 9 m1 ?_
      simp
      refine ⟨by kernel_rfl, ?_⟩
      repeat refine and_o ?_
      apply hK
      exact AW.ret (FinC.num (κ := 0) (t := 4) (k := 1) ⟨rfl, rfl⟩ (by simp) (by simp [setSeg]))
    | true =>
      have hr1 : ¬ 0 < (dO r).length := fun h => ha' ⟨rfl, h⟩
      refine AW.seqK fun K hK => AW.f2 @lpC hr1 ?_
      refine AW.fn (by simp [hr1] <;> omega) (AW.skip (hK _ _ (AW.seqK fun K hK => ?_)))
      refine AW.drawP mixed (by kernel_rfl) rfl ?_
      simp
      refine CallDo.p 2 9 ho ?_
      simp
      refine CallDo.p 2 9 m1 ?_
      simp
      refine ⟨by kernel_rfl, ?_⟩
      repeat refine and_o ?_
      apply hK
      exact AW.ret (FinC.num (κ := 0) (t := 4) (k := 1) ⟨rfl, rfl⟩ (by simp) (by simp [setSeg]))

theorem rngI_r (b : Int) : 1 ≤ rngI b ∧ rngI b ≤ 4000 := by unfold rngI; omega
theorem inRange_ok (G : List (List DV)) (b : Int) : CallsP Tryz.prog G 91 [.c (.d (.int .i64 b))] (.c (.d (.int .i64 (rngI b)))) := by
  have e1 : (List.foldl (fun a b : Int => if a < b then b else a) b [1]) = max b 1 := by simp only [List.foldl]; split <;> omega
  have e2 : (List.foldl (fun a b : Int => if b < a then b else a) (max b 1) [4000]) = rngI b := by unfold rngI; simp only [List.foldl]; split <;> omega
  refine CallsP.en Go.Proofs.Tryz.func91 rfl fun _ => AW.q ?_
  refine AW.sr fun K hK => ?_
  simp [intsOf, e1, e2, -List.foldl_cons, -List.foldl_nil]
  repeat refine and_o ?_
  apply hK
  exact AW.r0 (FinP.rt rfl 2 (by simp))

theorem rat_grid (G : List (List DV)) (x : Rat) (bits : Int) (away : Bool) (hx : szR x 10000) : CallsP Tryz.prog G 67 [ratV x, .c (.d (.int .i64 bits)), .c (.d (.bool away))] (ratV (gridR x bits away)) := by
  have hg := num_Sign_ok G (decide (x.num < 0)) (natO x.num.natAbs) (denO x.den)
  by_cases h0 : x = 0
  · have e : gridR x bits away = x := if_pos h0
    rw [sgA_zero h0] at hg
    rw [e]
    refine CallsP.enc Go.Proofs.Tryz.func67 rfl (fun lv => nC_dArg lv _ _ _) fun _ => AW.q ?_
    refine AW.seqK fun K hK => AW.c0 2 hg ?_
    refine AW.cy (AW.q ?_)
    exact AW.ret (FinC.num (κ := 0) (t := 6) (k := 1) ⟨rfl, rfl⟩ (by simp) (by simp [setSeg]))
  have hne := sgA_ne h0
  have hl := rat_log G x h0 (szR_mono hx (by omega))
  have hlr := logR_rng h0 hx
  have hi := inRange_ok G bits
  obtain ⟨b1, b2⟩ := rngI_r bits
  have e : gridR x bits away = shiftR (wholeR (shiftR x (-(logR x - rngI bits + 1))) away) (logR x - rngI bits + 1) := if_neg h0
  rw [e]
  generalize logR x = l at *
  generalize rngI bits = b at *
  have w1 : IntKind.i64.wrap (l - b) = l - b := w64 (by omega) (by omega)
  obtain ⟨k, hk, k1, k2⟩ : ∃ k, l - b + 1 = k ∧ -325000 ≤ k ∧ k ≤ 325000 := ⟨_, rfl, by omega, by omega⟩
  rw [hk]
  have w2 : IntKind.i64.wrap k = k := w64 (by omega) (by omega)
  have w3 : IntKind.i64.wrap (-k) = -k := w64 (by omega) (by omega)
  have z1 := szR_shift hx (-k)
  have z2 := szR_whole z1 away
  have s1 := rat_shifted G x (-k) (szR_mono hx (by omega)) (by omega) (by omega)
  have s2 := rat_whole G (shiftR x (-k)) away (szR_mono z1 (by omega))
  have s3 := rat_shifted G (wholeR (shiftR x (-k)) away) k (szR_mono z2 (by omega)) (by omega) (by omega)
  generalize shiftR (wholeR (shiftR x (-k)) away) k = r at *
  generalize wholeR (shiftR x (-k)) away = u at *
  generalize shiftR x (-k) = v at *
  refine CallsP.enc Go.Proofs.Tryz.func67 rfl (fun lv => nC_dArg lv _ _ _) fun _ => AW.q ?_
  refine AW.seqK fun K hK => AW.c1 2 hg hne ?_
  refine AW.fn (by simp [hne] <;> omega) (AW.skip (hK _ _ (AW.seqK fun K hK => AW.rP ?_)))
  simp
  refine CallDo.p 2 9 hl ?_
  simp
  refine CallDo.p 2 9 hi ?_
  simp [w1, hk, w2]
  repeat refine and_o ?_
  apply hK
  refine AW.seqK fun K hK => AW.rP ?_
  simp [w3]
  refine CallDo.p 2 9 s1 ?_
  simp [w3]
  refine CallDo.p 2 9 s2 ?_
  simp
  refine CallDo.p 2 9 s3 ?_
  simp
  repeat refine and_o ?_
  apply hK
  exact AW.ret (FinC.num (κ := 0) (t := 6) (k := 1) ⟨rfl, rfl⟩ (by simp) (by simp [setSeg]))

theorem rat_Down (G : List (List DV)) (x : Rat) (bits : Int) (hx : szR x 10000) : CallsP Tryz.prog G 47 [ratV x, .c (.d (.int .i64 bits))] (ratV (downR x bits)) := by
  have h : CallsP Tryz.prog G 67 [ratV x, .c (.d (.int .i64 bits)), .c (.d (.bool (decide (x.num < 0))))] (ratV (downR x bits)) := rat_grid G x bits (decide (x.num < 0)) hx
  generalize downR x bits = r at *
  refine CallsP.enc Go.Proofs.Tryz.func47 rfl (fun lv => nC_dArg lv _ _ _) fun _ => AW.q ?_
  refine AW.c0 2 h ?_
  exact AW.ret (FinC.num (κ := 0) (t := 4) (k := 1) ⟨rfl, rfl⟩ (by simp) (by simp [setSeg]))

theorem rat_Up (G : List (List DV)) (x : Rat) (bits : Int) (hx : szR x 10000) : CallsP Tryz.prog G 48 [ratV x, .c (.d (.int .i64 bits))] (ratV (upR x bits)) := by
  have h : CallsP Tryz.prog G 67 [ratV x, .c (.d (.int .i64 bits)), .c (.d (.bool (!decide (x.num < 0))))] (ratV (upR x bits)) := rat_grid G x bits (!decide (x.num < 0)) hx
  generalize upR x bits = r at *
  refine CallsP.enc Go.Proofs.Tryz.func48 rfl (fun lv => nC_dArg lv _ _ _) fun _ => AW.seqK fun K hK => AW.rP ?_
  simp
  repeat refine and_o ?_
  apply hK
  refine AW.seqK fun K hK => AW.rP ?_
  simp
  refine CallDo.p 2 9 h ?_
  simp
  repeat refine and_o ?_
  apply hK
  exact AW.ret (FinC.num (κ := 0) (t := 4) (k := 1) ⟨rfl, rfl⟩ (by simp) (by simp [setSeg]))

/-! ### intervals, as the program holds them -/

abbrev ivC (b p q b' p' q' : CV) : AV := .agg [b, p, q, b', p', q']
abbrev ivV (a : Iv) : AV := .agg [.d (.bool (decide (a.1.num < 0))), nC (natO a.1.num.natAbs), nC (denO a.1.den), .d (.bool (decide (a.2.num < 0))), nC (natO a.2.num.natAbs), nC (denO a.2.den)]
theorem bIv (b p q b' p' q' : CV) : buildA Tryz.prog 32 [0, 1] [.agg [b, p, q], .agg [b', p', q']] = some (.agg [b, p, q, b', p', q'], [], [], True) := by kernel_rfl
theorem bIv0 : buildA Tryz.prog 32 [] [] = some (ivV (0, 0), [], [], True) := by kernel_rfl
theorem loadIv (b p q b' p' q' : CV) : loadA Tryz.prog 32 [b, p, q, b', p', q'] = some (.agg [b, p, q, b', p', q']) := by kernel_rfl
theorem nC_nD (o : Option (List Nat)) : nC o = .d (nD o) := by cases o <;> rfl
@[simp] theorem nC_ren (g : Key → Key) (o : Option (List Nat)) : (nC o).ren g = nC o := by cases o <;> rfl
theorem dv6 (lv : Key → LB) (a b c d e f : DV) : dArg lv (.agg [.d a, .d b, .d c, .d d, .d e, .d f]) = some (.agg [.d a, .d b, .d c, .d d, .d e, .d f], []) := rfl
@[simp] theorem iv_dArg (lv : Key → LB) (b b' : Bool) (p q p' q' : Option (List Nat)) : dRes lv (.agg [.d (.bool b), nC p, nC q, .d (.bool b'), nC p', nC q']) = some (.agg [.d (.bool b), nC p, nC q, .d (.bool b'), nC p', nC q'], []) := by
  simp only [nC_nD]; rfl
@[simp] theorem iv_dArg2 (lv : Key → LB) (b b' : Bool) (p q p' q' : Option (List Nat)) (n : DV) (hn : n.isScal = true) : dRes lv (.tup [.agg [.d (.bool b), nC p, nC q, .d (.bool b'), nC p', nC q'], .c (.d n)]) = some (.tup [.agg [.d (.bool b), nC p, nC q, .d (.bool b'), nC p', nC q'], .c (.d n)], []) := by
  simp only [nC_nD]; rfl
@[simp] theorem iv_pure (b b' : Bool) (p q p' q' : Option (List Nat)) : (AV.agg [.d (.bool b), nC p, nC q, .d (.bool b'), nC p', nC q']).pure = true := by
  simp only [nC_nD]; rfl
@[simp] theorem iv_pure2 (b b' : Bool) (p q p' q' : Option (List Nat)) (n : DV) : (AV.tup [.agg [.d (.bool b), nC p, nC q, .d (.bool b'), nC p', nC q'], .c (.d n)]).pure = true := by
  simp only [nC_nD]; rfl
theorem FinC.iv {c : Ctx} {fn : Func} {t k : Nat} {s : LSt} {κ : Nat} {a : Iv} (hr : c.P = Tryz.prog ∧ fn.results = #[.cell t 32]) (ht : s.fr t = .c (.ptr k 0))
    (hk : s.lv k = .cells true false 32 [.d (.bool (decide (a.1.num < 0))), nC (natO a.1.num.natAbs), nC (denO a.1.den), .d (.bool (decide (a.2.num < 0))), nC (natO a.2.num.natAbs), nC (denO a.2.den)]) : FinC c fn (ivV a) .ret s κ :=
  FinC.cell hr.2 ht hk (by rw [hr.1, List.drop_zero, loadIv])
theorem FinC.iv2 {c : Ctx} {fn : Func} {t k u : Nat} {s : LSt} {κ : Nat} {a : Iv} {y : CV} (hr : c.P = Tryz.prog ∧ fn.results = #[.cell t 32, .tmp u]) (ht : s.fr t = .c (.ptr k 0))
    (hk : s.lv k = .cells true false 32 [.d (.bool (decide (a.1.num < 0))), nC (natO a.1.num.natAbs), nC (denO a.1.den), .d (.bool (decide (a.2.num < 0))), nC (natO a.2.num.natAbs), nC (denO a.2.den)]) (hy : s.fr u = .c y) : FinC c fn (.tup [ivV a, .c y]) .ret s κ :=
  FinC.cell2 hr.2 ht hk (by rw [hr.1, List.drop_zero, loadIv]) hy rfl rfl

def Iv.sz (a : Iv) (L : Nat) : Prop := szR a.1 L ∧ szR a.2 L
theorem Iv.sz_mono {a : Iv} {L M : Nat} (h : a.sz L) (hm : L ≤ M) : a.sz M := ⟨szR_mono h.1 hm, szR_mono h.2 hm⟩
theorem cmpR_le {x y : Rat} : cmpR x y ≤ 0 ↔ x ≤ y := by
  rw [← Rat.not_lt, ← cmpR_pos]; omega
theorem cmpR_ge {x y : Rat} : 0 ≤ cmpR x y ↔ y ≤ x := by
  rw [← Rat.not_lt, ← cmpR_neg]; omega

theorem iv_Lo (G : List (List DV)) (a : Iv) : CallsP Tryz.prog G 30 [ivV a] (ratV a.1) := by
  obtain ⟨a1, a2⟩ := a
  refine CallsP.enc Go.Proofs.Tryz.func30 rfl (fun lv => nC_dArg lv _ _ _) fun _ => AW.q ?_
  refine AW.q ?_
  exact AW.ret (FinC.num (κ := 0) (t := 2) (k := 1) ⟨rfl, rfl⟩ (by simp) (by simp [setSeg]))
theorem iv_Hi (G : List (List DV)) (a : Iv) : CallsP Tryz.prog G 32 [ivV a] (ratV a.2) := by
  obtain ⟨a1, a2⟩ := a
  refine CallsP.enc Go.Proofs.Tryz.func32 rfl (fun lv => nC_dArg lv _ _ _) fun _ => AW.q ?_
  refine AW.q ?_
  exact AW.ret (FinC.num (κ := 0) (t := 2) (k := 1) ⟨rfl, rfl⟩ (by simp) (by simp [setSeg]))

theorem iv_Has (G : List (List DV)) (a : Iv) (x : Rat) (ha : a.sz 10000000000) (hx : szR x 10000000000) : CallsP Tryz.prog G 6 [ivV a, ratV x] (.c (.d (.bool (decide (a.has x))))) := by
  obtain ⟨a1, a2⟩ := a
  have c1 := rat_Cmp G a1 x ha.1 hx
  have c2 := rat_Cmp G a2 x ha.2 hx
  have e1 : cmpR a1 x ≤ 0 ↔ a1 ≤ x := cmpR_le
  have e2 : 0 ≤ cmpR a2 x ↔ x ≤ a2 := cmpR_ge
  by_cases g1 : a1 ≤ x
  · have d1 := e1.2 g1
    by_cases g2 : x ≤ a2
    · have d2 := e2.2 g2
      rw [show decide (Iv.has (a1, a2) x) = true from decide_eq_true ⟨g1, g2⟩]
      generalize cmpR a1 x = n1 at *
      generalize cmpR a2 x = n2 at *
      refine CallsP.en Go.Proofs.Tryz.func6 rfl fun _ => AW.q ?_
      refine AW.sr fun K hK => ?_
      simp
      refine CallDo.p 2 9 c1 ?_
      simp [d1]
      refine CallDo.p 2 9 c2 ?_
      simp [d2]
      repeat refine and_o ?_
      apply hK
      exact AW.r0 (FinP.rt rfl 4 (by simp))
    · have d2 : ¬ 0 ≤ cmpR a2 x := fun h => g2 (e2.1 h)
      rw [show decide (Iv.has (a1, a2) x) = false from decide_eq_false fun h => g2 h.2]
      generalize cmpR a1 x = n1 at *
      generalize cmpR a2 x = n2 at *
      refine CallsP.en Go.Proofs.Tryz.func6 rfl fun _ => AW.q ?_
      refine AW.sr fun K hK => ?_
      simp
      refine CallDo.p 2 9 c1 ?_
      simp [d1]
      refine CallDo.p 2 9 c2 ?_
      simp [d2]
      repeat refine and_o ?_
      apply hK
      exact AW.r0 (FinP.rt rfl 4 (by simp))
  · have d1 : ¬ cmpR a1 x ≤ 0 := fun h => g1 (e1.1 h)
    rw [show decide (Iv.has (a1, a2) x) = false from decide_eq_false fun h => g1 h.1]
    generalize cmpR a1 x = n1 at *
    refine CallsP.en Go.Proofs.Tryz.func6 rfl fun _ => AW.q ?_
    refine AW.c1 2 c1 d1 ?_
    exact AW.r0 (FinP.rt rfl 4 (by simp))

theorem iv_Add (G : List (List DV)) (a b : Iv) (ha : a.sz 10000000000) (hb : b.sz 10000000000) : CallsP Tryz.prog G 8 [ivV a, ivV b] (ivV (a.add b)) := by
  have c1 := rat_Add G a.1 b.1 ha.1 hb.1
  have c2 := rat_Add G a.2 b.2 ha.2 hb.2
  unfold Iv.add
  generalize a.1 + b.1 = r1 at *
  generalize a.2 + b.2 = r2 at *
  refine CallsP.enc Go.Proofs.Tryz.func8 rfl (fun lv => iv_dArg lv _ _ _ _ _ _) fun _ => AW.q ?_
  refine AW.seqK fun K hK => ?_
  refine AW.drawP mixed (by kernel_rfl) rfl ?_
  simp
  refine CallDo.p 3 9 c1 ?_
  simp
  refine CallDo.p 3 9 c2 ?_
  simp [bIv]
  refine ⟨by kernel_rfl, ?_⟩
  repeat refine and_o ?_
  apply hK
  exact AW.ret (FinC.iv (κ := 0) (t := 4) (k := 2) ⟨rfl, rfl⟩ (by simp) (by simp [setSeg]))
theorem iv_Sub (G : List (List DV)) (a b : Iv) (ha : a.sz 10000000000) (hb : b.sz 10000000000) : CallsP Tryz.prog G 10 [ivV a, ivV b] (ivV (a.sub b)) := by
  have c1 := rat_Sub G a.1 b.2 ha.1 hb.2
  have c2 := rat_Sub G a.2 b.1 ha.2 hb.1
  unfold Iv.sub
  generalize a.1 - b.2 = r1 at *
  generalize a.2 - b.1 = r2 at *
  refine CallsP.enc Go.Proofs.Tryz.func10 rfl (fun lv => iv_dArg lv _ _ _ _ _ _) fun _ => AW.q ?_
  refine AW.seqK fun K hK => ?_
  refine AW.drawP mixed (by kernel_rfl) rfl ?_
  simp
  refine CallDo.p 3 9 c1 ?_
  simp
  refine CallDo.p 3 9 c2 ?_
  simp [bIv]
  refine ⟨by kernel_rfl, ?_⟩
  repeat refine and_o ?_
  apply hK
  exact AW.ret (FinC.iv (κ := 0) (t := 4) (k := 2) ⟨rfl, rfl⟩ (by simp) (by simp [setSeg]))
theorem iv_Join (G : List (List DV)) (a b : Iv) (ha : a.sz 10000000000) (hb : b.sz 10000000000) : CallsP Tryz.prog G 19 [ivV a, ivV b] (ivV (a.join b)) := by
  have c1 := rat_Min G a.1 b.1 ha.1 hb.1
  have c2 := rat_Max G a.2 b.2 ha.2 hb.2
  unfold Iv.join
  generalize minR a.1 b.1 = r1 at *
  generalize maxR a.2 b.2 = r2 at *
  refine CallsP.enc Go.Proofs.Tryz.func19 rfl (fun lv => iv_dArg lv _ _ _ _ _ _) fun _ => AW.q ?_
  refine AW.seqK fun K hK => ?_
  refine AW.drawP mixed (by kernel_rfl) rfl ?_
  simp
  refine CallDo.p 3 9 c1 ?_
  simp
  refine CallDo.p 3 9 c2 ?_
  simp [bIv]
  refine ⟨by kernel_rfl, ?_⟩
  repeat refine and_o ?_
  apply hK
  exact AW.ret (FinC.iv (κ := 0) (t := 4) (k := 2) ⟨rfl, rfl⟩ (by simp) (by simp [setSeg]))
theorem iv_Out (G : List (List DV)) (a : Iv) (bits : Int) (ha : a.sz 10000) : CallsP Tryz.prog G 18 [ivV a, .c (.d (.int .i64 bits))] (ivV (downR a.1 bits, upR a.2 bits)) := by
  have c1 := rat_Down G a.1 bits ha.1
  have c2 := rat_Up G a.2 bits ha.2
  generalize downR a.1 bits = r1 at *
  generalize upR a.2 bits = r2 at *
  refine CallsP.enc Go.Proofs.Tryz.func18 rfl (fun lv => iv_dArg lv _ _ _ _ _ _) fun _ => AW.q ?_
  refine AW.seqK fun K hK => ?_
  refine AW.drawP mixed (by kernel_rfl) rfl ?_
  simp
  refine CallDo.p 2 9 c1 ?_
  simp
  refine CallDo.p 2 9 c2 ?_
  simp [bIv]
  refine ⟨by kernel_rfl, ?_⟩
  repeat refine and_o ?_
  apply hK
  exact AW.ret (FinC.iv (κ := 0) (t := 4) (k := 1) ⟨rfl, rfl⟩ (by simp) (by simp [setSeg]))
theorem iv_Neg (G : List (List DV)) (a : Iv) : CallsP Tryz.prog G 16 [ivV a] (ivV a.neg) := by
  have c1 := rat_Neg G a.2
  have c2 := rat_Neg G a.1
  unfold Iv.neg
  generalize -a.2 = r1 at *
  generalize -a.1 = r2 at *
  refine CallsP.enc Go.Proofs.Tryz.func16 rfl (fun lv => iv_dArg lv _ _ _ _ _ _) fun _ => AW.q ?_
  refine AW.seqK fun K hK => ?_
  refine AW.drawP mixed (by kernel_rfl) rfl ?_
  simp
  refine CallDo.p 2 9 c1 ?_
  simp
  refine CallDo.p 2 9 c2 ?_
  simp [bIv]
  refine ⟨by kernel_rfl, ?_⟩
  repeat refine and_o ?_
  apply hK
  exact AW.ret (FinC.iv (κ := 0) (t := 2) (k := 1) ⟨rfl, rfl⟩ (by simp) (by simp [setSeg]))
theorem iv_Size (G : List (List DV)) (a : Iv) (ha : a.sz 10000000000) : CallsP Tryz.prog G 20 [ivV a] (ratV a.size) := by
  have c1 := rat_Abs G a.1
  have c2 := rat_Abs G a.2
  have c3 := rat_Max G _ _ (szR_abs ha.1) (szR_abs ha.2)
  unfold Iv.size
  generalize maxR (absR a.1) (absR a.2) = r at *
  generalize absR a.1 = r1 at *
  generalize absR a.2 = r2 at *
  refine CallsP.enc Go.Proofs.Tryz.func20 rfl (fun lv => nC_dArg lv _ _ _) fun _ => AW.q ?_
  refine AW.seqK fun K hK => ?_
  refine AW.drawP mixed (by kernel_rfl) rfl ?_
  simp
  refine CallDo.p 2 9 c1 ?_
  simp
  refine CallDo.p 2 9 c2 ?_
  simp
  refine CallDo.p 2 9 c3 ?_
  simp
  refine ⟨by kernel_rfl, ?_⟩
  repeat refine and_o ?_
  apply hK
  exact AW.ret (FinC.num (κ := 0) (t := 2) (k := 1) ⟨rfl, rfl⟩ (by simp) (by simp [setSeg]))
theorem szR_zero' (L : Nat) (h : 1 ≤ L) : szR 0 L := ⟨by show nl 0 ≤ _; exact Nat.zero_le _, by show nl 1 ≤ _; rw [nl_one]; exact h⟩
theorem iv_Near (G : List (List DV)) (a : Iv) (ha : a.sz 10000000000) : CallsP Tryz.prog G 22 [ivV a] (ratV a.near) := by
  have c1 := rat_Abs G a.1
  have c2 := rat_Abs G a.2
  have c3 := rat_Min G _ _ (szR_abs ha.1) (szR_abs ha.2)
  have ci := rat_Int G 0 (by decide) (by decide)
  have ch := iv_Has G a 0 ha (szR_zero' _ (by decide))
  change CallsP _ _ _ _ (ratV (0 : Rat)) at ci
  by_cases h0 : a.has 0
  · have e : a.near = 0 := if_pos h0
    rw [decide_eq_true h0] at ch
    rw [e]
    generalize (0 : Rat) = o at *
    refine CallsP.enc Go.Proofs.Tryz.func22 rfl (fun lv => nC_dArg lv _ _ _) fun _ => AW.q ?_
    refine AW.seqK fun K hK => AW.seqK fun K1 hK1 => ?_
    refine AW.drawP mixed (by kernel_rfl) rfl ?_
    simp
    refine CallDo.p 2 9 ci ?_
    simp
    refine CallDo.p 2 9 ch ?_
    simp
    refine ⟨by kernel_rfl, ?_⟩
    repeat refine and_o ?_
    apply hK1
    refine AW.cy (AW.c0 2 ci ?_)
    exact AW.ret (FinC.num (κ := 0) (t := 2) (k := 1) ⟨rfl, rfl⟩ (by simp) (by simp [setSeg]))
  · have e : a.near = minR (absR a.1) (absR a.2) := if_neg h0
    rw [decide_eq_false h0] at ch
    rw [e]
    generalize (0 : Rat) = o at *
    generalize minR (absR a.1) (absR a.2) = r at *
    generalize absR a.1 = r1 at *
    generalize absR a.2 = r2 at *
    refine CallsP.enc Go.Proofs.Tryz.func22 rfl (fun lv => nC_dArg lv _ _ _) fun _ => AW.q ?_
    refine AW.seqK fun K hK => AW.seqK fun K1 hK1 => ?_
    refine AW.drawP mixed (by kernel_rfl) rfl ?_
    simp
    refine CallDo.p 2 9 ci ?_
    simp
    refine CallDo.p 2 9 ch ?_
    simp
    refine ⟨by kernel_rfl, ?_⟩
    repeat refine and_o ?_
    apply hK1
    refine AW.cn (AW.skip (hK _ _ (AW.seqK fun K hK => ?_)))
    refine AW.drawP mixed (by kernel_rfl) rfl ?_
    simp
    refine CallDo.p 2 9 c1 ?_
    simp
    refine CallDo.p 2 9 c2 ?_
    simp
    refine CallDo.p 2 9 c3 ?_
    simp
    refine ⟨by kernel_rfl, ?_⟩
    repeat refine and_o ?_
    apply hK
    exact AW.ret (FinC.num (κ := 0) (t := 2) (k := 1) ⟨rfl, rfl⟩ (by simp) (by simp [setSeg]))
theorem iv_Abs (G : List (List DV)) (a : Iv) (ha : a.sz 10000000000) : CallsP Tryz.prog G 14 [ivV a] (ivV a.abs) := by
  have c1 := iv_Near G a ha
  have c2 := iv_Size G a ha
  unfold Iv.abs
  generalize a.near = r1 at *
  generalize a.size = r2 at *
  refine CallsP.enc Go.Proofs.Tryz.func14 rfl (fun lv => iv_dArg lv _ _ _ _ _ _) fun _ => AW.q ?_
  refine AW.seqK fun K hK => ?_
  refine AW.drawP mixed (by kernel_rfl) rfl ?_
  simp
  refine CallDo.p 2 9 c1 ?_
  simp
  refine CallDo.p 2 9 c2 ?_
  simp [bIv]
  refine ⟨by kernel_rfl, ?_⟩
  repeat refine and_o ?_
  apply hK
  exact AW.ret (FinC.iv (κ := 0) (t := 2) (k := 1) ⟨rfl, rfl⟩ (by simp) (by simp [setSeg]))
/-- What From gives. -/
def fromI (x y : Rat) : Iv := if x ≤ y then (x, y) else (0, 0)
theorem iv_From (G : List (List DV)) (x y : Rat) (hx : szR x 10000000000) (hy : szR y 10000000000) : CallsP Tryz.prog G 49 [ratV x, ratV y] (.tup [ivV (fromI x y), .c (.d (.int .i64 (if x ≤ y then 0 else 7)))]) := by
  have c1 := rat_Cmp G x y hx hy
  by_cases h : x ≤ y
  · have h' : ¬ 0 < cmpR x y := by have := cmpR_le.2 h; omega
    rw [if_pos h, show fromI x y = (x, y) from if_pos h]
    generalize cmpR x y = n at *
    refine CallsP.enc Go.Proofs.Tryz.func49 rfl (fun lv => iv_dArg2 lv _ _ _ _ _ _ _ rfl) fun _ => AW.q ?_
    refine AW.seqK fun K hK => AW.c1 3 c1 h' ?_
    refine AW.fn (by simp [h'] <;> omega) (AW.skip (hK _ _ (AW.f1 @bIv ?_)))
    exact AW.ret (FinC.iv2 (κ := 0) (t := 4) (k := 2) (u := 5) ⟨rfl, rfl⟩ (by simp) (by simp [setSeg]) (by simp))
  · have h' : 0 < cmpR x y := cmpR_pos.2 (Rat.not_le.1 h)
    rw [if_neg h, show fromI x y = (0, 0) from if_neg h]
    generalize cmpR x y = n at *
    refine CallsP.enc Go.Proofs.Tryz.func49 rfl (fun lv => iv_dArg2 lv _ _ _ _ _ _ _ rfl) fun _ => AW.q ?_
    refine AW.seqK fun K hK => AW.c1 3 c1 h' ?_
    refine AW.fy (by simp [h'] <;> omega) (AW.f1 bIv0 ?_)
    exact AW.ret (FinC.iv2 (κ := 0) (t := 4) (k := 2) (u := 5) ⟨rfl, rfl⟩ (by simp) (by simp [setSeg]) (by simp))
theorem iv_Meet (G : List (List DV)) (a b : Iv) (ha : a.sz 10000000000) (hb : b.sz 10000000000) : CallsP Tryz.prog G 23 [ivV a, ivV b] (.tup [ivV (fromI (a.meet b).1 (a.meet b).2), .c (.d (.bool (decide ((a.meet b).1 ≤ (a.meet b).2))))]) := by
  have c1 := rat_Max G a.1 b.1 ha.1 hb.1
  have c2 := rat_Min G a.2 b.2 ha.2 hb.2
  have c3 := iv_From G (a.meet b).1 (a.meet b).2 (szR_max ha.1 hb.1) (szR_min ha.2 hb.2)
  have e : ((if (a.meet b).1 ≤ (a.meet b).2 then (0 : Int) else 7) = 0) ↔ (a.meet b).1 ≤ (a.meet b).2 := by split <;> simp_all
  have key : ∀ (r1 r2 : Rat) (r : Iv) (n : Int) (bb : Bool), CallsP Tryz.prog G 29 [ratV a.1, ratV b.1] (ratV r1) → CallsP Tryz.prog G 31 [ratV a.2, ratV b.2] (ratV r2) →
      CallsP Tryz.prog G 49 [ratV r1, ratV r2] (.tup [ivV r, .c (.d (.int .i64 n))]) → decide (n = 0) = bb → CallsP Tryz.prog G 23 [ivV a, ivV b] (.tup [ivV r, .c (.d (.bool bb))]) := by
    intro r1 r2 r n bb c1 c2 c3 hb
    subst hb
    refine CallsP.enc Go.Proofs.Tryz.func23 rfl (fun lv => iv_dArg2 lv _ _ _ _ _ _ _ rfl) fun _ => AW.q ?_
    refine AW.seqK fun K hK => ?_
    refine AW.drawP mixed (by kernel_rfl) rfl ?_
    simp
    refine CallDo.p 3 9 c1 ?_
    simp
    refine CallDo.p 3 9 c2 ?_
    simp
    refine CallDo.p 3 9 c3 ?_
    simp
    refine ⟨by kernel_rfl, ?_⟩
    repeat refine and_o ?_
    apply hK
    refine AW.seqK fun K hK => AW.l1 @setSeg.eq_1 (hK _ _ ?_)
    exact AW.ret (FinC.iv2 (κ := 0) (t := 4) (k := 2) (u := 5) ⟨rfl, rfl⟩ (by simp) (by simp [setSeg]) (by simp))
  exact key _ _ _ _ _ c1 c2 c3 (decide_eq_decide.2 e)
theorem rat_quo (G : List (List DV)) (x y : Rat) (hx : szR x 10000000000) (hy : szR y 10000000000) : CallsP Tryz.prog G 50 [ratV x, ratV y] (ratV (x / y)) := by
  have c1 := rat_Quo G x y hx hy
  generalize x / y = r at *
  generalize (if y = 0 then (8 : Int) else 0) = n at *
  refine CallsP.enc Go.Proofs.Tryz.func50 rfl (fun lv => nC_dArg lv _ _ _) fun _ => AW.q ?_
  refine AW.c0 3 c1 ?_
  refine AW.f1 @setSeg.eq_1 ?_
  exact AW.ret (FinC.num (κ := 0) (t := 4) (k := 2) ⟨rfl, rfl⟩ (by simp) (by simp [setSeg]))

/-! ### the least and the greatest of some numbers; products of intervals -/

def numD (x : Rat) : List DV := [.bool (decide (x.num < 0)), nD (natO x.num.natAbs), nD (denO x.den)]
abbrev numsA (l : List Rat) : AV := .c (.d (.sl (l.map numD)))
abbrev cmpF : AV := .c (.d (.func (.func 21) [] []))
theorem lpNums (l : List Rat) (lv : Key → LB) : lenP Tryz.prog 94 lv (numsA l) = some (.c (.d (.int .i64 l.length)), [], [], True) := by
  simp [lenP, lenA, keyOf]
theorem ixNums (l : List Rat) (lv : Key → LB) (i : Nat) (x : Rat) (h : l[i]? = some x) : stepIndexAddr Tryz.prog 94 lv (numsA l) (.c (.d (.int .i64 (i : Int)))) = some (.c (.d (.ptr (numD x))), [], [], True) := by
  obtain ⟨hi, e⟩ := List.getElem?_eq_some_iff.1 h
  have hi' : (i : Int) < (l.length : Int) := by omega
  simp [hi, e, numD]

/-- The least, the greatest of a number and those of a list. -/
def minL (l : List Rat) (m : Rat) : Rat := l.foldl (fun m x => minR x m) m
def maxL (l : List Rat) (m : Rat) : Rat := l.foldl (fun m x => maxR m x) m
theorem minR_comm (x y : Rat) : minR x y = minR y x := by unfold minR; split <;> split <;> grind
theorem hull_minL (w x y z : Rat) : (minL [x, y, z] w, maxL [x, y, z] w) = hull4 w x y z := by
  simp only [minL, maxL, List.foldl, hull4, minR_comm z, minR_comm y, minR_comm x]
theorem minL_drop {l : List Rat} {i : Nat} {x m : Rat} (h : l[i]? = some x) : minL (l.drop i) m = minL (l.drop (i + 1)) (minR x m) := by
  obtain ⟨hi, e⟩ := List.getElem?_eq_some_iff.1 h
  rw [List.drop_eq_getElem_cons hi, e]; rfl
theorem maxL_drop {l : List Rat} {i : Nat} {x m : Rat} (h : l[i]? = some x) : maxL (l.drop i) m = maxL (l.drop (i + 1)) (maxR m x) := by
  obtain ⟨hi, e⟩ := List.getElem?_eq_some_iff.1 h
  rw [List.drop_eq_getElem_cons hi, e]; rfl

theorem minFunc_ok (G : List (List DV)) (l : List Rat) (x0 : Rat) (h0 : l[0]? = some x0) (hn : l.length ≤ 1000) (hs : ∀ x ∈ l, szR x 10000000000) :
    CallsP Tryz.prog G 65 [numsA l, cmpF] (ratV (minL (l.drop 1) x0)) := by
  have hl : 0 < l.length := (List.getElem?_eq_some_iff.1 h0).1
  have hl1 : ¬ (l.length : Int) < 1 := by omega
  have e0 : l[0]'hl = x0 := (List.getElem?_eq_some_iff.1 h0).2
  generalize hR : minL (l.drop 1) x0 = R
  refine CallsP.enc Go.Proofs.Tryz.func65 rfl (fun lv => nC_dArg lv _ _ _) fun _ => AW.q ?_
  refine AW.seqK fun K hK => AW.f2 @lpNums hl1 ?_
  refine AW.fn (by simp [hl1] <;> omega) (AW.skip ?_)
  simp
  repeat refine and_o ?_
  apply hK
  refine AW.seqK fun K hK => AW.rP ?_
  simp [h0, hl, e0, numD, ← nC_nD, setSeg]
  repeat refine and_o ?_
  apply hK
  refine AW.seqK fun K hK => AW.seqK fun K1 hK1 => AW.rP ?_
  simp
  repeat refine and_o ?_
  apply hK1
  refine AW.block ?_
  refine AW.loopV (fun (p : Nat × Rat) => ⟨frOf [(0, numsA l), (1, cmpF), (4, .c (.ptr 0 0)), (5, .c (.ptr 1 0)), (6, .c (.d (.int .i64 (p.1 : Int))))],
    upd (upd (fun _ => .hole) 0 (.cells true false 30 [.d (.bool false), .d .nilsl, .d .nilsl])) 1 (.cells true false 30 [.d (.bool (decide (p.2.num < 0))), nC (natO p.2.num.natAbs), nC (denO p.2.den)])⟩) 2
    (fun p => 1 ≤ p.1 ∧ p.1 ≤ l.length ∧ szR p.2 10000000000 ∧ minL (l.drop p.1) p.2 = R) (fun p => l.length - p.1) (1, x0) (Le.mk2 _) ⟨Nat.le_refl _, hl, hs _ (List.mem_of_getElem? h0), hR⟩ ?_
  rintro ⟨i, m⟩ ⟨h1, h2, h3, h4⟩
  simp only at h1 h2 h3 h4
  refine AW.seqK fun K2 hK2 => AW.f1 @lpNums ?_
  by_cases hlt : i < l.length
  · have hlt' : (i : Int) < (l.length : Int) := by omega
    obtain ⟨x, hx⟩ : ∃ x, l[i]? = some x := ⟨_, List.getElem?_eq_getElem hlt⟩
    have hxs := hs _ (List.mem_of_getElem? hx)
    have hix := fun lv => ixNums l lv i x hx
    have hc := rat_Cmp G x m hxs h3
    have f12 := w64 (n := (i : Int) + 1) (by omega) (by omega)
    refine AW.fy (by simp [hlt'] <;> omega) (AW.skip (hK2 _ _ (AW.seqK fun K4 hK4 => AW.block (AW.seqK fun K5 hK5 => ?_))))
    refine AW.drawP mixed (by kernel_rfl) rfl ?_
    simp [hix, numD, ← nC_nD]
    refine CallDo.p 2 9 hc ?_
    simp [hix, numD, ← nC_nD]
    refine ⟨by kernel_rfl, ?_⟩
    repeat refine and_o ?_
    apply hK5
    by_cases hm : x < m
    · have hm' := cmpR_neg.2 hm
      refine AW.fy (by simp [hm'] <;> omega) (AW.rP ?_)
      simp [hix, numD, ← nC_nD]
      repeat refine and_o ?_
      apply hK4
      refine AW.rP ?_
      simp [f12]
      refine ⟨i + 1, x, Le.mk2 _ (by simp [setSeg]), ⟨by omega, by omega, hxs, ?_⟩, by omega⟩
      rw [← h4, minL_drop hx, show minR x m = x from if_pos hm]
    · have hm' : ¬ cmpR x m < 0 := fun h => hm (cmpR_neg.1 h)
      refine AW.fn (by simp [hm'] <;> omega) (AW.skip (hK4 _ _ (AW.rP ?_)))
      simp [f12]
      refine ⟨i + 1, m, Le.mk2 _, ⟨by omega, by omega, h3, ?_⟩, by omega⟩
      rw [← h4, minL_drop hx, show minR x m = m from if_neg hm]
  · have hlt' : ¬ (i : Int) < (l.length : Int) := by omega
    have hd : l.drop i = [] := List.drop_eq_nil_of_le (by omega)
    rw [hd] at h4
    have h5 : m = R := h4
    refine AW.fn (by simp [hlt'] <;> omega) (AW.exit (hK _ _ (AW.q ?_)))
    subst h5
    exact AW.ret (FinC.num (κ := 0) (t := 4) (k := 0) ⟨rfl, rfl⟩ (by simp) (by simp [setSeg]))

theorem maxFunc_ok (G : List (List DV)) (l : List Rat) (x0 : Rat) (h0 : l[0]? = some x0) (hn : l.length ≤ 1000) (hs : ∀ x ∈ l, szR x 10000000000) :
    CallsP Tryz.prog G 66 [numsA l, cmpF] (ratV (maxL (l.drop 1) x0)) := by
  have hl : 0 < l.length := (List.getElem?_eq_some_iff.1 h0).1
  have hl1 : ¬ (l.length : Int) < 1 := by omega
  have e0 : l[0]'hl = x0 := (List.getElem?_eq_some_iff.1 h0).2
  generalize hR : maxL (l.drop 1) x0 = R
  refine CallsP.enc Go.Proofs.Tryz.func66 rfl (fun lv => nC_dArg lv _ _ _) fun _ => AW.q ?_
  refine AW.seqK fun K hK => AW.f2 @lpNums hl1 ?_
  refine AW.fn (by simp [hl1] <;> omega) (AW.skip (hK _ _ (AW.sr fun K hK => ?_)))
  simp [h0, hl, e0, numD, ← nC_nD, setSeg]
  repeat refine and_o ?_
  apply hK
  refine AW.seqK fun K hK => AW.seqK fun K1 hK1 => AW.rP ?_
  simp
  repeat refine and_o ?_
  apply hK1
  refine AW.block ?_
  refine AW.loopV (fun (p : Nat × Rat) => ⟨frOf [(0, numsA l), (1, cmpF), (4, .c (.ptr 0 0)), (5, .c (.ptr 1 0)), (6, .c (.d (.int .i64 (p.1 : Int))))],
    upd (upd (fun _ => .hole) 0 (.cells true false 30 [.d (.bool false), .d .nilsl, .d .nilsl])) 1 (.cells true false 30 [.d (.bool (decide (p.2.num < 0))), nC (natO p.2.num.natAbs), nC (denO p.2.den)])⟩) 2
    (fun p => 1 ≤ p.1 ∧ p.1 ≤ l.length ∧ szR p.2 10000000000 ∧ maxL (l.drop p.1) p.2 = R) (fun p => l.length - p.1) (1, x0) (Le.mk2 _) ⟨Nat.le_refl _, hl, hs _ (List.mem_of_getElem? h0), hR⟩ ?_
  rintro ⟨i, m⟩ ⟨h1, h2, h3, h4⟩
  simp only at h1 h2 h3 h4
  refine AW.seqK fun K2 hK2 => AW.f1 @lpNums ?_
  by_cases hlt : i < l.length
  · have hlt' : (i : Int) < (l.length : Int) := by omega
    obtain ⟨x, hx⟩ : ∃ x, l[i]? = some x := ⟨_, List.getElem?_eq_getElem hlt⟩
    have hxs := hs _ (List.mem_of_getElem? hx)
    have hix := fun lv => ixNums l lv i x hx
    have hc := rat_Cmp G x m hxs h3
    have f12 := w64 (n := (i : Int) + 1) (by omega) (by omega)
    refine AW.fy (by simp [hlt'] <;> omega) (AW.skip (hK2 _ _ (AW.seqK fun K4 hK4 => AW.block (AW.seqK fun K5 hK5 => ?_))))
    refine AW.drawP mixed (by kernel_rfl) rfl ?_
    simp [hix, numD, ← nC_nD]
    refine CallDo.p 2 9 hc ?_
    simp [hix, numD, ← nC_nD]
    refine ⟨by kernel_rfl, ?_⟩
    repeat refine and_o ?_
    apply hK5
    by_cases hm : m < x
    · have hm' := cmpR_pos.2 hm
      refine AW.fy (by simp [hm'] <;> omega) (AW.rP ?_)
      simp [hix, numD, ← nC_nD]
      repeat refine and_o ?_
      apply hK4
      refine AW.rP ?_
      simp [f12]
      refine ⟨i + 1, x, Le.mk2 _ (by simp [setSeg]), ⟨by omega, by omega, hxs, ?_⟩, by omega⟩
      rw [← h4, maxL_drop hx, show maxR m x = x from if_pos hm]
    · have hm' : ¬ 0 < cmpR x m := fun h => hm (cmpR_pos.1 h)
      refine AW.fn (by simp [hm'] <;> omega) (AW.skip (hK4 _ _ (AW.rP ?_)))
      simp [f12]
      refine ⟨i + 1, m, Le.mk2 _, ⟨by omega, by omega, h3, ?_⟩, by omega⟩
      rw [← h4, maxL_drop hx, show maxR m x = m from if_neg hm]
  · have hlt' : ¬ (i : Int) < (l.length : Int) := by omega
    have hd : l.drop i = [] := List.drop_eq_nil_of_le (by omega)
    rw [hd] at h4
    have h5 : m = R := h4
    refine AW.fn (by simp [hlt'] <;> omega) (AW.exit (hK _ _ (AW.q ?_)))
    subst h5
    exact AW.ret (FinC.num (κ := 0) (t := 4) (k := 0) ⟨rfl, rfl⟩ (by simp) (by simp [setSeg]))

theorem hull_ok (G : List (List DV)) (w x y z : Rat) (h1 : szR w 10000000000) (h2 : szR x 10000000000) (h3 : szR y 10000000000) (h4 : szR z 10000000000) :
    CallsP Tryz.prog G 46 [numsA [w, x, y, z]] (ivV (hull4 w x y z)) := by
  have hs : ∀ u ∈ [w, x, y, z], szR u 10000000000 := by
    intro u hu
    simp only [List.mem_cons, List.not_mem_nil, or_false] at hu
    rcases hu with rfl | rfl | rfl | rfl <;> assumption
  have c1 := minFunc_ok G [w, x, y, z] w rfl (by simp) hs
  have c2 := maxFunc_ok G [w, x, y, z] w rfl (by simp) hs
  rw [← hull_minL]
  change CallsP _ _ _ _ (ratV (minL [x, y, z] w)) at c1
  change CallsP _ _ _ _ (ratV (maxL [x, y, z] w)) at c2
  generalize minL [x, y, z] w = r1 at *
  generalize maxL [x, y, z] w = r2 at *
  generalize [w, x, y, z] = l at *
  refine CallsP.enc Go.Proofs.Tryz.func46 rfl (fun lv => iv_dArg lv _ _ _ _ _ _) fun _ => AW.q ?_
  refine AW.sr fun K hK => ?_
  simp
  refine CallDo.p 1 9 c1 ?_
  simp
  refine CallDo.p 1 9 c2 ?_
  simp [bIv]
  repeat refine and_o ?_
  apply hK
  exact AW.ret (FinC.iv (κ := 0) (t := 2) (k := 0) ⟨rfl, rfl⟩ (by simp) (by simp [setSeg]))

/-- A call that is handed a block of four numbers, which nobody writes any more. -/
theorem CallDo.frz4 {c : Ctx} {f : FuncId} {lv : Key → LB} {K : AV → List (Key × LB) → List Key → Nat → Prop} (κ' kh κb : Key) {T : TypeId} {w x y z : Rat} {X : AV}
    (hk : lv κb = .cells true false T (((numD w ++ numD x) ++ (numD y ++ numD z)).map CV.d)) (hc : CallsP c.P c.G f [numsA [w, x, y, z]] X) (hX : X.pure = true) (hh : lv kh = .hole) (hkh : kh ≠ κb)
    (hK : K X [(κb, .cells true true T (((numD w ++ numD x) ++ (numD y ++ numD z)).map CV.d))] [kh] κ') : CallDo c f [.c (.lsl κb 0 4 3)] lv K := by
  refine CallDo.frz κ' kh κb T _ [kh] hc hX hk hh hkh rfl (fun i p q => ?_) (fun a ha j hj => ?_) (by simp) hK
  · have hi : i = 0 := by simp at p; omega
    subst hi
    right
    simp only [List.getElem_cons_zero, dArg, toDV, upd_same]
    rfl
  · simp only [List.mem_singleton] at ha; subst ha
    simp only [rdA, rdK, List.mem_cons, upd_same] at hj
    rcases hj with rfl | hj
    · exact .inr rfl
    · simp only [List.mem_flatMap] at hj
      obtain ⟨y, hy, hj⟩ := hj
      simp only [List.mem_map] at hy
      obtain ⟨z, _, rfl⟩ := hy
      cases hj

theorem fill4 (a b c d e f g h i j k l : CV) : fillA (fun i => some (i * 3, 3)) (repl 4 [.d (.bool false), .d .nilsl, .d .nilsl]) [(0, .agg [a, b, c]), (1, .agg [d, e, f]), (2, .agg [g, h, i]), (3, .agg [j, k, l])] = some [a, b, c, d, e, f, g, h, i, j, k, l] := by kernel_rfl
theorem fill2 (a b c d e f : CV) : fillA (fun i => some (i * 3, 3)) (repl 2 [.d (.bool false), .d .nilsl, .d .nilsl]) [(0, .agg [a, b, c]), (1, .agg [d, e, f])] = some [a, b, c, d, e, f] := by kernel_rfl

theorem sgA_pos (x : Rat) : 0 ≤ sgA (decide (x.num < 0)) (natO x.num.natAbs) ↔ 0 ≤ x := by
  unfold sgA; rw [natO_d, ← Rat.num_nonneg]
  by_cases h0 : x.num.natAbs = 0
  · rw [if_pos ((dig_nil (by decide)).2 h0)]; omega
  · rw [if_neg (dig_ne h0)]
    by_cases hn : x.num < 0
    · rw [decide_eq_true hn, if_pos rfl]; omega
    · rw [decide_eq_false hn, if_neg (by decide)]; omega
theorem sgA_le (x : Rat) : sgA (decide (x.num < 0)) (natO x.num.natAbs) ≤ 0 ↔ x ≤ 0 := by
  have h2 : 0 ≤ -x ↔ x ≤ 0 := by constructor <;> intro h <;> grind
  unfold sgA; rw [natO_d, ← h2, ← Rat.num_nonneg, Rat.neg_num]
  by_cases h0 : x.num.natAbs = 0
  · rw [if_pos ((dig_nil (by decide)).2 h0)]; omega
  · rw [if_neg (dig_ne h0)]
    by_cases hn : x.num < 0
    · rw [decide_eq_true hn, if_pos rfl]; omega
    · rw [decide_eq_false hn, if_neg (by decide)]; omega

/-- One round of Mul: it may call itself with an interval turned. -/
theorem iv_mul_step (G : List (List DV)) (a b : Iv) (ha : a.sz 10000000) (hb : b.sz 10000000) (la : a.1 ≤ a.2) (lb : b.1 ≤ b.2)
    (r1 : a.1 < 0 → a.2 ≤ 0 → CallsP Tryz.prog G 12 [ivV a.neg, ivV b] (ivV (a.neg.mul b)))
    (r2 : ¬ (a.1 < 0 ∧ a.2 ≤ 0) → b.1 < 0 → b.2 ≤ 0 → CallsP Tryz.prog G 12 [ivV a, ivV b.neg] (ivV (a.mul b.neg))) :
    CallsP Tryz.prog G 12 [ivV a, ivV b] (ivV (a.mul b)) := by
  obtain ⟨a1, a2⟩ := a
  obtain ⟨b1, b2⟩ := b
  have sz : ∀ {x : Rat}, szR x 10000000 → szR x 10000000000 := fun h => szR_mono h (by decide)
  have g1 := num_Sign_ok G (decide (a1.num < 0)) (natO a1.num.natAbs) (denO a1.den)
  have g2 := num_Sign_ok G (decide (a2.num < 0)) (natO a2.num.natAbs) (denO a2.den)
  have g3 := num_Sign_ok G (decide (b1.num < 0)) (natO b1.num.natAbs) (denO b1.den)
  have g4 := num_Sign_ok G (decide (b2.num < 0)) (natO b2.num.natAbs) (denO b2.den)
  have p1 := sgA_pos a1
  have p2 := sgA_le a2
  have p3 := sgA_pos b1
  have p4 := sgA_le b2
  by_cases c0 : 0 ≤ a1 ∧ 0 ≤ b1
  · have m1 := rat_Mul G a1 b1 (sz ha.1) (sz hb.1)
    have m2 := rat_Mul G a2 b2 (sz ha.2) (sz hb.2)
    rw [Iv.mul_pos la lb c0.1 c0.2]
    have q1 := p1.2 c0.1
    have q3 := p3.2 c0.2
    generalize sgA (decide (a1.num < 0)) (natO a1.num.natAbs) = s1 at *
    generalize sgA (decide (b1.num < 0)) (natO b1.num.natAbs) = s3 at *
    simp only at m1 m2 ⊢
    generalize a1 * b1 = u1 at *
    generalize a2 * b2 = u2 at *
    refine CallsP.enc Go.Proofs.Tryz.func12 rfl (fun lv => iv_dArg lv _ _ _ _ _ _) fun _ => AW.q ?_
    refine AW.seqK fun K hK => AW.block (AW.sr fun K1 hK1 => ?_)
    simp
    refine CallDo.p 3 9 g1 ?_
    simp [q1]
    refine CallDo.p 3 9 g3 ?_
    simp [q3]
    repeat refine and_o ?_
    apply hK1
    refine AW.cy (AW.seqK fun K1 hK1 => ?_)
    refine AW.drawP mixed (by kernel_rfl) rfl ?_
    simp
    refine CallDo.p 3 9 m1 ?_
    simp
    refine CallDo.p 3 9 m2 ?_
    simp [bIv]
    refine ⟨by kernel_rfl, ?_⟩
    repeat refine and_o ?_
    apply hK1
    exact AW.ret (FinC.iv (κ := 0) (t := 4) (k := 2) ⟨rfl, rfl⟩ (by simp) (by simp [setSeg]))
  by_cases c1 : a1 < 0 ∧ a2 ≤ 0
  · have m1 := r1 c1.1 c1.2
    have n1 := iv_Neg G (a1, a2)
    have n2 := iv_Neg G (Iv.mul (Iv.neg (a1, a2)) (b1, b2))
    rw [Iv.mul_negl] at n2
    have q1 : ¬ 0 ≤ sgA (decide (a1.num < 0)) (natO a1.num.natAbs) := fun h => absurd (p1.1 h) (Rat.not_le.2 c1.1)
    have q2 := p2.2 c1.2
    have q1' : sgA (decide (a1.num < 0)) (natO a1.num.natAbs) < 0 := by omega
    generalize sgA (decide (a1.num < 0)) (natO a1.num.natAbs) = s1 at *
    generalize sgA (decide (a2.num < 0)) (natO a2.num.natAbs) = s2 at *
    generalize Iv.mul (Iv.neg (a1, a2)) (b1, b2) = u at *
    generalize Iv.mul (a1, a2) (b1, b2) = v at *
    generalize Iv.neg (a1, a2) = na at *
    refine CallsP.enc Go.Proofs.Tryz.func12 rfl (fun lv => iv_dArg lv _ _ _ _ _ _) fun _ => AW.q ?_
    refine AW.seqK fun K hK => AW.block (AW.c1 3 g1 q1 ?_)
    refine AW.cn (AW.sr fun K1 hK1 => ?_)
    simp
    refine CallDo.p 3 9 g1 ?_
    simp [q1']
    refine CallDo.p 3 9 g2 ?_
    simp [q2]
    repeat refine and_o ?_
    apply hK1
    refine AW.cy (AW.seqK fun K1 hK1 => ?_)
    refine AW.drawP mixed (by kernel_rfl) rfl ?_
    simp
    refine CallDo.p 3 9 n1 ?_
    simp
    refine CallDo.p 3 9 m1 ?_
    simp
    refine CallDo.p 3 9 n2 ?_
    simp
    refine ⟨by kernel_rfl, ?_⟩
    repeat refine and_o ?_
    apply hK1
    exact AW.ret (FinC.iv (κ := 0) (t := 4) (k := 2) ⟨rfl, rfl⟩ (by simp) (by simp [setSeg]))
  have q1n : ¬ 0 ≤ a1 → a1 < 0 := fun h => Rat.not_le.1 h
  have s1n : a1 < 0 → sgA (decide (a1.num < 0)) (natO a1.num.natAbs) < 0 := fun h => by
    have : ¬ 0 ≤ sgA (decide (a1.num < 0)) (natO a1.num.natAbs) := fun h' => absurd (p1.1 h') (Rat.not_le.2 h)
    omega
  have s3n : b1 < 0 → sgA (decide (b1.num < 0)) (natO b1.num.natAbs) < 0 := fun h => by
    have : ¬ 0 ≤ sgA (decide (b1.num < 0)) (natO b1.num.natAbs) := fun h' => absurd (p3.1 h') (Rat.not_le.2 h)
    omega
  by_cases c2 : b1 < 0 ∧ b2 ≤ 0
  · have m1 := r2 c1 c2.1 c2.2
    have n1 := iv_Neg G (b1, b2)
    have n2 := iv_Neg G (Iv.mul (a1, a2) (Iv.neg (b1, b2)))
    rw [Iv.mul_negr] at n2
    have q3' := s3n c2.1
    have q3 : ¬ 0 ≤ sgA (decide (b1.num < 0)) (natO b1.num.natAbs) := by omega
    have q4 := p4.2 c2.2
    by_cases h1 : 0 ≤ a1
    · have q1 := p1.2 h1
      have q1' : ¬ sgA (decide (a1.num < 0)) (natO a1.num.natAbs) < 0 := by omega
      generalize sgA (decide (a1.num < 0)) (natO a1.num.natAbs) = s1 at *
      generalize sgA (decide (a2.num < 0)) (natO a2.num.natAbs) = s2 at *
      generalize sgA (decide (b1.num < 0)) (natO b1.num.natAbs) = s3 at *
      generalize sgA (decide (b2.num < 0)) (natO b2.num.natAbs) = s4 at *
      generalize Iv.mul (a1, a2) (Iv.neg (b1, b2)) = u at *
      generalize Iv.mul (a1, a2) (b1, b2) = v at *
      generalize Iv.neg (b1, b2) = nb at *
      refine CallsP.enc Go.Proofs.Tryz.func12 rfl (fun lv => iv_dArg lv _ _ _ _ _ _) fun _ => AW.q ?_
      refine AW.seqK fun K hK => AW.block (AW.sr fun K1 hK1 => ?_)
      simp
      refine CallDo.p 3 9 g1 ?_
      simp [q1]
      refine CallDo.p 3 9 g3 ?_
      simp [q3]
      repeat refine and_o ?_
      apply hK1
      refine AW.cn (AW.c1 3 g1 q1' ?_)
      refine AW.cn (AW.sr fun K1 hK1 => ?_)
      simp
      refine CallDo.p 3 9 g3 ?_
      simp [q3']
      refine CallDo.p 3 9 g4 ?_
      simp [q4]
      repeat refine and_o ?_
      apply hK1
      refine AW.cy (AW.seqK fun K1 hK1 => ?_)
      refine AW.drawP mixed (by kernel_rfl) rfl ?_
      simp
      refine CallDo.p 3 9 n1 ?_
      simp
      refine CallDo.p 3 9 m1 ?_
      simp
      refine CallDo.p 3 9 n2 ?_
      simp
      refine ⟨by kernel_rfl, ?_⟩
      repeat refine and_o ?_
      apply hK1
      exact AW.ret (FinC.iv (κ := 0) (t := 4) (k := 2) ⟨rfl, rfl⟩ (by simp) (by simp [setSeg]))
    · have q1' := s1n (q1n h1)
      have q1 : ¬ 0 ≤ sgA (decide (a1.num < 0)) (natO a1.num.natAbs) := by omega
      have q2 : ¬ sgA (decide (a2.num < 0)) (natO a2.num.natAbs) ≤ 0 := fun h => c1 ⟨q1n h1, p2.1 h⟩
      generalize sgA (decide (a1.num < 0)) (natO a1.num.natAbs) = s1 at *
      generalize sgA (decide (a2.num < 0)) (natO a2.num.natAbs) = s2 at *
      generalize sgA (decide (b1.num < 0)) (natO b1.num.natAbs) = s3 at *
      generalize sgA (decide (b2.num < 0)) (natO b2.num.natAbs) = s4 at *
      generalize Iv.mul (a1, a2) (Iv.neg (b1, b2)) = u at *
      generalize Iv.mul (a1, a2) (b1, b2) = v at *
      generalize Iv.neg (b1, b2) = nb at *
      refine CallsP.enc Go.Proofs.Tryz.func12 rfl (fun lv => iv_dArg lv _ _ _ _ _ _) fun _ => AW.q ?_
      refine AW.seqK fun K hK => AW.block (AW.c1 3 g1 q1 ?_)
      refine AW.cn (AW.sr fun K1 hK1 => ?_)
      simp
      refine CallDo.p 3 9 g1 ?_
      simp [q1']
      refine CallDo.p 3 9 g2 ?_
      simp [q2]
      repeat refine and_o ?_
      apply hK1
      refine AW.cn (AW.sr fun K1 hK1 => ?_)
      simp
      refine CallDo.p 3 9 g3 ?_
      simp [q3']
      refine CallDo.p 3 9 g4 ?_
      simp [q4]
      repeat refine and_o ?_
      apply hK1
      refine AW.cy (AW.seqK fun K1 hK1 => ?_)
      refine AW.drawP mixed (by kernel_rfl) rfl ?_
      simp
      refine CallDo.p 3 9 n1 ?_
      simp
      refine CallDo.p 3 9 m1 ?_
      simp
      refine CallDo.p 3 9 n2 ?_
      simp
      refine ⟨by kernel_rfl, ?_⟩
      repeat refine and_o ?_
      apply hK1
      exact AW.ret (FinC.iv (κ := 0) (t := 4) (k := 2) ⟨rfl, rfl⟩ (by simp) (by simp [setSeg]))
  have hm : Iv.mul (a1, a2) (b1, b2) = hull4 (a1 * b1) (a1 * b2) (a2 * b1) (a2 * b2) := rfl
  have m1 := rat_Mul G a1 b1 (sz ha.1) (sz hb.1)
  have m2 := rat_Mul G a1 b2 (sz ha.1) (sz hb.2)
  have m3 := rat_Mul G a2 b1 (sz ha.2) (sz hb.1)
  have m4 := rat_Mul G a2 b2 (sz ha.2) (sz hb.2)
  have zz : ∀ {x y : Rat}, szR x 10000000 → szR y 10000000 → szR (x * y) 10000000000 := fun h h' => szR_mono (szR_mul h h') (by decide)
  have hh := hull_ok G (a1 * b1) (a1 * b2) (a2 * b1) (a2 * b2) (zz ha.1 hb.1) (zz ha.1 hb.2) (zz ha.2 hb.1) (zz ha.2 hb.2)
  rw [hm]
  generalize hull4 (a1 * b1) (a1 * b2) (a2 * b1) (a2 * b2) = v at *
  generalize a1 * b1 = u1 at *
  generalize a1 * b2 = u2 at *
  generalize a2 * b1 = u3 at *
  generalize a2 * b2 = u4 at *
  by_cases h1 : 0 ≤ a1
  · have h3 : b1 < 0 := Rat.not_le.1 fun h => c0 ⟨h1, h⟩
    have q1 := p1.2 h1
    have q1' : ¬ sgA (decide (a1.num < 0)) (natO a1.num.natAbs) < 0 := by omega
    have q3' := s3n h3
    have q3 : ¬ 0 ≤ sgA (decide (b1.num < 0)) (natO b1.num.natAbs) := by omega
    have q4 : ¬ sgA (decide (b2.num < 0)) (natO b2.num.natAbs) ≤ 0 := fun h => c2 ⟨h3, p4.1 h⟩
    generalize sgA (decide (a1.num < 0)) (natO a1.num.natAbs) = s1 at *
    generalize sgA (decide (b1.num < 0)) (natO b1.num.natAbs) = s3 at *
    generalize sgA (decide (b2.num < 0)) (natO b2.num.natAbs) = s4 at *
    refine CallsP.enc Go.Proofs.Tryz.func12 rfl (fun lv => iv_dArg lv _ _ _ _ _ _) fun _ => AW.q ?_
    refine AW.seqK fun K hK => AW.block (AW.sr fun K1 hK1 => ?_)
    simp
    refine CallDo.p 3 9 g1 ?_
    simp [q1]
    refine CallDo.p 3 9 g3 ?_
    simp [q3]
    repeat refine and_o ?_
    apply hK1
    refine AW.cn (AW.c1 3 g1 q1' ?_)
    refine AW.cn (AW.sr fun K1 hK1 => ?_)
    simp
    refine CallDo.p 3 9 g3 ?_
    simp [q3']
    refine CallDo.p 3 9 g4 ?_
    simp [q4]
    repeat refine and_o ?_
    apply hK1
    refine AW.cn (AW.skip (hK _ _ (AW.seqK fun K hK => ?_)))
    refine AW.drawP mixed (by kernel_rfl) rfl ?_
    simp
    refine CallDo.p 3 9 m1 ?_
    simp
    refine CallDo.p 3 9 m2 ?_
    simp
    refine CallDo.p 3 9 m3 ?_
    simp
    refine CallDo.p 3 9 m4 ?_
    simp [fill4]
    refine CallDo.frz4 (T := 30) 4 9 3 (w := u1) (x := u2) (y := u3) (z := u4) ?_ hh ?_ ?_ ?_ ?_
    · simp [numD, nC_nD]
    · simp
    · simp
    · decide
    simp
    refine ⟨by kernel_rfl, ?_⟩
    repeat refine and_o ?_
    apply hK
    exact AW.ret (FinC.iv (κ := 0) (t := 4) (k := 2) ⟨rfl, rfl⟩ (by simp) (by simp [setSeg]))
  have q1' := s1n (q1n h1)
  have q1 : ¬ 0 ≤ sgA (decide (a1.num < 0)) (natO a1.num.natAbs) := by omega
  have q2 : ¬ sgA (decide (a2.num < 0)) (natO a2.num.natAbs) ≤ 0 := fun h => c1 ⟨q1n h1, p2.1 h⟩
  by_cases h3 : b1 < 0
  · have q3' := s3n h3
    have q4 : ¬ sgA (decide (b2.num < 0)) (natO b2.num.natAbs) ≤ 0 := fun h => c2 ⟨h3, p4.1 h⟩
    generalize sgA (decide (a1.num < 0)) (natO a1.num.natAbs) = s1 at *
    generalize sgA (decide (a2.num < 0)) (natO a2.num.natAbs) = s2 at *
    generalize sgA (decide (b1.num < 0)) (natO b1.num.natAbs) = s3 at *
    generalize sgA (decide (b2.num < 0)) (natO b2.num.natAbs) = s4 at *
    refine CallsP.enc Go.Proofs.Tryz.func12 rfl (fun lv => iv_dArg lv _ _ _ _ _ _) fun _ => AW.q ?_
    refine AW.seqK fun K hK => AW.block (AW.c1 3 g1 q1 ?_)
    refine AW.cn (AW.sr fun K1 hK1 => ?_)
    simp
    refine CallDo.p 3 9 g1 ?_
    simp [q1']
    refine CallDo.p 3 9 g2 ?_
    simp [q2]
    repeat refine and_o ?_
    apply hK1
    refine AW.cn (AW.sr fun K1 hK1 => ?_)
    simp
    refine CallDo.p 3 9 g3 ?_
    simp [q3']
    refine CallDo.p 3 9 g4 ?_
    simp [q4]
    repeat refine and_o ?_
    apply hK1
    refine AW.cn (AW.skip (hK _ _ (AW.seqK fun K hK => ?_)))
    refine AW.drawP mixed (by kernel_rfl) rfl ?_
    simp
    refine CallDo.p 3 9 m1 ?_
    simp
    refine CallDo.p 3 9 m2 ?_
    simp
    refine CallDo.p 3 9 m3 ?_
    simp
    refine CallDo.p 3 9 m4 ?_
    simp [fill4]
    refine CallDo.frz4 (T := 30) 4 9 3 (w := u1) (x := u2) (y := u3) (z := u4) ?_ hh ?_ ?_ ?_ ?_
    · simp [numD, nC_nD]
    · simp
    · simp
    · decide
    simp
    refine ⟨by kernel_rfl, ?_⟩
    repeat refine and_o ?_
    apply hK
    exact AW.ret (FinC.iv (κ := 0) (t := 4) (k := 2) ⟨rfl, rfl⟩ (by simp) (by simp [setSeg]))
  · have q3' : ¬ sgA (decide (b1.num < 0)) (natO b1.num.natAbs) < 0 := by
      have := p3.2 (Rat.not_lt.1 h3)
      omega
    generalize sgA (decide (a1.num < 0)) (natO a1.num.natAbs) = s1 at *
    generalize sgA (decide (a2.num < 0)) (natO a2.num.natAbs) = s2 at *
    generalize sgA (decide (b1.num < 0)) (natO b1.num.natAbs) = s3 at *
    refine CallsP.enc Go.Proofs.Tryz.func12 rfl (fun lv => iv_dArg lv _ _ _ _ _ _) fun _ => AW.q ?_
    refine AW.seqK fun K hK => AW.block (AW.c1 3 g1 q1 ?_)
    refine AW.cn (AW.sr fun K1 hK1 => ?_)
    simp
    refine CallDo.p 3 9 g1 ?_
    simp [q1']
    refine CallDo.p 3 9 g2 ?_
    simp [q2]
    repeat refine and_o ?_
    apply hK1
    refine AW.cn (AW.c1 3 g3 q3' ?_)
    refine AW.cn (AW.skip (hK _ _ (AW.seqK fun K hK => ?_)))
    refine AW.drawP mixed (by kernel_rfl) rfl ?_
    simp
    refine CallDo.p 3 9 m1 ?_
    simp
    refine CallDo.p 3 9 m2 ?_
    simp
    refine CallDo.p 3 9 m3 ?_
    simp
    refine CallDo.p 3 9 m4 ?_
    simp [fill4]
    refine CallDo.frz4 (T := 30) 4 9 3 (w := u1) (x := u2) (y := u3) (z := u4) ?_ hh ?_ ?_ ?_ ?_
    · simp [numD, nC_nD]
    · simp
    · simp
    · decide
    simp
    refine ⟨by kernel_rfl, ?_⟩
    repeat refine and_o ?_
    apply hK
    exact AW.ret (FinC.iv (κ := 0) (t := 4) (k := 2) ⟨rfl, rfl⟩ (by simp) (by simp [setSeg]))

theorem iv_Mul (G : List (List DV)) (a b : Iv) (ha : a.sz 10000000) (hb : b.sz 10000000) (la : a.1 ≤ a.2) (lb : b.1 ≤ b.2) :
    CallsP Tryz.prog G 12 [ivV a, ivV b] (ivV (a.mul b)) := by
  have sn : ∀ {a : Iv}, a.sz 10000000 → a.neg.sz 10000000 := fun h => ⟨szR_neg h.2, szR_neg h.1⟩
  have ln : ∀ {a : Iv}, a.1 ≤ a.2 → a.neg.1 ≤ a.neg.2 := fun h => Rat.neg_le_neg h
  have nn : ∀ {a : Iv}, a.2 ≤ 0 → ¬ a.neg.1 < 0 := fun {a} h h' => by
    have : -a.2 < 0 := h'
    grind
  refine iv_mul_step G a b ha hb la lb (fun h1 h2 => ?_) (fun h0 h1 h2 => ?_)
  · refine iv_mul_step G a.neg b (sn ha) hb (ln la) lb (fun h3 _ => absurd h3 (nn h2)) (fun _ h4 h5 => ?_)
    exact iv_mul_step G a.neg b.neg (sn ha) (sn hb) (ln la) (ln lb) (fun h3 _ => absurd h3 (nn h2)) (fun _ h3 _ => absurd h3 (nn h5))
  · exact iv_mul_step G a b.neg ha (sn hb) la (ln lb) (fun h3 h4 => absurd ⟨h3, h4⟩ h0) (fun _ h3 _ => absurd h3 (nn h2))

/-- What Quo gives. -/
def quoI (a b : Iv) : Iv := if b.has 0 then (0, 0) else a.quo b
theorem iv_Quo (G : List (List DV)) (a b : Iv) (ha : a.sz 1000000) (hb : b.sz 1000000) (la : a.1 ≤ a.2) (lb : b.1 ≤ b.2) :
    CallsP Tryz.prog G 24 [ivV a, ivV b] (.tup [ivV (quoI a b), .c (.d (.int .i64 (if b.has 0 then 8 else 0)))]) := by
  have sz : ∀ {x : Rat}, szR x 1000000 → szR x 10000000000 := fun h => szR_mono h (by decide)
  have s1 : szR (1 : Rat) 1000000 := ⟨by show nl 1 ≤ _; rw [nl_one]; decide, by show nl 1 ≤ _; rw [nl_one]; decide⟩
  have k0 := rat_Int G 0 (by decide) (by decide)
  change CallsP _ _ _ _ (ratV (0 : Rat)) at k0
  have k1 := rat_Int G 1 (by decide) (by decide)
  change CallsP _ _ _ _ (ratV (1 : Rat)) at k1
  have k2 := iv_Has G b 0 (Iv.sz_mono hb (by decide)) (szR_zero' _ (by decide))
  by_cases h0 : b.has 0
  · rw [if_pos h0, show quoI a b = (0, 0) from if_pos h0]
    rw [decide_eq_true h0] at k2
    have bz : buildA Tryz.prog 32 [] [] = some (ivV (0, 0), [], [], True) := bIv0
    generalize hz : ((0 : Rat), (0 : Rat)) = z at *
    generalize (0 : Rat) = o at *
    refine CallsP.enc Go.Proofs.Tryz.func24 rfl (fun lv => iv_dArg2 lv _ _ _ _ _ _ _ rfl) fun _ => AW.q ?_
    refine AW.seqK fun K hK => AW.seqK fun K1 hK1 => ?_
    refine AW.drawP mixed (by kernel_rfl) rfl ?_
    simp
    refine CallDo.p 3 9 k0 ?_
    simp
    refine CallDo.p 3 9 k2 ?_
    simp
    refine ⟨by kernel_rfl, ?_⟩
    repeat refine and_o ?_
    apply hK1
    refine AW.cy (AW.f1 bz ?_)
    exact AW.ret (FinC.iv2 (κ := 0) (t := 4) (k := 2) (u := 5) ⟨rfl, rfl⟩ (by simp) (by simp [setSeg]) (by simp))
  · rw [if_neg h0, show quoI a b = a.quo b from if_neg h0]
    rw [decide_eq_false h0] at k2
    have q1 := rat_quo G 1 b.2 (sz s1) (sz hb.2)
    have q2 := rat_quo G 1 b.1 (sz s1) (sz hb.1)
    have up : ∀ {x : Rat}, szR x 1000000 → szR (1 / x) 10000000 := fun h => szR_mono (szR_div s1 h) (by decide)
    have hle : (1 : Rat) / b.2 ≤ 1 / b.1 := by
      have hs : 0 < b.1 ∨ b.2 < 0 := by
        unfold Iv.has at h0
        grind
      rw [Rat.div_def, Rat.div_def, Rat.one_mul, Rat.one_mul]
      exact inv_anti lb (by rcases hs with h | h; exact .inl h; exact .inr h)
    have q3 := iv_Mul G a (1 / b.2, 1 / b.1) (Iv.sz_mono ha (by decide)) ⟨up hb.2, up hb.1⟩ la hle
    change CallsP _ _ _ _ (ivV (a.quo b)) at q3
    generalize a.quo b = v at *
    generalize (1 : Rat) / b.2 = u1 at *
    generalize (1 : Rat) / b.1 = u2 at *
    generalize (0 : Rat) = o at *
    generalize (1 : Rat) = i at *
    refine CallsP.enc Go.Proofs.Tryz.func24 rfl (fun lv => iv_dArg2 lv _ _ _ _ _ _ _ rfl) fun _ => AW.q ?_
    refine AW.seqK fun K hK => AW.seqK fun K1 hK1 => ?_
    refine AW.drawP mixed (by kernel_rfl) rfl ?_
    simp
    refine CallDo.p 3 9 k0 ?_
    simp
    refine CallDo.p 3 9 k2 ?_
    simp
    refine ⟨by kernel_rfl, ?_⟩
    repeat refine and_o ?_
    apply hK1
    refine AW.cn (AW.skip (hK _ _ (AW.c0 3 k1 ?_)))
    refine AW.seqK fun K hK => ?_
    refine AW.drawP mixed (by kernel_rfl) rfl ?_
    simp [setSeg]
    refine CallDo.p 4 9 q1 ?_
    simp [setSeg]
    refine CallDo.p 4 9 q2 ?_
    simp [setSeg, bIv]
    refine CallDo.p 4 9 q3 ?_
    simp
    refine ⟨by kernel_rfl, ?_⟩
    repeat refine and_o ?_
    apply hK
    exact AW.ret (FinC.iv2 (κ := 0) (t := 4) (k := 2) (u := 5) ⟨rfl, rfl⟩ (by simp) (by simp [setSeg]) (by simp))

/-- A digit of a text. -/
def isDg (c : UInt8) : Bool := decide (48 ≤ c.toNat ∧ c.toNat ≤ 57)
/-- The set of the digits, as strings.Trim makes it. -/
def asc : List DV := (List.range 256).map fun c => .bool (decide (48 ≤ c ∧ c ≤ 57))
theorem asc_len : asc.length = 256 := by simp [asc]
theorem asc_drop (c : UInt8) : asc.drop c.toNat = .bool (isDg c) :: asc.drop (c.toNat + 1) := by
  have h : c.toNat < asc.length := by rw [asc_len]; exact c.toNat_lt
  rw [List.drop_eq_getElem_cons h]
  congr 1
  simp [asc, isDg]

theorem contains_ok (G : List (List DV)) (c : UInt8) : CallsP Tryz.prog G 124 [.c (.d (.ptr asc)), .c (.d (.int .u8 c.toNat))] (.c (.d (.bool (isDg c)))) := by
  have hc := c.toNat_lt
  have hl := asc_len
  have ha := asc_drop c
  refine CallsP.en Go.Proofs.Tryz.func124 rfl fun _ => AW.q ?_
  refine AW.sr fun K hK => ?_
  simp [stepIndexAddr, ha, hl]
  repeat refine and_o ?_
  apply hK
  exact AW.r0 (FinP.rt rfl 4 (by simp))

theorem trimLeft_ok (G : List (List DV)) (s : List UInt8) : CallsP Tryz.prog G 99 [.c (.d (.str s)), .c (.d (.ptr asc))] (.c (.d (.str (s.dropWhile isDg)))) := by
  refine CallsP.en Go.Proofs.Tryz.func99 rfl fun _ => AW.q ?_
  refine AW.seqK fun K hK => AW.block ?_
  refine AW.loopV (fun (p : List UInt8) => ⟨frOf [(0, .c (.d (.str p))), (1, .c (.d (.ptr asc)))], fun _ => .hole⟩) 0 (fun p => p.dropWhile isDg = s.dropWhile isDg) (fun p => p.length) s (Le.mk' _ rfl (by simp) (by simp)) rfl ?_
  rintro p hp
  refine AW.seqK fun K3 hK3 => AW.q ?_
  cases p with
  | nil =>
    refine AW.cn (AW.exit (hK _ _ (AW.q ?_)))
    have hp' : s.dropWhile isDg = [] := by rw [← hp]; rfl
    exact AW.r0 (FinP.rt rfl 4 (by simp [hp']))
  | cons c l =>
    refine AW.cy (AW.skip (hK3 _ _ (AW.block (AW.seqK fun K5 hK5 => AW.sr fun K6 hK6 => ?_))))
    simp
    refine CallDo.pure 0 9 (contains_ok _ c) (by simp) (by simp) rfl ?_
    simp
    apply hK6
    cases hd : isDg c with
    | false =>
      refine AW.fy (by rfl) (AW.exit (hK _ _ ?_))
      simp only [List.dropWhile, hd] at hp
      refine AW.q ?_
      exact AW.r0 (FinP.rt rfl 4 (by simp [hp]))
    | true =>
      refine AW.fn (by rfl) (AW.skip (hK5 _ _ (AW.rP ?_)))
      simp
      simp only [List.dropWhile, hd] at hp
      exact ⟨by omega, l, Le.mk' _ rfl (by simp) (by simp), hp, by simp⟩

/-- A text without the digits at its end. -/
def trimRD (s : List UInt8) : List UInt8 := (s.reverse.dropWhile isDg).reverse

theorem trimRight_ok (G : List (List DV)) (s : List UInt8) : CallsP Tryz.prog G 100 [.c (.d (.str s)), .c (.d (.ptr asc))] (.c (.d (.str (trimRD s)))) := by
  refine CallsS.know 0 (by simp) (fun V v h => (show s.length ≤ 9223372036854775807 by cases h.1 with | str _ hl => exact hl)) fun hr => ?_
  refine CallsP.en Go.Proofs.Tryz.func100 rfl fun _ => AW.q ?_
  refine AW.seqK fun K hK => AW.block ?_
  refine AW.loopV (fun (p : List UInt8) => ⟨frOf [(0, .c (.d (.str p))), (1, .c (.d (.ptr asc)))], fun _ => .hole⟩) 0 (fun p => p.reverse.dropWhile isDg = s.reverse.dropWhile isDg ∧ p.length ≤ s.length) (fun p => p.length) s (Le.mk' _ rfl (by simp) (by simp)) ⟨rfl, Nat.le_refl _⟩ ?_
  rintro p ⟨hp, hpl⟩
  refine AW.seqK fun K3 hK3 => AW.q ?_
  rcases List.eq_nil_or_concat p with rfl | ⟨l, c, rfl⟩
  · refine AW.cn (AW.exit (hK _ _ (AW.q ?_)))
    have hp' : trimRD s = [] := by unfold trimRD; rw [← hp]; rfl
    exact AW.r0 (FinP.rt rfl 4 (by simp [hp']))
  · rw [List.concat_eq_append] at *
    have hn : 0 < (l ++ [c]).length := by simp
    have hlen : (l ++ [c]).length = l.length + 1 := by simp
    have e2 : IntKind.i64.wrap (l.length : Int) = (l.length : Int) := w64 (by omega) (by omega)
    have hr1 : (l ++ [c]).reverse = c :: l.reverse := by simp
    rw [hr1] at hp
    refine AW.cy (AW.skip (hK3 _ _ (AW.block (AW.seqK fun K5 hK5 => AW.sr fun K6 hK6 => ?_))))
    simp [e2]
    refine ⟨by omega, ?_⟩
    refine CallDo.pure 0 9 (contains_ok _ c) (by simp) (by simp) rfl ?_
    simp
    apply hK6
    cases hd : isDg c with
    | false =>
      refine AW.fy (by rfl) (AW.exit (hK _ _ ?_))
      simp only [List.dropWhile, hd] at hp
      refine AW.q ?_
      have hp' : trimRD s = l ++ [c] := by unfold trimRD; rw [← hp]; simp
      exact AW.r0 (FinP.rt rfl 4 (by simp [hp']))
    | true =>
      refine AW.fn (by rfl) (AW.skip (hK5 _ _ (AW.rP ?_)))
      simp [e2]
      simp only [List.dropWhile, hd] at hp
      exact ⟨by omega, l, Le.mk' _ rfl (by simp) (by simp), ⟨hp, by omega⟩, by simp⟩
end Go.Am
namespace Go.Am
open Go.Proofs

theorem mkset_ok (m : Int) : CallsP Tryz.prog (GG m) 98 [.c (.d (.str [48, 49, 50, 51, 52, 53, 54, 55, 56, 57]))] (.tup [.agg (asc.map .d), .c (.d (.bool true))]) :=
  CallsP.of_ev (evA_ok m 60) (by kernel_rfl)
end Go.Am
namespace Go.Am
open Go.Am.Ty Go.Proofs N

abbrev digs : List UInt8 := [48, 49, 50, 51, 52, 53, 54, 55, 56, 57]
def trimD (s : List UInt8) : List UInt8 := (trimRD s).dropWhile isDg
def zerS : List CV := List.replicate 256 (.d (.bool false))
def ascC : List CV := asc.map .d
theorem mkset' (m : Int) : CallsP Tryz.prog (GG m) 98 [.c (.d (.str digs))] (.tup [.agg ascC, .c (.d (.bool true))]) := mkset_ok m
theorem mksetP : (AV.tup [.agg ascC, .c (.d (.bool true))]).pure = true := by kernel_rfl
abbrev lvS : Key → LB := upd (fun _ => LB.hole) 0 (.cells true false 130 ascC)
theorem dargS (s : List UInt8) : dArgs lvS [.c (.d (.str s)), .c (.ptr 0 0)] = some ([.c (.d (.str s)), .c (.d (.ptr asc))], [0]) := by kernel_rfl
theorem rdaS : rdA lvS (.c (.ptr 0 0)) = [0] := by kernel_rfl
theorem rdS (s : List UInt8) : ∀ a ∈ [AV.c (.d (.str s)), AV.c (.ptr 0 0)], ∀ k ∈ rdA lvS a, k ∈ [0] := by
  intro a ha k hk
  simp only [List.mem_cons, List.not_mem_nil, or_false] at ha
  rcases ha with rfl | rfl
  · cases hk
  · rw [rdaS] at hk; exact hk
theorem zcS : zcells Tryz.prog 130 = some zerS := by kernel_rfl
theorem alS : allocA Tryz.prog 130 (fun _ => .hole) 0 = some (.c (.ptr 0 0), [(0, .cells true false 130 (List.replicate 256 (.d (.bool false))))], [], True) := by kernel_rfl
theorem stS : stepStore Tryz.prog 130 (upd (fun _ => .hole) 0 (.cells true false 130 zerS)) (.c (.ptr 0 0)) (.agg ascC) = some (.undef, [(0, .cells true false 130 ascC)], [], True) := by
  have hl : ascC.length = 256 := by unfold ascC; simp [asc_len]
  have hz : zerS.length = 256 := List.length_replicate
  have hs : setSeg zerS 0 ascC = ascC := by
    unfold setSeg; rw [hl, List.take_zero, List.nil_append, Nat.zero_add, List.drop_eq_nil_of_le (Nat.le_of_eq hz), List.append_nil]
  simp_all

theorem CallDo.flat {c : Ctx} {f : FuncId} {xs us : List AV} {ks rds : List Key} {x : AV} {lv : Key → LB} {K : AV → List (Key × LB) → List Key → Nat → Prop} (κ : Nat) (ha : dArgs lv xs = some (us, ks)) (hc : CallsP c.P c.G f us x) (hx : x.flat = true)
    (hr : ∀ a ∈ xs, ∀ k ∈ rdA lv a, k ∈ rds) (hK : K x [] rds κ) : CallDo c f xs lv K := ⟨x, [], rds, κ, CallEff.flat us ks rds x ha hc hx hr, hK⟩

theorem eqEmpty (s : List UInt8) : stepBin Tryz.prog .eql 9 (.c (.d (.str s))) (.c (.d (.str []))) = some (.c (.d (.bool (decide (s = [])))), [], [], True) := by
  cases s with
  | nil => kernel_rfl
  | cons a l => rfl

theorem trim_ok (m : Int) (s : List UInt8) : CallsP Tryz.prog (GG m) 70 [.c (.d (.str s)), .c (.d (.str digs))] (.c (.d (.str (trimD s)))) := by
  refine CallsP.en Go.Proofs.Tryz.func70 rfl fun _ => AW.q ?_
  refine AW.seqK fun K hK => AW.seqK fun K1 hK1 => ?_
  by_cases hs : s = []
  · refine AW.l2 @eqEmpty hs (hK1 _ _ ?_)
    refine AW.cy (AW.q ?_)
    exact AW.r0 (FinP.rt rfl 4 (by simp [hs, trimD, trimRD]))
  refine AW.l2 @eqEmpty hs (hK1 _ _ ?_)
  refine AW.cn (AW.skip (hK _ _ (AW.seqK fun K hK => AW.q ?_)))
  refine AW.cn (AW.skip (hK _ _ (AW.seqK fun K hK => AW.sr fun K1 hK1 => ?_)))
  simp
  refine CallDo.pure 0 9 (mkset' m) mksetP (by simp) rfl ?_
  simp [zcS, stS, -stepStore]
  apply hK1
  refine AW.q ?_
  refine AW.cy (AW.sr fun K1 hK1 => ?_)
  simp
  refine CallDo.flat 2 (us := [.c (.d (.str s)), .c (.d (.ptr asc))]) (ks := [0]) (rds := [0]) (dargS s) (trimRight_ok _ s) rfl (rdS s) ?_
  simp
  refine CallDo.flat 2 (us := [.c (.d (.str (trimRD s))), .c (.d (.ptr asc))]) (ks := [0]) (rds := [0]) (dargS _) (trimLeft_ok _ (trimRD s)) rfl (rdS _) ?_
  simp
  apply hK1
  exact AW.r0 (FinP.rt rfl 9 (by rfl))

theorem beqD (s t : List UInt8) : (s == t) = decide (s = t) := by
  grind
theorem eqStr (s t : List UInt8) : stepBin Tryz.prog .eql 9 (.c (.d (.str s))) (.c (.d (.str t))) = some (.c (.d (.bool (decide (s = t)))), [], [], True) := by
  rw [← beqD]; rfl
theorem neStr (s t : List UInt8) : stepBin Tryz.prog .neq 9 (.c (.d (.str s))) (.c (.d (.str t))) = some (.c (.d (.bool (!decide (s = t)))), [], [], True) := by
  rw [← beqD]; rfl

/-- A row of digits without leading zeros. -/
def rowB (s : List UInt8) : Bool := !decide (s = []) && decide (trimD s = []) && (decide (s = [48]) || !decide (s.getD 0 0 = 48))

theorem row_ok (m : Int) (s : List UInt8) : CallsP Tryz.prog (GG m) 54 [.c (.d (.str s))] (.c (.d (.bool (rowB s)))) := by
  refine CallsP.en Go.Proofs.Tryz.func54 rfl fun _ => AW.q ?_
  refine AW.seqK fun K hK => ?_
  cases s with
  | nil =>
    refine AW.l1 @neStr (hK _ _ ?_)
    exact AW.r0 (FinP.rt rfl 2 (by simp [rowB]))
  | cons a l =>
    refine AW.rP ?_
    simp [neStr]
    refine CallDo.pure 0 9 (trim_ok m (a :: l)) (by simp) (by simp) rfl ?_
    by_cases ht : trimD (a :: l) = []
    · by_cases h0 : a :: l = [48]
      · have ht' : trimD [48] = [] := h0 ▸ ht
        simp [eqStr, h0, ht']
        apply hK
        exact AW.r0 (FinP.rt rfl 2 (by simp [rowB, h0, ht']))
      · simp [eqStr, ht, h0]
        apply hK
        have ha : ((a.toNat : Int) = 48) ↔ a = 48 := by
          constructor
          · intro h; exact UInt8.toNat_inj.1 (by grind)
          · simp_all
        have hr : rowB (a :: l) = !decide ((a.toNat : Int) = 48) := by
          have h1 : decide ((a.toNat : Int) = 48) = decide (a = 48) := by simp only [ha]
          rw [h1]
          simp [rowB, ht, h0]
        exact AW.r0 (FinP.rt rfl 2 (by simp [hr]))
    · simp [eqStr, ht]
      apply hK
      exact AW.r0 (FinP.rt rfl 2 (by simp [rowB, ht]))

def hpB (s p : List UInt8) : Bool := decide (p.length ≤ s.length) && decide (s.take p.length = p)
def cpS (s p : List UInt8) : List UInt8 := if hpB s p = true then s.drop p.length else s
theorem strRng {V : Vw} {v : Value} {s : List UInt8} (h : V.av v (.c (.d (.str s)))) : s.length ≤ 9223372036854775807 := by
  cases h.1 with | str _ hl => exact hl

theorem hasPrefix_ok (G : List (List DV)) (s p : List UInt8) : CallsP Tryz.prog G 94 [.c (.d (.str s)), .c (.d (.str p))] (.c (.d (.bool (hpB s p)))) := by
  refine CallsP.en Go.Proofs.Tryz.func94 rfl fun _ => AW.q ?_
  refine AW.seqK fun K hK => ?_
  by_cases h : p.length ≤ s.length
  · have h' : (p.length : Int) ≤ (s.length : Int) := by omega
    refine AW.l3 @eqStr h h' (hK _ _ ?_)
    exact AW.r0 (FinP.rt rfl 4 (by simp [hpB, h]))
  · have h' : ¬ (p.length : Int) ≤ (s.length : Int) := by omega
    refine AW.l3 @eqStr h h' (hK _ _ ?_)
    exact AW.r0 (FinP.rt rfl 4 (by simp [hpB, h]))

theorem cutPrefix0_ok (G : List (List DV)) (s p : List UInt8) : CallsP Tryz.prog G 68 [.c (.d (.str s)), .c (.d (.str p))] (.tup [.c (.d (.str (cpS s p))), .c (.d (.bool (hpB s p)))]) := by
  refine CallsP.en Go.Proofs.Tryz.func68 rfl fun _ => AW.q ?_
  refine AW.seqK fun K hK => AW.sr fun K1 hK1 => ?_
  simp
  refine CallDo.pure 0 9 (hasPrefix_ok _ s p) (by simp) (by simp) rfl ?_
  simp
  apply hK1
  by_cases h : hpB s p = true
  · refine AW.fn (by simp_all) (AW.skip (hK _ _ (AW.seqK fun K hK => ?_)))
    have hl : p.length ≤ s.length := by
      unfold hpB at h; simp only [Bool.and_eq_true, decide_eq_true_eq] at h; exact h.1
    refine AW.l1 hl (hK _ _ ?_)
    exact AW.r0 (FinP.t2 rfl 5 (by simp [cpS, h]) (by simp [h]))
  · refine AW.fy (by simp_all) (AW.q ?_)
    exact AW.r0 (FinP.t2 rfl 5 (by simp [cpS, h]) (by simp [h]))

theorem cutPrefix_ok (G : List (List DV)) (s p : List UInt8) : CallsP Tryz.prog G 52 [.c (.d (.str s)), .c (.d (.str p))] (.tup [.c (.d (.str (cpS s p))), .c (.d (.bool (hpB s p)))]) := by
  refine CallsP.en Go.Proofs.Tryz.func52 rfl fun _ => AW.q ?_
  refine AW.sr fun K hK => ?_
  simp
  refine CallDo.pure 0 9 (cutPrefix0_ok _ s p) rfl (by simp) rfl ?_
  simp
  apply hK
  exact AW.r0 (FinP.t2 rfl 6 (by simp) (by simp))

theorem FinP.tmp3 {c : Ctx} {fn : Func} {x y z : AV} {t u v : Nat} {s : LSt} {κ : Nat} (hr : fn.results = #[.tmp t, .tmp u, .tmp v]) (kh : Key) (hx : s.fr t = x) (hy : s.fr u = y) (hz : s.fr v = z) (hp : x.pure = true) (hq : y.pure = true) (hw : z.pure = true) (hh : s.lv kh = .hole)
    (hn : x.noTup = true) (hm : y.noTup = true) (hl : z.noTup = true) (htu : t ≠ u) (htv : t ≠ v) (huv : u ≠ v) : FinP c fn (.tup [x, y, z]) .ret s κ := by
  refine ⟨[(t, x), (u, y), (v, z)], kh, by grind, hh, ?_⟩
  rw [hr]
  have h1 : ¬ u = t := fun h => htu h.symm
  have h2 : ¬ v = t := fun h => htv h.symm
  have h3 : ¬ v = u := fun h => huv h.symm
  simp [resA, resL, resV, frOf, h1, h2, h3, hn, hm, hl]
theorem FinP.t3 {c : Ctx} {fn : Func} {x y z : AV} {t u v : Nat} {s : LSt} (hr : fn.results = #[.tmp t, .tmp u, .tmp v]) (kh : Key) (hx : s.fr t = x := by simp) (hy : s.fr u = y := by simp) (hz : s.fr v = z := by simp) (hp : x.pure = true := by first | rfl | simp) (hq : y.pure = true := by first | rfl | simp) (hw : z.pure = true := by first | rfl | simp)
    (hh : s.lv kh = .hole := by first | rfl | simp) (h1 : x.noTup = true := by first | rfl | simp) (h2 : y.noTup = true := by first | rfl | simp) (h3 : z.noTup = true := by first | rfl | simp) (d1 : t ≠ u := by decide) (d2 : t ≠ v := by decide) (d3 : u ≠ v := by decide) : FinP c fn (.tup [x, y, z]) .ret s 0 := FinP.tmp3 hr kh hx hy hz hp hq hw hh h1 h2 h3 d1 d2 d3

/-- What strings.Cut gives. -/
def ctI (s t : List UInt8) : Int := Lib.index s t
def ctA (s t : List UInt8) : List UInt8 := if 0 ≤ ctI s t then s.take (ctI s t).toNat else s
def ctB (s t : List UInt8) : List UInt8 := if 0 ≤ ctI s t then s.drop ((ctI s t).toNat + t.length) else []

theorem index_ok (m : Int) (s t : List UInt8) (h : s.length < 4294967281) : CallsP Tryz.prog (GG m) 95 [.c (.d (.str s)), .c (.d (.str t))] (.c (.d (.int .i64 (ctI s t)))) := by
  have hb : Nat.blt s.length 4294967281 = true := by rw [Nat.blt_eq]; exact h
  have hg : gIndex [.c (.d (.str s)), .c (.d (.str t))] = some (.c (.d (.int .i64 (ctI s t)))) := by
    show (bif Nat.blt s.length 4294967281 then some (AV.c (.d (.int .i64 (optI (idxK t s 0))))) else none) = _
    rw [hb, ctI, idxK_index]; rfl
  exact CallsP.of_CallG (X := .c (.d (.int .i64 (ctI s t)))) (lv' := fun _ => .hole) (ks := []) (gIndex_ok m hg _) rfl

/-! ### a separator of one byte, strings of any length -/

theorem index_lt (s t : List UInt8) (h : s.length ≤ 9223372036854775807) : -9223372036854775808 ≤ Lib.index s t ∧ Lib.index s t ≤ 9223372036854775807 := by
  have h1 := Lib.index_ge s t
  have h2 : Lib.index s t ≤ s.length := by
    clear h h1
    induction s with
    | nil => simp only [Lib.index]; omega
    | cons a s ih =>
      simp only [Lib.index]
      grind
  omega
theorem indexB_ok (G : List (List DV)) (s : List UInt8) (c : Nat) (hc : c < 256) : CallsP Tryz.prog G 120 [.c (.d (.str s)), .c (.d (.int .u8 (c : Int)))] (.c (.d (.int .i64 (ctI s [UInt8.ofNat c])))) := by
  refine CallsS.know 0 (by simp) (fun V v h => (show s.length ≤ 9223372036854775807 by cases h.1 with | str _ hl => exact hl)) fun hs => ?_
  refine CallsP.of_CallG (X := .c (.d (.int .i64 (ctI s [UInt8.ofNat c])))) (lv' := fun _ => .hole) (ks := []) ?_ rfl
  refine CallG.of_same (by rfl) fun F β w vs hS hl hv => ?_
  obtain ⟨u, v, rfl, hu, hv⟩ := args2 hl hv
  have := Tryz.stringslite_IndexByte ⟨s.toArray⟩ c w
  refine ⟨.int .i64 (ctI s [UInt8.ofNat c]), av_int (index_lt s _ hs), ?_⟩
  rw [Vw.c_str hu, Vw.c_int hv]
  simpa [ctI, ← index_one] using this
theorem idx_self (c : UInt8) : ctI [c] [c] = 0 := by simp [ctI, Lib.index, List.isPrefixOf]
theorem index1_ok (G : List (List DV)) (s : List UInt8) (c : UInt8) : CallsP Tryz.prog G 95 [.c (.d (.str s)), .c (.d (.str [c]))] (.c (.d (.int .i64 (ctI s [c])))) := by
  have hb := indexB_ok G s c.toNat c.toNat_lt
  rw [show UInt8.ofNat c.toNat = c from UInt8.ofNat_toNat] at hb
  refine CallsP.en Go.Proofs.Tryz.func95 rfl fun _ => AW.q ?_
  refine AW.q ?_
  refine AW.seqK fun K hK => AW.block (AW.seqK fun K1 hK1 => ?_)
  by_cases hs : [c] = s
  · have h0 : ctI s [c] = 0 := by rw [← hs]; exact idx_self c
    refine AW.l2 @eqStr hs (hK1 _ _ ?_)
    refine AW.cy (AW.q ?_)
    exact AW.r0 (FinP.rt rfl 4 (by simp [h0]))
  · refine AW.l2 @eqStr hs (hK1 _ _ ?_)
    refine AW.cn (AW.q ?_)
    refine AW.cy (AW.sr fun K1 hK1 => ?_)
    simp
    refine CallDo.pure 0 9 hb (by simp) (by simp) rfl ?_
    simp
    apply hK1
    exact AW.r0 (FinP.rt rfl 4 (by simp))

theorem cutA0_ok (m : Int) (s t : List UInt8) (h : s.length ≤ 9223372036854775807) (hix : CallsP Tryz.prog (GG m) 95 [.c (.d (.str s)), .c (.d (.str t))] (.c (.d (.int .i64 (ctI s t))))) : CallsP Tryz.prog (GG m) 69 [.c (.d (.str s)), .c (.d (.str t))] (.tup [.c (.d (.str (ctA s t))), .c (.d (.str (ctB s t))), .c (.d (.bool (decide (0 ≤ ctI s t))))]) := by
  refine CallsP.en Go.Proofs.Tryz.func69 rfl fun _ => AW.q ?_
  refine AW.seqK fun K hK => AW.sr fun K1 hK1 => ?_
  simp
  refine CallDo.pure 0 9 hix (by simp) (by simp) rfl ?_
  simp
  apply hK1
  refine AW.q ?_
  by_cases hi : 0 ≤ ctI s t
  · refine AW.fy (by simp_all) ?_
    obtain ⟨n, hn⟩ : ∃ n : Nat, ctI s t = n := ⟨(ctI s t).toNat, (Int.toNat_of_nonneg hi).symm⟩
    have hr := Lib.index_room s t (by unfold ctI at hi; exact hi)
    have hr' : n + t.length ≤ s.length := by unfold ctI at hn; rw [hn] at hr; omega
    have hw : IntKind.i64.wrap ((n : Int) + t.length) = ((n + t.length : Nat) : Int) := by rw [w64 (by omega) (by omega)]; omega
    have hn1 : n ≤ s.length := by omega
    refine AW.seqK fun K1 hK1 => ?_
    refine AW.drawQ mixed (by kernel_rfl) rfl rfl ?_
    simp [hn, hw, hn1, hr', -Int.natCast_add]
    apply hK1
    exact AW.r0 (FinP.t3 rfl 9 (by simp [ctA, hn]) (by simp [ctB, hn]) (by simp [hn]))
  · refine AW.fn (by simp_all) (AW.skip (hK _ _ (AW.q ?_)))
    exact AW.r0 (FinP.t3 rfl 9 (by simp [ctA, hi]) (by simp [ctB, hi]) (by simp [hi]))

theorem cutA_ok (m : Int) (s t : List UInt8) (h : s.length ≤ 9223372036854775807) (hix : CallsP Tryz.prog (GG m) 95 [.c (.d (.str s)), .c (.d (.str t))] (.c (.d (.int .i64 (ctI s t))))) : CallsP Tryz.prog (GG m) 53 [.c (.d (.str s)), .c (.d (.str t))] (.tup [.c (.d (.str (ctA s t))), .c (.d (.str (ctB s t))), .c (.d (.bool (decide (0 ≤ ctI s t))))]) := by
  refine CallsP.en Go.Proofs.Tryz.func53 rfl fun _ => AW.q ?_
  refine AW.sr fun K hK => ?_
  simp
  refine CallDo.pure 0 9 (cutA0_ok m s t h hix) rfl (by simp) rfl ?_
  simp
  apply hK
  exact AW.r0 (FinP.t3 rfl 9 (by simp) (by simp) (by simp))
theorem cut_ok (m : Int) (s t : List UInt8) (h : s.length < 4294967281) : CallsP Tryz.prog (GG m) 53 [.c (.d (.str s)), .c (.d (.str t))] (.tup [.c (.d (.str (ctA s t))), .c (.d (.str (ctB s t))), .c (.d (.bool (decide (0 ≤ ctI s t))))]) :=
  cutA_ok m s t (by omega) (index_ok m s t h)
theorem cut1_ok (m : Int) (s : List UInt8) (c : UInt8) : CallsP Tryz.prog (GG m) 53 [.c (.d (.str s)), .c (.d (.str [c]))] (.tup [.c (.d (.str (ctA s [c]))), .c (.d (.str (ctB s [c]))), .c (.d (.bool (decide (0 ≤ ctI s [c]))))]) := by
  refine CallsS.know 0 (by simp) (fun V v h => (show s.length ≤ 9223372036854775807 by cases h.1 with | str _ hl => exact hl)) fun hs => ?_
  exact cutA_ok m s [c] hs (index1_ok (GG m) s c)

theorem dw_nil {p : UInt8 → Bool} : ∀ {l : List UInt8}, l.dropWhile p = [] → ∀ x ∈ l, p x = true
  | [], _, x, hx => by cases hx
  | a :: l, h, x, hx => by
    simp only [List.dropWhile] at h
    split at h
    · rename_i ha
      rcases List.mem_cons.1 hx with rfl | hx
      · exact ha
      · exact dw_nil h x hx
    grind
theorem trimD_nil {s : List UInt8} (h : trimD s = []) : isD s := by
  have h1 : ∀ x ∈ trimRD s, isDg x = true := dw_nil h
  have h2 : ∀ x ∈ s.reverse.dropWhile isDg, isDg x = true := fun x hx => h1 x (by unfold trimRD; grind)
  have h3 : ∀ x ∈ s.reverse, isDg x = true := by
    intro x hx
    rw [← List.takeWhile_append_dropWhile (p := isDg) (l := s.reverse), List.mem_append] at hx
    rcases hx with hx | hx
    · have := List.all_takeWhile (p := isDg) (l := s.reverse)
      grind
    · grind
  intro c hc
  have := h3 c (List.mem_reverse.2 hc)
  simpa [isDg] using this
theorem rowB_d {s : List UInt8} (h : rowB s = true) : isD s ∧ s ≠ [] := by
  unfold rowB at h
  simp only [Bool.and_eq_true, Bool.not_eq_true', decide_eq_false_iff_not, decide_eq_true_eq] at h
  exact ⟨trimD_nil h.1.2, h.1.1⟩

abbrev nm0 : AV := nmA false none none
def badB (neg : Bool) (top bot : List UInt8) (brk : Bool) : Bool := !rowB top || (neg && decide (top = [48])) || (brk && (!rowB bot || decide (bot = [48]) || decide (bot = [49])))
abbrev rdO (s : List UInt8) : Option (List Nat) := some (dig 4294967296 (decN s 0))
def parseR (neg : Bool) (top bot : List UInt8) (brk : Bool) : AV :=
  if badB neg top bot brk = true then .tup [nm0, .c (.d (.int .i64 6))]
  else if 2000 < max top.length bot.length then .tup [nm0, .c (.d (.int .i64 3))]
  else if brk = false then .tup [madeA neg (rdO top) (some (dig 4294967296 1)), .c (.d (.int .i64 0))]
  else if val 4294967296 (dO (gO (rdO top) (rdO bot))) = 1 then .tup [nmA neg (rdO top) (rdO bot), .c (.d (.int .i64 0))]
  else .tup [nm0, .c (.d (.int .i64 6))]
theorem parseR_dRes (lv : Key → LB) (neg : Bool) (top bot : List UInt8) (brk : Bool) : dRes lv (parseR neg top bot brk) = some (parseR neg top bot brk, []) := by
  have h1 : ∀ b p q n, dRes lv (.tup [nmA b p q, .c (.d (.int .i64 n))]) = some (.tup [nmA b p q, .c (.d (.int .i64 n))], []) := by
    intro b p q n; cases p <;> cases q <;> rfl
  unfold parseR madeA
  grind
theorem read_row (G : List (List DV)) {s : List UInt8} (h : rowB s = true) (hl : s.length ≤ 2000) : CallsP Tryz.prog G 55 [.c (.d (.str s))] (.c (nC (rdO s))) := by
  obtain ⟨h1, h2⟩ := rowB_d h
  have := exact_read_ok G s h1 (by omega)
  have e : oO (!s.isEmpty) (decN s 0) = rdO s := by
    cases s with
    | nil => grind
    | cons a l => rfl
  rw [e, nK_nC] at this
  omega

theorem parse_ok (m : Int) (r : List UInt8) :
    CallsP Tryz.prog (GG m) 28 [.c (.d (.str r))] (parseR (hpB r [45]) (ctA (cpS r [45]) [47]) (ctB (cpS r [45]) [47]) (decide (0 ≤ ctI (cpS r [45]) [47]))) := by
  refine CallsS.know 0 (by simp) (fun V v h => (show r.length ≤ 9223372036854775807 by cases h.1 with | str _ hl => exact hl)) fun hr => ?_
  have hcl : (cpS r [45]).length ≤ 9223372036854775807 := by
    unfold cpS; split
    · grind
    · exact hr
  have hcp := cutPrefix_ok (GG m) r [45]
  have hct := cut1_ok m (cpS r [45]) 47
  have hta : (ctA (cpS r [45]) [47]).length ≤ 9223372036854775807 := by
    unfold ctA; split
    · grind
    · omega
  have htb : (ctB (cpS r [45]) [47]).length ≤ 9223372036854775807 := by
    unfold ctB; split
    · grind
    · simp
  generalize hpB r [45] = neg at *
  generalize cpS r [45] = s at *
  generalize ctA s [47] = top at *
  generalize ctB s [47] = bot at *
  generalize decide (0 ≤ ctI s [47]) = brk at *
  refine CallsP.enc Go.Proofs.Tryz.func28 rfl (fun lv => parseR_dRes lv _ _ _ _) fun _ => AW.q ?_
  refine AW.sr fun K hK => ?_
  simp
  refine CallDo.pure 1 9 hcp rfl (by simp) (by simp) ?_
  simp
  apply hK
  refine AW.sr fun K hK => ?_
  simp
  refine CallDo.pure 1 9 hct rfl (by simp) (by simp) ?_
  simp
  apply hK
  refine AW.seqK fun K hK => AW.block (AW.seqK fun K1 hK1 => ?_)
  have row1 := row_ok m top
  have row2 := row_ok m bot
  have hbad : ∀ (fr : Nat → AV) (κ : Nat), fr 2 = .c (.ptr 0 0) → fr 22 = .c (.d (.bool true)) → badB neg top bot brk = true →
      K1 ⟨fr, upd (fun _ => .hole) 0 (.cells true false 30 [.d (.bool false), .d .nilsl, .d .nilsl])⟩ κ := by
    intro fr κ z2 z22 hb
    apply hK1
    refine AW.fy (by simp_all) (AW.f2 z2 @bNum0 ?_)
    refine AW.ret ?_
    simp only [parseR, if_pos hb]
    refine FinC.cell2 (κ := 0) (T := 30) (t := 2) (u := 3) (k := 0) (off := 0) (own := true) (fz := false) (U := 30) (cs := [.d (.bool false), .d .nilsl, .d .nilsl]) rfl ?_ ?_ ?_ ?_ rfl rfl
    · simp [z2]
    · rfl
    · rfl
    · simp
  have hgood : ∀ (fr : Nat → AV) (κ : Nat), fr 2 = .c (.ptr 0 0) → fr 5 = .c (.d (.bool neg)) → fr 6 = .c (.d (.str top)) → fr 7 = .c (.d (.str bot)) → fr 8 = .c (.d (.bool brk)) → fr 22 = .c (.d (.bool false)) →
      rowB top = true → (brk = true → rowB bot = true) → badB neg top bot brk = false →
      K1 ⟨fr, upd (fun _ => .hole) 0 (.cells true false 30 [.d (.bool false), .d .nilsl, .d .nilsl])⟩ κ := by
    intro fr κ z2 z5 z6 z7 z8 z22 g1 g2 hb
    apply hK1
    refine AW.fn (by simp_all) (AW.seqK fun K2 hK2 => ?_)
    have hmx : ∀ (a b : Nat), (List.foldl (fun a b : Int => if a < b then b else a) (a : Int) [(b : Int)]) = ((max a b : Nat) : Int) := by
      intro a b; simp only [List.foldl]; split <;> omega
    refine AW.rP ?_
    simp [z6, z7, intsOf, hmx, -List.foldl_cons, -List.foldl_nil]
    apply hK2
    have hbf : ¬ badB neg top bot brk = true := by rw [hb]; decide
    by_cases hl : 2000 < max top.length bot.length
    · have hl' : (2000 : Int) < ((max top.length bot.length : Nat) : Int) := by omega
      refine AW.fy (by simp_all) (AW.f2 z2 @bNum0 ?_)
      refine AW.ret ?_
      simp only [parseR, if_neg hbf, if_pos hl]
      refine FinC.cell2 (κ := 0) (T := 30) (t := 2) (u := 3) (k := 0) (off := 0) (own := true) (fz := false) (U := 30) (cs := [.d (.bool false), .d .nilsl, .d .nilsl]) rfl ?_ ?_ ?_ ?_ rfl rfl
      · simp [z2]
      · rfl
      · rfl
      · simp
    have hl' : ¬ (2000 : Int) < ((max top.length bot.length : Nat) : Int) := by omega
    refine AW.fn (by simp_all) (AW.skip (hK _ _ ?_))
    have ht2 : top.length ≤ 2000 := by omega
    have hb2 : bot.length ≤ 2000 := by omega
    have rd1 := read_row (GG m) g1 ht2
    have hof := exact_of_ok (GG m) 1 (by decide)
    have c1 : can 4294967296 (dO (rdO top)) := dig_can (by decide) _
    have c2 : can 4294967296 (dO (some (dig 4294967296 1))) := dig_can (by decide) _
    have dlen : ∀ (u : List UInt8), isD u → u.length ≤ 2000 → (dO (rdO u)).length < 1000000000000 := by
      intro u hu hlu
      have h1 := decN_lt hu
      have h2 : (10 : Nat) ^ u.length ≤ 4294967296 ^ u.length := Nat.pow_le_pow_left (by decide) _
      have := dig_len_le (B := 4294967296) (n := decN u 0) (m := u.length) (by decide) (by omega)
      simp only [dO_some]
      omega
    have l1 := dlen top (rowB_d g1).1 ht2
    have l2 : (dO (some (dig 4294967296 1))).length < 1000000000000 := Nat.lt_of_le_of_lt (dig_len_le (m := 1) (by decide) (by decide)) (by decide)
    refine AW.seqK fun K3 hK3 => AW.f1 z8 ?_
    cases hk : brk with
    | false =>
      rw [hk] at hbf
      have hmade := exact_made_ok (GG m) neg (rdO top) (some (dig 4294967296 1)) c1 c2 (by intro h; exact absurd ((dig_nil (by decide)).1 h) (by decide)) l1 l2
      simp only [nK_nC] at hmade hof
      refine AW.cy (AW.sr fun K4 hK4 => ?_)
      simp [z5, z6]
      refine CallDo.pure κ 9 rd1 (by simp) (by simp) (by simp) ?_
      simp
      refine CallDo.pure κ 9 hof (by simp) (by simp) (by simp) ?_
      simp
      by_cases hz : dO (rdO top) = []
      · simp only [madeA, if_pos hz] at hmade
        refine CallDo.pure κ 9 hmade (by simp) (by simp) (by simp) ?_
        simp [z2]
        apply hK4
        refine AW.ret ?_
        simp only [parseR, if_neg hbf, if_neg hl, reduceIte, madeA, if_pos hz]
        refine FinC.cell2 (κ := 0) (T := 30) (t := 2) (u := 3) (k := 0) (off := 0) (own := true) (fz := false) (U := 30) (cs := [.d (.bool false), nC none, nC none]) rfl ?_ ?_ ?_ ?_ rfl rfl
        · simp [z2]
        · rfl
        · rfl
        · simp
      · simp only [madeA, if_neg hz] at hmade
        refine CallDo.pure κ 9 hmade (by simp) (by simp) (by simp) ?_
        simp [z2]
        apply hK4
        refine AW.ret ?_
        simp only [parseR, if_neg hbf, if_neg hl, reduceIte, madeA, if_neg hz]
        refine FinC.cell2 (κ := 0) (T := 30) (t := 2) (u := 3) (k := 0) (off := 0) (own := true) (fz := false) (U := 30) (cs := [.d (.bool neg), nC (mP (rdO top) (some (dig 4294967296 1))), nC (mQ (rdO top) (some (dig 4294967296 1)))]) rfl ?_ ?_ ?_ ?_ rfl rfl
        · simp [z2]
        · rfl
        · rfl
        · simp
    | true =>
      rw [hk] at hbf
      have g3 := g2 hk
      have rd2 := read_row (GG m) g3 hb2
      have c3 : can 4294967296 (dO (rdO bot)) := dig_can (by decide) _
      have l3 := dlen bot (rowB_d g3).1 hb2
      have hgcd := exact_gcd_ok (GG m) (rdO top) (rdO bot) c1 c3 l1 l3
      have his := exact_is1_ok (GG m) (gO (rdO top) (rdO bot)) (by unfold gO; rw [gcdO_d c1 c3]; exact dig_can (by decide) _)
      change CallsP _ _ 57 _ (nK .u32 (gO (rdO top) (rdO bot))) at hgcd
      simp only [nK_nC] at hgcd his
      refine AW.cn (AW.skip (hK3 _ _ (AW.sr fun K4 hK4 => ?_)))
      simp [z6]
      refine CallDo.pure κ 9 rd1 (by simp) (by simp) (by simp) ?_
      simp [z7]
      refine CallDo.pure κ 9 rd2 (by simp) (by simp) (by simp) ?_
      simp
      apply hK4
      refine AW.seqK fun K4 hK4 => AW.sr fun K5 hK5 => ?_
      simp
      refine CallDo.pure κ 9 hgcd (by simp) (by simp) (by simp) ?_
      simp
      refine CallDo.pure κ 9 his (by simp) (by simp) (by simp) ?_
      simp
      apply hK5
      by_cases h1 : val 4294967296 (dO (gO (rdO top) (rdO bot))) = 1
      · refine AW.fn (by simp_all) (AW.skip (hK4 _ _ (AW.f3 z2 z5 @bNum ?_)))
        refine AW.ret ?_
        have hp : parseR neg top bot brk = .tup [nmA neg (rdO top) (rdO bot), .c (.d (.int .i64 0))] := by rw [hk]; unfold parseR; rw [if_neg hbf, if_neg hl, if_neg (by decide), if_pos h1]
        rw [hp]
        refine FinC.cell2 (κ := 0) (T := 30) (t := 2) (u := 3) (k := 0) (off := 0) (own := true) (fz := false) (U := 30) (cs := [.d (.bool neg), nC (rdO top), nC (rdO bot)]) rfl ?_ ?_ ?_ ?_ rfl rfl
        · simp [z2]
        · rfl
        · rfl
        · simp
      · refine AW.fy (by simp_all) (AW.f2 z2 @bNum0 ?_)
        refine AW.ret ?_
        have hp : parseR neg top bot brk = .tup [nm0, .c (.d (.int .i64 6))] := by rw [hk]; unfold parseR; rw [if_neg hbf, if_neg hl, if_neg (by decide), if_neg h1]
        rw [hp]
        refine FinC.cell2 (κ := 0) (T := 30) (t := 2) (u := 3) (k := 0) (off := 0) (own := true) (fz := false) (U := 30) (cs := [.d (.bool false), .d .nilsl, .d .nilsl]) rfl ?_ ?_ ?_ ?_ rfl rfl
        · simp [z2]
        · rfl
        · rfl
        · simp
  refine AW.rP ?_
  simp
  refine CallDo.pure 1 9 row1 (by simp) (by simp) (by simp) ?_
  cases g1 : rowB top with
  | false =>
    simp
    exact hbad _ _ (by simp) (by simp) (by simp [badB, g1])
  | true =>
    cases hn : neg with
    | true =>
      by_cases h48 : top = [48]
      · have e48 : decide (top = [48]) = true := decide_eq_true h48
        simp [eqStr, e48]
        exact hbad _ _ (by simp) (by simp) (by simp [badB, hn, h48])
      · cases hk : brk with
        | false =>
          simp [eqStr, h48]
          exact hgood _ _ (by simp) (by simp [hn]) (by simp) (by simp) (by simp [hk]) (by simp) g1 (fun h => by grind) (by simp [badB, g1, hn, h48, hk])
        | true =>
          simp [eqStr, h48]
          refine CallDo.pure 1 9 row2 (by simp) (by simp) (by simp) ?_
          cases g2 : rowB bot with
          | false =>
            simp
            exact hbad _ _ (by simp) (by simp) (by simp [badB, g2, hk])
          | true =>
            by_cases b48 : bot = [48]
            · have e : decide (bot = [48]) = true := decide_eq_true b48
              simp [eqStr, e]
              exact hbad _ _ (by simp) (by simp) (by simp [badB, e, hk])
            · by_cases b49 : bot = [49]
              · have e : decide (bot = [49]) = true := decide_eq_true b49
                simp [eqStr, b48, e]
                exact hbad _ _ (by simp) (by simp) (by simp [badB, e, hk])
              · simp [eqStr, b48, b49]
                exact hgood _ _ (by simp) (by simp [hn]) (by simp) (by simp) (by simp [hk]) (by simp) g1 (fun _ => g2) (by simp [badB, g1, hn, h48, hk, g2, b48, b49])
    | false =>
      cases hk : brk with
      | false =>
        simp
        exact hgood _ _ (by simp) (by simp [hn]) (by simp) (by simp) (by simp [hk]) (by simp) g1 (fun h => by grind) (by simp [badB, g1, hn, hk])
      | true =>
        simp
        refine CallDo.pure 1 9 row2 (by simp) (by simp) (by simp) ?_
        cases g2 : rowB bot with
        | false =>
          simp
          exact hbad _ _ (by simp) (by simp) (by simp [badB, g2, hk])
        | true =>
          by_cases b48 : bot = [48]
          · have e : decide (bot = [48]) = true := decide_eq_true b48
            simp [eqStr, e]
            exact hbad _ _ (by simp) (by simp) (by simp [badB, e, hk])
          · by_cases b49 : bot = [49]
            · have e : decide (bot = [49]) = true := decide_eq_true b49
              simp [eqStr, b48, e]
              exact hbad _ _ (by simp) (by simp) (by simp [badB, e, hk])
            · simp [eqStr, b48, b49]
              exact hgood _ _ (by simp) (by simp [hn]) (by simp) (by simp) (by simp [hk]) (by simp) g1 (fun _ => g2) (by simp [badB, g1, hn, hk, g2, b48, b49])

/-- The error of exact.Parse. -/
def parseE (neg : Bool) (top bot : List UInt8) (brk : Bool) : Int :=
  if badB neg top bot brk = true then 6
  else if 2000 < max top.length bot.length then 3
  else if brk = false then 0
  else if val 4294967296 (dO (gO (rdO top) (rdO bot))) = 1 then 0 else 6
theorem parseR_form (neg : Bool) (top bot : List UInt8) (brk : Bool) : ∃ b p q, parseR neg top bot brk = .tup [nmA b p q, .c (.d (.int .i64 (parseE neg top bot brk)))] := by
  unfold parseR parseE madeA
  (repeat' split) <;> exact ⟨_, _, _, rfl⟩

theorem exactCheck_ok (m : Int) (r : List UInt8) :
    CallsP Tryz.prog (GG m) 153 [.c (.d (.str r))] (.c (.d (.int .i64 (parseE (hpB r [45]) (ctA (cpS r [45]) [47]) (ctB (cpS r [45]) [47]) (decide (0 ≤ ctI (cpS r [45]) [47])))))) := by
  have hp := parse_ok m r
  obtain ⟨b, p, q, e⟩ := parseR_form (hpB r [45]) (ctA (cpS r [45]) [47]) (ctB (cpS r [45]) [47]) (decide (0 ≤ ctI (cpS r [45]) [47]))
  rw [e] at hp
  generalize parseE (hpB r [45]) (ctA (cpS r [45]) [47]) (ctB (cpS r [45]) [47]) (decide (0 ≤ ctI (cpS r [45]) [47])) = n at *
  have hpu : (AV.tup [nmA b p q, .c (.d (.int .i64 n))]).pure = true := by cases p <;> cases q <;> rfl
  refine CallsP.en Go.Proofs.Tryz.func153 rfl fun _ => AW.q ?_
  refine AW.sr fun K hK => ?_
  simp
  refine CallDo.pure 0 9 hp hpu (by simp) rfl ?_
  simp
  apply hK
  refine AW.q ?_
  exact AW.r0 (FinP.rt rfl 9 (by simp))

/-- The error of floats.Check. -/
def fmtE (e p : Int) : Int := if e < 2 ∨ 11 < e ∨ p < 2 ∨ 113 < p ∨ e + p < 5 then 2 else 0


/-! ### texts as rational numbers -/

theorem row_ge2 {s : List UInt8} (h : rowB s = true) (h0 : s ≠ [48]) (h1 : s ≠ [49]) : 2 ≤ decN s 0 := by
  obtain ⟨hD, hne⟩ := rowB_d h
  unfold rowB at h
  simp only [Bool.and_eq_true, Bool.or_eq_true, Bool.not_eq_true', decide_eq_true_eq, decide_eq_false_iff_not] at h
  have h4 : s.getD 0 0 ≠ 48 := by
    rcases h.2 with h3 | h3
    · exact absurd h3 h0
    · exact h3
  cases s with
  | nil => grind
  | cons c l =>
    have hc := hD c (by simp)
    have hc48 : c ≠ 48 := h4
    have hcn : c.toNat ≠ 48 := fun e => hc48 (UInt8.toNat_inj.1 (by rw [e]; rfl))
    have e : decN (c :: l) 0 = (c.toNat - 48) * 10 ^ l.length + decN l 0 := by
      show decN l (10 * 0 + (c.toNat - 48)) = _
      rw [decN_shift, Nat.mul_zero, Nat.zero_add]
    rw [e]
    cases l with
    | nil =>
      have hc49 : c.toNat ≠ 49 := fun e => h1 (by rw [UInt8.toNat_inj.1 (show c.toNat = (49 : UInt8).toNat by rw [e]; rfl)])
      grind
    | cons d l =>
      have h10 : 10 ≤ 10 ^ (d :: l).length := by
        rw [List.length_cons, Nat.pow_succ]
        have := Nat.pow_pos (a := 10) (n := l.length) (by decide)
        omega
      have : 1 * 10 ≤ (c.toNat - 48) * 10 ^ (d :: l).length := Nat.mul_le_mul (by omega) h10
      omega

/-- The number of a text, by its parts. -/
def ratQ (neg : Bool) (top bot : List UInt8) (brk : Bool) : Rat := if parseE neg top bot brk = 0 then mkRat (sgI neg (decN top 0)) (if brk = true then decN bot 0 else 1) else 0

theorem rdO_v (s : List UInt8) : (val 4294967296 (dO (rdO s))) = decN s 0 := by show val 4294967296 (dig 4294967296 (decN s 0)) = _; rw [val_dig]
theorem rdO_can (s : List UInt8) : can 4294967296 (dO (rdO s)) := can_dig _
theorem gO_v (s t : List UInt8) : (val 4294967296 (dO (gO (rdO s) (rdO t)))) = Nat.gcd (decN s 0) (decN t 0) := by
  unfold gO; rw [gcdO_d (rdO_can s) (rdO_can t), val_dig, rdO_v, rdO_v]

theorem bad_no {neg : Bool} {top bot : List UInt8} {brk : Bool} (h : badB neg top bot brk = false) : rowB top = true ∧ (brk = true → rowB bot = true ∧ bot ≠ [48] ∧ bot ≠ [49]) := by
  unfold badB at h
  grind

theorem parseR_rat (neg : Bool) (top bot : List UInt8) (brk : Bool) : parseR neg top bot brk = .tup [ratV (ratQ neg top bot brk), .c (.d (.int .i64 (parseE neg top bot brk)))] := by
  by_cases h1 : badB neg top bot brk = true
  · have e : parseE neg top bot brk = 6 := by unfold parseE; rw [if_pos h1]
    have e2 : ratQ neg top bot brk = 0 := by unfold ratQ; rw [e, if_neg (by decide)]
    rw [e, e2]; unfold parseR; rw [if_pos h1]; rfl
  by_cases h2 : 2000 < max top.length bot.length
  · have e : parseE neg top bot brk = 3 := by unfold parseE; rw [if_neg h1, if_pos h2]
    have e2 : ratQ neg top bot brk = 0 := by unfold ratQ; rw [e, if_neg (by decide)]
    rw [e, e2]; unfold parseR; rw [if_neg h1, if_pos h2]; rfl
  obtain ⟨g1, g2⟩ := bad_no (by simpa using h1)
  by_cases h3 : brk = false
  · have e : parseE neg top bot brk = 0 := by unfold parseE; rw [if_neg h1, if_neg h2, if_pos h3]
    have e2 : ratQ neg top bot brk = mkRat (sgI neg (decN top 0)) 1 := by unfold ratQ; rw [e, if_pos rfl, h3]; rfl
    rw [e, e2]; unfold parseR; rw [if_neg h1, if_neg h2, if_pos h3]
    rw [madeA_rat neg (rdO_can top) (q := some (dig 4294967296 1)) (can_dig 1) (dig_ne (by decide)), rdO_v, dO_some, val_dig]
  have hb : brk = true := by simpa using h3
  obtain ⟨r1, r2, r3⟩ := g2 hb
  have hge := row_ge2 r1 r2 r3
  by_cases h4 : (val 4294967296 (dO (gO (rdO top) (rdO bot)))) = 1
  · have e : parseE neg top bot brk = 0 := by unfold parseE; rw [if_neg h1, if_neg h2, if_neg h3, if_pos h4]
    have e2 : ratQ neg top bot brk = mkRat (sgI neg (decN top 0)) (decN bot 0) := by unfold ratQ; rw [e, if_pos rfl, hb]; rfl
    rw [e, e2]; unfold parseR; rw [if_neg h1, if_neg h2, if_neg h3, if_pos h4]
    rw [gO_v] at h4
    have ha : decN top 0 ≠ 0 := by intro h0; rw [h0, Nat.gcd_zero_left] at h4; omega
    obtain ⟨n1, n2⟩ := mkRat_sg neg (a := decN top 0) (b := decN bot 0) (by omega)
    rw [h4, Nat.div_one] at n1 n2
    show AV.tup [nmA neg (some (dig 4294967296 (decN top 0))) (some (dig 4294967296 (decN bot 0))), _] = AV.tup [nmA (decide ((mkRat (sgI neg (decN top 0)) (decN bot 0)).num < 0)) (natO (mkRat (sgI neg (decN top 0)) (decN bot 0)).num.natAbs) (denO (mkRat (sgI neg (decN top 0)) (decN bot 0)).den), _]
    rw [n1, n2, sgI_abs, sgI_neg neg ha]
    unfold natO denO
    grind
  · have e : parseE neg top bot brk = 6 := by unfold parseE; rw [if_neg h1, if_neg h2, if_neg h3, if_neg h4]
    have e2 : ratQ neg top bot brk = 0 := by unfold ratQ; rw [e, if_neg (by decide)]
    rw [e, e2]; unfold parseR; rw [if_neg h1, if_neg h2, if_neg h3, if_neg h4]; rfl

theorem szR_zero (L : Nat) (h : 1 ≤ L) : szR 0 L := ⟨by show nl 0 ≤ _; exact Nat.zero_le _, by show nl 1 ≤ _; rw [nl_one]; exact h⟩
theorem decN_nl {s : List UInt8} (h : isD s) (hl : s.length ≤ 2000) : nl (decN s 0) ≤ 300 := by
  have := nl_ten (decN_lt h)
  omega
theorem ratQ_sz (neg : Bool) (top bot : List UInt8) (brk : Bool) : szR (ratQ neg top bot brk) 300 := by
  unfold ratQ
  split
  · rename_i h
    have h1 : ¬ badB neg top bot brk = true := by
      intro hb; unfold parseE at h; rw [if_pos hb] at h; cases h
    have h2 : ¬ 2000 < max top.length bot.length := by
      intro hb; unfold parseE at h; rw [if_neg h1, if_pos hb] at h; cases h
    obtain ⟨g1, g2⟩ := bad_no (by simpa using h1)
    split
    · rename_i hb
      obtain ⟨r1, r2, r3⟩ := g2 hb
      have hge := row_ge2 r1 r2 r3
      exact szR_mk _ (by omega) (decN_nl (rowB_d g1).1 (by omega)) (decN_nl (rowB_d r1).1 (by omega))
    · exact szR_mk _ (by decide) (decN_nl (rowB_d g1).1 (by omega)) (by rw [nl_one]; decide)
  · exact szR_zero _ (by decide)

/-- The error and the number of a text. -/
def ratE (r : List UInt8) : Int := parseE (hpB r [45]) (ctA (cpS r [45]) [47]) (ctB (cpS r [45]) [47]) (decide (0 ≤ ctI (cpS r [45]) [47]))
def ratP (r : List UInt8) : Rat := ratQ (hpB r [45]) (ctA (cpS r [45]) [47]) (ctB (cpS r [45]) [47]) (decide (0 ≤ ctI (cpS r [45]) [47]))
theorem ratP_sz (r : List UInt8) : szR (ratP r) 300 := ratQ_sz ..
theorem rat_Parse (m : Int) (r : List UInt8) : CallsP Tryz.prog (GG m) 28 [.c (.d (.str r))] (.tup [ratV (ratP r), .c (.d (.int .i64 (ratE r)))]) := by
  have h := parse_ok m r
  rw [parseR_rat] at h
  exact h
theorem rat_Check (m : Int) (r : List UInt8) : CallsP Tryz.prog (GG m) 153 [.c (.d (.str r))] (.c (.d (.int .i64 (ratE r)))) := exactCheck_ok m r

/-! ### reading a span -/

def ofE (lo hi : List UInt8) : Int := if ratE lo ≠ 0 then ratE lo else if ratE hi ≠ 0 then ratE hi else if ratP lo ≤ ratP hi then 0 else 7
def ofI (lo hi : List UInt8) : Iv := if ofE lo hi = 0 then (ratP lo, ratP hi) else (0, 0)
theorem ofE_zero {lo hi : List UInt8} : ofE lo hi = 0 ↔ ratE lo = 0 ∧ ratE hi = 0 ∧ ratP lo ≤ ratP hi := by
  unfold ofE; (repeat' split) <;> simp_all
theorem ofI_sz (lo hi : List UInt8) : (ofI lo hi).sz 300 := by
  unfold ofI; split
  · exact ⟨ratP_sz lo, ratP_sz hi⟩
  · exact ⟨szR_zero _ (by decide), szR_zero _ (by decide)⟩
theorem ofI_le {lo hi : List UInt8} (h : ofE lo hi = 0) : (ofI lo hi).1 ≤ (ofI lo hi).2 := by
  unfold ofI; rw [if_pos h]; exact (ofE_zero.1 h).2.2
theorem szB {x : Rat} (h : szR x 300) : szR x 10000000000 := szR_mono h (by decide)

theorem of_ok (m : Int) (lo hi : List UInt8) : CallsP Tryz.prog (GG m) 27 [.agg [.d (.str lo), .d (.str hi)]] (.tup [ivV (ofI lo hi), .c (.d (.int .i64 (ofE lo hi)))]) := by
  have c1 := rat_Parse m lo
  have c2 := rat_Parse m hi
  have c3 := iv_From (GG m) (ratP lo) (ratP hi) (szB (ratP_sz lo)) (szB (ratP_sz hi))
  by_cases h1 : ratE lo = 0
  rotate_left
  · have e : ofE lo hi = ratE lo := if_pos h1
    have e2 : ofI lo hi = (0, 0) := by unfold ofI; rw [e, if_neg h1]
    rw [e2, e]
    generalize ratE lo = n at *
    generalize ratP lo = r at *
    refine CallsP.enc Go.Proofs.Tryz.func27 rfl (fun lv => iv_dArg2 lv _ _ _ _ _ _ _ rfl) fun _ => AW.q ?_
    refine AW.c0 2 c1 ?_
    refine AW.seqK fun K hK => AW.f1 h1 ?_
    refine AW.fy (by simp [h1] <;> omega) (AW.f1 @bIv0 ?_)
    exact AW.ret (FinC.iv2 (κ := 0) (t := 2) (k := 1) (u := 3) ⟨rfl, rfl⟩ (by simp) (by simp [setSeg]) (by simp))
  by_cases h2 : ratE hi = 0
  rotate_left
  · have e : ofE lo hi = ratE hi := by unfold ofE; rw [if_neg (not_not_intro h1), if_pos h2]
    have e2 : ofI lo hi = (0, 0) := by unfold ofI; rw [e, if_neg h2]
    rw [e2, e]
    rw [h1] at c1
    generalize ratE hi = n at *
    generalize ratP lo = r at *
    generalize ratP hi = r2 at *
    refine CallsP.enc Go.Proofs.Tryz.func27 rfl (fun lv => iv_dArg2 lv _ _ _ _ _ _ _ rfl) fun _ => AW.q ?_
    refine AW.c0 2 c1 ?_
    refine AW.seqK fun K hK => AW.q ?_
    refine AW.cn (AW.skip (hK _ _ (AW.c0 3 c2 ?_)))
    refine AW.seqK fun K hK => AW.f1 h2 ?_
    refine AW.fy (by simp [h2] <;> omega) (AW.f1 @bIv0 ?_)
    exact AW.ret (FinC.iv2 (κ := 0) (t := 2) (k := 1) (u := 3) ⟨rfl, rfl⟩ (by simp) (by simp [setSeg]) (by simp))
  have e : ofE lo hi = if ratP lo ≤ ratP hi then 0 else 7 := by unfold ofE; rw [if_neg (not_not_intro h1), if_neg (not_not_intro h2)]
  have e2 : ofI lo hi = fromI (ratP lo) (ratP hi) := by
    unfold ofI fromI; rw [e]; split <;> simp_all
  rw [e2, e]
  rw [h1] at c1
  rw [h2] at c2
  generalize (if ratP lo ≤ ratP hi then (0 : Int) else 7) = n at *
  generalize fromI (ratP lo) (ratP hi) = v at *
  generalize ratP lo = r at *
  generalize ratP hi = r2 at *
  refine CallsP.enc Go.Proofs.Tryz.func27 rfl (fun lv => iv_dArg2 lv _ _ _ _ _ _ _ rfl) fun _ => AW.q ?_
  refine AW.c0 2 c1 ?_
  refine AW.seqK fun K hK => AW.q ?_
  refine AW.cn (AW.skip (hK _ _ (AW.c0 3 c2 ?_)))
  refine AW.seqK fun K hK => AW.seqK fun K1 hK1 => AW.rP ?_
  simp
  repeat refine and_o ?_
  apply hK1
  refine AW.cn (AW.skip ?_)
  simp
  repeat refine and_o ?_
  apply hK
  refine AW.c1 4 c3 @setSeg.eq_1 ?_
  exact AW.ret (FinC.iv2 (κ := 0) (t := 2) (k := 1) (u := 3) ⟨rfl, rfl⟩ (by simp) (by simp [setSeg]) (by simp))

/-! ### the statement's helpers -/

def Iv.nth (a : Iv) (i : Nat) : Rat := if i = 0 then a.1 else a.2
theorem nth_sz {a : Iv} {L : Nat} (h : a.sz L) (i : Nat) : szR (a.nth i) L := by unfold Iv.nth; split; exact h.1; exact h.2
theorem someR_nth {a b : Iv} {op : Int} {x : Rat} : someR a b op x ↔ ∃ i < 2, ∃ j < 2, opR op (a.nth i) (b.nth j) = x := by
  unfold someR Iv.nth
  constructor
  · rintro (h | h | h | h)
    · exact ⟨0, by decide, 0, by decide, h⟩
    · exact ⟨0, by decide, 1, by decide, h⟩
    · exact ⟨1, by decide, 0, by decide, h⟩
    · exact ⟨1, by decide, 1, by decide, h⟩
  · rintro ⟨i, hi, j, hj, h⟩
    have h1 : i = 0 ∨ i = 1 := by omega
    have h2 : j = 0 ∨ j = 1 := by omega
    rcases h1 with rfl | rfl <;> rcases h2 with rfl | rfl
    · exact .inl h
    · exact .inr (.inl h)
    · exact .inr (.inr (.inl h))
    · exact .inr (.inr (.inr h))
theorem ldNth (a : Iv) (i : Nat) (hi : i < 2) : List.take 3 (List.drop (i * 3) [.d (.bool (decide (a.1.num < 0))), nC (natO a.1.num.natAbs), nC (denO a.1.den), .d (.bool (decide (a.2.num < 0))), nC (natO a.2.num.natAbs), nC (denO a.2.den)]) = [.d (.bool (decide ((a.nth i).num < 0))), nC (natO (a.nth i).num.natAbs), nC (denO (a.nth i).den)] := by
  have h1 : i = 0 ∨ i = 1 := by omega
  rcases h1 with rfl | rfl <;> rfl
end Go.Am
namespace Go.Am
open Go.Proofs

/-- One function more that is known otherwise. -/
theorem SpecOK.more {P : Program} {G : List (List DV)} {sp : Tb Spec} {ft : TypeId} (h : SpecOK P G sp ft) (f0 : Nat) (g0 : List AV → Option AV) (hg : ∀ us x, g0 us = some x → ∀ lv, AllOk lv → CallG P G f0 us lv (.ret x lv)) : SpecOK P G (setS f0 (.pure g0) sp) ft where
  pure := by
    intro f g us x hf hx lv ho
    rw [setS_get] at hf
    split at hf
    · rename_i e; subst e; cases hf; exact hg us x hx lv ho
    · exact h.pure f g us x hf hx lv ho
  caughtR := by
    intro f hf
    rw [setS_get] at hf
    split at hf
    · cases hf
    · exact h.caughtR f hf
  caughtP := by
    intro f hf
    rw [setS_get] at hf
    split at hf
    · cases hf
    · exact h.caughtP f hf
  selfN := by
    intro f T hf
    rw [setS_get] at hf
    split at hf
    · cases hf
    · exact h.selfN f T hf
  selfP := by
    intro f T hf
    rw [setS_get] at hf
    split at hf
    · cases hf
    · exact h.selfP f T hf

end Go.Am
namespace Go.Am
open Go.Proofs N

/-! ### what exact computes, told to the evaluator -/

/-- Digits, read off a value. -/
def unD : List (List DV) → Option (List Nat)
  | [] => some []
  | e :: l => match e with
    | [.int .u32 (.ofNat n)] => (unD l).map (n :: ·)
    | _ => none
theorem unD_ok : ∀ {es : List (List DV)} {l : List Nat}, unD es = some l → es = dK .u32 l
  | [], l, h => by cases h; rfl
  | e :: es, l, h => by
    unfold unD at h
    split at h
    · obtain ⟨m, hm, rfl⟩ := Option.map_eq_some_iff.1 h
      rw [unD_ok hm]; rfl
    · cases h
def unK : AV → Option (Option (List Nat))
  | .c (.d .nilsl) => some none
  | .c (.d (.sl es)) => (unD es).map some
  | _ => none
theorem unK_ok {x : AV} {o : Option (List Nat)} (h : unK x = some o) : x = nK .u32 o := by
  unfold unK at h
  split at h
  · cases h; rfl
  · obtain ⟨m, hm, rfl⟩ := Option.map_eq_some_iff.1 h
    rw [unD_ok hm]; rfl
  · cases h
def canB : List Nat → Bool
  | [] => true
  | d :: l => Nat.blt d 4294967296 && (match l with | [] => Nat.blt 0 d | _ => true) && canB l
theorem canB_ok : ∀ {l : List Nat}, canB l = true → can 4294967296 l
  | [], _ => ⟨fun d h => by (cases h), fun x h => by (cases h)⟩
  | d :: l, h => by
    simp only [canB, Bool.and_eq_true] at h
    obtain ⟨⟨h1, h2⟩, h3⟩ := h
    obtain ⟨g1, g2⟩ := canB_ok h3
    refine ⟨ok_cons.2 ⟨Nat.le_of_ble_eq_true h1, g1⟩, fun x hx => ?_⟩
    cases l with
    | nil =>
      have : d = x := by simpa using hx
      have h2' : 0 < d := Nat.le_of_ble_eq_true h2
      omega
    | cons e l => exact g2 x (by simpa using hx)
/-- Digits that are a number's, not too many. -/
def nOK (o : Option (List Nat)) : Bool := canB (dO o) && Nat.ble (dO o).length 1000000
theorem nOK_ok {o : Option (List Nat)} (h : nOK o = true) : can 4294967296 (dO o) ∧ (dO o).length ≤ 1000000 := by
  simp only [nOK, Bool.and_eq_true] at h
  exact ⟨canB_ok h.1, Nat.le_of_ble_eq_true h.2⟩
def numA (x : AV) : Option (Option (List Nat)) := (unK x).bind fun o => bif nOK o then some o else none
theorem numA_ok {x : AV} {o : Option (List Nat)} (h : numA x = some o) : x = nK .u32 o ∧ can 4294967296 (dO o) ∧ (dO o).length ≤ 1000000 := by
  obtain ⟨o', h1, h2⟩ := Option.bind_eq_some_iff.1 h
  cases hb : nOK o' with
  | false => rw [hb] at h2; cases h2
  | true =>
    rw [hb] at h2
    simp only [cond_true, Option.some.injEq] at h2
    subst h2
    exact ⟨unK_ok h1, nOK_ok hb⟩

def sp2 (f : Option (List Nat) → Option (List Nat) → Option AV) : List AV → Option AV
  | [x, y] => (numA x).bind fun a => (numA y).bind fun b => f a b
  | _ => none
def sp1 (f : Option (List Nat) → Option AV) : List AV → Option AV
  | [x] => (numA x).bind fun a => f a
  | _ => none
theorem sp2_ok {m : Int} {g : FuncId} {f : Option (List Nat) → Option (List Nat) → Option AV} (hf : ∀ a b x, can 4294967296 (dO a) → can 4294967296 (dO b) → (dO a).length ≤ 1000000 → (dO b).length ≤ 1000000 → f a b = some x → CallsP Tryz.prog (GG m) g [nK .u32 a, nK .u32 b] x ∧ x.pure = true)
    {us : List AV} {x : AV} (h : sp2 f us = some x) (lv : Key → LB) : CallG Tryz.prog (GG m) g us lv (.ret x lv) := by
  unfold sp2 at h
  split at h
  · obtain ⟨a, ha, g1⟩ := Option.bind_eq_some_iff.1 h
    obtain ⟨b, hb, g2⟩ := Option.bind_eq_some_iff.1 g1
    obtain ⟨rfl, a1, a2⟩ := numA_ok ha
    obtain ⟨rfl, b1, b2⟩ := numA_ok hb
    obtain ⟨h1, h2⟩ := hf a b x a1 b1 a2 b2 g2
    exact CallG.of_CallsP (fun u hu => by simp only [List.mem_cons, List.not_mem_nil, or_false] at hu; rcases hu with rfl | rfl <;> exact nK_pure _ _) h2 h1
  · cases h
theorem sp1_ok {m : Int} {g : FuncId} {f : Option (List Nat) → Option AV} (hf : ∀ a x, can 4294967296 (dO a) → (dO a).length ≤ 1000000 → f a = some x → CallsP Tryz.prog (GG m) g [nK .u32 a] x ∧ x.pure = true)
    {us : List AV} {x : AV} (h : sp1 f us = some x) (lv : Key → LB) : CallG Tryz.prog (GG m) g us lv (.ret x lv) := by
  unfold sp1 at h
  split at h
  · obtain ⟨a, ha, g1⟩ := Option.bind_eq_some_iff.1 h
    obtain ⟨rfl, a1, a2⟩ := numA_ok ha
    obtain ⟨h1, h2⟩ := hf a x a1 a2 g1
    exact CallG.of_CallsP (fun u hu => by simp only [List.mem_cons, List.not_mem_nil, or_false] at hu; rcases hu with rfl; exact nK_pure _ _) h2 h1
  · cases h

def gMul := sp2 fun a b => some (nK .u32 (some (dig 4294967296 (val 4294967296 (dO a) * val 4294967296 (dO b)))))
def gAdd := sp2 fun a b => some (nK .u32 (some (dig 4294967296 (val 4294967296 (dO a) + val 4294967296 (dO b)))))
def gSub := sp2 fun a b => bif Nat.ble (val 4294967296 (dO b)) (val 4294967296 (dO a)) then some (nK .u32 (some (dig 4294967296 (val 4294967296 (dO a) - val 4294967296 (dO b))))) else none
def gCmp := sp2 fun a b => some (.c (.d (.int .i64 (cmpN (val 4294967296 (dO a)) (val 4294967296 (dO b))))))
def gIs1 := sp1 fun a => some (.c (.d (.bool (Nat.beq (val 4294967296 (dO a)) 1))))
theorem gMul_ok (m : Int) {us : List AV} {x : AV} (h : gMul us = some x) (lv : Key → LB) : CallG Tryz.prog (GG m) 39 us lv (.ret x lv) :=
  sp2_ok (fun a b x _ _ h1 h2 h => by cases h; exact ⟨exact_mul_ok _ a b (by omega) (by omega), nK_pure _ _⟩) h lv
theorem gAdd_ok (m : Int) {us : List AV} {x : AV} (h : gAdd us = some x) (lv : Key → LB) : CallG Tryz.prog (GG m) 42 us lv (.ret x lv) :=
  sp2_ok (fun a b x _ _ h1 h2 h => by cases h; exact ⟨exact_add_ok _ a b (by omega) (by omega), nK_pure _ _⟩) h lv
theorem gSub_ok (m : Int) {us : List AV} {x : AV} (h : gSub us = some x) (lv : Key → LB) : CallG Tryz.prog (GG m) 44 us lv (.ret x lv) :=
  sp2_ok (fun a b x _ _ h1 h2 h => by
    cases hb : Nat.ble (val 4294967296 (dO b)) (val 4294967296 (dO a)) with
    | false => rw [hb] at h; cases h
    | true =>
      rw [hb] at h; cases h
      exact ⟨exact_sub_ok _ a b (by omega) (Nat.le_of_ble_eq_true hb), nK_pure _ _⟩) h lv
theorem gCmp_ok (m : Int) {us : List AV} {x : AV} (h : gCmp us = some x) (lv : Key → LB) : CallG Tryz.prog (GG m) 43 us lv (.ret x lv) :=
  sp2_ok (fun a b x h3 h4 h1 h2 h => by cases h; exact ⟨exact_cmp_ok h3 h4, rfl⟩) h lv
theorem gIs1_ok (m : Int) {us : List AV} {x : AV} (h : gIs1 us = some x) (lv : Key → LB) : CallG Tryz.prog (GG m) 56 us lv (.ret x lv) :=
  sp1_ok (fun a x h3 h1 h => by
    cases h
    have := exact_is1_ok (GG m) a h3
    rw [show decide (val 4294967296 (dO a) = 1) = Nat.beq (val 4294967296 (dO a)) 1 by cases e : Nat.beq (val 4294967296 (dO a)) 1 with | true => simp [Nat.eq_of_beq_eq_true e] | false => simp [Nat.ne_of_beq_eq_false e]] at this
    exact ⟨this, rfl⟩) h lv

/-- made, by the rational number. -/
def gMade : List AV → Option AV
  | [.c (.d (.bool neg)), x, y] => (numA x).bind fun p => (numA y).bind fun q => bif Nat.blt 0 (val 4294967296 (dO q)) then some (ratV (mkRat (sgI neg (val 4294967296 (dO p))) (val 4294967296 (dO q)))) else none
  | _ => none
theorem gMade_ok (m : Int) {us : List AV} {x : AV} (h : gMade us = some x) (lv : Key → LB) : CallG Tryz.prog (GG m) 41 us lv (.ret x lv) := by
  unfold gMade at h
  split at h
  · rename_i neg x' y'
    obtain ⟨p, hp, g1⟩ := Option.bind_eq_some_iff.1 h
    obtain ⟨q, hq, g2⟩ := Option.bind_eq_some_iff.1 g1
    clear h g1
    obtain ⟨rfl, a1, a2⟩ := numA_ok hp
    obtain ⟨rfl, b1, b2⟩ := numA_ok hq
    cases hb : Nat.blt 0 (val 4294967296 (dO q)) with
    | false => rw [hb] at g2; cases g2
    | true =>
      rw [hb] at g2; cases g2
      have hv : 0 < val 4294967296 (dO q) := Nat.le_of_ble_eq_true hb
      have hq0 : dO q ≠ [] := fun e => by rw [e] at hv; exact absurd hv (by decide)
      have := rat_made (GG m) neg p q a1 b1 hq0 (by omega) (by omega)
      rw [nK_nC, nK_nC]
      exact CallG.of_CallsP (fun u hu => by
        simp only [List.mem_cons, List.not_mem_nil, or_false] at hu
        rcases hu with rfl | rfl | rfl <;> simp) (by simp) this
  · cases h
def gShl : List AV → Option AV
  | [x, .c (.d (.int .i64 (.ofNat k)))] => (numA x).bind fun a => bif Nat.ble k 1000000 then some (if dO a = [] then nK .u32 none else nK .u32 (some (dig 4294967296 (val 4294967296 (dO a) * 2 ^ k)))) else none
  | _ => none
theorem gShl_ok (m : Int) {us : List AV} {x : AV} (h : gShl us = some x) (lv : Key → LB) : CallG Tryz.prog (GG m) 86 us lv (.ret x lv) := by
  unfold gShl at h
  split at h
  · rename_i x' k
    obtain ⟨a, ha, g1⟩ := Option.bind_eq_some_iff.1 h
    clear h
    obtain ⟨rfl, a1, a2⟩ := numA_ok ha
    cases hb : Nat.ble k 1000000 with
    | false => rw [hb] at g1; cases g1
    | true =>
      rw [hb] at g1; cases g1
      have hk := Nat.le_of_ble_eq_true hb
      exact CallG.of_CallsP (fun u hu => by
        simp only [List.mem_cons, List.not_mem_nil, or_false] at hu
        rcases hu with rfl | rfl
        · exact nK_pure _ _
        · rfl) (by split <;> exact nK_pure _ _) (exact_shl_ok (GG m) a k (by omega) (by omega))
  · cases h
def gBits := sp1 fun a => some (.c (.d (.int .i64 (blen (val 4294967296 (dO a))))))
theorem gBits_ok (m : Int) {us : List AV} {x : AV} (h : gBits us = some x) (lv : Key → LB) : CallG Tryz.prog (GG m) 119 us lv (.ret x lv) :=
  sp1_ok (fun a x h3 h1 h => by cases h; exact ⟨exact_bits_ok (GG m) a h3 (by omega), rfl⟩) h lv
def gDiv := sp2 fun a b => bif Nat.blt 0 (val 4294967296 (dO b)) then some (.tup [nK .u32 (divQ a b), nK .u32 (divR a b)]) else none
theorem gDiv_ok (m : Int) {us : List AV} {x : AV} (h : gDiv us = some x) (lv : Key → LB) : CallG Tryz.prog (GG m) 64 us lv (.ret x lv) :=
  sp2_ok (fun a b x h3 h4 h1 h2 h => by
    cases hb : Nat.blt 0 (val 4294967296 (dO b)) with
    | false => rw [hb] at h; cases h
    | true =>
      rw [hb] at h; cases h
      have hv : 0 < val 4294967296 (dO b) := Nat.le_of_ble_eq_true hb
      exact ⟨exact_div_ok _ a b h3 h4 (fun e => by rw [e] at hv; exact absurd hv (by decide)) (by omega), tup2_pure _ _⟩) h lv
def gOf : List AV → Option AV
  | [.c (.d (.int .u64 (.ofNat n)))] => bif Nat.blt n 18446744073709551616 then some (nK .u32 (some (dig 4294967296 n))) else none
  | _ => none
theorem gOf_ok (m : Int) {us : List AV} {x : AV} (h : gOf us = some x) (lv : Key → LB) : CallG Tryz.prog (GG m) 51 us lv (.ret x lv) := by
  unfold gOf at h
  split at h
  · rename_i n
    cases hb : Nat.blt n 18446744073709551616 with
    | false => rw [hb] at h; cases h
    | true =>
      rw [hb] at h; cases h
      exact CallG.of_CallsP (fun u hu => by
        simp only [List.mem_cons, List.not_mem_nil, or_false] at hu
        rcases hu with rfl; rfl) (nK_pure _ _) (exact_of_ok (GG m) n (Nat.le_of_ble_eq_true hb))
  · cases h
def gSmall : List AV → Option AV
  | [x, .c (.d (.int .u32 (.ofNat b)))] => (numA x).bind fun a => bif Nat.blt 0 b then some (.tup [nK .u32 (some (dig 4294967296 (val 4294967296 (dO a) / b))), .c (.d (.int .u32 ((val 4294967296 (dO a) % b : Nat) : Int)))]) else none
  | _ => none
theorem gSmall_ok (m : Int) {us : List AV} {x : AV} (h : gSmall us = some x) (lv : Key → LB) : CallG Tryz.prog (GG m) 84 us lv (.ret x lv) := by
  unfold gSmall at h
  split at h
  · rename_i x' b
    obtain ⟨a, ha, g1⟩ := Option.bind_eq_some_iff.1 h
    clear h
    obtain ⟨rfl, a1, a2⟩ := numA_ok ha
    cases hb : Nat.blt 0 b with
    | false => rw [hb] at g1; cases g1
    | true =>
      rw [hb] at g1; cases g1
      have hb' : 0 < b := Nat.le_of_ble_eq_true hb
      exact CallG.of_CallsP (fun u hu => by
        simp only [List.mem_cons, List.not_mem_nil, or_false] at hu
        rcases hu with rfl | rfl
        · exact nK_pure _ _
        · rfl) rfl (exact_small_ok (GG m) a b (by omega) (by omega))
  · cases h
end Go.Am
namespace Go.Am
open Go.Proofs

/-! ### what is told to the evaluator is brought to its last form, lists as well -/

noncomputable def forceDD {β : Type} (d : DV) (k : DV → β) : β :=
  DV.casesOn (motive_1 := fun _ => β) d (fun b => forceBool b fun b => k (.bool b)) (fun q n => forceInt n fun n => k (.int q n)) (fun s => forceL forceByte s fun s => k (.str s)) (k .nilp) (fun cs => k (.ptr cs)) (k .nilsl)
    (fun es => forceL (forceL forceD) es fun es => k (.sl es)) (fun cs => k (.agg cs)) (k .nilIface) (fun t v => k (.iface t v)) (k .nilFunc) (fun f a b => k (.func f a b)) (k .nilmap)
theorem forceDD_eq {β : Type} (d : DV) (k : DV → β) : forceDD d k = k d := by
  cases d <;> simp only [forceDD] <;> first | exact forceBool_eq _ _ | exact forceInt_eq _ _ | exact forceL_eq _ forceByte_eq _ _ | exact forceL_eq _ (forceL_eq _ forceD_eq) _ _ | rfl
noncomputable def forceCC {β : Type} (x : CV) (k : CV → β) : β :=
  CV.casesOn (motive := fun _ => β) x (fun d => forceDD d fun d => k (.d d)) (fun a b => k (.ptr a b)) (fun a b c d => k (.lsl a b c d)) (fun a => k (.mapr a)) (fun f a b => k (.func f a b)) (fun t r => k (.ifc t r)) (k .junk)
theorem forceCC_eq {β : Type} (x : CV) (k : CV → β) : forceCC x k = k x := by cases x <;> simp only [forceCC, forceDD_eq]
noncomputable def forceAA0 {β : Type} (x : AV) (k : AV → β) : β :=
  AV.casesOn (motive_1 := fun _ => β) x (fun c => forceCC c fun c => k (.c c)) (fun l => forceL forceCC l fun l => k (.agg l)) (fun l => k (.tup l)) (k .undef) (k .junk)
theorem forceAA0_eq {β : Type} (x : AV) (k : AV → β) : forceAA0 x k = k x := by cases x <;> simp only [forceAA0, forceCC_eq, forceL_eq _ forceCC_eq]
noncomputable def forceAA {β : Type} (x : AV) (k : AV → β) : β :=
  AV.casesOn (motive_1 := fun _ => β) x (fun c => forceCC c fun c => k (.c c)) (fun l => forceL forceCC l fun l => k (.agg l)) (fun l => forceL forceAA0 l fun l => k (.tup l)) (k .undef) (k .junk)
theorem forceAA_eq {β : Type} (x : AV) (k : AV → β) : forceAA x k = k x := by cases x <;> simp only [forceAA, forceCC_eq, forceL_eq _ forceCC_eq, forceL_eq _ forceAA0_eq]
noncomputable def gF (g : List AV → Option AV) (us : List AV) : Option AV := Option.rec (motive := fun _ => Option AV) none (fun x => forceAA x some) (g us)
theorem gF_eq (g : List AV → Option AV) (us : List AV) : gF g us = g us := by
  unfold gF; cases g us with
  | none => rfl
  | some x => exact forceAA_eq _ _

theorem SpecOK.f {P : Program} {G : List (List DV)} {sp : Tb Spec} {ft : TypeId} (h : SpecOK P G sp ft) (f0 : Nat) (g0 : List AV → Option AV) (hg : ∀ {us x}, g0 us = some x → ∀ lv, CallG P G f0 us lv (.ret x lv)) : SpecOK P G (setS f0 (.pure (gF g0)) sp) ft :=
  h.more f0 (gF g0) fun us x hx lv _ => hg (by rw [gF_eq] at hx; exact hx) lv
noncomputable def spW : Tb Spec := setS 39 (.pure (gF gMul)) (setS 42 (.pure (gF gAdd)) (setS 44 (.pure (gF gSub)) (setS 43 (.pure (gF gCmp)) (setS 56 (.pure (gF gIs1)) (setS 41 (.pure (gF gMade)) (setS 86 (.pure (gF gShl)) (setS 119 (.pure (gF gBits)) (setS 64 (.pure (gF gDiv)) (setS 51 (.pure (gF gOf)) (setS 84 (.pure (gF gSmall)) (setS 55 (.pure (gF gRead)) spA)))))))))))
theorem spW_ok (m : Int) : SpecOK Tryz.prog (GG m) spW 0 :=
  ((((((((((((spA_ok m).f 55 gRead (gRead_ok m)).f 84 gSmall (gSmall_ok m)).f 51 gOf (gOf_ok m)).f 64 gDiv (gDiv_ok m)).f 119 gBits (gBits_ok m)).f 86 gShl (gShl_ok m)).f 41 gMade (gMade_ok m)).f 56 gIs1 (gIs1_ok m)).f 43 gCmp (gCmp_ok m)).f 44 gSub (gSub_ok m)).f 42 gAdd (gAdd_ok m)).f 39 gMul (gMul_ok m)
theorem evW_ok (m : Int) (n : Nat) : CallOK Tryz.prog (GG m) (evK Tryz.prog (GG m) spW 0 n) := evK_ok mixed (spW_ok m) n
end Go.Am
namespace Go.Am
open Go.Proofs N

/-! ### numbers and intervals, told to the evaluator -/

def eqL : List Nat → List Nat → Bool
  | [], [] => true
  | a :: l, b :: m => Nat.beq a b && eqL l m
  | _, _ => false
theorem eqL_eq : ∀ {l m : List Nat}, eqL l m = true → l = m
  | [], [], _ => rfl
  | a :: l, b :: m, h => by
    simp only [eqL, Bool.and_eq_true] at h
    rw [Nat.eq_of_beq_eq_true h.1, eqL_eq h.2]
  | [], _ :: _, h => by cases h
  | _ :: _, [], h => by cases h
def eqO : Option (List Nat) → Option (List Nat) → Bool
  | none, none => true
  | some l, some m => eqL l m
  | _, _ => false
theorem eqO_eq {o p : Option (List Nat)} (h : eqO o p = true) : o = p := by
  cases o <;> cases p <;> first | rfl | cases h | exact congrArg some (eqL_eq h)
def eqB2 (a b : Bool) : Bool := match a with | true => b | false => !b
theorem eqB2_eq {a b : Bool} (h : eqB2 a b = true) : a = b := by cases a <;> cases b <;> first | rfl | cases h

/-- A number, read off a value. -/
def rdQ (neg : Bool) (po qo : Option (List Nat)) : Rat := mkRat (sgI neg (val 4294967296 (dO po))) (match qo with | none => 1 | some l => val 4294967296 l)
def okQ (neg : Bool) (po qo : Option (List Nat)) (x : Rat) : Bool := eqB2 neg (decide (x.num < 0)) && (eqO po (natO x.num.natAbs) && (eqO qo (denO x.den) && (Nat.ble (dO po).length 1000 && Nat.ble (dO qo).length 1000)))
def unQ (a p q : CV) : Option Rat := match a with
  | .d (.bool neg) => (unK (.c p)).bind fun po => (unK (.c q)).bind fun qo => bif okQ neg po qo (rdQ neg po qo) then some (rdQ neg po qo) else none
  | _ => none
theorem unQ_ok {a p q : CV} {x : Rat} (h : unQ a p q = some x) : a = .d (.bool (decide (x.num < 0))) ∧ p = nC (natO x.num.natAbs) ∧ q = nC (denO x.den) ∧ szR x 1000 := by
  unfold unQ at h
  split at h
  · rename_i neg
    obtain ⟨po, h1, k1⟩ := Option.bind_eq_some_iff.1 h
    obtain ⟨qo, h2, k2⟩ := Option.bind_eq_some_iff.1 k1
    have e1 := unK_ok h1
    have e2 := unK_ok h2
    rw [nK_nC] at e1 e2
    cases hb : okQ neg po qo (rdQ neg po qo) with
    | false => rw [hb] at k2; cases k2
    | true =>
      rw [hb] at k2
      simp only [cond_true, Option.some.injEq] at k2
      rw [k2] at hb
      simp only [okQ, Bool.and_eq_true] at hb
      obtain ⟨b1, b2, b3, b4, b5⟩ := hb
      have c1 := eqB2_eq b1
      have c2 := eqO_eq b2
      have c3 := eqO_eq b3
      have d4 := Nat.le_of_ble_eq_true b4
      have d5 := Nat.le_of_ble_eq_true b5
      injection e1 with e1
      injection e2 with e2
      refine ⟨by rw [c1], by rw [e1, c2], by rw [e2, c3], ?_, ?_⟩
      · rw [c2, natO_len] at d4; exact d4
      · rw [c3] at d5
        unfold denO at d5
        split at d5
        · rename_i hd; rw [hd, nl_one]; decide
        · exact d5
  · cases h
def unR : AV → Option Rat
  | .agg [a, p, q] => unQ a p q
  | _ => none
theorem unR_ok {v : AV} {x : Rat} (h : unR v = some x) : v = ratV x ∧ szR x 1000 := by
  unfold unR at h
  split at h
  · obtain ⟨rfl, rfl, rfl, hs⟩ := unQ_ok h
    exact ⟨rfl, hs⟩
  · cases h
def leQ (x y : Rat) : Bool := decide (x ≤ y)
def unI : AV → Option Iv
  | .agg [a, p, q, a', p', q'] => (unQ a p q).bind fun x => (unQ a' p' q').bind fun y => bif leQ x y then some (x, y) else none
  | _ => none
theorem unI_ok {v : AV} {a : Iv} (h : unI v = some a) : v = ivV a ∧ a.sz 1000 ∧ a.1 ≤ a.2 := by
  unfold unI at h
  split at h
  · obtain ⟨x, h1, k1⟩ := Option.bind_eq_some_iff.1 h
    obtain ⟨y, h2, k2⟩ := Option.bind_eq_some_iff.1 k1
    obtain ⟨rfl, rfl, rfl, hs⟩ := unQ_ok h1
    obtain ⟨rfl, rfl, rfl, hs'⟩ := unQ_ok h2
    cases hb : leQ x y with
    | false => rw [hb] at k2; cases k2
    | true => rw [hb] at k2; cases k2; exact ⟨rfl, ⟨hs, hs'⟩, of_decide_eq_true hb⟩
  · cases h

/-! the kinds of functions -/

theorem ratV_pure (x : Rat) : (ratV x).pure = true := nmA_pure _ _ _
theorem ivV_pure (a : Iv) : (ivV a).pure = true := iv_pure _ _ _ _ _ _
def q1 (f : Rat → Option AV) : List AV → Option AV
  | [x] => (unR x).bind f
  | _ => none
def q2 (f : Rat → Rat → Option AV) : List AV → Option AV
  | [x, y] => (unR x).bind fun a => (unR y).bind fun b => f a b
  | _ => none
def qi (f : Rat → Int → Option AV) : List AV → Option AV
  | [x, .c (.d (.int .i64 n))] => (unR x).bind fun a => f a n
  | _ => none
def v1 (f : Iv → Option AV) : List AV → Option AV
  | [x] => (unI x).bind f
  | _ => none
def v2 (f : Iv → Iv → Option AV) : List AV → Option AV
  | [x, y] => (unI x).bind fun a => (unI y).bind fun b => f a b
  | _ => none
def vi (f : Iv → Int → Option AV) : List AV → Option AV
  | [x, .c (.d (.int .i64 n))] => (unI x).bind fun a => f a n
  | _ => none
def vq (f : Iv → Rat → Option AV) : List AV → Option AV
  | [x, y] => (unI x).bind fun a => (unR y).bind fun b => f a b
  | _ => none
section
variable {m : Int} {g : FuncId} {us : List AV} {x : AV}
theorem q1_ok {f : Rat → Option AV} (hf : ∀ a x, szR a 1000 → f a = some x → CallsP Tryz.prog (GG m) g [ratV a] x ∧ x.pure = true) (h : q1 f us = some x) (lv : Key → LB) : CallG Tryz.prog (GG m) g us lv (.ret x lv) := by
  unfold q1 at h; split at h
  · obtain ⟨a, ha, k1⟩ := Option.bind_eq_some_iff.1 h
    obtain ⟨rfl, sa⟩ := unR_ok ha
    obtain ⟨h1, h2⟩ := hf a x sa k1
    exact CallG.of_CallsP (fun u hu => by simp only [List.mem_cons, List.not_mem_nil, or_false] at hu; subst hu; exact ratV_pure a) h2 h1
  · cases h
theorem q2_ok {f : Rat → Rat → Option AV} (hf : ∀ a b x, szR a 1000 → szR b 1000 → f a b = some x → CallsP Tryz.prog (GG m) g [ratV a, ratV b] x ∧ x.pure = true) (h : q2 f us = some x) (lv : Key → LB) : CallG Tryz.prog (GG m) g us lv (.ret x lv) := by
  unfold q2 at h; split at h
  · obtain ⟨a, ha, k1⟩ := Option.bind_eq_some_iff.1 h
    obtain ⟨b, hb, k2⟩ := Option.bind_eq_some_iff.1 k1
    obtain ⟨rfl, sa⟩ := unR_ok ha
    obtain ⟨rfl, sb⟩ := unR_ok hb
    obtain ⟨h1, h2⟩ := hf a b x sa sb k2
    exact CallG.of_CallsP (fun u hu => by simp only [List.mem_cons, List.not_mem_nil, or_false] at hu; rcases hu with rfl | rfl; exact ratV_pure a; exact ratV_pure b) h2 h1
  · cases h
theorem qi_ok {f : Rat → Int → Option AV} (hf : ∀ a n x, szR a 1000 → f a n = some x → CallsP Tryz.prog (GG m) g [ratV a, .c (.d (.int .i64 n))] x ∧ x.pure = true) (h : qi f us = some x) (lv : Key → LB) : CallG Tryz.prog (GG m) g us lv (.ret x lv) := by
  unfold qi at h; split at h
  · rename_i n
    obtain ⟨a, ha, k1⟩ := Option.bind_eq_some_iff.1 h
    obtain ⟨rfl, sa⟩ := unR_ok ha
    obtain ⟨h1, h2⟩ := hf a n x sa k1
    exact CallG.of_CallsP (fun u hu => by simp only [List.mem_cons, List.not_mem_nil, or_false] at hu; rcases hu with rfl | rfl; exact ratV_pure a; rfl) h2 h1
  · cases h
theorem v1_ok {f : Iv → Option AV} (hf : ∀ a x, a.sz 1000 → a.1 ≤ a.2 → f a = some x → CallsP Tryz.prog (GG m) g [ivV a] x ∧ x.pure = true) (h : v1 f us = some x) (lv : Key → LB) : CallG Tryz.prog (GG m) g us lv (.ret x lv) := by
  unfold v1 at h; split at h
  · obtain ⟨a, ha, k1⟩ := Option.bind_eq_some_iff.1 h
    obtain ⟨rfl, sa, la⟩ := unI_ok ha
    obtain ⟨h1, h2⟩ := hf a x sa la k1
    exact CallG.of_CallsP (fun u hu => by simp only [List.mem_cons, List.not_mem_nil, or_false] at hu; subst hu; exact ivV_pure a) h2 h1
  · cases h
theorem v2_ok {f : Iv → Iv → Option AV} (hf : ∀ a b x, a.sz 1000 → b.sz 1000 → a.1 ≤ a.2 → b.1 ≤ b.2 → f a b = some x → CallsP Tryz.prog (GG m) g [ivV a, ivV b] x ∧ x.pure = true) (h : v2 f us = some x) (lv : Key → LB) : CallG Tryz.prog (GG m) g us lv (.ret x lv) := by
  unfold v2 at h; split at h
  · obtain ⟨a, ha, k1⟩ := Option.bind_eq_some_iff.1 h
    obtain ⟨b, hb, k2⟩ := Option.bind_eq_some_iff.1 k1
    obtain ⟨rfl, sa, la⟩ := unI_ok ha
    obtain ⟨rfl, sb, lb⟩ := unI_ok hb
    obtain ⟨h1, h2⟩ := hf a b x sa sb la lb k2
    exact CallG.of_CallsP (fun u hu => by simp only [List.mem_cons, List.not_mem_nil, or_false] at hu; rcases hu with rfl | rfl; exact ivV_pure a; exact ivV_pure b) h2 h1
  · cases h
theorem vi_ok {f : Iv → Int → Option AV} (hf : ∀ a n x, a.sz 1000 → a.1 ≤ a.2 → f a n = some x → CallsP Tryz.prog (GG m) g [ivV a, .c (.d (.int .i64 n))] x ∧ x.pure = true) (h : vi f us = some x) (lv : Key → LB) : CallG Tryz.prog (GG m) g us lv (.ret x lv) := by
  unfold vi at h; split at h
  · rename_i n
    obtain ⟨a, ha, k1⟩ := Option.bind_eq_some_iff.1 h
    obtain ⟨rfl, sa, la⟩ := unI_ok ha
    obtain ⟨h1, h2⟩ := hf a n x sa la k1
    exact CallG.of_CallsP (fun u hu => by simp only [List.mem_cons, List.not_mem_nil, or_false] at hu; rcases hu with rfl | rfl; exact ivV_pure a; rfl) h2 h1
  · cases h
theorem vq_ok {f : Iv → Rat → Option AV} (hf : ∀ a b x, a.sz 1000 → szR b 1000 → a.1 ≤ a.2 → f a b = some x → CallsP Tryz.prog (GG m) g [ivV a, ratV b] x ∧ x.pure = true) (h : vq f us = some x) (lv : Key → LB) : CallG Tryz.prog (GG m) g us lv (.ret x lv) := by
  unfold vq at h; split at h
  · obtain ⟨a, ha, k1⟩ := Option.bind_eq_some_iff.1 h
    obtain ⟨b, hb, k2⟩ := Option.bind_eq_some_iff.1 k1
    obtain ⟨rfl, sa, la⟩ := unI_ok ha
    obtain ⟨rfl, sb⟩ := unR_ok hb
    obtain ⟨h1, h2⟩ := hf a b x sa sb la k2
    exact CallG.of_CallsP (fun u hu => by simp only [List.mem_cons, List.not_mem_nil, or_false] at hu; rcases hu with rfl | rfl; exact ivV_pure a; exact ratV_pure b) h2 h1
  · cases h
end
theorem szK {x : Rat} {L : Nat} (h : szR x 1000) (hL : 1000 ≤ L := by decide) : szR x L := szR_mono h hL
theorem szI {a : Iv} {L : Nat} (h : a.sz 1000) (hL : 1000 ≤ L := by decide) : a.sz L := Iv.sz_mono h hL
abbrev iA (n : Int) : AV := .c (.d (.int .i64 n))
theorem tupR_pure (x : Rat) (n : Int) : (AV.tup [ratV x, iA n]).pure = true := tup_num_pure _ _ _ _
theorem tupI_pure (a : Iv) (n : DV) : (AV.tup [ivV a, .c (.d n)]).pure = true := iv_pure2 _ _ _ _ _ _ _

noncomputable def spX : Tb Spec :=
  setS 9 (.pure (gF (q2 fun a b => some (ratV (a + b))))) <|
  setS 11 (.pure (gF (q2 fun a b => some (ratV (a - b))))) <|
  setS 13 (.pure (gF (q2 fun a b => some (ratV (a * b))))) <|
  setS 21 (.pure (gF (q2 fun a b => some (iA (cmpR a b))))) <|
  setS 31 (.pure (gF (q2 fun a b => some (ratV (minR a b))))) <|
  setS 29 (.pure (gF (q2 fun a b => some (ratV (maxR a b))))) <|
  setS 26 (.pure (gF (q2 fun a b => some (.tup [ratV (a / b), iA (if b = 0 then 8 else 0)])))) <|
  setS 17 (.pure (gF (q1 fun a => some (ratV (-a))))) <|
  setS 15 (.pure (gF (q1 fun a => some (ratV (absR a))))) <|
  setS 47 (.pure (gF (qi fun a n => some (ratV (downR a n))))) <|
  setS 48 (.pure (gF (qi fun a n => some (ratV (upR a n))))) <|
  setS 8 (.pure (gF (v2 fun a b => some (ivV (a.add b))))) <|
  setS 10 (.pure (gF (v2 fun a b => some (ivV (a.sub b))))) <|
  setS 12 (.pure (gF (v2 fun a b => some (ivV (a.mul b))))) <|
  setS 19 (.pure (gF (v2 fun a b => some (ivV (a.join b))))) <|
  setS 18 (.pure (gF (vi fun a n => some (ivV (downR a.1 n, upR a.2 n))))) <|
  setS 6 (.pure (gF (vq fun a b => some (.c (.d (.bool (decide (a.has b)))))))) spW
theorem spX_ok (m : Int) : SpecOK Tryz.prog (GG m) spX 0 :=
  (((((((((((((((((spW_ok m).f _ _ (vq_ok fun a b x sa sb la h => by cases h; exact ⟨iv_Has _ a b (szI sa) (szK sb), rfl⟩)).f _ _ (vi_ok fun a n x sa la h => by cases h; exact ⟨iv_Out _ a n (szI sa), ivV_pure _⟩)).f _ _
    (v2_ok fun a b x sa sb la lb h => by cases h; exact ⟨iv_Join _ a b (szI sa) (szI sb), ivV_pure _⟩)).f _ _
    (v2_ok fun a b x sa sb la lb h => by cases h; exact ⟨iv_Mul _ a b (szI sa) (szI sb) la lb, ivV_pure _⟩)).f _ _
    (v2_ok fun a b x sa sb la lb h => by cases h; exact ⟨iv_Sub _ a b (szI sa) (szI sb), ivV_pure _⟩)).f _ _
    (v2_ok fun a b x sa sb la lb h => by cases h; exact ⟨iv_Add _ a b (szI sa) (szI sb), ivV_pure _⟩)).f _ _
    (qi_ok fun a n x sa h => by cases h; exact ⟨rat_Up _ a n (szK sa), ratV_pure _⟩)).f _ _
    (qi_ok fun a n x sa h => by cases h; exact ⟨rat_Down _ a n (szK sa), ratV_pure _⟩)).f _ _
    (q1_ok fun a x sa h => by cases h; exact ⟨rat_Abs _ a, ratV_pure _⟩)).f _ _
    (q1_ok fun a x sa h => by cases h; exact ⟨rat_Neg _ a, ratV_pure _⟩)).f _ _
    (q2_ok fun a b x sa sb h => by cases h; exact ⟨rat_Quo _ a b (szK sa) (szK sb), tupR_pure _ _⟩)).f _ _
    (q2_ok fun a b x sa sb h => by cases h; exact ⟨rat_Max _ a b (szK sa) (szK sb), ratV_pure _⟩)).f _ _
    (q2_ok fun a b x sa sb h => by cases h; exact ⟨rat_Min _ a b (szK sa) (szK sb), ratV_pure _⟩)).f _ _
    (q2_ok fun a b x sa sb h => by cases h; exact ⟨rat_Cmp _ a b (szK sa) (szK sb), rfl⟩)).f _ _
    (q2_ok fun a b x sa sb h => by cases h; exact ⟨rat_Mul _ a b (szK sa) (szK sb), ratV_pure _⟩)).f _ _
    (q2_ok fun a b x sa sb h => by cases h; exact ⟨rat_Sub _ a b (szK sa) (szK sb), ratV_pure _⟩)).f _ _
    (q2_ok fun a b x sa sb h => by cases h; exact ⟨rat_Add _ a b (szK sa) (szK sb), ratV_pure _⟩)
theorem evX_ok (m : Int) (n : Nat) : CallOK Tryz.prog (GG m) (evK Tryz.prog (GG m) spX 0 n) := evK_ok mixed (spX_ok m) n
end Go.Am
