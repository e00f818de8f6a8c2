/- Helpers: an abstract machine for Go functions, and walks of functions of the program. -/
import Derived.Test.YtfkfimmphlpllaaGreatDoorAm00
import Derived.OrdersIn
import Derived.LoopNIn
import Derived.RangeFuncCalls
import Derived.Lib.AppendStr
import Derived.Lib.UnsafeStr

set_option linter.all false

namespace Go.Am

/-- From a callee's view up to the caller's. -/
structure Vw.Up (V V2 : Vw) (g : Key → Key) : Prop where
  F : V2.F = V.F
  w : V2.w = V.w
  kin : ∀ k, V.lv k ≠ .hole → (V.lv k).kin (V2.lv (g k))
  β : ∀ k, V.lv k ≠ .hole → V2.β (g k) = V.β k

section
variable {V V2 : Vw} {g : Key → Key}

theorem Vw.Up.mem (h : V.Up V2 g) : V2.mem = V.mem := by
  unfold Vw.mem; rw [h.F, h.w]

theorem Vw.Up.ptr (h : V.Up V2 g) {v : Value} {k : Key} {off : Nat} (hv : V.atPtr v k off) : V2.atPtr v (g k) off := by
  have h1 := h.kin k; have h2 := h.β k
  unfold Vw.atPtr at *
  cases e : V.lv k <;> cases e' : V2.lv (g k) <;> simp [e, e', LB.kin] at h1 h2 hv ⊢ <;> (try rw [h2]) <;> assumption

theorem Vw.Up.lsl (h : V.Up V2 g) {v : Value} {k : Key} {off len sz : Nat} (hv : V.atLsl v k off len sz) : V2.atLsl v (g k) off len sz := by
  have h1 := h.kin k; have h2 := h.β k
  unfold Vw.atLsl at *
  rw [h.w]
  cases e : V.lv k <;> cases e' : V2.lv (g k) <;> simp [e, e', LB.kin] at h1 h2 hv ⊢ <;> (try rw [h2]) <;> assumption

theorem Vw.Up.map (h : V.Up V2 g) {v : Value} {k : Key} (hv : V.atMap v k) : V2.atMap v (g k) := by
  have h1 := h.kin k; have h2 := h.β k
  unfold Vw.atMap at *
  cases e : V.lv k <;> cases e' : V2.lv (g k) <;> simp [e, e', LB.kin] at h1 h2 hv ⊢ <;> (try rw [h2]) <;> assumption

theorem Vw.Up.refC (h : V.Up V2 g) {v : Value} {x : RefC} (hv : V.refC v x) : V2.refC v (x.ren g) := by
  cases x with
  | d x => exact ⟨by rw [h.mem]; exact hv.1, hv.2⟩
  | ptr k off => exact ⟨h.ptr hv.1, hv.2⟩
  | lsl k off len sz => exact ⟨h.lsl hv.1, hv.2⟩

theorem Vw.Up.ref (h : V.Up V2 g) {v : Value} {x : Ref} (hv : V.ref v x) : V2.ref v (x.ren g) := by
  induction x generalizing v with
  | d x => show Rd V2.mem v x; rw [h.mem]; exact hv
  | ptr k off => exact ⟨h.ptr hv.1, hv.2⟩
  | lsl k off len sz => exact ⟨h.lsl hv.1, hv.2⟩
  | agg cs =>
    obtain ⟨arr, rfl, h1, h2⟩ := hv
    exact ⟨arr, rfl, by simpa using h1, fun i a b => by simp only [List.getElem_map]; exact h.refC (h2 i (by simpa using a) b)⟩
  | ifc t x ih => obtain ⟨v', rfl, h1⟩ := hv; exact ⟨v', rfl, ih h1⟩

theorem Vw.Up.cv (h : V.Up V2 g) {v : Value} {x : CV} (hv : V.cv v x) : V2.cv v (x.ren g) := by
  cases x with
  | d x => exact ⟨by rw [h.mem]; exact hv.1, hv.2⟩
  | ptr k off => exact ⟨h.ptr hv.1, hv.2⟩
  | lsl k off len sz => exact ⟨h.lsl hv.1, hv.2⟩
  | mapr k => exact ⟨h.map hv.1, hv.2⟩
  | func fn f c =>
    obtain ⟨fs, cs, rfl, h1, h2, h3, h4⟩ := hv
    refine ⟨fs, cs, rfl, by simpa using h1, by simpa using h2, fun i a b => ?_, fun i a b => ?_⟩
    · simp only [List.getElem_map]; exact h.ref (h3 i (by simpa using a) b)
    · simp only [List.getElem_map]; exact h.ref (h4 i (by simpa using a) b)
  | ifc t x =>
    obtain ⟨v', rfl, h1⟩ := hv
    exact ⟨v', rfl, h.ref h1⟩
  | junk => exact hv

theorem Vw.Up.av0 (h : V.Up V2 g) {v : Value} {x : AV} (hv : V.av0 v x) : V2.av0 v (x.ren0 g) := by
  cases x with
  | c x => exact h.cv (x := x) hv
  | agg cs =>
    obtain ⟨arr, rfl, h1, h2⟩ := hv
    exact ⟨arr, rfl, by simpa using h1, fun i a b => by simp only [List.getElem_map]; exact h.cv (h2 i (by simpa using a) b)⟩
  | tup l => exact hv.elim
  | undef => exact hv
  | junk => trivial

theorem Vw.Up.av (h : V.Up V2 g) {v : Value} {x : AV} (hv : V.av v x) : V2.av v (x.ren g) := by
  cases x with
  | c x => exact h.cv (x := x) hv
  | agg cs => exact h.av0 (x := .agg cs) hv
  | tup l =>
    obtain ⟨arr, rfl, h1, h2⟩ := hv
    exact ⟨arr, rfl, by simpa using h1, fun i a b => by simp only [List.getElem_map]; exact h.av0 (h2 i (by simpa using a) b)⟩
  | undef => exact hv
  | junk => trivial
end

/-- What may be passed: blocks that are live, none of them the callee's own. -/
def LB.pass : LB → Bool
  | .cells own fz _ _ => !own && !fz
  | .map own _ => !own
  | .dead => false
  | _ => true

def LB.ownB : LB → Bool
  | .cells own .. => own
  | .map own _ => own
  | _ => true

def LB.fix (b : Bool) : LB → LB
  | .cells own fz T cs => .cells (own || b) fz T cs
  | .map own es => .map (own || b) es
  | x => x

theorem LB.fix_live (b : Bool) (x : LB) : (x.fix b).live = x.live := by
  cases x with
  | cells own fz T cs => cases fz <;> rfl
  | _ => rfl

theorem LB.ren_live (g : Key → Key) (x : LB) : (x.ren g).live = x.live := by
  cases x with
  | cells own fz T cs => cases fz <;> rfl
  | _ => rfl

section
variable {c : Ctx} {F : Nat → Prop} {β : Key → Nat} {s : LSt} {a : Act} {w : World}

/-- How a call's border lies in the caller's blocks. -/
structure Bord (s : LSt) (g : Key → Key) (gi : Key → Option Key) (L L' : Key → LB) (own : Bool) : Prop where
  pass : ∀ k, (L k).pass = true
  as : ∀ k, (s.lv (g k)).as (L k) g
  gi1 : ∀ k' k, gi k' = some k → g k = k' ∧ L' k ≠ .hole
  gi2 : ∀ k, L' k ≠ .hole → gi (g k) = some k
  stay : ∀ k, L k ≠ .hole → L' k ≠ .hole
  own : own = true → ∀ k, (L k).live = true → (s.lv (g k)).ownB = true

theorem Bord.live {g : Key → Key} {gi : Key → Option Key} {L L' : Key → LB} {own : Bool} (hB : Bord s g gi L L' own) {k : Key} (hk : (L k).live = true) : (s.lv (g k)).live = true := by
  have := hB.as k
  cases e : L k with
  | cells own fz T cs =>
    rw [e] at this hk
    obtain ⟨own', cs', h1, _⟩ := this
    cases fz with
    | false => rw [h1]; rfl
    | true => cases hk
  | map own es => rw [e] at this; obtain ⟨own', es', h1, _⟩ := this; rw [h1]; rfl
  | hole => rw [e] at hk; cases hk
  | dead => rw [e] at hk; cases hk
  | nils => rw [e] at hk; cases hk

theorem Bord.inj {g : Key → Key} {gi : Key → Option Key} {L L' : Key → LB} {own : Bool} (hB : Bord s g gi L L' own) {k k' : Key} (h1 : L k ≠ .hole) (h2 : L k' ≠ .hole) (h : g k = g k') : k = k' := by
  have e1 := hB.gi2 k (hB.stay k h1)
  have e2 := hB.gi2 k' (hB.stay k' h2)
  rw [h, e2] at e1
  exact (Option.some.inj e1).symm

theorem live_ne_hole {x : LB} (h : x.live = true) : x ≠ .hole := fun e => by rw [e] at h; cases h

theorem Bord.ren {g : Key → Key} {gi : Key → Option Key} {L L' : Key → LB} {own : Bool} (hB : Bord s g gi L L' own) :
    (Vw.mk F β s.lv w).Ren (Vw.mk F (fun k => β (g k)) L w) g := ⟨rfl, rfl, fun _ _ => rfl, fun k => LB.as_kin (hB.as k)⟩

/-- What a callee finds. -/
theorem StOK.enter (h : StOK c F β s a w) {g : Key → Key} {gi : Key → Option Key} {L L' : Key → LB} {own : Bool} (hB : Bord s g gi L L' own) :
    Sits (CtxE c.P c.G w F (fun k => β (g k)) L) F (fun k => β (g k)) L w := by
  have hR := hB.ren (F := F) (β := β) (w := w)
  refine ⟨?_, ?_, fun _ => trivial, rfl, rfl, fun b hb => ⟨(h.Flt b hb).1, .inl hb⟩, fun _ hb => hb, fun _ _ _ => rfl, Nat.le_refl _, h.glob, fun k _ => .inr ⟨rfl, LB.sub_refl _⟩, fun _ => Nat.le_refl _, ⟨rfl, rfl⟩⟩
  · intro k
    have hb := h.blk (g k)
    have ha := hB.as k
    have hp := hB.pass k
    unfold Vw.blk at hb ⊢
    cases e : L k with
    | cells own fz T cs =>
      rw [e] at ha hp
      simp only [LB.pass, Bool.and_eq_true, Bool.not_eq_true'] at hp
      obtain ⟨own', cs', h1, h2, h3⟩ := ha
      simp only [h1] at hb
      obtain ⟨arr, b1, b2, b3, b4, b5⟩ := hb
      subst h2
      simp only [e]
      refine ⟨arr, b1, by simpa using b2, fun i p q => hR.cv ?_, b4, ?_⟩
      · have := b3 i (by simpa using p) q; simpa using this
      · rw [hp.1]; simp only [ownAt, Bool.false_eq_true, if_false]
        exact .inr ⟨k, by rw [e, hp.2]; rfl, rfl⟩
    | map own es =>
      rw [e] at ha hp
      simp only [LB.pass, Bool.not_eq_true'] at hp
      obtain ⟨own', es', h1, h2, h3, h4⟩ := ha
      simp only [h1] at hb
      obtain ⟨ents, clock, b1, b2, b3, b4, b5⟩ := hb
      subst h2
      simp only [List.length_map] at b2
      simp only [e]
      refine ⟨ents, clock, b1, b2, fun i p q => ?_, b4, ?_⟩
      · have := b3 i (by simpa using p) q
        simp only [List.getElem_map] at this
        refine ⟨this.1, ?_⟩
        rcases hR.av0 this.2 with h5 | ⟨l, h5⟩
        · exact h5
        · exact absurd h5 (h4 _ (List.getElem_mem p) l)
      · rw [hp]; simp only [ownAt, Bool.false_eq_true, if_false]
        exact .inr ⟨k, by rw [e]; rfl, rfl⟩
    | hole => simp only [e]
    | dead => simp only [e]
    | nils => simp only [e]
  · intro k k' h1 h2 he
    exact hB.inj (live_ne_hole h1) (live_ne_hole h2) (h.inj _ _ (hB.live h1) (hB.live h2) he)

/-- The caller's blocks behind the call. -/
def lvAfter (s : LSt) (g : Key → Key) (gi : Key → Option Key) (L' : Key → LB) (own : Bool) : Key → LB :=
  fun k' => match gi k' with | some k => ((L' k).ren g).fix own | none => s.lv k'

def βAfter (β β' : Key → Nat) (gi : Key → Option Key) : Key → Nat :=
  fun k' => match gi k' with | some k => β' k | none => β k'

theorem Bord.up {g : Key → Key} {gi : Key → Option Key} {L L' : Key → LB} {own : Bool} (hB : Bord s g gi L L' own) (F' : Nat → Prop) (β' : Key → Nat) (w' : World) :
    (Vw.mk F' β' L' w').Up (Vw.mk F' (βAfter β β' gi) (lvAfter s g gi L' own) w') g := by
  refine ⟨rfl, rfl, fun k hk => ?_, fun k hk => ?_⟩
  · simp only at hk
    simp only [lvAfter, hB.gi2 k hk]
    cases e : L' k <;> simp [e, LB.ren, LB.fix, LB.kin] at hk ⊢
  · simp only at hk
    simp only [βAfter, hB.gi2 k hk]

theorem StOK.back (h : StOK c F β s a w) {g : Key → Key} {gi : Key → Option Key} {L L' : Key → LB} {own : Bool} (hB : Bord s g gi L L' own) {F' : Nat → Prop} {β' : Key → Nat} {w' : World}
    (hx : Sits (CtxE c.P c.G w F (fun k => β (g k)) L) F' β' L' w') : StOK c F' (βAfter β β' gi) ⟨s.fr, lvAfter s g gi L' own⟩ a w' := by
  have hF : ∀ b, F b → F' b := hx.F0
  have hW : ∀ b, (∃ k, (L k).live = true ∧ β (g k) = b) → ¬ F b := by
    rintro b ⟨k, hk, rfl⟩; exact h.live_nF (hB.live hk)
  have hold : ∀ b, b < w.heap.size → ¬ (∃ k, (L k).live = true ∧ β (g k) = b) → w'.heap[b]? = w.heap[b]? := hx.old
  have hm : ∀ b, F b → w'.heap[b]? = w.heap[b]? := fun b hb => hold b (h.Flt b hb).1 (fun hw => hW b hw hb)
  have hUp := hB.up (β := β) F' β' w'
  -- a key of the caller's that is at the border
  have hkeep : ∀ k, L k ≠ .hole → L' k = .dead ∨ (β' k = β (g k) ∧ (L k).sub (L' k)) := hx.keep
  refine h.step (hoo := hx.oso) hF hm ?_ ?_ hx.asz ?_ ?_ ?_ hx.ge ?_
  · intro k'
    simp only [lvAfter]
    split
    · rename_i k e
      obtain ⟨rfl, hk⟩ := hB.gi1 _ _ e
      by_cases h0 : L k = .hole
      · have := hB.as k; rw [h0] at this
        have hh : s.lv (g k) = .hole := this
        rw [hh]; simp [LB.sub]
      · have ha := LB.as_kin (hB.as k)
        rcases hkeep k h0 with hd | ⟨_, hs⟩
        · rw [hd]; cases s.lv (g k) <;> simp [LB.ren, LB.fix, LB.sub]
        · cases e1 : s.lv (g k) <;> cases e2 : L k <;> cases e3 : L' k <;> simp [e1, e2, e3, LB.kin, LB.sub, LB.ren, LB.fix] at ha hs h0 hk ⊢
          all_goals (have := hB.pass k; rw [e2] at this; cases this)
    · exact LB.sub_refl _
  · intro k' hh hd
    simp only [lvAfter] at hd
    simp only [βAfter]
    split
    · rename_i k e
      rw [e] at hd
      obtain ⟨rfl, hk⟩ := hB.gi1 _ _ e
      have h0 : L k ≠ .hole := fun h0 => by
        have := hB.as k; rw [h0] at this; exact hh this
      rcases hkeep k h0 with hd' | ⟨h1, _⟩
      · have hd2 : ((L' k).ren g).fix own ≠ .dead := hd
        rw [hd'] at hd2; exact absurd rfl hd2
      · exact h1
    · rfl
  · intro k' hK
    cases e : gi k' with
    | some k =>
      obtain ⟨rfl, hk⟩ := hB.gi1 _ _ e
      have hb := hx.blk k
      have hownk : ∀ o : Bool, ownAt (CtxE c.P c.G w F (fun k => β (g k)) L) o (β' k) → ownAt c (o || own) (β' k) := by
        intro o ho
        have hge := h.ge
        unfold ownAt at ho ⊢
        cases o with
        | true => simp only [if_true] at ho; simp only [Bool.true_or, if_true]; exact Nat.le_trans hge ho
        | false =>
          simp only [Bool.false_eq_true, if_false] at ho
          simp only [Bool.false_or]
          rcases ho with ho | ⟨j, hj, hj2⟩
          · cases own
            · exact .inl (Nat.le_trans hge ho)
            · exact Nat.le_trans hge ho
          · have hl := hB.live hj
            cases hw : own with
            | false => simp only [Bool.false_eq_true, if_false]; rw [← hj2]; exact h.live_own hl
            | true =>
              simp only [if_true]
              have ho' := hB.own hw j hj
              have hb' := h.blk (g j)
              unfold Vw.blk at hb'
              rw [← hj2]
              cases e1 : s.lv (g j) with
              | cells o fz T cs =>
                rw [e1] at ho'; simp only [e1] at hb'
                obtain ⟨x, p1, p2, p3, p4, p5⟩ := hb'
                simp only [LB.ownB] at ho'; rw [ho'] at p5; simpa [ownAt] using p5
              | map o es =>
                rw [e1] at ho'; simp only [e1] at hb'
                obtain ⟨x, y, p1, p2, p3, p4, p5⟩ := hb'
                simp only [LB.ownB] at ho'; rw [ho'] at p5; simpa [ownAt] using p5
              | hole => rw [e1] at hl; cases hl
              | dead => rw [e1] at hl; cases hl
              | nils => rw [e1] at hl; cases hl
      unfold Vw.blk at hb ⊢
      simp only [lvAfter, βAfter, e]
      cases e' : L' k with
      | cells o fz T cs =>
        simp only [e'] at hb
        obtain ⟨arr, b1, b2, b3, b4, b5⟩ := hb
        simp only [LB.ren, LB.fix]
        refine ⟨arr, b1, by simpa using b2, fun i p q => ?_, b4, hownk o b5⟩
        simp only [List.getElem_map]
        exact hUp.cv (b3 i (by simpa using p) q)
      | map o es =>
        simp only [e'] at hb
        obtain ⟨ents, clock, b1, b2, b3, b4, b5⟩ := hb
        simp only [LB.ren, LB.fix]
        refine ⟨ents, clock, b1, by simpa using b2, fun i p q => ?_, b4, hownk o b5⟩
        simp only [List.getElem_map]
        have := b3 i (by simpa using p) q
        exact ⟨by have h5 := this.1; exact h5, hUp.av0 this.2⟩
      | hole => exact absurd e' hk
      | dead => simp [LB.ren, LB.fix]
      | nils => simp [LB.ren, LB.fix]
    | none =>
      have hl : (Vw.mk F' (βAfter β β' gi) (lvAfter s g gi L' own) w').lv k' = (Vw.mk F β s.lv w).lv k' := by simp only [lvAfter, e]
      have hβe : (Vw.mk F' (βAfter β β' gi) (lvAfter s g gi L' own) w').β k' = (Vw.mk F β s.lv w).β k' := by simp only [βAfter, e]
      have hnW : (s.lv k').live = true → ¬ ∃ k, (L k).live = true ∧ β (g k) = β k' := by
        rintro hlv ⟨k, hk, he⟩
        have := h.inj _ _ (hB.live hk) hlv he
        rw [← this, hB.gi2 k (hB.stay k (live_ne_hole hk))] at e
        cases e
      have hb := h.blk k'
      by_cases hlv : (s.lv k').live = true
      · refine Vw.blk_keep hb hK hl hβe (hold _ (h.live_lt hlv) (hnW hlv)) (fun _ hf => ?_)
        rcases (hx.Flt _ hf).2 with h1 | h1
        · exact h1
        · have : w.heap.size ≤ β k' := h1
          have := h.live_lt hlv
          omega
      · cases ek : s.lv k' with
        | cells o fz T cs =>
          cases fz with
          | false => rw [ek] at hlv; exact absurd rfl hlv
          | true =>
            have hFk : F (β k') := by
              unfold Vw.blk at hb; simp only [ek] at hb
              obtain ⟨x, p1, p2, p3, p4, p5⟩ := hb
              exact p4
            refine Vw.blk_keep hb hK hl hβe (hm _ hFk) (fun hlv' => absurd hlv' hlv)
        | map o es => rw [ek] at hlv; exact absurd rfl hlv
        | hole => unfold Vw.blk; rw [hl]; simp only [ek]
        | dead => unfold Vw.blk; rw [hl]; simp only [ek]
        | nils => unfold Vw.blk; rw [hl]; simp only [ek]
  · intro k1 k2 h1 h2 he
    -- a key at the border, or one beside it
    have side : ∀ k', (lvAfter s g gi L' own k').live = true → gi k' = none → (s.lv k').live = true := by
      intro k' hk' e; simp only [lvAfter, e] at hk'; exact hk'
    have bord : ∀ k' k, (lvAfter s g gi L' own k').live = true → gi k' = some k → (L' k).live = true := by
      intro k' k hk' e; simp only [lvAfter, e, LB.fix_live, LB.ren_live] at hk'; exact hk'
    have apart : ∀ k' k, gi k' = none → (s.lv k').live = true → (L' k).live = true → β' k ≠ β k' := by
      intro k' k e hk' hk heq
      have hbo := StOK.live_own hx hk
      rcases hbo with h3 | ⟨j, hj, hj2⟩
      · have h3' : w.heap.size ≤ β' k := h3
        have := h.live_lt hk'
        omega
      · have := h.inj _ _ (hB.live hj) hk' (hj2.trans heq)
        rw [← this, hB.gi2 j (hB.stay j (live_ne_hole hj))] at e
        cases e
    cases e1 : gi k1 with
    | none =>
      cases e2 : gi k2 with
      | none =>
        simp only [βAfter, e1, e2] at he
        exact h.inj _ _ (side _ h1 e1) (side _ h2 e2) he
      | some j2 =>
        simp only [βAfter, e1, e2] at he
        exact absurd he.symm (apart k1 j2 e1 (side _ h1 e1) (bord _ _ h2 e2))
    | some j1 =>
      cases e2 : gi k2 with
      | none =>
        simp only [βAfter, e1, e2] at he
        exact absurd he (apart k2 j1 e2 (side _ h2 e2) (bord _ _ h1 e1))
      | some j2 =>
        simp only [βAfter, e1, e2] at he
        have := hx.inj _ _ (bord _ _ h1 e1) (bord _ _ h2 e2) he
        rw [← (hB.gi1 _ _ e1).1, ← (hB.gi1 _ _ e2).1, this]
  · intro b hb
    rcases (hx.Flt b hb).2 with h1 | h1
    · exact .inl h1
    · have h1' : w.heap.size ≤ b := h1
      have := h.ge
      exact .inr ⟨(hx.Flt b hb).1, by omega⟩
  · intro b hb hnW
    have hlt : b < w.heap.size := Nat.lt_of_lt_of_le hb h.ge
    refine hold b hlt ?_
    rintro ⟨k, hk, rfl⟩
    rcases h.live_own (hB.live hk) with h1 | h1
    · omega
    · exact hnW h1
end
end Go.Am

namespace Go.Am

/-- The zero value of a type, by cells. -/
def zcells (P : Program) (T : TypeId) : Option (List CV) := ((P.info? T).bind (·.zero)).bind fun z => (cst z).cells

theorem zcells_info {P : Program} {T : TypeId} {xs : List CV} (h : zcells P T = some xs) : ∃ z, (P.info? T).bind (·.zero) = some z ∧ (cst z).cells = some xs :=
  Option.bind_eq_some_iff.1 h

/-- Bytes of a type, where its zero value has the type's size. -/
def tbytes (P : Program) (T : TypeId) : Option Nat :=
  match P.info? T with
  | some i => match i.zero with
    | some z => if z.cells.size = i.size then some i.bytes else none
    | none => none
  | none => none

theorem tbytes_info {P : Program} {T : TypeId} {n : Nat} (h : tbytes P T = some n) : ∃ i z, P.info? T = some i ∧ i.zero = some z ∧ z.cells.size = i.size ∧ i.bytes = n := by
  unfold tbytes at h
  split at h
  · rename_i i hi
    split at h
    · rename_i z hz
      split at h
      · rename_i he; simp only [Option.some.injEq] at h; exact ⟨i, z, hi, hz, he, h⟩
      · cases h
    · cases h
  · cases h

/-- The bounds of a slice expression out of what stands behind its operand. -/
def bnds (lo hi : Option Operand) (rest : List AV) : Option (Option AV × Option AV) :=
  match lo, hi, rest with
  | none, none, [] => some (none, none)
  | some _, none, [x] => some (some x, none)
  | none, some _, [y] => some (none, some y)
  | some _, some _, [x, y] => some (some x, some y)
  | _, _, _ => none

/-- Values for which '==' goes by the type. -/
def eqable : AV → Bool
  | .c (.d (.bool _)) | .agg _ | .c (.d .nilp) | .c (.d (.ptr _)) | .c (.d .nilsl) | .c (.d (.sl _)) | .c (.d .nilIface) | .c (.d (.iface ..)) => true
  | _ => false

/-- The block that a slice lies in. -/
def keyOf : AV → List Key
  | .c (.lsl k ..) => [k]
  | _ => []

abbrev StepR := AV × List (Key × LB) × List Key × Prop

def stepBin (P : Program) (op : BinOp) (T : TypeId) (x y : AV) : Option StepR :=
  match x, y with
  | .c (.d (.int k m)), .c (.d (.int k' n)) =>
    match op with
    | .shl | .shr => match shI op k m n with | some d => some (.c (.d d), [], [], 0 ≤ n) | none => none
    | _ => if k = k' then (match binI op k m n with | some d => some (.c (.d d), [], [], binIok op n) | none => none) else none
  | .c (.d (.str m)), .c (.d (.str n)) => match binS op m n with | some d => some (.c (.d d), [], [], binSok op m n) | none => none
  | x, y =>
    match op with
    | .eql => if P.eqGuardType P.depth T || !eqable x then none else match eqT P 20 T x y with | some b => some (.c (.d (.bool b)), [], [], True) | none => none
    | .neq => if P.eqGuardType P.depth T || !eqable x then none else match eqT P 20 T x y with | some b => some (.c (.d (.bool (!b))), [], [], True) | none => none
    | _ => none

def stepLoad (P : Program) (T : TypeId) (lv : Key → LB) : AV → Option StepR
  | .c (.d (.ptr cs)) => match loadA P T (cs.map CV.d) with | some y => some (y, [], [], True) | none => none
  | .c (.ptr k off) => match lv k with
    | .cells _ _ _ cs => match loadA P T (cs.drop off) with | some y => some (y, [], [k], True) | none => none
    | _ => none
  | _ => none

def stepStore (P : Program) (T : TypeId) (lv : Key → LB) (x y : AV) : Option StepR :=
  match x with
  | .c (.ptr k off) => match lv k with
    | .cells own false T' cs => match y.cells with
      | some xs => if (P.info? T).isSome && xs.length == szT P T then some (.undef, [(k, .cells own false T' (setSeg cs off xs))], [], off + xs.length ≤ cs.length) else none
      | none => none
    | _ => none
  | _ => none

def stepNil (lv : Key → LB) : AV → Option StepR
  | .c (.d (.ptr cs)) => some (.c (.d (.ptr cs)), [], [], True)
  | .c (.ptr k n) => match lv k with | .cells .. => some (.c (.ptr k n), [], [k], True) | _ => none
  | .c (.d (.func (.func f) fs cs)) => some (.c (.d (.func (.func f) fs cs)), [], [], True)
  | .c (.func (.func f) fs cs) => some (.c (.func (.func f) fs cs), [], [], True)
  | _ => none

def stepFieldAddr (P : Program) (T : TypeId) (f : Nat) (lv : Key → LB) : AV → Option StepR
  | .c (.d (.ptr cs)) => match fldT P T f with | some (off, _) => some (.c (.d (.ptr (cs.drop off))), [], [], off ≤ cs.length) | none => none
  | .c (.ptr k n) => match lv k, fldT P T f with | .cells .., some (off, _) => some (.c (.ptr k (n + off)), [], [k], True) | _, _ => none
  | _ => none

def stepIndexAddr (P : Program) (T : TypeId) (lv : Key → LB) (x i : AV) : Option StepR :=
  match i with
  | .c (.d (.int _ n)) =>
    match x with
    | .c (.d (.sl es)) => match slT P T with
      | some (_, sz) => some (.c (.d (.ptr (es.getD n.toNat []))), [], [], 0 ≤ n ∧ n < es.length ∧ (es.getD n.toNat []).length = sz)
      | none => none
    | .c (.lsl k off len sz) => match lv k, slT P T with
      | .cells .., some (_, sz') => if sz = sz' then some (.c (.ptr k (off + n.toNat * sz)), [], [k], 0 ≤ n ∧ n < len) else none
      | _, _ => none
    | .c (.d (.ptr cs)) => match arT P T with
      | some (len, _, sz) => some (.c (.d (.ptr (cs.drop (n.toNat * sz)))), [], [], 0 ≤ n ∧ n < len ∧ n.toNat * sz ≤ cs.length)
      | none => none
    | .c (.ptr k off) => match lv k, arT P T with
      | .cells .., some (len, _, sz) => some (.c (.ptr k (off + n.toNat * sz)), [], [k], 0 ≤ n ∧ n < len)
      | _, _ => none
    | _ => none
  | _ => none

def stepIndex (P : Program) (T : TypeId) (x i : AV) : Option StepR :=
  match i with
  | .c (.d (.int _ n)) =>
    match x with
    | .c (.d (.str l)) => if strT P T then some (.c (.d (.int .u8 (l.getD n.toNat 0).toNat)), [], [], 0 ≤ n ∧ n < l.length) else none
    | .agg cs => match arT P T with
      | some (len, e, sz) => match partA P e cs (n.toNat * sz) with | some y => some (y, [], [], 0 ≤ n ∧ n < len) | none => none
      | none => none
    | _ => none
  | _ => none

def stepSlice (P : Program) (T : TypeId) (lv : Key → LB) (x : AV) (lo hi : Option AV) : Option StepR :=
  match x with
  | .c (.d (.str bs)) => if strT P T then (match bndA lo 0, bndA hi bs.length with
    | some l, some h => some (.c (.d (.str ((bs.take h.toNat).drop l.toNat))), [], [], 0 ≤ l ∧ l ≤ h ∧ h ≤ bs.length)
    | _, _ => none) else none
  | .c (.d (.sl es)) => match slT P T with
    | some (_, sz) => match bndA lo 0, bndA hi es.length with
      | some l, some h => some (.c (.d (.sl ((es.take h.toNat).drop l.toNat))), [], [], 0 ≤ l ∧ l ≤ h ∧ h ≤ es.length ∧ ∀ e ∈ es, e.length = sz)
      | _, _ => none
    | none => none
  | .c (.d .nilsl) => match slT P T with
    | some _ => match bndA lo 0, bndA hi 0 with
      | some l, some h => some (.c (.d .nilsl), [], [], l = 0 ∧ h = 0)
      | _, _ => none
    | none => none
  | .c (.lsl k off len sz) => match lv k, slT P T with
    | .cells .., some (_, sz') => if sz = sz' then (match bndA lo 0, bndA hi len with
      | some l, some h => some (.c (.lsl k (off + l.toNat * sz) (h.toNat - l.toNat) sz), [], [k], 0 ≤ l ∧ l ≤ h ∧ h ≤ len ∧ (l < h ∨ l = 0))
      | _, _ => none) else none
    | _, _ => none
  | _ => none

def stepMake (P : Program) (T : TypeId) (lv : Key → LB) (κ : Key) (x y : AV) : Option StepR :=
  match x, y with
  | .c (.d (.int _ l)), .c (.d (.int _ m)) => match slT P T, lv κ with
    | some (e, sz), .hole => match zcells P e, tbytes P e with
      | some zs, some b => if zs.length = sz ∧ 0 < sz then some (.c (.lsl κ 0 l.toNat sz), [(κ, .cells true false e (repl l.toNat zs))], [], 0 ≤ l ∧ l ≤ m ∧ (b : Int) * m ≤ 281474976710656 ∧ m ≤ 9223372036854775807) else none
      | _, _ => none
    | _, _ => none
  | _, _ => none

def stepAppend (P : Program) (T : TypeId) (lv : Key → LB) (κ : Key) (y x : AV) : Option StepR :=
  match slT P T, lv κ with
  | some (e, sz), .hole => match tbytes P e, srcA lv sz x with
    | some b, some (m, xs) =>
      match y with
      | .c (.d .nilsl) => some (.c (.lsl κ 0 m sz), [(κ, if m = 0 then .nils else .cells true false e xs)], keyOf x, m ≤ 9223372036854775807 ∧ m * b ≤ 140737488355328)
      | .c (.lsl k off n sz') => match lv k with
        | .nils => if off = 0 ∧ n = 0 ∧ sz' = sz then some (.c (.lsl κ 0 m sz), [(κ, if m = 0 then .nils else .cells true false e xs)], k :: keyOf x, m ≤ 9223372036854775807 ∧ m * b ≤ 140737488355328) else none
        | .cells own false e' cs => if off = 0 ∧ sz' = sz ∧ e' = e then
            some (.c (.lsl κ 0 (n + m) sz), [(k, .dead), (κ, .cells own false e (cs ++ xs))], keyOf x, cs.length = n * sz ∧ n + m ≤ 9223372036854775807 ∧ (n + m) * b ≤ 140737488355328) else none
        | _ => none
      | _ => none
    | _, _ => none
  | _, _ => none

def stepBuildSlice (P : Program) (T : TypeId) (n : Nat) (ixs : List Nat) (lv : Key → LB) (κ : Key) (vals : List AV) : Option StepR :=
  match slT P T, lv κ with
  | some (e, sz), .hole => match zcells P e with
    | some zs => if zs.length = sz ∧ 0 < sz ∧ n * sz ≤ 16777216 ∧ ixs.length = vals.length then (match fillA (fun i => some (i * sz, sz)) (repl n zs) (ixs.zip vals) with
      | some cs => some (.c (.lsl κ 0 n sz), [(κ, .cells true false e cs)], [], True)
      | none => none) else none
    | none => none
  | _, _ => none

def stepCopy (P : Program) (T : TypeId) (lv : Key → LB) (y x : AV) : Option StepR :=
  match y, slT P T with
  | .c (.lsl k off n sz), some (_, sz') => if sz = 1 ∧ sz' = 1 then (match lv k, srcA lv 1 x with
    | .cells own false T' cs, some (m, xs) => some (.c (.d (.int .i64 ((min m n : Nat) : Int))), [(k, .cells own false T' (setSeg cs off (xs.take (min m n))))], keyOf x, 0 < m ∧ off + min m n ≤ cs.length ∧ n ≤ 9223372036854775807)
    | _, _ => none) else none
  | _, _ => none

def intsOf : List AV → Option (IntKind × List Int)
  | [.c (.d (.int k n))] => some (k, [n])
  | .c (.d (.int k n)) :: r => match intsOf r with | some (k', l) => if k = k' then some (k, n :: l) else none | none => none
  | _ => none

/-- What a built-in does. -/
def stepB (P : Program) (cl : Call) (vals : List AV) (lv : Key → LB) (κ : Key) : Option StepR :=
  match cl.callee with
  | .builtin .len => match cl.args.toList, cl.argTypes.toList, vals with
    | [_], [T], [x] => match lenA P T lv x with
      | some n => some (.c (.d (.int .i64 n)), [], keyOf x, lenOk x n)
      | none => none
    | _, _, _ => none
  | .builtin .append => match cl.args.toList, cl.argTypes.toList, vals with
    | [_, _], [T, T'], [y, x] => if T = T' then stepAppend P T lv κ y x else none
    | _, _, _ => none
  | .builtin .copy => match cl.args.toList, cl.argTypes.toList, vals with
    | [_, _], [T, _], [y, x] => stepCopy P T lv y x
    | _, _, _ => none
  | .builtin .max => match intsOf vals with
    | some (k, n :: l) => some (.c (.d (.int k (l.foldl (fun a b => if b > a then b else a) n))), [], [], True)
    | _ => none
  | .builtin .min => match intsOf vals with
    | some (k, n :: l) => some (.c (.d (.int k (l.foldl (fun a b => if b < a then b else a) n))), [], [], True)
    | _ => none
  | _ => none

/-- What an operation does that is no call of a Go function. κ: the key of a new block. -/
def stepF (P : Program) (op : Op) (vals : List AV) (lv : Key → LB) (κ : Key) : Option StepR :=
  match op, vals with
  | .move _, [x] | .assign _, [x] => some (x, [], [], True)
  | .pick _ _ _, [t, x, y] => match t with | .c (.d (.bool true)) => some (x, [], [], True) | .c (.d (.bool false)) => some (y, [], [], True) | _ => none
  | .alloc T, [] => match zcells P T, lv κ with | some xs, .hole => some (.c (.ptr κ 0), [(κ, .cells true false T xs)], [], True) | _, _ => none
  | .box T _, [x] => match x.cells, lv κ with | some xs, .hole => some (.c (.ptr κ 0), [(κ, .cells true false T xs)], [], True) | _, _ => none
  | .build T parts, vals => match zcells P T, placesT P T with
    | some zs, some place => if parts.size = vals.length then (match fillA place zs ((parts.toList.map (·.1)).zip vals) with | some cs => some (.agg cs, [], [], True) | none => none) else none
    | _, _ => none
  | .buildSlice T n parts, vals => stepBuildSlice P T n (parts.toList.map (·.1)) lv κ vals
  | .load T _, [x] => stepLoad P T lv x
  | .store T _ _, [x, y] => stepStore P T lv x y
  | .nilCheck _, [x] => stepNil lv x
  | .binOp op T _ _ _, [x, y] => stepBin P op T x y
  | .unOp op _ _, [x] => match x with | .c (.d d) => (match unA op d with | some d' => some (.c (.d d'), [], [], True) | none => none) | _ => none
  | .convert S T _, [x] => match x with
    | .c (.d (.int _ n)) => match intT P S, intT P T with | some _, some k' => some (.c (.d (.int k' (k'.wrap n))), [], [], True) | _, _ => none
    | .c (.d (.str l)) => if strT P S && strT P T then some (.c (.d (.str l)), [], [], True) else none
    | _ => none
  | .makeInterface T _, [x] => match deepA x with | some d => if P.concrete T then some (.c (.d (.iface T d)), [], [], True) else none | none => none
  | .makeFunc fn first caps, vals => if vals.length = first.size + caps.size then (match refL (vals.take first.size), refL (vals.drop first.size) with
    | some fr, some cr => some (.c (funA fn fr cr), [], [], True)
    | _, _ => none) else none
  | .makeSlice T _ _, [x, y] => stepMake P T lv κ x y
  | .slice T _ lo hi none, x :: rest => match bnds lo hi rest with | some (l, h) => stepSlice P T lv x l h | none => none
  | .fieldAddr T _ f, [x] => stepFieldAddr P T f lv x
  | .field T _ f, [x] => match x with | .agg cs => (match fldT P T f with | some (off, ft) => (match partA P ft cs off with | some y => some (y, [], [], True) | none => none) | none => none) | _ => none
  | .indexAddr T _ _, [x, i] => stepIndexAddr P T lv x i
  | .index T _ _, [x, i] => stepIndex P T x i
  | .extract _ i, [x] => match x with | .tup l => (match l[i]? with | some (.tup _) => none | some y => some (y, [], [], True) | none => none) | _ => none
  | .call cl, vals => stepB P cl vals lv κ
  | _, _ => none

def updL (lv : Key → LB) (us : List (Key × LB)) : Key → LB := us.foldl (fun f p => upd f p.1 p.2) lv

end Go.Am

namespace Go.Am

section
variable {c : Ctx} {s : LSt} {o : Oper}

theorem beq_isSome_and {α : Type} {x : Option α} {b : Bool} (h : (x.isSome && b) = true) : x.isSome = true ∧ b = true := by simpa using h

theorem eqT_nil {P : Program} {T : TypeId} {d : Nat} {b : Bool} (h : eqT P d T (.c (.d .nilIface)) (.c (.d .nilIface)) = some b) : False := by
  cases d with
  | zero => cases h
  | succ d => unfold eqT at h; split at h <;> simp_all

/-- '==' by the type, on values that are no numbers. -/
theorem run_eq_any {V : Vw} {P : Program} {T : TypeId} {x y : Operand} {p q : AV} {u v : Value} {b : Bool} {d : Nat} (hu : V.av u p) (hv : V.av v q) (he : eqT P d T p q = some b) (hp : eqable p = true)
    (hg : P.eqGuardType P.depth T = false) (hr : (Op.equalIn 10000 T u v).run P V.w = .ok b V.w) :
    (do eqGuard .eql T x y u v; binOp .eql T u v : Sem Value).run P V.w = .ok (.bool b) V.w ∧ (do eqGuard .neq T x y u v; binOp .neq T u v : Sem Value).run P V.w = .ok (.bool (!b)) V.w := by
  have hq : (Op.equal T u v).run P V.w = .ok b V.w := hr
  have key : ∀ op, op = .eql ∨ op = .neq → (eqGuard op T x y u v).run P V.w = .ok () V.w := by
    intro op hop
    have hne : ¬ (u = .nilIface ∧ v = .nilIface) := by
      rintro ⟨rfl, rfl⟩
      have e1 : p = .c (.d .nilIface) := by
        cases p with
        | c z => cases z <;> simp [eqable] at hp
                 rename_i z; cases z <;> simp at hp <;> (obtain ⟨hu, _⟩ := hu; cases hu); rfl
        | agg cs => obtain ⟨arr, h, _⟩ := hu; cases h
        | tup l => cases hp
        | undef => cases hp
        | junk => cases hp
      subst e1
      have e2 : q = .c (.d .nilIface) := by
        cases d with
        | zero => cases he
        | succ d =>
          unfold eqT at he
          split at he <;> first | (simp at *; done) | skip
          all_goals (first | (rename_i h1 h2 h3; simp_all; done) | skip)
          all_goals (obtain ⟨hv, _⟩ := hv; cases hv)
      subst e2
      exact eqT_nil he
    unfold eqGuard
    rcases hop with rfl | rfl <;> simp only [Bool.not_true, Bool.false_eq_true, if_false] <;> split <;> first | (exfalso; exact hne ⟨rfl, rfl⟩) | (simp [hg]; done) | rfl
  have hb : binOp .eql T u v = (do pure (.bool (← Op.equal T u v))) ∧ binOp .neq T u v = (do pure (.bool (!(← Op.equal T u v)))) := by
    cases p with
    | c z =>
      cases z <;> simp [eqable] at hp
      rename_i z
      cases z <;> simp at hp <;> (obtain ⟨hu, _⟩ := hu; cases hu) <;> exact ⟨rfl, rfl⟩
    | agg cs => obtain ⟨arr, rfl, _⟩ := hu; exact ⟨rfl, rfl⟩
    | tup l => cases hp
    | undef => cases hp
    | junk => cases hp
  constructor
  · rw [Sem.run_bind, key .eql (.inl rfl), Result.andThen_ok, hb.1, Sem.run_bind, hq]; rfl
  · rw [Sem.run_bind, key .neq (.inr rfl), Result.andThen_ok, hb.2, Sem.run_bind, hq]; rfl

theorem sim_bin {op : BinOp} {T T' : TypeId} {x y : Operand} {κ : StepR} (hd : ∀ d, o.dst = some d → d < c.n) (ho : o.op = .binOp op T x y T')
    (h : stepBin c.P op T (s.val c.G x) (s.val c.G y) = some κ) (hvc : κ.2.2.2) : Sim c o s (LSt.put ⟨s.fr, updL s.lv κ.2.1⟩ o.dst κ.1) := by
  have hst : (⟨s.fr, s.lv⟩ : LSt) = s := rfl
  unfold stepBin at h
  split at h
  · rename_i k m k' n hx hy
    split at h
    · split at h
      · simp only [Option.some.injEq] at h; subst h
        exact sim_shI hd ho hx hy (by assumption) hvc
      · cases h
    · split at h
      · simp only [Option.some.injEq] at h; subst h
        exact sim_shI hd ho hx hy (by assumption) hvc
      · cases h
    · split at h
      · rename_i hk; subst hk
        split at h
        · simp only [Option.some.injEq] at h; subst h
          exact sim_binI hd ho hx hy (by assumption) hvc
        · cases h
      · cases h
  · rename_i m n hx hy
    split at h
    · simp only [Option.some.injEq] at h; subst h
      exact sim_binS hd ho hx hy (by assumption) hvc
    · cases h
  · split at h
    · split at h
      · cases h
      · rename_i hg
        split at h
        · rename_i b hb
          simp only [Option.some.injEq] at h; subst h
          refine Sim.of_pure hd fun F β a w hs => ⟨.bool b, ?_, Vw.mk_bool _ _⟩
          have hr := run_eqT (Vw.mk F β s.lv w) 20 T _ _ b hb _ _ (hs.val x) (hs.val y) 10000 (by omega)
          have := (run_eq_any (x := x) (y := y) (hs.val x) (hs.val y) hb (by simp at hg; exact hg.2) (by simp at hg; exact hg.1) hr).1
          simp only [execOp, ho]
          rw [Sem.run_bind, this]; rfl
        · cases h
    · split at h
      · cases h
      · rename_i hg
        split at h
        · rename_i b hb
          simp only [Option.some.injEq] at h; subst h
          refine Sim.of_pure hd fun F β a w hs => ⟨.bool (!b), ?_, Vw.mk_bool _ _⟩
          have hr := run_eqT (Vw.mk F β s.lv w) 20 T _ _ b hb _ _ (hs.val x) (hs.val y) 10000 (by omega)
          have := (run_eq_any (x := x) (y := y) (hs.val x) (hs.val y) hb (by simp at hg; exact hg.2) (by simp at hg; exact hg.1) hr).2
          simp only [execOp, ho]
          rw [Sem.run_bind, this]; rfl
        · cases h
    · cases h

theorem map_cd_inj {l : List DV} {x : List CV} (h : l.map CV.d = x) : l.map CV.d = x := h

theorem bnds_eq {lo hi : Option Operand} {ρ : Operand → AV} {l h : Option AV} (hb : bnds lo hi ((lo.toArray ++ hi.toArray).toList.map ρ) = some (l, h)) : l = lo.map ρ ∧ h = hi.map ρ := by
  cases lo <;> cases hi <;> simp [bnds] at hb ⊢ <;> (obtain ⟨rfl, rfl⟩ := hb; simp)

theorem map_eq_one {α β : Type} {f : α → β} {x : α} {y : β} (h : [x].map f = [y]) : f x = y := by simpa using h

theorem call_eq {cl : Call} {b : Callee} {xs : List Operand} {ts : List TypeId} (h1 : cl.callee = b) (h2 : cl.args.toList = xs) (h3 : cl.argTypes.toList = ts) :
    cl = { callee := b, args := xs.toArray, argTypes := ts.toArray } := by
  cases cl; simp only at h1 h2 h3; subst h1 h2 h3; simp

theorem intsOf_vals {V : Vw} : ∀ {vals : List AV} {k : IntKind} {l : List Int} {vs : List Value}, intsOf vals = some (k, l) → vs.length = vals.length → (∀ i (h : i < vs.length) (h' : i < vals.length), V.av vs[i] vals[i]) →
    vs = l.map (Value.int k)
  | [], _, _, _, h, _, _ => by cases h
  | [x], k, l, vs, h, hl, hv => by
    match vs, hl with
    | [v], _ =>
      have h0 := hv 0 (by simp) (by simp)
      unfold intsOf at h
      split at h
      · rename_i e
        simp only [List.cons.injEq, and_true] at e
        simp only [Option.some.injEq, Prod.mk.injEq] at h
        obtain ⟨rfl, rfl⟩ := h
        simp only [List.getElem_cons_zero, e] at h0
        rw [Vw.c_int h0]; rfl
      · exfalso; simp_all
      · cases h
  | x :: y :: r, k, l, vs, h, hl, hv => by
    match vs, hl with
    | v :: vr, hl =>
      have h0 := hv 0 (by simp) (by simp)
      unfold intsOf at h
      split at h
      · rename_i e; simp at e
      · rename_i hne e
        simp only [List.cons.injEq] at e
        obtain ⟨rfl, rfl⟩ := e
        split at h
        · rename_i k' l' hr
          split at h
          · rename_i hk; subst hk
            simp only [Option.some.injEq, Prod.mk.injEq] at h
            obtain ⟨rfl, rfl⟩ := h
            simp only [List.getElem_cons_zero] at h0
            rw [Vw.c_int h0, intsOf_vals hr (by simpa using hl) (fun i p q => hv (i + 1) (by simpa using p) (by simpa using q))]
            rfl
          · cases h
        · cases h
      · cases h

theorem intsOf_rng {V : Vw} : ∀ {vals : List AV} {k : IntKind} {l : List Int} {vs : List Value}, intsOf vals = some (k, l) → vs.length = vals.length → (∀ i (h : i < vs.length) (h' : i < vals.length), V.av vs[i] vals[i]) →
    ∀ m ∈ l, k.wrap m = m
  | [], _, _, _, h, _, _ => by cases h
  | [x], k, l, vs, h, hl, hv => by
    match vs, hl with
    | [v], _ =>
      have h0 := hv 0 (by simp) (by simp)
      unfold intsOf at h
      split at h
      · rename_i e
        simp only [List.cons.injEq, and_true] at e
        simp only [Option.some.injEq, Prod.mk.injEq] at h
        obtain ⟨rfl, rfl⟩ := h
        simp only [List.getElem_cons_zero, e] at h0
        simp only [List.mem_singleton]
        rintro m rfl; exact Vw.int_rng h0
      · exfalso; simp_all
      · cases h
  | x :: y :: r, k, l, vs, h, hl, hv => by
    match vs, hl with
    | v :: vr, hl =>
      have h0 := hv 0 (by simp) (by simp)
      unfold intsOf at h
      split at h
      · rename_i e; simp at e
      · rename_i hne e
        simp only [List.cons.injEq] at e
        obtain ⟨rfl, rfl⟩ := e
        split at h
        · rename_i k' l' hr
          split at h
          · rename_i hk; subst hk
            simp only [Option.some.injEq, Prod.mk.injEq] at h
            obtain ⟨rfl, rfl⟩ := h
            simp only [List.getElem_cons_zero] at h0
            intro m hm
            rcases List.mem_cons.1 hm with rfl | hm
            · exact Vw.int_rng h0
            · exact intsOf_rng hr (by simpa using hl) (fun i p q => hv (i + 1) (by simpa using p) (by simpa using q)) m hm
          · cases h
        · cases h
      · cases h

theorem foldl_pick {f : Int → Int → Int} (hf : ∀ a b, f a b = a ∨ f a b = b) : ∀ (l : List Int) (n : Int), l.foldl f n ∈ n :: l
  | [], n => by simp
  | x :: l, n => by
    have h := foldl_pick hf l (f n x)
    rw [List.foldl_cons]
    rcases List.mem_cons.1 h with h | h
    · rw [h]; rcases hf n x with e | e <;> rw [e] <;> simp
    · simp [h]

theorem foldlM_max {P : Program} {k : IntKind} (w : World) : ∀ (l : List Int) (n : Int), ((l.map (Value.int k)).foldlM Builtin.max2 (.int k n)).run P w = .ok (.int k (l.foldl (fun a b => if b > a then b else a) n)) w
  | [], n => rfl
  | x :: l, n => by
    simp only [List.map_cons, List.foldlM_cons, List.foldl_cons, Sem.run_bind]
    have : (Builtin.max2 (.int k n) (.int k x)).run P w = .ok (.int k (if x > n then x else n)) w := rfl
    rw [this, Result.andThen_ok]
    exact foldlM_max w l _

theorem foldlM_min {P : Program} {k : IntKind} (w : World) : ∀ (l : List Int) (n : Int), ((l.map (Value.int k)).foldlM Builtin.min2 (.int k n)).run P w = .ok (.int k (l.foldl (fun a b => if b < a then b else a) n)) w
  | [], n => rfl
  | x :: l, n => by
    simp only [List.map_cons, List.foldlM_cons, List.foldl_cons, Sem.run_bind]
    have : (Builtin.min2 (.int k n) (.int k x)).run P w = .ok (.int k (if x < n then x else n)) w := rfl
    rw [this, Result.andThen_ok]
    exact foldlM_min w l _

theorem stepB_sim {cl : Call} {vals : List AV} {κ : Key} {r : StepR} (hd : ∀ d, o.dst = some d → d < c.n) (ho : o.op = .call cl) (hv : (Op.call cl).operands.toList.map (s.val c.G) = vals)
    (h : stepB c.P cl vals s.lv κ = some r) (hvc : r.2.2.2) : Sim c o s (LSt.put ⟨s.fr, updL s.lv r.2.1⟩ o.dst r.1) := by
  unfold stepB at h
  split at h
  · rename_i hcal
    split at h
    · rename_i a0 T x ha ht
      have hcl := call_eq hcal ha ht
      subst hcl
      have h1 : s.val c.G a0 = x := by simpa [Op.operands, Call.operands] using hv
      split at h
      · simp only [Option.some.injEq] at h; subst h
        exact sim_len hd ho (by rw [h1]; assumption) (by rw [h1]; exact hvc)
      · cases h
    · cases h
  · rename_i hcal
    split at h
    · rename_i a0 a1 T T' y x ha ht
      have hcl := call_eq hcal ha ht
      subst hcl
      have h12 : s.val c.G a0 = y ∧ s.val c.G a1 = x := by simpa [Op.operands, Call.operands] using hv
      obtain ⟨h1, h2⟩ := h12
      split at h
      · rename_i hTT; subst hTT
        unfold stepAppend at h
        split at h
        · rename_i e sz hT hk
          split at h
          · rename_i b m xs hb hx
            obtain ⟨i, z, hi, hz1, hz2, hz3⟩ := tbytes_info hb
            obtain ⟨hu, hie, hsz⟩ := slT_info hT
            have hsize : z.cells.size = sz := by rw [hz2, ← hsz]; simp [szT, hi]
            split at h
            · simp only [Option.some.injEq] at h; subst h
              exact sim_append_new hd ho hk h1 hT hi hz1 (by rw [h2]; exact hx) hsize hvc.1 (by rw [hz3]; exact hvc.2)
            · split at h
              · split at h
                · rename_i hc
                  obtain ⟨rfl, rfl, rfl⟩ := hc
                  simp only [Option.some.injEq] at h; subst h
                  exact sim_append_nils hd ho hk hT hi hz1 h1 (by assumption) (by rw [h2]; exact hx) hsize hvc.1 (by rw [hz3]; exact hvc.2)
                · cases h
              · split at h
                · rename_i hc
                  obtain ⟨rfl, rfl, rfl⟩ := hc
                  simp only [Option.some.injEq] at h; subst h
                  exact sim_append_old hd ho hk hT hi hz1 h1 (by assumption) hvc.1 (by rw [h2]; exact hx) hsize hvc.2.1 (by rw [hz3]; exact hvc.2.2)
                · cases h
              · cases h
            · cases h
          · cases h
        · cases h
      · cases h
    · cases h
  · rename_i hcal
    split at h
    · rename_i a0 a1 T T' y x ha ht
      have hcl := call_eq hcal ha ht
      subst hcl
      have h12 : s.val c.G a0 = y ∧ s.val c.G a1 = x := by simpa [Op.operands, Call.operands] using hv
      obtain ⟨h1, h2⟩ := h12
      unfold stepCopy at h
      split at h
      · rename_i k off n sz e sz' hT
        split at h
        · rename_i hsz
          obtain ⟨rfl, rfl⟩ := hsz
          split at h
          · rename_i own T0 cs m xs hk hx
            simp only [Option.some.injEq] at h; subst h
            obtain ⟨g1, g2, g3⟩ := hvc
            exact sim_copy hd ho h1 hk hT (by rw [h2]; exact hx) g1 g2 g3
          · cases h
        · cases h
      · cases h
    · cases h
  · rename_i hcal
    split at h
    · rename_i k n l hi
      simp only [Option.some.injEq] at h; subst h
      refine Sim.of_pure hd fun F β a w hs => ?_
      have hall : (cl.args.toList.map a.eval).length = vals.length ∧ ∀ i (h : i < (cl.args.toList.map a.eval).length) (h' : i < vals.length), (Vw.mk F β s.lv w).av (cl.args.toList.map a.eval)[i] vals[i] := by
        refine ⟨?_, ?_⟩
        · rw [← hv]; simp [Op.operands, Call.operands, hcal]
        · intro i p q
          subst hv
          simp only [Op.operands, Call.operands, hcal, Array.empty_append, List.getElem_map] at q ⊢
          exact hs.val _
      have hargs : cl.args.toList.map a.eval = (n :: l).map (Value.int k) := intsOf_vals (V := Vw.mk F β s.lv w) hi hall.1 hall.2
      have hrng := intsOf_rng (V := Vw.mk F β s.lv w) hi hall.1 hall.2 _ (foldl_pick (f := fun a b => if b > a then b else a) (fun a b => by by_cases h : b > a <;> simp [h]) l n)
      refine ⟨.int k (l.foldl (fun a b => if b > a then b else a) n), ?_, Vw.mk_int _ _ _ hrng⟩
      have hm : (Builtin.max_ cl.argTypes o.type (cl.args.map a.eval)).run c.P w = .ok (.int k (l.foldl (fun a b => if b > a then b else a) n)) w := by
        simp only [Builtin.max_, Array.toList_map, hargs, List.map_cons]
        exact foldlM_max w l n
      simp [execOp, ho, resolve, hcal, invoke, builtin, hm]
    · cases h
  · rename_i hcal
    split at h
    · rename_i k n l hi
      simp only [Option.some.injEq] at h; subst h
      refine Sim.of_pure hd fun F β a w hs => ?_
      have hall : (cl.args.toList.map a.eval).length = vals.length ∧ ∀ i (h : i < (cl.args.toList.map a.eval).length) (h' : i < vals.length), (Vw.mk F β s.lv w).av (cl.args.toList.map a.eval)[i] vals[i] := by
        refine ⟨?_, ?_⟩
        · rw [← hv]; simp [Op.operands, Call.operands, hcal]
        · intro i p q
          subst hv
          simp only [Op.operands, Call.operands, hcal, Array.empty_append, List.getElem_map] at q ⊢
          exact hs.val _
      have hargs : cl.args.toList.map a.eval = (n :: l).map (Value.int k) := intsOf_vals (V := Vw.mk F β s.lv w) hi hall.1 hall.2
      have hrng := intsOf_rng (V := Vw.mk F β s.lv w) hi hall.1 hall.2 _ (foldl_pick (f := fun a b => if b < a then b else a) (fun a b => by by_cases h : b < a <;> simp [h]) l n)
      refine ⟨.int k (l.foldl (fun a b => if b < a then b else a) n), ?_, Vw.mk_int _ _ _ hrng⟩
      have hm : (Builtin.min_ cl.argTypes o.type (cl.args.map a.eval)).run c.P w = .ok (.int k (l.foldl (fun a b => if b < a then b else a) n)) w := by
        simp only [Builtin.min_, Array.toList_map, hargs, List.map_cons]
        exact foldlM_min w l n
      simp [execOp, ho, resolve, hcal, invoke, builtin, hm]
    · cases h
  · cases h

set_option maxHeartbeats 1000000 in
theorem stepF_sim {op : Op} {vals : List AV} {κ : Key} {r : StepR} (hd : ∀ d, o.dst = some d → d < c.n) (ho : o.op = op) (hv : op.operands.toList.map (s.val c.G) = vals)
    (h : stepF c.P op vals s.lv κ = some r) (hvc : r.2.2.2) : Sim c o s (LSt.put ⟨s.fr, updL s.lv r.2.1⟩ o.dst r.1) := by
  unfold stepF at h
  split at h
  · -- move
    simp only [Option.some.injEq] at h; subst h
    have := map_eq_one hv
    subst this
    exact sim_move hd (.inl ho)
  · simp only [Option.some.injEq] at h; subst h
    have := map_eq_one hv
    subst this
    exact sim_move hd (.inr ho)
  · -- pick
    simp only [Op.operands, List.map_cons, List.map_nil, List.cons.injEq, and_true] at hv
    obtain ⟨h1, h2, h3⟩ := hv
    split at h
    · simp only [Option.some.injEq] at h; subst h; subst h2
      exact sim_pick hd ho h1
    · simp only [Option.some.injEq] at h; subst h; subst h3
      exact sim_pick hd ho h1
    · cases h
  · -- alloc
    split at h
    · rename_i xs hz hk
      simp only [Option.some.injEq] at h; subst h
      obtain ⟨z, hz1, hz2⟩ := zcells_info hz
      exact sim_alloc hd ho hk hz1 hz2
    · cases h
  · -- box
    have h1 := map_eq_one hv
    split at h
    · rename_i xs hx hk
      simp only [Option.some.injEq] at h; subst h
      exact sim_box hd ho hk (by rw [h1]; exact hx)
    · cases h
  · -- build
    split at h
    · rename_i zs place hz hp
      split at h
      · split at h
        · rename_i cs hf
          simp only [Option.some.injEq] at h; subst h
          obtain ⟨z, hz1, hz2⟩ := zcells_info hz
          refine sim_build hd ho hz1 hz2 hp ?_
          rw [← hf]
          congr 1
          rw [← hv]
          simp only [Op.operands, List.map_map]
          rw [List.zip_map']
          rfl
        · cases h
      · cases h
    · cases h
  · -- buildSlice
    unfold stepBuildSlice at h
    split at h
    · rename_i e sz hT hk
      split at h
      · rename_i zs hz
        split at h
        · rename_i hc
          split at h
          · rename_i cs hf
            simp only [Option.some.injEq] at h; subst h
            obtain ⟨z, hz1, hz2⟩ := zcells_info hz
            refine sim_buildSlice hd ho hk hT hz1 hz2 hc.1 hc.2.1 hc.2.2.1 ?_
            rw [← hf]
            congr 1
            rw [← hv]
            simp only [Op.operands, List.map_map]
            rw [List.zip_map']
            rfl
          · cases h
        · cases h
      · cases h
    · cases h
  · -- load
    have h1 := map_eq_one hv
    unfold stepLoad at h
    split at h
    · split at h
      · simp only [Option.some.injEq] at h; subst h
        exact sim_load_d hd ho h1 (by assumption)
      · cases h
    · split at h
      · split at h
        · simp only [Option.some.injEq] at h; subst h
          exact sim_load_l hd ho h1 (by assumption) (by assumption)
        · cases h
      · cases h
    · cases h
  · -- store
    simp only [Op.operands, List.map_cons, List.map_nil, List.cons.injEq, and_true] at hv
    obtain ⟨h1, h2⟩ := hv
    unfold stepStore at h
    split at h
    · split at h
      · split at h
        · split at h
          · rename_i hc
            simp only [Option.some.injEq] at h; subst h
            obtain ⟨h3, h4⟩ := beq_isSome_and hc
            exact sim_store hd ho h1 (by assumption) (by rw [h2]; assumption) h3 (by simpa using h4) hvc
          · cases h
        · cases h
      · cases h
    · cases h
  · -- nilCheck
    have h1 := map_eq_one hv
    unfold stepNil at h
    split at h
    · simp only [Option.some.injEq] at h; subst h
      exact sim_nilCheck_d hd ho h1
    · split at h
      · simp only [Option.some.injEq] at h; subst h
        exact sim_nilCheck_l hd ho h1 (by assumption)
      · cases h
    · simp only [Option.some.injEq] at h; subst h
      exact sim_nilCheck_f hd ho h1 (fun m e => by cases e)
    · simp only [Option.some.injEq] at h; subst h
      exact sim_nilCheck_fl hd ho h1 (fun m e => by cases e)
    · cases h
  · -- binOp
    simp only [Op.operands, List.map_cons, List.map_nil, List.cons.injEq, and_true] at hv
    obtain ⟨h1, h2⟩ := hv
    subst h1 h2
    exact sim_bin hd ho h hvc
  · -- unOp
    have h1 := map_eq_one hv
    split at h
    · split at h
      · simp only [Option.some.injEq] at h; subst h
        exact sim_unOp hd ho h1 (by assumption)
      · cases h
    · cases h
  · -- convert
    have h1 := map_eq_one hv
    split at h
    · split at h
      · rename_i e1 e2
        simp only [Option.some.injEq] at h; subst h
        exact sim_conv_int hd ho h1 (by rw [e1]; rfl) e2
      · cases h
    · split at h
      · rename_i hc
        simp only [Option.some.injEq] at h; subst h
        simp only [Bool.and_eq_true] at hc
        exact sim_conv_str hd ho h1 hc.1 hc.2
      · cases h
    · cases h
  · -- makeInterface
    have h1 := map_eq_one hv
    split at h
    · split at h
      · simp only [Option.some.injEq] at h; subst h
        exact sim_mkIface hd ho (by rw [h1]; assumption) (by assumption)
      · cases h
    · cases h
  · -- makeFunc
    split at h
    · rename_i hl
      split at h
      · rename_i fr cr e1 e2
        simp only [Option.some.injEq] at h; subst h
        simp only [Op.operands, Array.toList_append, List.map_append] at hv
        subst hv
        rw [List.take_left' (by simp)] at e1
        rw [List.drop_left' (by simp)] at e2
        exact sim_mkFunc hd ho e1 e2
      · cases h
    · cases h
  · -- makeSlice
    simp only [Op.operands, List.map_cons, List.map_nil, List.cons.injEq, and_true] at hv
    obtain ⟨h1, h2⟩ := hv
    unfold stepMake at h
    split at h
    · split at h
      · rename_i e sz hT hk
        split at h
        · rename_i zs b hz hb
          split at h
          · rename_i hc
            simp only [Option.some.injEq] at h; subst h
            obtain ⟨i, z, hi, hz1, hz2, hz3⟩ := tbytes_info hb
            obtain ⟨z', hz4, hz5⟩ := zcells_info hz
            rw [hi] at hz4; simp only [Option.bind_some] at hz4
            rw [hz1] at hz4; cases hz4
            obtain ⟨v1, v2, v3, v4⟩ := hvc
            exact sim_make hd ho hk h1 h2 hT hi hz1 hz5 hc.1 hc.2 v1 v2 (by rw [hz3]; exact v3) v4
          · cases h
        · cases h
      · cases h
    · cases h
  · -- slice
    rename_i T x lo hi v rest
    simp only [Op.operands, Option.toArray_none, Array.append_empty, Array.append_assoc, Array.toList_append, List.map_append, List.map_cons, List.cons_append, List.nil_append, List.cons.injEq] at hv
    obtain ⟨h1, h2⟩ := hv
    split at h
    · rename_i l hh hb
      rw [← h2, ← List.map_append, ← Array.toList_append] at hb
      obtain ⟨rfl, rfl⟩ := bnds_eq hb
      unfold stepSlice at h
      split at h
      · split at h
        · rename_i hs
          split at h
          · simp only [Option.some.injEq] at h; subst h
            obtain ⟨v1, v2, v3⟩ := hvc
            exact sim_slice_str hd ho h1 (strT_info hs) (by assumption) (by assumption) v1 v2 v3
          · cases h
        · cases h
      · split at h
        · rename_i hT
          split at h
          · simp only [Option.some.injEq] at h; subst h
            obtain ⟨v1, v2, v3, v4⟩ := hvc
            exact sim_slice_d hd ho h1 hT v4 (by assumption) (by assumption) v1 v2 v3
          · cases h
        · cases h
      · split at h
        · rename_i hT
          split at h
          · simp only [Option.some.injEq] at h; subst h
            exact sim_slice_nil hd ho h1 hT (by assumption) (by assumption) hvc.1 hvc.2
          · cases h
        · cases h
      · split at h
        · rename_i hk hT
          split at h
          · rename_i hsz; subst hsz
            split at h
            · simp only [Option.some.injEq] at h; subst h
              obtain ⟨v1, v2, v3, v4⟩ := hvc
              exact sim_slice_l hd ho h1 hk hT (by assumption) (by assumption) v1 v2 v3 v4
            · cases h
          · cases h
        · cases h
      · cases h
    · cases h
  · -- fieldAddr
    have h1 := map_eq_one hv
    unfold stepFieldAddr at h
    split at h
    · split at h
      · simp only [Option.some.injEq] at h; subst h
        exact sim_fieldAddr_d hd ho h1 (by assumption) hvc
      · cases h
    · split at h
      · simp only [Option.some.injEq] at h; subst h
        exact sim_fieldAddr_l hd ho h1 (by assumption) (by assumption)
      · cases h
    · cases h
  · -- field
    have h1 := map_eq_one hv
    split at h
    · split at h
      · split at h
        · simp only [Option.some.injEq] at h; subst h
          exact sim_field hd ho h1 (by assumption) (by assumption)
        · cases h
      · cases h
    · cases h
  · -- indexAddr
    simp only [Op.operands, List.map_cons, List.map_nil, List.cons.injEq, and_true] at hv
    obtain ⟨h1, h2⟩ := hv
    unfold stepIndexAddr at h
    split at h
    · split at h
      · rename_i es _
        split at h
        · simp only [Option.some.injEq] at h; subst h
          obtain ⟨v1, v2, v3⟩ := hvc
          refine sim_indexAddr_d hd ho h1 h2 (by assumption) v1 ?_ v3
          rw [List.getD_eq_getElem?_getD, List.getElem?_eq_getElem (by omega)]; rfl
        · cases h
      · split at h
        · split at h
          · rename_i hsz; subst hsz
            simp only [Option.some.injEq] at h; subst h
            exact sim_indexAddr_l hd ho h1 (by assumption) h2 (by assumption) hvc.1 hvc.2
          · cases h
        · cases h
      · split at h
        · simp only [Option.some.injEq] at h; subst h
          exact sim_indexAddr_ad hd ho h1 h2 (by assumption) hvc.1 hvc.2.1 hvc.2.2
        · cases h
      · split at h
        · simp only [Option.some.injEq] at h; subst h
          exact sim_indexAddr_al hd ho h1 (by assumption) h2 (by assumption) hvc.1 hvc.2
        · cases h
      · cases h
    · cases h
  · -- index
    simp only [Op.operands, List.map_cons, List.map_nil, List.cons.injEq, and_true] at hv
    obtain ⟨h1, h2⟩ := hv
    unfold stepIndex at h
    split at h
    · split at h
      · split at h
        · rename_i hs
          simp only [Option.some.injEq] at h; subst h
          refine sim_index_str hd ho h1 h2 (strT_info hs) hvc.1 ?_
          have := hvc.2
          rw [List.getD_eq_getElem?_getD, List.getElem?_eq_getElem (by omega)]; rfl
        · cases h
      · split at h
        · split at h
          · simp only [Option.some.injEq] at h; subst h
            exact sim_index_arr hd ho h1 h2 (by assumption) hvc.1 hvc.2 (by assumption)
          · cases h
        · cases h
      · cases h
    · cases h
  · -- extract
    have h1 := map_eq_one hv
    split at h
    · split at h
      · cases h
      · rename_i y hnt hy
        simp only [Option.some.injEq] at h; subst h
        exact sim_extract hd ho h1 hy (fun l' e => hnt l' e)
      · cases h
    · cases h
  · -- builtins
    rename_i cl vals'
    exact stepB_sim hd ho hv h hvc
  · cases h

/-- What an operation does hangs on the blocks that it names alone. -/
def Agree (lv lv' : Key → LB) (us : List (Key × LB)) (rds : List Key) : Prop := (∀ k ∈ rds, lv' k = lv k) ∧ ∀ p ∈ us, lv' p.1 = lv p.1

theorem srcA_local {lv lv' : Key → LB} {sz : Nat} {x : AV} {r : Nat × List CV} (h : srcA lv sz x = some r) (hk : ∀ k ∈ keyOf x, lv' k = lv k) : srcA lv' sz x = some r := by
  rw [← h]
  unfold srcA
  split <;> first | rfl | skip
  rw [hk _ (by simp [keyOf])]

theorem lenA_local {P : Program} {lv lv' : Key → LB} {T : TypeId} {x : AV} {r : Int} (h : lenA P T lv x = some r) (hk : ∀ k ∈ keyOf x, lv' k = lv k) : lenA P T lv' x = some r := by
  rw [← h]
  unfold lenA
  split <;> first | rfl | skip
  rw [hk _ (by simp [keyOf])]

theorem stepLoad_local {P : Program} {T : TypeId} {lv lv' : Key → LB} {x : AV} {r : StepR} (h : stepLoad P T lv x = some r) (ha : Agree lv lv' r.2.1 r.2.2.1) : stepLoad P T lv' x = some r := by
  have h0 := h
  unfold stepLoad at h ⊢
  split at h
  · exact h
  · split at h
    · rename_i e
      split at h
      · rename_i e2
        simp only [Option.some.injEq] at h; subst h
        have := ha.1 _ (List.mem_singleton.2 rfl)
        simp only [this, e, e2]
      · cases h
    · cases h
  · cases h

theorem stepStore_local {P : Program} {T : TypeId} {lv lv' : Key → LB} {x y : AV} {r : StepR} (h : stepStore P T lv x y = some r) (ha : Agree lv lv' r.2.1 r.2.2.1) : stepStore P T lv' x y = some r := by
  unfold stepStore at h ⊢
  split at h
  · split at h
    · rename_i e
      split at h
      · rename_i e2
        split at h
        · rename_i e3
          simp only [Option.some.injEq] at h; subst h
          have := ha.2 _ (List.mem_singleton.2 rfl)
          simp only at this
          simp only [this, e, e3, if_true]
        · cases h
      · cases h
    · cases h
  · cases h

theorem stepNil_local {lv lv' : Key → LB} {x : AV} {r : StepR} (h : stepNil lv x = some r) (ha : Agree lv lv' r.2.1 r.2.2.1) : stepNil lv' x = some r := by
  unfold stepNil at h ⊢
  split at h
  · exact h
  · split at h
    · rename_i e
      simp only [Option.some.injEq] at h; subst h
      have := ha.1 _ (List.mem_singleton.2 rfl)
      simp only [this, e]
    · cases h
  · exact h
  · exact h
  · cases h

theorem stepFieldAddr_local {P : Program} {T : TypeId} {f : Nat} {lv lv' : Key → LB} {x : AV} {r : StepR} (h : stepFieldAddr P T f lv x = some r) (ha : Agree lv lv' r.2.1 r.2.2.1) : stepFieldAddr P T f lv' x = some r := by
  unfold stepFieldAddr at h ⊢
  split at h
  · exact h
  · split at h
    · rename_i e e2
      simp only [Option.some.injEq] at h; subst h
      have := ha.1 _ (List.mem_singleton.2 rfl)
      simp only [this, e, e2]
    · cases h
  · cases h

theorem stepIndexAddr_local {P : Program} {T : TypeId} {lv lv' : Key → LB} {x i : AV} {r : StepR} (h : stepIndexAddr P T lv x i = some r) (ha : Agree lv lv' r.2.1 r.2.2.1) : stepIndexAddr P T lv' x i = some r := by
  unfold stepIndexAddr at h ⊢
  split at h
  · split at h
    · exact h
    · split at h
      · rename_i e e2
        split at h
        · rename_i e3
          simp only [Option.some.injEq] at h; subst h
          have := ha.1 _ (List.mem_singleton.2 rfl)
          simp only [this, e, e2, if_pos e3]
        · cases h
      · cases h
    · exact h
    · split at h
      · rename_i e e2
        simp only [Option.some.injEq] at h; subst h
        have := ha.1 _ (List.mem_singleton.2 rfl)
        simp only [this, e, e2]
      · cases h
    · cases h
  · cases h

theorem stepSlice_local {P : Program} {T : TypeId} {lv lv' : Key → LB} {x : AV} {lo hi : Option AV} {r : StepR} (h : stepSlice P T lv x lo hi = some r) (ha : Agree lv lv' r.2.1 r.2.2.1) : stepSlice P T lv' x lo hi = some r := by
  unfold stepSlice at h ⊢
  split at h
  · exact h
  · exact h
  · exact h
  · split at h
    · rename_i e e2
      split at h
      · rename_i e3
        split at h
        · rename_i e4 e5
          simp only [Option.some.injEq] at h; subst h
          have := ha.1 _ (List.mem_singleton.2 rfl)
          simp only [this, e, e2, if_pos e3]
        · cases h
      · cases h
    · cases h
  · cases h

theorem stepMake_local {P : Program} {T : TypeId} {lv lv' : Key → LB} {κ : Key} {x y : AV} {r : StepR} (h : stepMake P T lv κ x y = some r) (ha : Agree lv lv' r.2.1 r.2.2.1) : stepMake P T lv' κ x y = some r := by
  unfold stepMake at h ⊢
  split at h
  · split at h
    · rename_i e e2
      split at h
      · rename_i e3 e4
        split at h
        · rename_i e5
          simp only [Option.some.injEq] at h; subst h
          have := ha.2 _ (List.mem_singleton.2 rfl)
          simp only at this
          simp only [this, e, e2, e3, e4, if_pos e5]
        · cases h
      · cases h
    · cases h
  · cases h

theorem stepBuildSlice_local {P : Program} {T : TypeId} {n : Nat} {ixs : List Nat} {lv lv' : Key → LB} {κ : Key} {vals : List AV} {r : StepR} (h : stepBuildSlice P T n ixs lv κ vals = some r) (ha : Agree lv lv' r.2.1 r.2.2.1) : stepBuildSlice P T n ixs lv' κ vals = some r := by
  unfold stepBuildSlice at h ⊢
  split at h
  · rename_i e e2
    split at h
    · rename_i e3
      split at h
      · rename_i e4
        split at h
        · rename_i e5
          simp only [Option.some.injEq] at h; subst h
          have := ha.2 _ (List.mem_singleton.2 rfl)
          simp only at this
          simp only [this, e, e2, e3, if_pos e4, e5]
        · cases h
      · cases h
    · cases h
  · cases h

theorem stepAppend_local {P : Program} {T : TypeId} {lv lv' : Key → LB} {κ : Key} {y x : AV} {r : StepR} (h : stepAppend P T lv κ y x = some r) (ha : Agree lv lv' r.2.1 r.2.2.1) : stepAppend P T lv' κ y x = some r := by
  unfold stepAppend at h ⊢
  split at h
  · rename_i e e2
    split at h
    · rename_i e3 e4
      split at h
      · simp only [Option.some.injEq] at h; subst h
        have h1 := ha.2 _ (List.mem_singleton.2 rfl)
        simp only at h1
        have h2 := srcA_local e4 (fun k hk => ha.1 k hk)
        simp only [h1, e, e2, e3, h2]
      · split at h
        · rename_i e5
          split at h
          · rename_i e6
            simp only [Option.some.injEq] at h; subst h
            have h1 := ha.2 _ (List.mem_singleton.2 rfl)
            simp only at h1
            have h2 := srcA_local e4 (fun k hk => ha.1 k (List.mem_cons_of_mem _ hk))
            have h3 := ha.1 _ (List.mem_cons_self)
            simp only [h1, e, e2, e3, h2, h3, e5, if_pos e6]
          · cases h
        · rename_i e5
          split at h
          · rename_i e6
            simp only [Option.some.injEq] at h; subst h
            have h1 := ha.2 _ (List.mem_cons_of_mem _ (List.mem_singleton.2 rfl))
            simp only at h1
            have h2 := srcA_local e4 (fun k hk => ha.1 k hk)
            have h3 := ha.2 _ (List.mem_cons_self)
            simp only at h3
            simp only [h1, e, e2, e3, h2, h3, e5, if_pos e6]
          · cases h
        · cases h
      · cases h
    · cases h
  · cases h

theorem stepCopy_local {P : Program} {T : TypeId} {lv lv' : Key → LB} {y x : AV} {r : StepR} (h : stepCopy P T lv y x = some r) (ha : Agree lv lv' r.2.1 r.2.2.1) : stepCopy P T lv' y x = some r := by
  unfold stepCopy at h ⊢
  split at h
  · rename_i k off n sz e sz' hT
    split at h
    · rename_i hsz
      split at h
      · rename_i own T0 cs m xs hk hx
        simp only [Option.some.injEq] at h; subst h
        have h1 := ha.2 _ (List.mem_singleton.2 rfl)
        simp only at h1
        have h2 := srcA_local hx ha.1
        simp only [hT, hsz, h1, hk, h2, and_self, if_true]
      · cases h
    · cases h
  · cases h

theorem stepB_local {P : Program} {cl : Call} {vals : List AV} {lv lv' : Key → LB} {κ : Key} {r : StepR} (h : stepB P cl vals lv κ = some r) (ha : Agree lv lv' r.2.1 r.2.2.1) : stepB P cl vals lv' κ = some r := by
  unfold stepB at h ⊢
  split at h
  · split at h
    · split at h
      · rename_i e
        simp only [Option.some.injEq] at h; subst h
        rw [lenA_local e ha.1]
      · cases h
    · cases h
  · split at h
    · split at h
      · rename_i e; exact (by rw [if_pos e]; exact stepAppend_local h ha)
      · cases h
    · cases h
  · split at h
    · exact stepCopy_local h ha
    · cases h
  · exact h
  · exact h
  · cases h

theorem stepF_local {P : Program} {op : Op} {vals : List AV} {lv lv' : Key → LB} {κ : Key} {r : StepR} (h : stepF P op vals lv κ = some r) (ha : Agree lv lv' r.2.1 r.2.2.1) : stepF P op vals lv' κ = some r := by
  unfold stepF at h ⊢
  split at h
  · exact h
  · exact h
  · exact h
  · split at h
    · rename_i e e2
      simp only [Option.some.injEq] at h; subst h
      have := ha.2 _ (List.mem_singleton.2 rfl)
      simp only at this
      simp only [this, e, e2]
    · cases h
  · split at h
    · rename_i e e2
      simp only [Option.some.injEq] at h; subst h
      have := ha.2 _ (List.mem_singleton.2 rfl)
      simp only at this
      simp only [this, e, e2]
    · cases h
  · exact h
  · exact stepBuildSlice_local h ha
  · exact stepLoad_local h ha
  · exact stepStore_local h ha
  · exact stepNil_local h ha
  · exact h
  · exact h
  · exact h
  · exact h
  · exact h
  · exact stepMake_local h ha
  · split at h
    · exact stepSlice_local h ha
    · cases h
  · exact stepFieldAddr_local h ha
  · exact h
  · exact stepIndexAddr_local h ha
  · exact h
  · exact h
  · exact stepB_local h ha
  · cases h
end
end Go.Am

namespace Go.Am

def dAV : DV → AV
  | .agg l => .agg (l.map .d)
  | x => .c (.d x)

def RefC.cv : RefC → CV
  | .d x => .d x
  | .ptr k o => .ptr k o
  | .lsl k o l z => .lsl k o l z

theorem Vw.refC_cv {V : Vw} {v : Value} {x : RefC} (h : V.refC v x) : V.cv v x.cv := by
  cases x <;> exact h

def refAV : Ref → AV
  | .d x => dAV x
  | .ptr k o => .c (.ptr k o)
  | .lsl k o l z => .c (.lsl k o l z)
  | .agg cs => .agg (cs.map RefC.cv)
  | .ifc t x => .c (.ifc t x)

theorem Vw.dAV {V : Vw} {v : Value} {d : DV} (h : Rd V.mem v d) : V.av v (Am.dAV d) := by
  cases d with
  | agg l =>
    cases h with
    | agg arr cs hl ho hr =>
      refine ⟨arr, rfl, by simpa using hl, fun i p q => ?_⟩
      simp only [List.getElem_map]
      exact ⟨hr i (by simpa using p), ho i q⟩
  | _ => exact ⟨h, by rw [Rd.oneCell h]; rfl⟩

theorem Vw.refAV {V : Vw} {v : Value} {r : Ref} (h : V.ref v r) : V.av v (Am.refAV r) := by
  cases r with
  | d x => exact V.dAV h
  | ptr k o => exact h
  | lsl k o l z => exact h
  | agg cs =>
    obtain ⟨arr, rfl, h1, h2⟩ := h
    exact ⟨arr, rfl, by simpa using h1, fun i a b => by simp only [List.getElem_map]; exact V.refC_cv (h2 i (by simpa using a) b)⟩
  | ifc t x => exact h

/-- The Go function behind a function value, with what is put ahead of its arguments and behind them. -/
def callTgt : AV → Option (FuncId × List AV × List AV)
  | .c (.d (.func (.func f) fs cs)) => some (f, fs.map dAV, cs.map dAV)
  | .c (.func (.func f) fs cs) => some (f, fs.map refAV, cs.map refAV)
  | _ => none

/-- A function with a body. -/
def isFn (P : Program) (f : FuncId) : Bool :=
  match P.funcs[f]? with
  | some fn => fn.body.isSome && fn.name != "runtime.NumGoroutine"
  | none => false

theorem run_callFunc {P : Program} {f : FuncId} (h : isFn P f = true) (args : Array Value) (w : World) : (callFunc f args).run P w = .ok (.enter f args) w := by
  unfold isFn at h
  unfold callFunc
  split at h
  · rename_i fn hf
    simp only [Bool.and_eq_true, bne_iff_ne] at h
    simp only [Sem.run_bind, run_program, Result.andThen_ok, hf]
    have h1 : (fn.name == "runtime.NumGoroutine") = false := by simpa using h.2
    have h2 : fn.body.isNone = false := by
      cases e : fn.body with
      | none => rw [e] at h; simp at h
      | some b => rfl
    rw [h1, h2]; rfl
  · cases h

/-- A function value, its call and its arguments' values. -/
theorem run_callTgt {V : Vw} {fv : Value} {x : AV} {f : FuncId} {fs cs : List AV} (h : V.av fv x) (ht : callTgt x = some (f, fs, cs)) :
    ∃ fs' cs' : Array Value, fv = .func (.func f) fs' cs' ∧ fs'.size = fs.length ∧ cs'.size = cs.length ∧ (∀ i (h : i < fs.length) (h' : i < fs'.size), V.av fs'[i] fs[i]) ∧ (∀ i (h : i < cs.length) (h' : i < cs'.size), V.av cs'[i] cs[i]) := by
  unfold callTgt at ht
  split at ht
  · simp only [Option.some.injEq, Prod.mk.injEq] at ht
    obtain ⟨rfl, rfl, rfl⟩ := ht
    obtain ⟨h, _⟩ := h
    cases h with
    | func _ fs' cs' fd cd hf hc hrf hrc =>
      refine ⟨fs', cs', rfl, by simpa using hf, by simpa using hc, fun i p q => ?_, fun i p q => ?_⟩
      · simp only [List.getElem_map]; exact V.dAV (hrf i (by simpa using p))
      · simp only [List.getElem_map]; exact V.dAV (hrc i (by simpa using p))
  · simp only [Option.some.injEq, Prod.mk.injEq] at ht
    obtain ⟨rfl, rfl, rfl⟩ := ht
    obtain ⟨fs', cs', rfl, h1, h2, h3, h4⟩ := h
    refine ⟨fs', cs', rfl, by simpa using h1, by simpa using h2, fun i p q => ?_, fun i p q => ?_⟩
    · simp only [List.getElem_map]; exact V.refAV (h3 i (by simpa using p) q)
    · simp only [List.getElem_map]; exact V.refAV (h4 i (by simpa using p) q)
  · cases ht

/-- A value of numbers, bools and strings alone. -/
def CV.flat : CV → Bool
  | .d x => x.isScal
  | _ => false

def AV.flat0 : AV → Bool
  | .c x => x.flat
  | .agg cs => cs.all CV.flat
  | _ => false

def AV.flat : AV → Bool
  | .tup l => l.all AV.flat0
  | x => x.flat0

theorem Rd.scal {M M' : Mem} {v : Value} {d : DV} (h : Rd M v d) (hd : d.isScal = true) : Rd M' v d := by
  cases h <;> simp [DV.isScal] at hd
  · exact .bool _
  · exact .int _ _ (by assumption)
  · exact .str _ (by assumption)

theorem Vw.cv_flat {V V' : Vw} {v : Value} {x : CV} (h : V.cv v x) (hx : x.flat = true) : V'.cv v x := by
  cases x <;> simp [CV.flat] at hx
  exact ⟨Rd.scal h.1 hx, h.2⟩

theorem Vw.av0_flat {V V' : Vw} {v : Value} {x : AV} (h : V.av0 v x) (hx : x.flat0 = true) : V'.av0 v x := by
  cases x with
  | c x => exact Vw.cv_flat (x := x) h hx
  | agg cs =>
    obtain ⟨arr, rfl, h1, h2⟩ := h
    simp only [AV.flat0, List.all_eq_true] at hx
    exact ⟨arr, rfl, h1, fun i p q => Vw.cv_flat (h2 i p q) (hx _ (List.getElem_mem p))⟩
  | tup l => cases hx
  | undef => cases hx
  | junk => cases hx

theorem Vw.av_flat {V V' : Vw} {v : Value} {x : AV} (h : V.av v x) (hx : x.flat = true) : V'.av v x := by
  cases x with
  | c x => exact Vw.cv_flat (x := x) h hx
  | agg cs => exact Vw.av0_flat (x := .agg cs) h hx
  | tup l =>
    obtain ⟨arr, rfl, h1, h2⟩ := h
    simp only [AV.flat, List.all_eq_true] at hx
    exact ⟨arr, rfl, h1, fun i p q => Vw.av0_flat (h2 i p q) (hx _ (List.getElem_mem p))⟩
  | undef => cases hx
  | junk => cases hx

/-- An argument as a deep one, and the blocks that this reads. -/
def dArg (lv : Key → LB) : AV → Option (AV × List Key)
  | .c x => (toDV lv 8 x).map fun p => (.c (.d p.1), p.2)
  | .agg cs => (toDVs (toDV lv 8) cs).map fun p => (.agg (p.1.map .d), p.2)
  | _ => none

def dArgs (lv : Key → LB) : List AV → Option (List AV × List Key)
  | [] => some ([], [])
  | x :: r => match dArg lv x, dArgs lv r with
    | some (y, k), some (l, ks) => some (y :: l, k ++ ks)
    | _, _ => none

theorem Sits.dArg {c : Ctx} {F Fz : Nat → Prop} {β : Key → Nat} {s : LSt} {w : World} (h : Sits c F β s.lv w) (hF : ∀ b, F b → Fz b) {β' : Key → Nat} {lv' : Key → LB} {x y : AV} {ks : List Key} {v : Value} (ht : Am.dArg s.lv x = some (y, ks))
    (hk : ∀ k ∈ ks, Fz (β k)) (hv : (Vw.mk F β s.lv w).av v x) : (Vw.mk Fz β' lv' w).av v y := by
  cases x with
  | c x =>
    simp only [Am.dArg, Option.map_eq_some_iff] at ht
    obtain ⟨⟨d, ks'⟩, ht, he⟩ := ht
    simp only [Prod.mk.injEq] at he
    obtain ⟨rfl, rfl⟩ := he
    exact ⟨h.toDV hF 8 x d ks' v ht hk hv, Vw.cv_oneCell (x := x) hv⟩
  | agg cs =>
    simp only [Am.dArg, Option.map_eq_some_iff] at ht
    obtain ⟨⟨l, ks'⟩, ht, he⟩ := ht
    simp only [Prod.mk.injEq] at he
    obtain ⟨rfl, rfl⟩ := he
    obtain ⟨h1, h2⟩ := toDVs_get ht
    obtain ⟨arr, rfl, h3, h4⟩ := hv
    refine ⟨arr, rfl, by simp; omega, fun i p q => ?_⟩
    simp only [List.length_map] at p
    simp only [List.getElem_map]
    obtain ⟨k', h5, h6⟩ := h2 i p (by omega)
    exact ⟨h.toDV hF 8 _ _ _ _ h5 (fun k hk' => hk k (h6 k hk')) (h4 i (by omega) q), Vw.cv_oneCell (h4 i (by omega) q)⟩
  | tup l => cases ht
  | undef => cases ht
  | junk => cases ht

theorem dArgs_get {lv : Key → LB} : ∀ {xs ys : List AV} {ks : List Key}, dArgs lv xs = some (ys, ks) → ys.length = xs.length ∧
    ∀ i (h : i < ys.length) (h' : i < xs.length), ∃ k, dArg lv xs[i] = some (ys[i], k) ∧ ∀ x ∈ k, x ∈ ks
  | [], ys, ks, h => by simp only [dArgs, Option.some.injEq, Prod.mk.injEq] at h; obtain ⟨rfl, rfl⟩ := h; simp
  | x :: r, ys, ks, h => by
    simp only [dArgs] at h
    split at h
    · rename_i d k l' ks' h1 h2
      simp only [Option.some.injEq, Prod.mk.injEq] at h
      obtain ⟨rfl, rfl⟩ := h
      obtain ⟨h3, h4⟩ := dArgs_get h2
      refine ⟨by simp [h3], fun i p q => ?_⟩
      cases i with
      | zero => exact ⟨k, h1, fun x hx => List.mem_append_left _ hx⟩
      | succ i =>
        obtain ⟨k', h5, h6⟩ := h4 i (by simpa using p) (by simpa using q)
        exact ⟨k', h5, fun x hx => List.mem_append_right _ (h6 x hx)⟩
    · cases h

/-- Which key of the caller's a key at the border is. -/
def keyMap (sel nk : List Key) (kh : Key) : Key → Key := fun k => if k < 1000 then sel.getD k kh else nk.getD (k - 1000) kh

def keyInv (sel nk : List Key) : Key → Option Key := fun k' =>
  match sel.idxOf? k' with
  | some j => some j
  | none => match nk.idxOf? k' with
    | some j => some (1000 + j)
    | none => none

/-- An argument as the callee sees it. -/
def ArgOK (lv : Key → LB) (g : Key → Key) (a u : AV) : Prop :=
  (u.flat1 = true ∧ a = u.ren g) ∨ ∃ ks, dArg lv a = some (u, ks) ∧ ∀ k ∈ ks, ∃ own T cs, lv k = .cells own true T cs

/-- The blocks that a call freezes. -/
def frzW (Z : List (Key × TypeId × List CV)) : List (Key × LB) := Z.map fun z => (z.1, .cells true true z.2.1 z.2.2)

def backW (g : Key → Key) (own : Bool) (ks : List Key) (bs : List LB) : List (Key × LB) := List.zipWith (fun k b => (k, (b.ren g).fix own)) ks bs

/-- The blocks that a deep reading looks at. -/
def rdK (lv : Key → LB) : Nat → CV → List Key
  | n + 1, .ptr k _ => k :: (match lv k with | .cells _ _ _ cs => cs.flatMap (rdK lv n) | _ => [])
  | n + 1, .lsl k _ _ _ => k :: (match lv k with | .cells _ _ _ cs => cs.flatMap (rdK lv n) | _ => [])
  | _, _ => []

def rdA (lv : Key → LB) : AV → List Key
  | .c x => rdK lv 8 x
  | .agg cs => cs.flatMap (rdK lv 8)
  | _ => []

/-- WHAT A CALL OF A GO FUNCTION DOES. -/
inductive CallEff (c : Ctx) (f : FuncId) (as : List AV) (lv : Key → LB) : AV → List (Key × LB) → List Key → Prop where
  /-- A pure function that gives numbers back: what it is handed stays as it was. -/
  | flat (us : List AV) (ks rds : List Key) (x : AV) (ha : dArgs lv as = some (us, ks)) (hc : CallsP c.P c.G f us x) (hx : x.flat = true) (hr : ∀ a ∈ as, ∀ k ∈ rdA lv a, k ∈ rds) : CallEff c f as lv x [] rds
  /-- Any function: some blocks are frozen, some are passed. -/
  | gen (us : List AV) (Z : List (Key × TypeId × List CV)) (sel nk : List Key) (kh : Key) (σ σ' ν : List LB) (x : AV) (own : Bool) (rds : List Key)
      (hZ : ∀ z ∈ Z, lv z.1 = .cells true false z.2.1 z.2.2) (hZn : (Z.map (·.1)).Nodup) (hn : (sel ++ nk).Nodup) (hZs : ∀ z ∈ Z, z.1 ∉ sel ++ nk) (hkh : kh ∉ sel ++ nk) (hkZ : ∀ z ∈ Z, z.1 ≠ kh)
      (hl1 : sel.length = σ.length) (hl2 : σ'.length = σ.length) (hl3 : nk.length = ν.length) (hb : σ.length ≤ 1000)
      (hsel : ∀ i (h : i < sel.length) (h' : i < σ.length), (lv sel[i]).as σ[i] (keyMap sel nk kh)) (hnk : ∀ k ∈ nk, lv k = .hole) (hh : lv kh = .hole)
      (hpass : ∀ b ∈ σ, b.pass = true) (hnh : ∀ b, b ∈ σ ++ σ' ++ ν → b ≠ .hole) (hown : own = true → ∀ k ∈ sel, (lv k).ownB = true)
      (hlen : us.length = as.length) (hargs : ∀ i (h : i < as.length) (h' : i < us.length), ArgOK (updL lv (frzW Z)) (keyMap sel nk kh) as[i] us[i])
      (hrd : ∀ a ∈ as, ∀ k ∈ rdA (updL lv (frzW Z)) a, k ∈ rds ∨ k ∈ Z.map (·.1)) (hrh : kh ∈ rds)
      (hc : CallsS c.P c.G f us σ (.ret x σ' ν)) :
      CallEff c f as lv (x.ren (keyMap sel nk kh)) (frzW Z ++ backW (keyMap sel nk kh) own sel σ' ++ backW (keyMap sel nk kh) own nk ν) rds


theorem toDVs_keys {f : CV → Option (DV × List Key)} {p : Key → Prop} (hf : ∀ x d ks, f x = some (d, ks) → ∀ k ∈ ks, p k) : ∀ {cs : List CV} {l : List DV} {ks : List Key}, toDVs f cs = some (l, ks) → ∀ k ∈ ks, p k
  | [], l, ks, h => by simp only [toDVs, Option.some.injEq, Prod.mk.injEq] at h; obtain ⟨rfl, rfl⟩ := h; simp
  | x :: r, l, ks, h => by
    simp only [toDVs] at h
    split at h
    · rename_i d k l' ks' h1 h2
      simp only [Option.some.injEq, Prod.mk.injEq] at h
      obtain ⟨rfl, rfl⟩ := h
      intro y hy
      rcases List.mem_append.1 hy with h | h
      · exact hf _ _ _ h1 y h
      · exact toDVs_keys hf h2 y h
    · cases h

theorem toDV_keys {lv : Key → LB} : ∀ (n : Nat) (x : CV) (d : DV) (ks : List Key), toDV lv n x = some (d, ks) → ∀ k ∈ ks, ∃ own fz T cs, lv k = .cells own fz T cs
  | n, .d x, d, ks, h => by simp only [toDV, Option.some.injEq, Prod.mk.injEq] at h; obtain ⟨rfl, rfl⟩ := h; simp
  | n + 1, .ptr k off, d, ks, h => by
    simp only [toDV] at h
    split at h
    · rename_i own fz T cs e
      split at h
      · rw [Option.map_eq_some_iff] at h
        obtain ⟨⟨l, ks'⟩, ht, he⟩ := h
        simp only [Prod.mk.injEq] at he
        obtain ⟨rfl, rfl⟩ := he
        intro y hy
        rcases List.mem_cons.1 hy with rfl | hy
        · exact ⟨_, _, _, _, e⟩
        · exact toDVs_keys (toDV_keys n) ht y hy
      · cases h
    · cases h
  | n + 1, .lsl k off len sz, d, ks, h => by
    simp only [toDV] at h
    split at h
    · rename_i own fz T cs e
      split at h
      · rw [Option.map_eq_some_iff] at h
        obtain ⟨⟨l, ks'⟩, ht, he⟩ := h
        simp only [Prod.mk.injEq] at he
        obtain ⟨rfl, rfl⟩ := he
        intro y hy
        rcases List.mem_cons.1 hy with rfl | hy
        · exact ⟨_, _, _, _, e⟩
        · exact toDVs_keys (toDV_keys n) ht y hy
      · cases h
    · simp only [Option.some.injEq, Prod.mk.injEq] at h; obtain ⟨rfl, rfl⟩ := h; simp
    · cases h
  | 0, .ptr .., _, _, h => by cases h
  | 0, .lsl .., _, _, h => by cases h
  | n, .mapr _, _, _, h => by cases n <;> cases h
  | n, .func .., _, _, h => by cases n <;> cases h
  | n, .ifc .., _, _, h => by cases n <;> cases h
  | n, .junk, _, _, h => by cases n <;> cases h

theorem dArg_keys {lv : Key → LB} {x y : AV} {ks : List Key} (h : dArg lv x = some (y, ks)) : ∀ k ∈ ks, ∃ own fz T cs, lv k = .cells own fz T cs := by
  cases x with
  | c x =>
    simp only [dArg, Option.map_eq_some_iff] at h
    obtain ⟨⟨d, ks'⟩, ht, he⟩ := h
    simp only [Prod.mk.injEq] at he
    obtain ⟨rfl, rfl⟩ := he
    exact toDV_keys _ _ _ _ ht
  | agg cs =>
    simp only [dArg, Option.map_eq_some_iff] at h
    obtain ⟨⟨l, ks'⟩, ht, he⟩ := h
    simp only [Prod.mk.injEq] at he
    obtain ⟨rfl, rfl⟩ := he
    exact toDVs_keys (toDV_keys _) ht
  | tup l => cases h
  | undef => cases h
  | junk => cases h

theorem dArgs_keys {lv : Key → LB} : ∀ {xs ys : List AV} {ks : List Key}, dArgs lv xs = some (ys, ks) → ∀ k ∈ ks, ∃ own fz T cs, lv k = .cells own fz T cs
  | [], ys, ks, h => by simp only [dArgs, Option.some.injEq, Prod.mk.injEq] at h; obtain ⟨rfl, rfl⟩ := h; simp
  | x :: r, ys, ks, h => by
    simp only [dArgs] at h
    split at h
    · rename_i d k l' ks' h1 h2
      simp only [Option.some.injEq, Prod.mk.injEq] at h
      obtain ⟨rfl, rfl⟩ := h
      intro y hy
      rcases List.mem_append.1 hy with h | h
      · exact dArg_keys h1 y h
      · exact dArgs_keys h2 y h
    · cases h

section
variable {c : Ctx} {F : Nat → Prop} {β : Key → Nat} {s : LSt} {a : Act} {w : World}

theorem StOK.cells_lt (h : StOK c F β s a w) {k : Key} {own fz : Bool} {T : TypeId} {cs : List CV} (hk : s.lv k = .cells own fz T cs) : β k < w.heap.size := by
  have hb := h.blk k
  unfold Vw.blk at hb; simp only [hk] at hb
  obtain ⟨arr, h1, _⟩ := hb
  exact lt_of_heap h1

/-- The values of a call's arguments. -/
theorem call_vals {V : Vw} {fs' args' cs' : Array Value} {fs as cs : List AV} (h1 : fs'.size = fs.length) (h2 : args'.size = as.length) (h3 : cs'.size = cs.length)
    (g1 : ∀ i (h : i < fs.length) (h' : i < fs'.size), V.av fs'[i] fs[i]) (g2 : ∀ i (h : i < as.length) (h' : i < args'.size), V.av args'[i] as[i]) (g3 : ∀ i (h : i < cs.length) (h' : i < cs'.size), V.av cs'[i] cs[i]) :
    (fs' ++ args' ++ cs').size = (fs ++ as ++ cs).length ∧ ∀ i (h : i < (fs ++ as ++ cs).length) (h' : i < (fs' ++ args' ++ cs').size), V.av (fs' ++ args' ++ cs')[i] (fs ++ as ++ cs)[i] := by
  refine ⟨by simp; omega, fun i p q => ?_⟩
  simp only [List.length_append] at p
  simp only [Array.size_append] at q
  by_cases e1 : i < fs.length
  · rw [Array.getElem_append_left (by simp; omega), Array.getElem_append_left (by omega), List.getElem_append_left (by simp; omega), List.getElem_append_left e1]
    exact g1 _ _ _
  · by_cases e2 : i < fs.length + as.length
    · rw [Array.getElem_append_left (by simp; omega), Array.getElem_append_right (by omega), List.getElem_append_left (by simp; omega), List.getElem_append_right (by omega)]
      have := g2 (i - fs.length) (by omega) (by omega)
      simp only [h1]; exact this
    · rw [Array.getElem_append_right (by simp; omega), List.getElem_append_right (by simp; omega)]
      have := g3 (i - (fs.length + as.length)) (by omega) (by omega)
      simp only [Array.size_append, List.length_append, h1, h2]; exact this

/-- A call in the machine. -/
theorem wp_call {o : Oper} {cl : Call} {fo : Operand} {fv : AV} {f : FuncId} {fs cs : List AV} (h : StOK c F β s a w) (ho : o.op = .call cl) (hcal : cl.callee = .value fo) (hfo : s.val c.G fo = fv)
    (ht : callTgt fv = some (f, fs, cs)) (hf : isFn c.P f = true) {K : Act → World → Prop} {Q : Exit → Act → World → Prop}
    (hK : ∀ vs : Array Value, vs.size = (fs ++ cl.args.toList.map (s.val c.G) ++ cs).length → (∀ i (h : i < (fs ++ cl.args.toList.map (s.val c.G) ++ cs).length) (h' : i < vs.size), (Vw.mk F β s.lv w).av vs[i] (fs ++ cl.args.toList.map (s.val c.G) ++ cs)[i]) →
      Calls c.P f vs w fun e w' => ∃ v, e = .returned v ∧ K (a.put o.dst v) w') : o.wp c.P a w K Q := by
  obtain ⟨fs', cs', h1, h2, h3, h4, h5⟩ := run_callTgt (hfo ▸ h.val fo) ht
  have hv := call_vals (V := Vw.mk F β s.lv w) (args' := cl.args.map a.eval) (as := cl.args.toList.map (s.val c.G)) h2 (by simp) h3 h4 (fun i p q => by simp only [Array.getElem_map, List.getElem_map, Array.getElem_toList]; exact h.val _) h5
  have hc := hK _ hv.1 hv.2
  have hr : (execOp a.eval o).run c.P w = .ok (.enter f (fs' ++ cl.args.map a.eval ++ cs')) w := by
    simp only [execOp, ho, resolve, hcal, h1, Deferred.ofValue, Sem.run_bind, Sem.run_pure, Result.andThen_ok, invoke]
    rw [run_callFunc hf]
  unfold Oper.wp
  rw [hr, Oper.upon_enter]
  refine hc.mono fun e w' he => ?_
  obtain ⟨v, rfl, hk⟩ := he
  exact hk

theorem lvOf_nil (k : Key) : lvOf [] [] k = .hole := by simp [lvOf]

theorem CallEff.sim_flat {o : Oper} {cl : Call} {fo : Operand} {fv : AV} {f : FuncId} {fs cs us : List AV} {ks : List Key} {x : AV} (hd : ∀ d, o.dst = some d → d < c.n) (ho : o.op = .call cl) (hcal : cl.callee = .value fo)
    (hfo : s.val c.G fo = fv) (ht : callTgt fv = some (f, fs, cs)) (hf : isFn c.P f = true) (ha : dArgs s.lv (fs ++ cl.args.toList.map (s.val c.G) ++ cs) = some (us, ks)) (hc : CallsP c.P c.G f us x) (hx : x.flat = true) :
    Sim c o s (s.put o.dst x) := by
  intro F β a w K Q h hK
  refine wp_call h ho hcal hfo ht hf fun vs hl hv => ?_
  obtain ⟨h1, h2⟩ := dArgs_get ha
  let Fz : Nat → Prop := fun b => F b ∨ ∃ k ∈ ks, b = β k
  have hFz : ∀ b, F b → Fz b := fun b hb => .inl hb
  have hFlt : ∀ b, Fz b → b < w.heap.size := by
    rintro b (hb | ⟨k, hk, rfl⟩)
    · exact (h.Flt b hb).1
    · obtain ⟨own, fz, T, cs', e⟩ := dArgs_keys ha k hk
      exact h.cells_lt e
  have hS : Sits (CtxE c.P c.G w Fz (fun _ => 0) (lvOf [] [])) Fz (fun _ => 0) (lvOf [] []) w := by
    refine ⟨fun k => ?_, fun k k' hk => ?_, fun _ => trivial, rfl, rfl, fun b hb => ⟨hFlt b hb, .inl hb⟩, fun _ hb => hb, fun _ _ _ => rfl, Nat.le_refl _, fun g cs hg => Rd.mono (memF_le hFz (fun _ _ => rfl)) (h.glob g cs hg), fun k _ => .inr ⟨rfl, LB.sub_refl _⟩, fun _ => Nat.le_refl _, ⟨rfl, rfl⟩⟩
    · unfold Vw.blk; simp only [lvOf_nil]
    · simp only [lvOf_nil] at hk; cases hk
  refine (hc Fz (fun _ => 0) w vs hS (by omega) (fun i p q => ?_)).mono fun e w' he => ?_
  · obtain ⟨k, h3, h4⟩ := h2 i p (by omega)
    exact h.sits.dArg hFz h3 (fun k' hk' => .inr ⟨k', h4 k' hk', rfl⟩) (hv i (by omega) q)
  · obtain ⟨v, F', β', rfl, hS', hav⟩ := he
    refine ⟨v, rfl, hK F β _ _ (StOK.putD ?_ hd (Vw.av_flat hav hx))⟩
    have hold : ∀ b, b < w.heap.size → w'.heap[b]? = w.heap[b]? := by
      intro b hb
      refine hS'.old b hb ?_
      rintro ⟨k, hk, _⟩
      simp only [lvOf_nil] at hk; cases hk
    exact h.step (hoo := hS'.oso) (fun _ hb => hb) (fun b hb => hold b (h.Flt b hb).1) (fun k => LB.sub_refl _) (fun _ _ _ => rfl) hS'.asz
      (fun k hK => by
        have hb := h.blk k
        cases ek : s.lv k with
        | cells own fz T cs => exact Vw.blk_keep hb hK rfl rfl (hold _ (h.cells_lt ek)) (fun _ h => h)
        | map own es =>
          refine Vw.blk_keep hb hK rfl rfl (hold _ (h.live_lt (by rw [ek]; rfl))) (fun _ h => h)
        | hole => unfold Vw.blk; simp only [ek]
        | dead => unfold Vw.blk; simp only [ek]
        | nils => unfold Vw.blk; simp only [ek])
      h.inj (fun b hb => .inl hb) hS'.ge (fun b hb _ => hold b (Nat.lt_of_lt_of_le hb h.ge))
end
end Go.Am

namespace Go.Am

theorem updL_cons (lv : Key → LB) (p : Key × LB) (us : List (Key × LB)) : updL lv (p :: us) = updL (upd lv p.1 p.2) us := rfl

theorem updL_append (lv : Key → LB) (us vs : List (Key × LB)) : updL lv (us ++ vs) = updL (updL lv us) vs := by
  simp [updL, List.foldl_append]

theorem updL_not {us : List (Key × LB)} : ∀ {lv : Key → LB} {k : Key}, k ∉ us.map (·.1) → updL lv us k = lv k := by
  induction us with
  | nil => intro lv k _; rfl
  | cons p us ih =>
    intro lv k h
    simp only [List.map_cons, List.mem_cons, not_or] at h
    rw [updL_cons, ih h.2, upd_ne _ _ h.1]

theorem updL_mem {us : List (Key × LB)} : ∀ {lv : Key → LB} {k : Key} {b : LB}, (us.map (·.1)).Nodup → (k, b) ∈ us → updL lv us k = b := by
  induction us with
  | nil => intro lv k b _ h; cases h
  | cons p us ih =>
    intro lv k b hn h
    simp only [List.map_cons, List.nodup_cons] at hn
    rw [updL_cons]
    rcases List.mem_cons.1 h with rfl | h
    · rw [updL_not hn.1, upd_same]
    · exact ih hn.2 h

section
variable {c : Ctx} {F : Nat → Prop} {β : Key → Nat} {s : LSt} {a : Act} {w : World}

/-- Several blocks are frozen. -/
theorem StOK.freezes {fr : Nat → AV} : ∀ {Z : List (Key × TypeId × List CV)} {F : Nat → Prop} {lv : Key → LB}, StOK c F β ⟨fr, lv⟩ a w → (Z.map (·.1)).Nodup → (∀ z ∈ Z, lv z.1 = .cells true false z.2.1 z.2.2) →
    ∃ F', StOK c F' β ⟨fr, updL lv (frzW Z)⟩ a w ∧ ∀ b, F b → F' b
  | [], F, lv, h, _, _ => ⟨F, h, fun _ hb => hb⟩
  | z :: Z, F, lv, h, hn, hz => by
    simp only [List.map_cons, List.nodup_cons] at hn
    have h1 := h.freeze (k := z.1) (hz z (by simp))
    obtain ⟨F', h2, h3⟩ := StOK.freezes (Z := Z) h1 hn.2 (fun y hy => by
      have hne : y.1 ≠ z.1 := fun e => hn.1 (e ▸ List.mem_map_of_mem hy)
      rw [upd_ne _ _ hne]; exact hz y (by simp [hy]))
    exact ⟨F', h2, fun b hb => h3 b (.inl hb)⟩

theorem idxOf_getElem {l : List Key} (hn : l.Nodup) {i : Nat} (hi : i < l.length) : l.idxOf? l[i] = some i := by
  rw [List.idxOf?_eq_some_iff]
  refine ⟨hi, by simp, fun j hj => ?_⟩
  have : l[j]'(by omega) ≠ l[i] := fun e => by
    have := List.pairwise_iff_getElem.1 hn j i (by omega) hi hj
    exact this e
  simpa using this

theorem idxOf_none {l : List Key} {k : Key} (h : k ∉ l) : l.idxOf? k = none := by
  rw [List.idxOf?_eq_none_iff]; exact h

theorem lvOf_lt {σ ν : List LB} {k : Key} (h : k < 1000) : lvOf σ ν k = σ.getD k .hole := by simp [lvOf, h]
theorem lvOf_ge {σ ν : List LB} {k : Key} (h : ¬ k < 1000) : lvOf σ ν k = ν.getD (k - 1000) .hole := by simp [lvOf, h]

theorem getD_lt {α : Type} {l : List α} {i : Nat} {d : α} (h : i < l.length) : l.getD i d = l[i] := by
  rw [List.getD_eq_getElem?_getD, List.getElem?_eq_getElem h]; rfl
theorem getD_ge {α : Type} {l : List α} {i : Nat} {d : α} (h : ¬ i < l.length) : l.getD i d = d := by
  rw [List.getD_eq_getElem?_getD, List.getElem?_eq_none (by omega)]; rfl

/-- The border of a call, out of finite lists. -/
theorem bord_of {lv : Key → LB} {fr : Nat → AV} {sel nk : List Key} {kh : Key} {σ σ' ν : List LB} {own : Bool} (hn : (sel ++ nk).Nodup)
    (hl1 : sel.length = σ.length) (hl2 : σ'.length = σ.length) (hl3 : nk.length = ν.length) (hb : σ.length ≤ 1000)
    (hsel : ∀ i (h : i < sel.length) (h' : i < σ.length), (lv sel[i]).as σ[i] (keyMap sel nk kh)) (hnk : ∀ k ∈ nk, lv k = .hole) (hh : lv kh = .hole)
    (hpass : ∀ b ∈ σ, b.pass = true) (hnh : ∀ b, b ∈ σ ++ σ' ++ ν → b ≠ .hole) (hown : own = true → ∀ k ∈ sel, (lv k).ownB = true) :
    Bord ⟨fr, lv⟩ (keyMap sel nk kh) (keyInv sel nk) (lvOf σ []) (lvOf σ' ν) own := by
  have hns : sel.Nodup := (List.nodup_append.1 hn).1
  have hnn : nk.Nodup := (List.nodup_append.1 hn).2.1
  have hdis : ∀ x ∈ sel, ∀ y ∈ nk, x ≠ y := (List.nodup_append.1 hn).2.2
  have hL : ∀ k : Nat, lvOf σ [] k ≠ .hole → k < 1000 ∧ k < σ.length := by
    intro k hk
    by_cases h1 : k < 1000
    · rw [lvOf_lt h1] at hk
      by_cases h2 : k < σ.length
      · exact ⟨h1, h2⟩
      · rw [getD_ge h2] at hk; exact absurd rfl hk
    · rw [lvOf_ge h1] at hk; simp at hk
  refine ⟨?_, ?_, ?_, ?_, ?_, ?_⟩
  · intro k
    change Nat at k
    by_cases hk : lvOf σ [] k = .hole
    · rw [hk]; rfl
    · obtain ⟨h1, h2⟩ := hL k hk
      rw [lvOf_lt h1, getD_lt h2]
      exact hpass _ (List.getElem_mem h2)
  · intro k
    change Nat at k
    by_cases h1 : k < 1000
    · by_cases h2 : k < σ.length
      · have h3 : keyMap sel nk kh k = sel[k]'(by omega) := by simp only [keyMap, if_pos h1]; exact getD_lt (by omega)
        rw [lvOf_lt h1, getD_lt h2]
        show (lv (keyMap sel nk kh k)).as _ _
        rw [h3]; exact hsel k (by omega) h2
      · have h3 : keyMap sel nk kh k = kh := by simp only [keyMap, if_pos h1]; exact getD_ge (by omega)
        rw [lvOf_lt h1, getD_ge h2]
        show lv (keyMap sel nk kh k) = .hole
        rw [h3]; exact hh
    · rw [lvOf_ge h1]
      show (lv (keyMap sel nk kh k)).as (List.getD [] (k - 1000) .hole) _
      have h4 : List.getD ([] : List LB) (k - 1000) .hole = .hole := by simp
      rw [h4]
      show lv (keyMap sel nk kh k) = .hole
      by_cases h2 : k - 1000 < nk.length
      · have h3 : keyMap sel nk kh k = nk[k - 1000] := by simp only [keyMap, if_neg h1]; exact getD_lt h2
        rw [h3]; exact hnk _ (List.getElem_mem h2)
      · have h3 : keyMap sel nk kh k = kh := by simp only [keyMap, if_neg h1]; exact getD_ge h2
        rw [h3]; exact hh
  · intro k' k h
    change Nat at k
    unfold keyInv at h
    split at h
    · rename_i j hj
      simp only [Option.some.injEq] at h; subst h
      rw [List.idxOf?_eq_some_iff] at hj
      obtain ⟨hlt, he, _⟩ := hj
      have h1 : j < 1000 := by omega
      refine ⟨?_, ?_⟩
      · simp only [keyMap, if_pos h1]; rw [getD_lt hlt]; simpa using he
      · rw [lvOf_lt h1, getD_lt (by omega)]
        exact hnh _ (by simp [List.getElem_mem])
    · split at h
      · rename_i j hj
        simp only [Option.some.injEq] at h; subst h
        rw [List.idxOf?_eq_some_iff] at hj
        obtain ⟨hlt, he, _⟩ := hj
        have h1 : ¬ 1000 + j < 1000 := by omega
        refine ⟨?_, ?_⟩
        · simp only [keyMap, if_neg h1, Nat.add_sub_cancel_left]; rw [getD_lt hlt]; simpa using he
        · rw [lvOf_ge h1, Nat.add_sub_cancel_left, getD_lt (by omega)]
          exact hnh _ (by simp [List.getElem_mem])
      · cases h
  · intro k hk
    change Nat at k
    by_cases h1 : k < 1000
    · rw [lvOf_lt h1] at hk
      have h2 : k < σ'.length := by
        rcases Nat.lt_or_ge k σ'.length with h | h
        · exact h
        · rw [getD_ge (by omega)] at hk; exact absurd rfl hk
      have h3 : keyMap sel nk kh k = sel[k]'(by omega) := by simp only [keyMap, if_pos h1]; exact getD_lt (by omega)
      rw [h3]
      unfold keyInv
      rw [idxOf_getElem hns (by omega)]
    · obtain ⟨m, rfl⟩ : ∃ m : Nat, k = 1000 + m := ⟨k - 1000, by omega⟩
      rw [lvOf_ge h1, Nat.add_sub_cancel_left] at hk
      have h2 : m < ν.length := by
        rcases Nat.lt_or_ge m ν.length with h | h
        · exact h
        · rw [getD_ge (by omega)] at hk; exact absurd rfl hk
      have h4 : m < nk.length := by omega
      have h3 : keyMap sel nk kh (1000 + m) = nk[m]'h4 := by
        unfold keyMap
        rw [if_neg h1, Nat.add_sub_cancel_left]; exact getD_lt h4
      rw [h3]
      unfold keyInv
      rw [idxOf_none (fun hm => hdis _ hm _ (List.getElem_mem h4) rfl), idxOf_getElem hnn h4]
  · intro k hk
    change Nat at k
    obtain ⟨h1, h2⟩ := hL k hk
    rw [lvOf_lt h1, getD_lt (by omega)]
    exact hnh _ (by simp [List.getElem_mem])
  · intro ho k hk
    change Nat at k
    obtain ⟨h1, h2⟩ := hL k (live_ne_hole hk)
    have h3 : keyMap sel nk kh k = sel[k]'(by omega) := by simp only [keyMap, if_pos h1]; exact getD_lt (by omega)
    show (lv (keyMap sel nk kh k)).ownB = true
    rw [h3]; exact hown ho _ (List.getElem_mem _)

theorem backW_keys (g : Key → Key) (own : Bool) : ∀ (ks : List Key) (bs : List LB), ks.length = bs.length → (backW g own ks bs).map (·.1) = ks
  | [], [], _ => rfl
  | k :: ks, b :: bs, h => by
    have := backW_keys g own ks bs (by simpa using h)
    simp only [backW, List.zipWith_cons_cons, List.map_cons] at this ⊢
    rw [this]
  | [], _ :: _, h => by simp at h
  | _ :: _, [], h => by simp at h

theorem backW_mem (g : Key → Key) (own : Bool) {ks : List Key} {bs : List LB} {i : Nat} (h : i < ks.length) (h' : i < bs.length) : (ks[i], (bs[i].ren g).fix own) ∈ backW g own ks bs := by
  unfold backW
  rw [List.mem_iff_getElem]
  exact ⟨i, by simp; omega, by simp⟩

/-- The caller's blocks behind a call, by what is written. -/
theorem lvAfter_eq {lv : Key → LB} {fr : Nat → AV} {sel nk : List Key} {kh : Key} {σ' ν : List LB} {own : Bool} (hn : (sel ++ nk).Nodup)
    (hl2 : sel.length = σ'.length) (hl3 : nk.length = ν.length) (hb : σ'.length ≤ 1000) :
    lvAfter ⟨fr, lv⟩ (keyMap sel nk kh) (keyInv sel nk) (lvOf σ' ν) own = updL lv (backW (keyMap sel nk kh) own sel σ' ++ backW (keyMap sel nk kh) own nk ν) := by
  funext k'
  have hkeys : (backW (keyMap sel nk kh) own sel σ' ++ backW (keyMap sel nk kh) own nk ν).map (·.1) = sel ++ nk := by
    rw [List.map_append, backW_keys _ _ _ _ hl2, backW_keys _ _ _ _ hl3]
  unfold lvAfter keyInv
  cases h1 : sel.idxOf? k' with
  | some j =>
    rw [List.idxOf?_eq_some_iff] at h1
    obtain ⟨hlt, he, _⟩ := h1
    have he : sel[j] = k' := by simpa using he
    subst he
    simp only
    rw [updL_mem (by rw [hkeys]; exact hn) (List.mem_append_left _ (backW_mem _ own hlt (by omega)))]
    have hlt' : j < σ'.length := by omega
    have hlt2 : (show Nat from j) < 1000 := by show j < 1000; omega
    rw [lvOf_lt hlt2, getD_lt hlt']
  | none =>
    have h1' : k' ∉ sel := by rwa [List.idxOf?_eq_none_iff] at h1
    simp only
    cases h2 : nk.idxOf? k' with
    | some j =>
      rw [List.idxOf?_eq_some_iff] at h2
      obtain ⟨hlt, he, _⟩ := h2
      have he : nk[j] = k' := by simpa using he
      subst he
      simp only
      rw [updL_mem (by rw [hkeys]; exact hn) (List.mem_append_right _ (backW_mem _ own hlt (by omega)))]
      have hlt' : j < ν.length := by omega
      have hlt2 : ¬ (show Nat from 1000 + j) < 1000 := by show ¬ 1000 + j < 1000; omega
      rw [lvOf_ge hlt2, Nat.add_sub_cancel_left, getD_lt hlt']
    | none =>
      have h2' : k' ∉ nk := by rwa [List.idxOf?_eq_none_iff] at h2
      simp only
      rw [updL_not (by rw [hkeys]; simp [h1', h2'])]

theorem frzW_keys (Z : List (Key × TypeId × List CV)) : (frzW Z).map (·.1) = Z.map (·.1) := by simp [frzW]

theorem CallEff.sim {o : Oper} {cl : Call} {fo : Operand} {fv : AV} {f : FuncId} {fs cs : List AV} {x : AV} {us : List (Key × LB)} {rds : List Key} (hd : ∀ d, o.dst = some d → d < c.n) (ho : o.op = .call cl) (hcal : cl.callee = .value fo)
    (hfo : s.val c.G fo = fv) (ht : callTgt fv = some (f, fs, cs)) (hf : isFn c.P f = true) (he : CallEff c f (fs ++ cl.args.toList.map (s.val c.G) ++ cs) s.lv x us rds) :
    Sim c o s (LSt.put ⟨s.fr, updL s.lv us⟩ o.dst x) := by
  cases he with
  | flat us' ks rds x ha hc hx hr => exact CallEff.sim_flat hd ho hcal hfo ht hf ha hc hx
  | gen us Z sel nk kh σ σ' ν x own rds hZ hZn hn hZs hkh hkZ hl1 hl2 hl3 hb hsel hnk hh hpass hnh hown hlen hargs hrd hrh hc =>
    intro F β a w K Q h hK
    refine wp_call h ho hcal hfo ht hf fun vs hl hv => ?_
    obtain ⟨F1, h1, hF1⟩ := StOK.freezes (Z := Z) (lv := s.lv) h hZn hZ
    have hsame : ∀ k, (∀ z ∈ Z, z.1 ≠ k) → updL s.lv (frzW Z) k = s.lv k := fun k hk => updL_not (by
      rw [frzW_keys]
      intro hm
      obtain ⟨z, hz, e⟩ := List.mem_map.1 hm
      exact hk z hz e)
    have hB : Bord ⟨s.fr, updL s.lv (frzW Z)⟩ (keyMap sel nk kh) (keyInv sel nk) (lvOf σ []) (lvOf σ' ν) own := by
      refine bord_of hn hl1 hl2 hl3 hb (fun i p q => ?_) (fun k hk => ?_) ?_ hpass hnh (fun ho k hk => ?_)
      · rw [hsame _ (fun z hz e => hZs z hz (by rw [e]; simp [List.getElem_mem]))]
        exact hsel i p q
      · rw [hsame _ (fun z hz e => hZs z hz (by rw [e]; simp [hk]))]
        exact hnk k hk
      · rw [hsame _ hkZ]; exact hh
      · rw [hsame _ (fun z hz e => hZs z hz (by rw [e]; simp [hk]))]
        exact hown ho k hk
    have hR := hB.ren (F := F1) (β := β) (w := w)
    -- the frozen view
    have hK1 : ∀ v x, (Vw.mk F β s.lv w).av v x → (Vw.mk F1 β (updL s.lv (frzW Z)) w).av v x := by
      intro v x hv
      refine (Vw.keyLe_of (V := Vw.mk F β s.lv w) (V' := Vw.mk F1 β (updL s.lv (frzW Z)) w) hF1 (fun _ _ => rfl) (fun k => ?_) (fun _ _ _ => rfl) (fun _ => Nat.le_refl _)).av hv
      show (s.lv k).sub (updL s.lv (frzW Z) k)
      by_cases hk : k ∈ Z.map (·.1)
      · obtain ⟨z, hz, rfl⟩ := List.mem_map.1 hk
        rw [hZ z hz, updL_mem (b := .cells true true z.2.1 z.2.2) (by rw [frzW_keys]; exact hZn) (by simp only [frzW, List.mem_map]; exact ⟨z, hz, rfl⟩)]
        simp [LB.sub]
      · rw [updL_not (by rw [frzW_keys]; exact hk)]; exact LB.sub_refl _
    refine (hc F1 (fun k => β (keyMap sel nk kh k)) w vs (h1.enter hB) (by omega) (fun i p q => ?_)).mono fun e w' he => ?_
    · have hv1 := hK1 _ _ (hv i (by omega) q)
      rcases hargs i (by omega) p with ⟨g1, g2⟩ | ⟨ks, g1, g2⟩
      · rw [g2] at hv1; exact hR.av g1 hv1
      · exact h1.sits.dArg (fun _ hb => hb) g1 (fun k hk => by
          obtain ⟨own', T, cs', e⟩ := g2 k hk
          have hb := h1.blk k
          unfold Vw.blk at hb; simp only [e] at hb
          obtain ⟨arr, p1, p2, p3, p4, p5⟩ := hb
          exact p4) hv1
    · obtain ⟨v, F', β', rfl, hS', hav⟩ := he
      have hbk := h1.back hB hS'
      have hup := (hB.up (β := β) F' β' w').av hav
      rw [lvAfter_eq hn (by omega) hl3 (by omega)] at hbk hup
      rw [← updL_append, ← List.append_assoc] at hbk hup
      exact ⟨v, rfl, hK _ _ _ _ (hbk.putD hd hup)⟩
end
end Go.Am

namespace Go.Am

theorem toDVs_congr {f g : CV → Option (DV × List Key)} : ∀ {cs : List CV}, (∀ x ∈ cs, f x = g x) → toDVs f cs = toDVs g cs
  | [], _ => rfl
  | x :: r, h => by simp only [toDVs, h x (by simp), toDVs_congr (cs := r) (fun y hy => h y (by simp [hy]))]

theorem flatMap_congr' {α β : Type} {f g : α → List β} : ∀ {l : List α}, (∀ x ∈ l, f x = g x) → l.flatMap f = l.flatMap g
  | [], _ => rfl
  | x :: r, h => by simp only [List.flatMap_cons, h x (by simp), flatMap_congr' (l := r) (fun y hy => h y (by simp [hy]))]

/-- A deep reading in another state that is the same where it looks. -/
theorem toDV_local {lv lv' : Key → LB} : ∀ (n : Nat) (x : CV), (∀ k ∈ rdK lv n x, lv' k = lv k) → toDV lv' n x = toDV lv n x ∧ rdK lv' n x = rdK lv n x
  | n + 1, .ptr k off, h => by
    have h1 : lv' k = lv k := h k (by simp [rdK])
    simp only [toDV, rdK, h1]
    cases e : lv k with
    | cells own fz T cs =>
      have ih : ∀ x ∈ cs, toDV lv' n x = toDV lv n x ∧ rdK lv' n x = rdK lv n x := fun x hx => toDV_local n x fun k' hk' => h k' (by
        simp only [rdK, e, List.mem_cons, List.mem_flatMap]; exact .inr ⟨x, hx, hk'⟩)
      simp only
      refine ⟨?_, ?_⟩
      · rw [toDVs_congr (fun x hx => (ih x (List.mem_of_mem_drop hx)).1)]
      · congr 1
        exact flatMap_congr' fun x hx => (ih x hx).2
    | _ => exact ⟨rfl, rfl⟩
  | n + 1, .lsl k off len sz, h => by
    have h1 : lv' k = lv k := h k (by simp [rdK])
    simp only [toDV, rdK, h1]
    cases e : lv k with
    | cells own fz T cs =>
      have ih : ∀ x ∈ cs, toDV lv' n x = toDV lv n x ∧ rdK lv' n x = rdK lv n x := fun x hx => toDV_local n x fun k' hk' => h k' (by
        simp only [rdK, e, List.mem_cons, List.mem_flatMap]; exact .inr ⟨x, hx, hk'⟩)
      simp only
      refine ⟨?_, ?_⟩
      · rw [toDVs_congr (fun x hx => (ih x (List.mem_of_mem_drop (List.mem_of_mem_take hx))).1)]
      · congr 1
        exact flatMap_congr' fun x hx => (ih x hx).2
    | _ => exact ⟨rfl, rfl⟩
  | n, .d x, _ => by cases n <;> exact ⟨rfl, rfl⟩
  | 0, .ptr .., _ => ⟨rfl, rfl⟩
  | 0, .lsl .., _ => ⟨rfl, rfl⟩
  | n, .mapr _, _ => by cases n <;> exact ⟨rfl, rfl⟩
  | n, .func .., _ => by cases n <;> exact ⟨rfl, rfl⟩
  | n, .ifc .., _ => by cases n <;> exact ⟨rfl, rfl⟩
  | n, .junk, _ => by cases n <;> exact ⟨rfl, rfl⟩

theorem toDVs_sub {f : CV → Option (DV × List Key)} {g : CV → List Key} : ∀ {cs : List CV} {l : List DV} {ks : List Key}, (∀ x ∈ cs, ∀ d ks, f x = some (d, ks) → ∀ k ∈ ks, k ∈ g x) → toDVs f cs = some (l, ks) → ∀ k ∈ ks, k ∈ cs.flatMap g
  | [], l, ks, _, h => by simp only [toDVs, Option.some.injEq, Prod.mk.injEq] at h; obtain ⟨rfl, rfl⟩ := h; simp
  | x :: r, l, ks, hf, h => by
    simp only [toDVs] at h
    split at h
    · rename_i d k l' ks' h1 h2
      simp only [Option.some.injEq, Prod.mk.injEq] at h
      obtain ⟨rfl, rfl⟩ := h
      intro y hy
      simp only [List.flatMap_cons, List.mem_append]
      rcases List.mem_append.1 hy with h | h
      · exact .inl (hf x (by simp) _ _ h1 y h)
      · exact .inr (toDVs_sub (fun x hx => hf x (by simp [hx])) h2 y h)
    · cases h

theorem toDV_sub {lv : Key → LB} : ∀ (n : Nat) (x : CV) (d : DV) (ks : List Key), toDV lv n x = some (d, ks) → ∀ k ∈ ks, k ∈ rdK lv n x
  | n, .d x, d, ks, h => by simp only [toDV, Option.some.injEq, Prod.mk.injEq] at h; obtain ⟨rfl, rfl⟩ := h; simp
  | n + 1, .ptr k off, d, ks, h => by
    simp only [toDV] at h
    simp only [rdK]
    split at h
    · rename_i own fz T cs e
      split at h
      · rw [Option.map_eq_some_iff] at h
        obtain ⟨⟨l, ks'⟩, ht, he⟩ := h
        simp only [Prod.mk.injEq] at he
        obtain ⟨rfl, rfl⟩ := he
        intro y hy
        rcases List.mem_cons.1 hy with rfl | hy
        · simp
        · have := toDVs_sub (g := rdK lv n) (fun x _ d ks hx => toDV_sub n x d ks hx) ht y hy
          obtain ⟨x, hx, hk⟩ := List.mem_flatMap.1 this
          rw [e]
          exact List.mem_cons_of_mem _ (List.mem_flatMap.2 ⟨x, List.mem_of_mem_drop hx, hk⟩)
      · cases h
    · cases h
  | n + 1, .lsl k off len sz, d, ks, h => by
    simp only [toDV] at h
    simp only [rdK]
    split at h
    · rename_i own fz T cs e
      split at h
      · rw [Option.map_eq_some_iff] at h
        obtain ⟨⟨l, ks'⟩, ht, he⟩ := h
        simp only [Prod.mk.injEq] at he
        obtain ⟨rfl, rfl⟩ := he
        intro y hy
        rcases List.mem_cons.1 hy with rfl | hy
        · simp
        · have := toDVs_sub (g := rdK lv n) (fun x _ d ks hx => toDV_sub n x d ks hx) ht y hy
          obtain ⟨x, hx, hk⟩ := List.mem_flatMap.1 this
          rw [e]
          exact List.mem_cons_of_mem _ (List.mem_flatMap.2 ⟨x, List.mem_of_mem_drop (List.mem_of_mem_take hx), hk⟩)
      · cases h
    · simp only [Option.some.injEq, Prod.mk.injEq] at h; obtain ⟨rfl, rfl⟩ := h; simp
    · cases h
  | 0, .ptr .., _, _, h => by cases h
  | 0, .lsl .., _, _, h => by cases h
  | n, .mapr _, _, _, h => by cases n <;> cases h
  | n, .func .., _, _, h => by cases n <;> cases h
  | n, .ifc .., _, _, h => by cases n <;> cases h
  | n, .junk, _, _, h => by cases n <;> cases h

theorem dArg_local {lv lv' : Key → LB} {x : AV} (h : ∀ k ∈ rdA lv x, lv' k = lv k) : dArg lv' x = dArg lv x ∧ rdA lv' x = rdA lv x := by
  cases x with
  | c x => obtain ⟨h1, h2⟩ := toDV_local 8 x h; exact ⟨by simp only [dArg, h1], h2⟩
  | agg cs =>
    have ih : ∀ x ∈ cs, toDV lv' 8 x = toDV lv 8 x ∧ rdK lv' 8 x = rdK lv 8 x := fun x hx => toDV_local 8 x fun k hk => h k (List.mem_flatMap.2 ⟨x, hx, hk⟩)
    exact ⟨by simp only [dArg, toDVs_congr (fun x hx => (ih x hx).1)], flatMap_congr' fun x hx => (ih x hx).2⟩
  | tup l => exact ⟨rfl, rfl⟩
  | undef => exact ⟨rfl, rfl⟩
  | junk => exact ⟨rfl, rfl⟩

theorem dArg_sub {lv : Key → LB} {x y : AV} {ks : List Key} (h : dArg lv x = some (y, ks)) : ∀ k ∈ ks, k ∈ rdA lv x := by
  cases x with
  | c x =>
    simp only [dArg, Option.map_eq_some_iff] at h
    obtain ⟨⟨d, ks'⟩, ht, he⟩ := h
    simp only [Prod.mk.injEq] at he
    obtain ⟨rfl, rfl⟩ := he
    exact toDV_sub _ _ _ _ ht
  | agg cs =>
    simp only [dArg, Option.map_eq_some_iff] at h
    obtain ⟨⟨d, ks'⟩, ht, he⟩ := h
    simp only [Prod.mk.injEq] at he
    obtain ⟨rfl, rfl⟩ := he
    exact toDVs_sub (fun x _ d ks hx => toDV_sub 8 x d ks hx) ht
  | tup l => cases h
  | undef => cases h
  | junk => cases h

theorem dArgs_local {lv lv' : Key → LB} : ∀ {xs : List AV}, (∀ a ∈ xs, ∀ k ∈ rdA lv a, lv' k = lv k) → dArgs lv' xs = dArgs lv xs
  | [], _ => rfl
  | x :: r, h => by simp only [dArgs, (dArg_local (h x (by simp))).1, dArgs_local (xs := r) (fun a ha => h a (by simp [ha]))]

/-- A call does the same in a state that is the same where it looks. -/
theorem CallEff.local {c : Ctx} {f : FuncId} {xs : List AV} {lv lv' : Key → LB} {x : AV} {us : List (Key × LB)} {rds : List Key} (h : CallEff c f xs lv x us rds) (ha : Agree lv lv' us rds) : CallEff c f xs lv' x us rds := by
  obtain ⟨ha1, ha2⟩ := ha
  cases h with
  | flat us' ks rds x hd hc hx hr =>
    have hl : ∀ a ∈ xs, ∀ k ∈ rdA lv a, lv' k = lv k := fun a h k hk => ha1 k (hr a h k hk)
    exact .flat us' ks rds x (by rw [dArgs_local hl]; exact hd) hc hx (fun a h k hk => hr a h k (by rw [(dArg_local (hl a h)).2] at hk; exact hk))
  | gen us Z sel nk kh σ σ' ν x own rds hZ hZn hn hZs hkh hkZ hl1 hl2 hl3 hb hsel hnk hh hpass hnh hown hlen hargs hrd hrh hc =>
    have hkeysZ : ∀ z ∈ Z, lv' z.1 = lv z.1 := fun z hz => ha2 (z.1, .cells true true z.2.1 z.2.2) (by
      refine List.mem_append_left _ (List.mem_append_left _ ?_)
      simp only [frzW, List.mem_map]; exact ⟨z, hz, rfl⟩)
    have hks : ∀ i (h : i < sel.length), lv' sel[i] = lv sel[i] := fun i h => by
      have hm : sel[i] ∈ (backW (keyMap sel nk kh) own sel σ').map (·.1) := by rw [backW_keys _ _ _ _ (by omega)]; exact List.getElem_mem h
      obtain ⟨p, hp, e⟩ := List.mem_map.1 hm
      rw [← e]
      exact ha2 p (List.mem_append_left _ (List.mem_append_right _ hp))
    have hkn : ∀ k ∈ nk, lv' k = lv k := fun k hk => by
      have hm : k ∈ (backW (keyMap sel nk kh) own nk ν).map (·.1) := by rw [backW_keys _ _ _ _ (by omega)]; exact hk
      obtain ⟨p, hp, e⟩ := List.mem_map.1 hm
      rw [← e]
      exact ha2 p (List.mem_append_right _ hp)
    have hfr : ∀ k, (k ∈ rds ∨ k ∈ Z.map (·.1)) → updL lv' (frzW Z) k = updL lv (frzW Z) k := by
      intro k hk
      by_cases hz : k ∈ (frzW Z).map (·.1)
      · obtain ⟨p, hp, e⟩ := List.mem_map.1 hz
        have hn' : ((frzW Z).map (·.1)).Nodup := by rw [frzW_keys]; exact hZn
        obtain ⟨k', b⟩ := p
        simp only at e; subst e
        rw [updL_mem hn' hp, updL_mem hn' hp]
      · rw [updL_not hz, updL_not hz]
        rcases hk with hk | hk
        · exact ha1 k hk
        · rw [frzW_keys] at hz; exact absurd hk hz
    have hla : ∀ a ∈ xs, ∀ k ∈ rdA (updL lv (frzW Z)) a, updL lv' (frzW Z) k = updL lv (frzW Z) k := fun a h k hk => hfr k (hrd a h k hk)
    refine .gen us Z sel nk kh σ σ' ν x own rds (fun z hz => by rw [hkeysZ z hz]; exact hZ z hz) hZn hn hZs hkh hkZ hl1 hl2 hl3 hb (fun i p q => by rw [hks i p]; exact hsel i p q)
      (fun k hk => by rw [hkn k hk]; exact hnk k hk) (by rw [ha1 kh hrh]; exact hh) hpass hnh (fun ho k hk => ?_) hlen (fun i p q => ?_) (fun a h k hk => ?_) hrh hc
    · obtain ⟨i, hi, rfl⟩ := List.mem_iff_getElem.1 hk
      rw [hks i hi]; exact hown ho _ (List.getElem_mem hi)
    · rcases hargs i p q with ⟨g1, g2⟩ | ⟨ks, g1, g2⟩
      · exact .inl ⟨g1, g2⟩
      · refine .inr ⟨ks, by rw [(dArg_local (hla _ (List.getElem_mem p))).1]; exact g1, fun k hk => ?_⟩
        rw [hla _ (List.getElem_mem p) k (dArg_sub g1 k hk)]
        exact g2 k hk
    · rw [(dArg_local (hla a h)).2] at hk
      exact hrd a h k hk
end Go.Am

namespace Go.Am

/-! ### inside a round of a range over a function, or not -/

def fen (r : Option Nat) : Fence := { Fence.wide with round := r }

theorem callsIn_fen {r : Option Nat} {n : Nat} {P : Program} {f : FuncId} {args : Array Value} {w : World} {R : Ending → World → Prop} (h : Calls P f args w R) : CallsIn (fen r) n P f args w R :=
  (callsIn_wide (n := n)).2 h

theorem rowsIn_fen {r : Option Nat} {n : Nat} {P : Program} {row : String} {args : Array Value} {w : World} {R : Value → World → Prop} (h : Rows P row args w R) : RowsIn (fen r) n P row args w R :=
  fun c cs _ => let ⟨v, w', hr, hs⟩ := h c cs; ⟨v, w', hr, stepsIn_wide.2 hs⟩

theorem wpIn_fen {r : Option Nat} {n : Nat} {P : Program} {o : Oper} {a : Act} {w : World} {K : Act → World → Prop} {Q : Exit → Act → World → Prop} (hd : ∀ c, o.op ≠ .defer c) (h : o.wp P a w K Q) :
    o.wpIn (fen r) n P a w K Q := by
  refine ⟨fun _ _ => trivial, ?_⟩
  rw [Oper.semAt_eq _ _ _ hd]
  unfold Oper.wp at h
  generalize (execOp a.eval o).run P w = res at *
  have hdep : ∀ m : Nat, (fen r).depth.isSome = true → 1 ≤ m := fun m h => by simp [fen, Fence.wide] at h
  cases res with
  | ok x w' =>
    cases x <;> simp only [Oper.upon] at h <;> simp only [Oper.uponIn] <;> first | exact h | exact ⟨hdep _, callsIn_fen h⟩ | exact ⟨hdep _, rowsIn_fen h⟩ | exact h.elim
  | halt x w' => cases x <;> simp only [Oper.upon] at h <;> simp only [Oper.uponIn] <;> first | exact h | exact h.elim

/-! ### guards -/

/-- Whether an operation is to be done. -/
def wantA (ops : Array Oper) (g : Option (Nat × Bool)) (fr : Nat → AV) : Option Bool :=
  match g with
  | none => some true
  | some (j, want) => match (ops[j]?).bind (·.dst) with
    | some d => match fr d with
      | .c (.d (.bool b)) => some (b == want)
      | .undef => some false
      | _ => none
    | none => none

section
variable {c : Ctx} {F : Nat → Prop} {β : Key → Nat} {s : LSt} {a : Act} {w : World} {ops : Array Oper}

theorem wantA_sound {o : Oper} {b : Bool} (h : StOK c F β s a w) (hw : wantA ops o.guard s.fr = some b) : Region.wanted o (yielded ops a.tmps) = b := by
  unfold wantA at hw
  unfold Region.wanted
  split at hw
  · rename_i hg; rw [hg]; simpa using hw
  · rename_i j want hg
    rw [hg]
    simp only
    split at hw
    · rename_i d hd
      have hv := h.fr d
      unfold yielded
      rw [hd]
      simp only [Option.bind_some]
      split at hw
      · rename_i b' hb
        rw [hb] at hv
        have hv' := Vw.c_bool hv
        simp only [Option.some.injEq] at hw; subst hw
        have hq : a.tmps[d]? = some (.bool b') := by
          cases e : a.tmps[d]? with
          | none => rw [Array.getD_eq_getD_getElem?, e] at hv'; cases hv'
          | some v => rw [Array.getD_eq_getD_getElem?, e] at hv'; simp at hv'; rw [hv']
        rw [hq]; cases b' <;> cases want <;> rfl
      · rename_i hb
        rw [hb] at hv
        simp only [Option.some.injEq] at hw; subst hw
        have hv' : a.tmps.getD d undef = undef := hv
        cases e : a.tmps[d]? with
        | none => rfl
        | some v =>
          rw [Array.getD_eq_getD_getElem?, e] at hv'
          simp at hv'
          subst hv'; rfl
      · cases hw
    · cases hw
end

/-! ### what an operation does, where it looks -/

/-- What an operation does: the value of its slot, the blocks that it writes, the blocks that it looks at. -/
structure Fx where
  x : AV
  us : List (Key × LB)
  rds : List Key

def Fx.app (e : Fx) (dst : Option Nat) (s : LSt) : LSt := LSt.put ⟨s.fr, updL s.lv e.us⟩ dst e.x

/-- An operation has an effect wherever a state is as s0 at the places that it looks at. -/
def EffOK (c : Ctx) (r : Option Nat) (ops : Array Oper) (o : Oper) (s0 : LSt) (e : Fx) : Prop :=
  ∀ s : LSt, (∀ t ∈ o.looksAt ops, s.fr t = s0.fr t) → Agree s0.lv s.lv e.us e.rds →
    ∀ F β a w K Q, StOK c F β s a w → (∀ F' β' a' w', StOK c F' β' (e.app o.dst s) a' w' → K a' w') →
      if Region.wanted o (yielded ops a.tmps) then o.wpIn (fen r) 0 c.P a w K Q else K (a.put o.dst undef) w

theorem val_congr {G : List (List DV)} {s s0 : LSt} {x : Operand} (h : ∀ t, x = .tmp t → s.fr t = s0.fr t) : s.val G x = s0.val G x := by
  cases x with
  | tmp t => exact h t rfl
  | _ => rfl

theorem vals_congr {G : List (List DV)} {s s0 : LSt} {o : Oper} {ops : Array Oper} (h : ∀ t ∈ o.looksAt ops, s.fr t = s0.fr t) : ∀ x ∈ o.op.operands.toList, s.val G x = s0.val G x := by
  intro x hx
  refine val_congr fun t ht => h t ?_
  subst ht
  exact List.mem_append_left _ (List.mem_filterMap.2 ⟨.tmp t, hx, rfl⟩)

theorem want_congr {s s0 : LSt} {o : Oper} {ops : Array Oper} (h : ∀ t ∈ o.looksAt ops, s.fr t = s0.fr t) : wantA ops o.guard s.fr = wantA ops o.guard s0.fr := by
  unfold wantA
  cases hg : o.guard with
  | none => rfl
  | some p =>
    obtain ⟨j, want⟩ := p
    simp only
    cases hd : (ops[j]?).bind (·.dst) with
    | none => rfl
    | some d =>
      simp only
      rw [h d (List.mem_append_right _ (by rw [hg]; simp [hd]))]

section
variable {c : Ctx} {r : Option Nat} {ops : Array Oper} {o : Oper} {s0 : LSt}

/-- Not done. -/
theorem EffOK.skip (hd : ∀ d, o.dst = some d → d < c.n) (hw : wantA ops o.guard s0.fr = some false) : EffOK c r ops o s0 ⟨.undef, [], []⟩ := by
  intro s h1 _ F β a w K Q h hK
  rw [wantA_sound h ((want_congr h1).trans hw)]
  simp only [Bool.false_eq_true, if_false]
  exact hK F β _ _ (h.putD hd (undef_junk _))

/-- Done. -/
theorem EffOK.of_sim {e : Fx} (hw : wantA ops o.guard s0.fr = some true) (hdf : ∀ cl, o.op ≠ .defer cl)
    (hs : ∀ s : LSt, (∀ x ∈ o.op.operands.toList, s.val c.G x = s0.val c.G x) → Agree s0.lv s.lv e.us e.rds → Sim c o s (e.app o.dst s)) : EffOK c r ops o s0 e := by
  intro s h1 h2 F β a w K Q h hK
  rw [wantA_sound h ((want_congr h1).trans hw)]
  simp only [if_true]
  exact wpIn_fen hdf (hs s (vals_congr h1) h2 F β a w K Q h hK)

theorem EffOK.plain {κ : Key} {x : AV} {us : List (Key × LB)} {rds : List Key} {vc : Prop} (hd : ∀ d, o.dst = some d → d < c.n) (hw : wantA ops o.guard s0.fr = some true)
    (h : stepF c.P o.op (o.op.operands.toList.map (s0.val c.G)) s0.lv κ = some (x, us, rds, vc)) (hvc : vc) : EffOK c r ops o s0 ⟨x, us, rds⟩ := by
  refine EffOK.of_sim hw (fun cl hcl => ?_) (fun s h1 h2 => ?_)
  · rw [hcl] at h; simp [stepF] at h
  · have hl := stepF_local h (show Agree s0.lv s.lv us rds from h2)
    exact stepF_sim hd rfl (List.map_congr_left h1) hl hvc
end
end Go.Am

namespace Go.Am

/-! ### regions that draw their order -/

theorem updL_in {us : List (Key × LB)} : ∀ {f g : Key → LB} {k : Key}, k ∈ us.map (·.1) → updL f us k = updL g us k := by
  induction us with
  | nil => intro f g k h; cases h
  | cons p us ih =>
    intro f g k h
    rw [updL_cons, updL_cons]
    by_cases hk : k ∈ us.map (·.1)
    · exact ih hk
    · rw [updL_not hk, updL_not hk]
      simp only [List.map_cons, List.mem_cons] at h
      rcases h with h | h
      · rw [h, upd_same, upd_same]
      · exact absurd h hk

theorem app_fr (e : Fx) (dst : Option Nat) (s : LSt) (t : Nat) : (e.app dst s).fr t = if dst = some t then e.x else s.fr t := by
  cases dst with
  | none => simp [Fx.app, LSt.put]
  | some d =>
    simp only [Fx.app, LSt.put, Option.some.injEq]
    by_cases h : d = t
    · subst h; rw [upd_same]; simp
    · rw [upd_ne _ _ (fun e => h e.symm)]; simp [h]

theorem app_lv (e : Fx) (dst : Option Nat) (s : LSt) : (e.app dst s).lv = updL s.lv e.us := by
  cases dst <;> rfl

/-- The state with the first m operations of a set done. -/
def stAt (ops : Array Oper) (es : List Fx) (s0 : LSt) (L : Nat → Bool) : Nat → LSt
  | 0 => s0
  | m + 1 => match ops[m]?, es[m]? with
    | some o, some e => if L m then e.app o.dst (stAt ops es s0 L m) else stAt ops es s0 L m
    | _, _ => stAt ops es s0 L m

/-- An operation comes before another one. -/
inductive Anc (ops : Array Oper) : Nat → Nat → Prop where
  | one {i j : Nat} {o : Oper} {ed : Edge} (ho : ops[j]? = some o) (he : ed ∈ o.after) (hb : Region.binds .any ed = true) (hi : ed.on = i) : Anc ops i j
  | more {i j : Nat} {o : Oper} {ed : Edge} (ho : ops[j]? = some o) (he : ed ∈ o.after) (hb : Region.binds .any ed = true) (hi : Anc ops i ed.on) : Anc ops i j

section
variable {ops : Array Oper} {es : List Fx} {s0 : LSt} {L : Nat → Bool}

theorem stAt_congr {L L' : Nat → Bool} : ∀ {m : Nat}, (∀ j, j < m → L j = L' j) → stAt ops es s0 L m = stAt ops es s0 L' m
  | 0, _ => rfl
  | m + 1, h => by
    have ih := stAt_congr (m := m) (fun j hj => h j (by omega))
    simp only [stAt, ih, h m (by omega)]

/-- A slot at the turn of an operation. -/
theorem stAt_fr {i t : Nat} (h : ∀ j o, ops[j]? = some o → o.dst = some t → (j < i ↔ L j = true)) : ∀ m, (stAt ops es s0 L m).fr t = (stAt ops es s0 (fun _ => true) (min m i)).fr t
  | 0 => by simp [stAt]
  | m + 1 => by
    have ih := stAt_fr h m
    by_cases hm : m < i
    · have e1 : min (m + 1) i = min m i + 1 := by omega
      have e2 : min m i = m := by omega
      rw [e1, e2]
      rw [e2] at ih
      simp only [stAt]
      cases ho : ops[m]? with
      | none => exact ih
      | some o =>
        cases he : es[m]? with
        | none => exact ih
        | some e =>
          simp only [if_true]
          by_cases hd : o.dst = some t
          · rw [(h m o ho hd).1 hm]
            simp only [if_true, app_fr, hd]
          · by_cases hL : L m = true
            · simp only [hL, if_true, app_fr, hd, if_false]; exact ih
            · simp only [hL, app_fr, hd, if_false]; exact ih
    · have e1 : min (m + 1) i = min m i := by omega
      rw [e1, ← ih]
      simp only [stAt]
      cases ho : ops[m]? with
      | none => rfl
      | some o =>
        cases he : es[m]? with
        | none => rfl
        | some e =>
          simp only
          by_cases hL : L m = true
          · have hd : o.dst ≠ some t := fun hd => hm ((h m o ho hd).2 hL)
            simp only [hL, if_true, app_fr, hd, if_false]
          · simp only [hL, if_false, Bool.false_eq_true]

/-- A block at the turn of an operation. -/
theorem stAt_lv {i : Nat} {k : Key} (h : ∀ (j : Nat) e, es[j]? = some e → k ∈ e.us.map (·.1) → (j < i ↔ L j = true)) : ∀ m, (stAt ops es s0 L m).lv k = (stAt ops es s0 (fun _ => true) (min m i)).lv k
  | 0 => by simp [stAt]
  | m + 1 => by
    have ih := stAt_lv h m
    by_cases hm : m < i
    · have e1 : min (m + 1) i = min m i + 1 := by omega
      have e2 : min m i = m := by omega
      rw [e1, e2]
      rw [e2] at ih
      simp only [stAt]
      cases ho : ops[m]? with
      | none => exact ih
      | some o =>
        cases he : es[m]? with
        | none => exact ih
        | some e =>
          simp only [if_true]
          by_cases hd : k ∈ e.us.map (·.1)
          · rw [(h m e he hd).1 hm]
            simp only [if_true, app_lv]
            exact updL_in hd
          · by_cases hL : L m = true
            · simp only [hL, if_true, app_lv, updL_not hd]; exact ih
            · simp only [hL, app_lv, updL_not hd]; exact ih
    · have e1 : min (m + 1) i = min m i := by omega
      rw [e1, ← ih]
      simp only [stAt]
      cases ho : ops[m]? with
      | none => rfl
      | some o =>
        cases he : es[m]? with
        | none => rfl
        | some e =>
          simp only
          by_cases hL : L m = true
          · have hd : k ∉ e.us.map (·.1) := fun hd => hm ((h m e he hd).2 hL)
            simp only [hL, if_true, app_lv, updL_not hd]
          · simp only [hL, if_false, Bool.false_eq_true]

/-- One operation more, at the end: a slot. -/
theorem stAt_add_fr {i n t : Nat} {o : Oper} {e : Fx} (ho : ops[i]? = some o) (he : es[i]? = some e) (hi : i < n) (hL : L i = false)
    (hlt : ∀ j o', i < j → ops[j]? = some o' → L j = true → o.dst = some t → o'.dst ≠ some t) :
    (e.app o.dst (stAt ops es s0 L n)).fr t = (stAt ops es s0 (fun j => L j || j == i) n).fr t := by
  have below : ∀ m, m ≤ i → stAt ops es s0 (fun j => L j || j == i) m = stAt ops es s0 L m := fun m hm =>
    stAt_congr fun j hj => by have : (j == i) = false := by simp; omega
                              simp [this]
  have h1 : ∀ m, i < m → (e.app o.dst (stAt ops es s0 L m)).fr t = (stAt ops es s0 (fun j => L j || j == i) m).fr t := by
    intro m
    induction m with
    | zero => intro h; omega
    | succ m ih =>
      intro hm
      by_cases hmi : m = i
      · subst hmi
        simp only [stAt, ho, he, hL, Bool.false_eq_true, if_false, beq_self_eq_true, Bool.or_true, if_true]
        rw [below m (by omega)]
      · have ih := ih (by omega)
        have hne : (m == i) = false := by simpa using hmi
        simp only [stAt]
        cases ho' : ops[m]? with
        | none => exact ih
        | some o' =>
          cases he' : es[m]? with
          | none => exact ih
          | some e' =>
            simp only [hne, Bool.or_false]
            by_cases hLm : L m = true
            · simp only [hLm, if_true]
              rw [app_fr, app_fr, app_fr]
              rw [app_fr] at ih
              by_cases hd : o.dst = some t
              · have := hlt m o' (by omega) ho' hLm hd
                simp only [hd, if_true, this, if_false] at ih ⊢; exact ih
              · simp only [hd, if_false] at ih ⊢
                rw [ih]
            · simp only [hLm, Bool.false_eq_true, if_false]; exact ih
  exact h1 n hi

/-- One operation more, at the end: a block. -/
theorem stAt_add_lv {i n : Nat} {k : Key} {o : Oper} {e : Fx} (ho : ops[i]? = some o) (he : es[i]? = some e) (hi : i < n) (hL : L i = false)
    (hlt : ∀ (j : Nat) e', i < j → es[j]? = some e' → L j = true → k ∈ e.us.map (·.1) → k ∉ e'.us.map (·.1)) :
    (e.app o.dst (stAt ops es s0 L n)).lv k = (stAt ops es s0 (fun j => L j || j == i) n).lv k := by
  have below : ∀ m, m ≤ i → stAt ops es s0 (fun j => L j || j == i) m = stAt ops es s0 L m := fun m hm =>
    stAt_congr fun j hj => by have : (j == i) = false := by simp; omega
                              simp [this]
  have h1 : ∀ m, i < m → (e.app o.dst (stAt ops es s0 L m)).lv k = (stAt ops es s0 (fun j => L j || j == i) m).lv k := by
    intro m
    induction m with
    | zero => intro h; omega
    | succ m ih =>
      intro hm
      by_cases hmi : m = i
      · subst hmi
        simp only [stAt, ho, he, hL, Bool.false_eq_true, if_false, beq_self_eq_true, Bool.or_true, if_true]
        rw [below m (by omega)]
      · have ih := ih (by omega)
        have hne : (m == i) = false := by simpa using hmi
        simp only [stAt]
        cases ho' : ops[m]? with
        | none => exact ih
        | some o' =>
          cases he' : es[m]? with
          | none => exact ih
          | some e' =>
            simp only [hne, Bool.or_false]
            by_cases hLm : L m = true
            · simp only [hLm, if_true]
              rw [app_lv, app_lv, app_lv]
              rw [app_lv] at ih
              by_cases hd : k ∈ e.us.map (·.1)
              · have hd' := hlt m e' (by omega) he' hLm hd
                rw [updL_not hd', ← ih]
                exact updL_in hd
              · rw [updL_not hd]
                rw [updL_not hd] at ih
                by_cases hd' : k ∈ e'.us.map (·.1)
                · exact updL_in hd'
                · rw [updL_not hd', updL_not hd']; exact ih
            · simp only [hLm, Bool.false_eq_true, if_false]; exact ih
  exact h1 n hi
end
end Go.Am

namespace Go.Am

/-- Two operations do not meet. -/
def Apart (ops : Array Oper) (o o' : Oper) (e e' : Fx) : Prop :=
  o.apart ops o' = true ∧ (∀ k ∈ e.us.map (·.1), k ∉ e'.us.map (·.1) ∧ k ∉ e'.rds) ∧ ∀ k ∈ e'.us.map (·.1), k ∉ e.rds

def cnt (p : Nat → Bool) : Nat → Nat
  | 0 => 0
  | n + 1 => cnt p n + (if p n then 1 else 0)

theorem cnt_congr {p q : Nat → Bool} : ∀ {n : Nat}, (∀ i, i < n → p i = q i) → cnt p n = cnt q n
  | 0, _ => rfl
  | n + 1, h => by simp only [cnt, cnt_congr (n := n) (fun i hi => h i (by omega)), h n (by omega)]

theorem cnt_add {p : Nat → Bool} {i : Nat} (h : p i = false) : ∀ {n : Nat}, i < n → cnt (fun j => p j || j == i) n = cnt p n + 1
  | 0, hi => absurd hi (by omega)
  | n + 1, hi => by
    by_cases e : n = i
    · subst e
      have h0 : ∀ j, j < n → (p j || j == n) = p j := fun j hj => by
        have h1 : (j == n) = false := by simp; omega
        simp [h1]
      have := cnt_congr h0
      simp only [cnt, this, h]; simp
    · have hne : (n == i) = false := by simpa using e
      simp only [cnt, cnt_add h (n := n) (by omega), hne, Bool.or_false]; omega

theorem cnt_le (p : Nat → Bool) : ∀ n, cnt p n ≤ n
  | 0 => Nat.le_refl _
  | n + 1 => by have := cnt_le p n; simp only [cnt]; split <;> omega

theorem cnt_all {p : Nat → Bool} : ∀ {n : Nat}, n ≤ cnt p n → ∀ i, i < n → p i = true
  | 0, _, i, hi => absurd hi (by omega)
  | n + 1, h, i, hi => by
    have h1 := cnt_le p n
    simp only [cnt] at h
    by_cases hp : p n = true
    · rw [if_pos hp] at h
      by_cases e : i = n
      · rw [e]; exact hp
      · exact cnt_all (n := n) (by omega) i (by omega)
    · rw [if_neg hp] at h; omega

theorem mem_ready {ops : Array Oper} {listed : Array Bool} {i : Nat} : i ∈ Region.ready .any ops listed ↔
    i < ops.size ∧ listed.getD i true = false ∧ ∃ o, ops[i]? = some o ∧ ∀ ed ∈ o.after, Region.binds .any ed = true → listed.getD ed.on false = true := by
  unfold Region.ready
  simp only [List.mem_filter, List.mem_range, Bool.and_eq_true, Bool.not_eq_true']
  refine and_congr_right fun hi => and_congr_right fun _ => ?_
  have ho : ops[i]? = some ops[i] := Array.getElem?_eq_getElem hi
  rw [ho]
  simp only [Option.map_some, Option.getD_some, Array.all_eq_true', Bool.or_eq_true, Bool.not_eq_true', Option.some.injEq, exists_eq_left']
  constructor
  · intro h ed hed hb
    rcases h ed hed with h | h
    · rw [hb] at h; cases h
    · exact h
  · intro h ed hed
    cases hb : Region.binds .any ed with
    | false => exact .inl rfl
    | true => exact .inr (h ed hed hb)

section
variable {c : Ctx} {r : Option Nat} {ops : Array Oper} {es : List Fx} {s0 : LSt}

theorem wpAny_of_effects (hlen : es.length = ops.size)
    (hE : ∀ (i : Nat) o e, ops[i]? = some o → es[i]? = some e → EffOK c r ops o (stAt ops es s0 (fun _ => true) i) e)
    (hback : ∀ (i : Nat) o, ops[i]? = some o → ∀ ed ∈ o.after, Region.binds .any ed = true → ed.on < i)
    (hind : ∀ (i j : Nat) o o' e e', i < j → ops[i]? = some o → ops[j]? = some o' → es[i]? = some e → es[j]? = some e' → Anc ops i j ∨ Apart ops o o' e e')
    {Q : Exit → Act → World → Prop} (hQ : ∀ F' β' a' w', StOK c F' β' (stAt ops es s0 (fun _ => true) ops.size) a' w' → Q .normal a' w') :
    ∀ (fuel : Nat) (listed : Array Bool), listed.size = ops.size →
      (∀ (j : Nat) o, ops[j]? = some o → listed.getD j false = true → ∀ ed ∈ o.after, Region.binds .any ed = true → listed.getD ed.on false = true) →
      ops.size ≤ fuel + cnt (fun j => listed.getD j false) ops.size →
      ∀ F β a w, StOK c F β (stAt ops es s0 (fun j => listed.getD j false) ops.size) a w → wpAnyIn (fen r) 0 c.P .any ops Q fuel listed a w := by
  intro fuel
  -- when all are listed
  have hall : ∀ (listed : Array Bool), (∀ i, i < ops.size → listed.getD i false = true) → ∀ F β a w, StOK c F β (stAt ops es s0 (fun j => listed.getD j false) ops.size) a w → Q .normal a w := by
    intro listed hl F β a w h
    rw [stAt_congr (L' := fun _ => true) hl] at h
    exact hQ _ _ _ _ h
  induction fuel with
  | zero =>
    intro listed hsz hcl hcnt F β a w h
    have hl := cnt_all (p := fun j => listed.getD j false) (n := ops.size) (by omega)
    refine ⟨?_, hall listed hl F β a w h⟩
    rw [List.eq_nil_iff_forall_not_mem]
    intro i hi
    obtain ⟨h1, h2, _⟩ := mem_ready.1 hi
    have h3 : listed.getD i false = true := hl i h1
    have h4 : i < listed.size := by omega
    simp [Array.getD, h4] at h2 h3
    rw [h2] at h3; cases h3
  | succ fuel ih =>
    intro listed hsz hcl hcnt F β a w h
    have hanc : ∀ i j, Anc ops i j → listed.getD j false = true → listed.getD i false = true := by
      intro i j ha
      induction ha with
      | one ho he hb hi => intro hj; subst hi; exact hcl _ _ ho hj _ he hb
      | more ho he hb _ ih => intro hj; exact ih (hcl _ _ ho hj _ he hb)
    refine ⟨fun hnil => ?_, fun i hi => ?_⟩
    · refine hall listed (fun i hi => ?_) F β a w h
      induction i using Nat.strongRecOn with
      | _ i ihi =>
        cases hL : listed.getD i false with
        | true => rfl
        | false =>
          exfalso
          have : i ∈ Region.ready .any ops listed := by
            refine mem_ready.2 ⟨hi, ?_, ops[i], Array.getElem?_eq_getElem hi, fun ed hed hb => ?_⟩
            · have h4 : i < listed.size := by omega
              simp [Array.getD, h4] at hL ⊢; exact hL
            · have := hback i _ (Array.getElem?_eq_getElem hi) ed hed hb
              exact ihi _ this (by omega)
          rw [hnil] at this; cases this
    · obtain ⟨hi1, hi2, o, ho, hpre⟩ := mem_ready.1 hi
      have h4 : i < listed.size := by omega
      have hLi : listed.getD i false = false := by simp [Array.getD, h4] at hi2 ⊢; exact hi2
      obtain ⟨e, he⟩ : ∃ e, es[i]? = some e := ⟨es[i]'(by omega), List.getElem?_eq_getElem (by omega)⟩
      have hes : ∀ j o', ops[j]? = some o' → ∃ e', es[j]? = some e' := fun j o' h' => by
        have : j < ops.size := (Array.getElem?_eq_some_iff.1 h').1
        exact ⟨es[j]'(by omega), List.getElem?_eq_getElem (by omega)⟩
      have hos : ∀ (j : Nat) e', es[j]? = some e' → ∃ o', ops[j]? = some o' := fun j e' h' => by
        have : j < es.length := (List.getElem?_eq_some_iff.1 h').1
        exact ⟨ops[j]'(by omega), Array.getElem?_eq_getElem (by omega)⟩
      have hancR : ∀ j, Anc ops j i → listed.getD j false = true := by
        intro j ha
        cases ha with
        | one ho' he' hb hj =>
          rw [ho] at ho'; simp only [Option.some.injEq] at ho'; subst ho'
          subst hj; exact hpre _ he' hb
        | more ho' he' hb hj =>
          rw [ho] at ho'; simp only [Option.some.injEq] at ho'; subst ho'
          exact hanc _ _ hj (hpre _ he' hb)
      have key := hE i o e ho he (stAt ops es s0 (fun j => listed.getD j false) ops.size) (fun t ht => ?_) ?_ F β a w
        (wpAnyIn (fen r) 0 c.P .any ops Q fuel (listed.setIfInBounds i true)) Q h (fun F' β' a' w' h' => ?_)
      · unfold wpOpIn
        rw [ho]
        simp only
        split at key
        · rename_i hw; rw [if_pos hw]; exact key
        · rename_i hw; rw [if_neg hw]; exact ⟨fun _ _ => trivial, key⟩
      · rw [stAt_fr (i := i) (fun j o' ho' hd => ?_) ops.size, Nat.min_eq_right (by omega)]
        obtain ⟨e', he'⟩ := hes j o' ho'
        constructor
        · intro hji
          rcases hind j i o' o e' e hji ho' ho he' he with ha | ha
          · exact hancR j ha
          · exact absurd ht ((Oper.apart_spec ha.1).1 t hd)
        · intro hj
          rcases Nat.lt_trichotomy j i with hlt | heq | hgt
          · exact hlt
          · subst heq; rw [hLi] at hj; cases hj
          · rcases hind i j o o' e e' hgt ho ho' he he' with ha | ha
            · have := hanc _ _ ha hj; rw [hLi] at this; cases this
            · exact absurd ht ((Oper.apart_spec ha.1).2.2 t hd)
      · have hk : ∀ k, (k ∈ e.rds ∨ k ∈ e.us.map (·.1)) → (stAt ops es s0 (fun j => listed.getD j false) ops.size).lv k = (stAt ops es s0 (fun _ => true) i).lv k := by
          intro k hk
          rw [stAt_lv (i := i) (fun j e' he' hd => ?_) ops.size, Nat.min_eq_right (by omega)]
          obtain ⟨o', ho'⟩ := hos j e' he'
          constructor
          · intro hji
            rcases hind j i o' o e' e hji ho' ho he' he with ha | ha
            · exact hancR j ha
            · rcases hk with hk | hk
              · exact absurd hk (ha.2.1 k hd).2
              · exact absurd hk (ha.2.1 k hd).1
          · intro hj
            rcases Nat.lt_trichotomy j i with hlt | heq | hgt
            · exact hlt
            · subst heq; rw [hLi] at hj; cases hj
            · rcases hind i j o o' e e' hgt ho ho' he he' with ha | ha
              · have := hanc _ _ ha hj; rw [hLi] at this; cases this
              · rcases hk with hk | hk
                · exact absurd hk (ha.2.2 k hd)
                · exact absurd hd (ha.2.1 k hk).1
        exact ⟨fun k h' => hk k (.inl h'), fun p h' => hk p.1 (.inr (List.mem_map_of_mem h'))⟩
      · have hset : ∀ j, (listed.setIfInBounds i true).getD j false = (listed.getD j false || j == i) := by
          intro j
          simp only [Array.getD_eq_getD_getElem?, Array.getElem?_setIfInBounds]
          by_cases hj : i = j
          · subst hj; simp [h4]
          · have hne : (j == i) = false := by simp; exact fun e => hj e.symm
            simp [hj, hne]
        refine ih (listed.setIfInBounds i true) (by simp [hsz]) (fun j o' ho' hj ed hed hb => ?_) ?_ F' β' a' w' ?_
        · rw [hset] at hj ⊢
          simp only [Bool.or_eq_true, beq_iff_eq] at hj ⊢
          rcases hj with hj | hj
          · exact .inl (hcl j o' ho' hj ed hed hb)
          · subst hj
            rw [ho] at ho'; simp only [Option.some.injEq] at ho'; subst ho'
            exact .inl (hpre ed hed hb)
        · rw [cnt_congr (q := fun j => listed.getD j false || j == i) (fun j _ => hset j), cnt_add (p := fun j => listed.getD j false) hLi hi1]
          omega
        · rw [stAt_congr (L' := fun j => listed.getD j false || j == i) (fun j _ => hset j)]
          have hst : e.app o.dst (stAt ops es s0 (fun j => listed.getD j false) ops.size) = stAt ops es s0 (fun j => listed.getD j false || j == i) ops.size := by
            have e1 : (e.app o.dst (stAt ops es s0 (fun j => listed.getD j false) ops.size)).fr = (stAt ops es s0 (fun j => listed.getD j false || j == i) ops.size).fr := by
              funext t
              refine stAt_add_fr ho he hi1 hLi (fun j o' hij ho' hj hd => ?_)
              obtain ⟨e', he'⟩ := hes j o' ho'
              rcases hind i j o o' e e' hij ho ho' he he' with ha | ha
              · have := hanc _ _ ha hj; rw [hLi] at this; cases this
              · exact (Oper.apart_spec ha.1).2.1 t hd
            have e2 : (e.app o.dst (stAt ops es s0 (fun j => listed.getD j false) ops.size)).lv = (stAt ops es s0 (fun j => listed.getD j false || j == i) ops.size).lv := by
              funext k
              refine stAt_add_lv ho he hi1 hLi (fun j e' hij he' hj hd => ?_)
              obtain ⟨o', ho'⟩ := hos j e' he'
              rcases hind i j o o' e e' hij ho ho' he he' with ha | ha
              · have := hanc _ _ ha hj; rw [hLi] at this; cases this
              · exact (ha.2.1 k hd).1
            cases h1 : e.app o.dst (stAt ops es s0 (fun j => listed.getD j false) ops.size)
            cases h2 : stAt ops es s0 (fun j => listed.getD j false || j == i) ops.size
            rw [h1, h2] at e1 e2
            simp only at e1 e2
            rw [e1, e2]
          rw [← hst]; exact h'
end
end Go.Am

namespace Go.Am

/-! ### what comes before what, as bit sets -/

def ancMask (acc : List Nat) (o : Oper) : Nat := o.after.toList.foldl (fun m e => if Region.binds .any e then m ||| (2 ^ e.on ||| acc.getD e.on 0) else m) 0

def ancMasks : List Oper → List Nat → List Nat
  | [], acc => acc
  | o :: r, acc => ancMasks r (acc ++ [ancMask acc o])

theorem foldl_mask {acc : List Nat} {i : Nat} : ∀ (l : List Edge) (m : Nat), (l.foldl (fun m e => if Region.binds .any e then m ||| (2 ^ e.on ||| acc.getD e.on 0) else m) m).testBit i = true →
    m.testBit i = true ∨ ∃ e ∈ l, Region.binds .any e = true ∧ (e.on = i ∨ (acc.getD e.on 0).testBit i = true)
  | [], m, h => .inl h
  | e :: l, m, h => by
    rcases foldl_mask l _ h with h1 | ⟨e', h1, h2⟩
    · dsimp only at h1
      split at h1
      · rename_i hb
        simp only [Nat.testBit_or, Bool.or_eq_true, Nat.testBit_two_pow, decide_eq_true_eq] at h1
        rcases h1 with h1 | h1 | h1
        · exact .inl h1
        · exact .inr ⟨e, by simp, hb, .inl h1⟩
        · exact .inr ⟨e, by simp, hb, .inr h1⟩
      · exact .inl h1
    · exact .inr ⟨e', by simp [h1], h2⟩

theorem ancMasks_sound {ops : Array Oper} : ∀ (os : List Oper) (acc : List Nat), ops.toList = ops.toList.take acc.length ++ os →
    (∀ i j, (acc.getD j 0).testBit i = true → Anc ops i j) → ∀ i j, ((ancMasks os acc).getD j 0).testBit i = true → Anc ops i j
  | [], acc, _, h => h
  | o :: os, acc, hl, h => by
    have hlen : acc.length < ops.toList.length := by
      have h1 := congrArg List.length hl
      simp only [List.length_append, List.length_take, List.length_cons] at h1
      omega
    have ho : ops[acc.length]? = some o := by
      have h1 : ops.toList[acc.length]? = (ops.toList.take acc.length ++ o :: os)[acc.length]? := by rw [← hl]
      rw [List.getElem?_append_right (by simp; omega)] at h1
      simp only [List.length_take] at h1
      rw [show acc.length - min acc.length ops.toList.length = 0 by omega] at h1
      simpa using h1
    refine ancMasks_sound os _ ?_ (fun i j hb => ?_)
    · have h2 : (acc ++ [ancMask acc o]).length = acc.length + 1 := by simp
      rw [h2, List.take_add_one]
      have h3 : ops.toList[acc.length]? = some o := by simpa using ho
      rw [h3]
      simp only [Option.toList_some, List.append_assoc, List.singleton_append]
      exact hl
    · by_cases hj : j < acc.length
      · rw [List.getD_eq_getElem?_getD, List.getElem?_append_left hj] at hb
        exact h i j (by rw [List.getD_eq_getElem?_getD]; exact hb)
      · by_cases hj2 : j = acc.length
        · subst hj2
          rw [List.getD_eq_getElem?_getD, List.getElem?_append_right (Nat.le_refl _)] at hb
          simp only [Nat.sub_self, List.getElem?_cons_zero, Option.getD_some] at hb
          unfold ancMask at hb
          rcases foldl_mask _ _ hb with h1 | ⟨e, h1, h2, h3⟩
          · simp at h1
          · have he : e ∈ o.after := by simpa using h1
            rcases h3 with h3 | h3
            · exact .one ho he h2 h3
            · exact .more ho he h2 (h _ _ h3)
        · rw [List.getD_eq_getElem?_getD, List.getElem?_eq_none (by simp; omega)] at hb
          simp at hb

/-- The edges of a region lead back. -/
def backL : Nat → List Oper → Bool
  | _, [] => true
  | i, o :: r => o.after.toList.all (fun e => !Region.binds .any e || decide (e.on < i)) && backL (i + 1) r

theorem backL_sound {ops : Array Oper} : ∀ (os : List Oper) (n : Nat), ops.toList.drop n = os → backL n os = true →
    ∀ (i : Nat) o, n ≤ i → ops[i]? = some o → ∀ ed ∈ o.after, Region.binds .any ed = true → ed.on < i
  | [], n, hl, _ => by
    intro i o hi ho
    have h1 : ops.toList.length ≤ n := List.drop_eq_nil_iff.1 hl
    have h2 := (Array.getElem?_eq_some_iff.1 ho).1
    simp at h1; omega
  | o :: os, n, hl, hb => by
    simp only [backL, Bool.and_eq_true] at hb
    intro i o' hi ho ed hed hbd
    by_cases e : i = n
    · subst e
      have h1 : (ops.toList.drop i)[0]? = some o := by rw [hl]; rfl
      rw [List.getElem?_drop] at h1
      simp only [Nat.add_zero, Array.getElem?_toList] at h1
      rw [ho] at h1; simp only [Option.some.injEq] at h1; subst h1
      have h2 := hb.1
      rw [List.all_eq_true] at h2
      have h3 := h2 ed (by simpa using hed)
      rw [hbd] at h3
      simpa using h3
    · refine backL_sound os (n + 1) ?_ hb.2 i o' (by omega) ho ed hed hbd
      rw [← List.drop_drop, hl]; rfl

/-- Operations that are not ordered do not look at each other's slots. -/
def statB (ops : Array Oper) : Bool :=
  let ms := ancMasks ops.toList []
  backL 0 ops.toList && (List.range ops.size).all fun j => (List.range j).all fun i =>
    (ms.getD j 0).testBit i || (match ops[i]?, ops[j]? with | some o, some o' => o.apart ops o' | _, _ => true)

/-- What an operation touches, as lists of keys. -/
def touchB (e e' : Fx) : Bool :=
  e.us.all (fun p => !(e'.us.any fun q => q.1 == p.1) && !e'.rds.contains p.1) && e'.us.all (fun p => !e.rds.contains p.1)

def idle (e : Fx) : Bool := e.us.isEmpty && e.rds.isEmpty

/-- Operations that are not ordered do not touch each other's blocks. -/
def dynB (ops : Array Oper) (es : List Fx) : Bool :=
  let ms := ancMasks ops.toList []
  (List.range es.length).all fun j => match es[j]? with
    | some e' => idle e' || (List.range j).all fun i => match es[i]? with
      | some e => idle e || (ms.getD j 0).testBit i || touchB e e'
      | none => true
    | none => true

theorem touchB_sound {e e' : Fx} (h : touchB e e' = true) : (∀ k ∈ e.us.map (·.1), k ∉ e'.us.map (·.1) ∧ k ∉ e'.rds) ∧ ∀ k ∈ e'.us.map (·.1), k ∉ e.rds := by
  simp only [touchB, Bool.and_eq_true, List.all_eq_true, Bool.not_eq_true', List.any_eq_false, beq_iff_eq, List.contains_eq_mem, decide_eq_false_iff_not] at h
  refine ⟨fun k hk => ?_, fun k hk => ?_⟩
  · obtain ⟨p, hp, rfl⟩ := List.mem_map.1 hk
    obtain ⟨h1, h2⟩ := h.1 p hp
    refine ⟨fun hk' => ?_, h2⟩
    obtain ⟨q, hq, e⟩ := List.mem_map.1 hk'
    exact h1 q hq e
  · obtain ⟨p, hp, rfl⟩ := List.mem_map.1 hk
    exact h.2 p hp

theorem idle_touch {e e' : Fx} (h : idle e = true ∨ idle e' = true) : (∀ k ∈ e.us.map (·.1), k ∉ e'.us.map (·.1) ∧ k ∉ e'.rds) ∧ ∀ k ∈ e'.us.map (·.1), k ∉ e.rds := by
  simp only [idle, Bool.and_eq_true, List.isEmpty_iff] at h
  rcases h with ⟨h1, h2⟩ | ⟨h1, h2⟩ <;> simp [h1, h2]

theorem ind_of_checks {ops : Array Oper} {es : List Fx} (hlen : es.length = ops.size) (hs : statB ops = true) (hd : dynB ops es = true) :
    (∀ (i : Nat) o, ops[i]? = some o → ∀ ed ∈ o.after, Region.binds .any ed = true → ed.on < i) ∧
    (∀ (i j : Nat) o o' e e', i < j → ops[i]? = some o → ops[j]? = some o' → es[i]? = some e → es[j]? = some e' → Anc ops i j ∨ Apart ops o o' e e') := by
  simp only [statB, Bool.and_eq_true, List.all_eq_true, List.mem_range] at hs
  refine ⟨fun i o => backL_sound ops.toList 0 rfl hs.1 i o (Nat.zero_le _), fun i j o o' e e' hij ho ho' he he' => ?_⟩
  have hj : j < ops.size := (Array.getElem?_eq_some_iff.1 ho').1
  have hm := ancMasks_sound (ops := ops) ops.toList [] (by simp) (fun i j h => by simp at h) i j
  have h1 := hs.2 j hj i hij
  rw [ho, ho'] at h1
  simp only [Bool.or_eq_true] at h1
  simp only [dynB, List.all_eq_true, List.mem_range] at hd
  have h2 := hd j (by omega)
  rw [he'] at h2
  simp only [Bool.or_eq_true, List.all_eq_true, List.mem_range] at h2
  rcases h1 with h1 | h1
  · exact .inl (hm h1)
  · rcases h2 with h2 | h2
    · exact .inr ⟨h1, idle_touch (.inr h2)⟩
    · have h3 := h2 i hij
      rw [he] at h3
      simp only [Bool.or_eq_true] at h3
      rcases h3 with (h3 | h3) | h3
      · exact .inr ⟨h1, idle_touch (.inl h3)⟩
      · exact .inl (hm h3)
      · exact .inr ⟨h1, touchB_sound h3⟩

/-! ### a list of operations, one after the other -/

def Chain (c : Ctx) (r : Option Nat) (ops : Array Oper) : List Oper → List Fx → LSt → LSt → Prop
  | [], [], s, s' => s' = s
  | o :: os, e :: es, s, s' => EffOK c r ops o s e ∧ Chain c r ops os es (e.app o.dst s) s'
  | _, _, _, _ => False

section
variable {c : Ctx} {r : Option Nat} {ops : Array Oper}

theorem Chain.len : ∀ {os : List Oper} {es : List Fx} {s s' : LSt}, Chain c r ops os es s s' → es.length = os.length
  | [], [], _, _, _ => rfl
  | _ :: _, _ :: _, _, _, h => by simp [Chain.len h.2]
  | [], _ :: _, _, _, h => h.elim
  | _ :: _, [], _, _, h => h.elim

theorem Chain.at {es : List Fx} {s0 : LSt} : ∀ {os : List Oper} {rs : List Fx} {s' : LSt} (n : Nat), ops.toList.drop n = os → es.drop n = rs → Chain c r ops os rs (stAt ops es s0 (fun _ => true) n) s' →
    s' = stAt ops es s0 (fun _ => true) (n + os.length) ∧ ∀ (i : Nat) o e, n ≤ i → ops[i]? = some o → es[i]? = some e → EffOK c r ops o (stAt ops es s0 (fun _ => true) i) e
  | [], [], s', n, h1, h2, h => by
    refine ⟨h, fun i o e hi ho he => ?_⟩
    have h3 : es.length ≤ n := List.drop_eq_nil_iff.1 h2
    have := (List.getElem?_eq_some_iff.1 he).1
    omega
  | o :: os, e :: rs, s', n, h1, h2, h => by
    have ho : ops[n]? = some o := by
      have : (ops.toList.drop n)[0]? = some o := by rw [h1]; rfl
      rw [List.getElem?_drop] at this
      simpa using this
    have he : es[n]? = some e := by
      have : (es.drop n)[0]? = some e := by rw [h2]; rfl
      rw [List.getElem?_drop] at this
      simpa using this
    have hst : stAt ops es s0 (fun _ => true) (n + 1) = e.app o.dst (stAt ops es s0 (fun _ => true) n) := by
      simp only [stAt, ho, he, if_true]
    obtain ⟨h3, h4⟩ := Chain.at (es := es) (s0 := s0) (os := os) (rs := rs) (s' := s') (n + 1) (by rw [← List.drop_drop, h1]; rfl) (by rw [← List.drop_drop, h2]; rfl) (by rw [hst]; exact h.2)
    refine ⟨by rw [h3]; congr 1; simp; omega, fun i o' e' hi ho' he' => ?_⟩
    by_cases e1 : i = n
    · subst e1
      rw [ho] at ho'; rw [he] at he'
      simp only [Option.some.injEq] at ho' he'
      subst ho'; subst he'; exact h.1
    · exact h4 i o' e' (by omega) ho' he'
  | [], _ :: _, _, _, _, _, h => h.elim
  | _ :: _, [], _, _, _, _, h => h.elim

/-- A region in its own order. -/
theorem Chain.opers {Q : Exit → Act → World → Prop} : ∀ {os : List Oper} {es : List Fx} {s s' : LSt} (n : Nat), ops.toList.drop n = os → Chain c r ops os es s s' →
    (∀ F' β' a' w', StOK c F' β' s' a' w' → Q .normal a' w') → ∀ F β a w, StOK c F β s a w → wpOpsIn (fen r) 0 c.P ops Q (List.range' n os.length) a w
  | [], [], s, s', n, _, h, hQ => fun F β a w hs => by
    have h : s' = s := h
    subst h; exact hQ F β a w hs
  | o :: os, e :: es, s, s', n, h1, h, hQ => fun F β a w hs => by
    have ho : ops[n]? = some o := by
      have : (ops.toList.drop n)[0]? = some o := by rw [h1]; rfl
      rw [List.getElem?_drop] at this
      simpa using this
    have ih := Chain.opers (os := os) (es := es) (n + 1) (by rw [← List.drop_drop, h1]; rfl) h.2 hQ
    have key := h.1 s (fun _ _ => rfl) ⟨fun _ _ => rfl, fun _ _ => rfl⟩ F β a w (wpOpsIn (fen r) 0 c.P ops Q (List.range' (n + 1) os.length)) Q hs (fun F' β' a' w' h' => ih F' β' a' w' h')
    simp only [List.length_cons, List.range'_succ]
    rw [wpOpsIn_cons]
    unfold wpOpIn
    rw [ho]
    simp only
    split at key
    · rename_i hw; rw [if_pos hw]; exact key
    · rename_i hw; rw [if_neg hw]; exact ⟨fun _ _ => trivial, key⟩
  | [], _ :: _, _, _, _, _, h, _ => h.elim
  | _ :: _, [], _, _, _, _, h, _ => h.elim

theorem Chain.region {Q : Exit → Act → World → Prop} {id : Nat} {es : List Fx} {s s' : LSt} (h : Chain c r ops ops.toList es s s')
    (hQ : ∀ F' β' a' w', StOK c F' β' s' a' w' → Q .normal a' w') {F : Nat → Prop} {β : Key → Nat} {a : Act} {w : World} (hs : StOK c F β s a w) : (Code.region id ops false).wpIn (fen r) 0 c.P Q a w := by
  refine wpIn_region ?_
  have := Chain.opers 0 rfl h hQ F β a w hs
  rw [List.range_eq_range']
  simpa using this

theorem Chain.draw {Q : Exit → Act → World → Prop} {id : Nat} {es : List Fx} {s s' : LSt} (hm : c.P.follows .mixedOrders = true) (h : Chain c r ops ops.toList es s s') (h1 : statB ops = true) (h2 : dynB ops es = true)
    (hQ : ∀ F' β' a' w', StOK c F' β' s' a' w' → Q .normal a' w') {F : Nat → Prop} {β : Key → Nat} {a : Act} {w : World} (hs : StOK c F β s a w) : (Code.region id ops true).wpIn (fen r) 0 c.P Q a w := by
  have hlen : es.length = ops.size := by rw [h.len]; simp
  obtain ⟨h3, h4⟩ := Chain.at (es := es) (s0 := s) 0 rfl rfl h
  obtain ⟨h5, h6⟩ := ind_of_checks hlen h1 h2
  refine wpIn_region_any hm ?_
  refine wpAny_of_effects (s0 := s) hlen (fun i o e ho he => h4 i o e (Nat.zero_le _) ho he) h5 h6 (fun F' β' a' w' h' => hQ F' β' a' w' ?_) ops.size _ (by simp) (fun j o ho hj => ?_) (by omega) F β a _ ?_
  · rw [h3]; simpa using h'
  · have hf : (Array.replicate ops.size false).getD j false = false := by
      simp only [Array.getD_eq_getD_getElem?, Array.getElem?_replicate]; split <;> rfl
    rw [hf] at hj; cases hj
  · have hf : ∀ j, (Array.replicate ops.size false).getD j false = false := fun j => by
      simp only [Array.getD_eq_getD_getElem?, Array.getElem?_replicate]; split <;> rfl
    have : stAt ops es s (fun j => (Array.replicate ops.size false).getD j false) ops.size = s := by
      rw [stAt_congr (L' := fun _ => false) (fun j _ => hf j)]
      have : ∀ m, stAt ops es s (fun _ => false) m = s := by
        intro m
        induction m with
        | zero => rfl
        | succ m ih => simp only [stAt, ih, Bool.false_eq_true, if_false]; split <;> rfl
      exact this _
    rw [this]
    exact hs.heap rfl
end
end Go.Am

namespace Go.Am

section
variable {c : Ctx} {r : Option Nat} {ops : Array Oper} {o : Oper} {s0 : LSt}

theorem EffOK.call {cl : Call} {fo : Operand} {f : FuncId} {fs cs : List AV} {x : AV} {us : List (Key × LB)} {rds : List Key} (hd : ∀ d, o.dst = some d → d < c.n) (hw : wantA ops o.guard s0.fr = some true)
    (ho : o.op = .call cl) (hcal : cl.callee = .value fo) (ht : callTgt (s0.val c.G fo) = some (f, fs, cs)) (hf : isFn c.P f = true)
    (he : CallEff c f (fs ++ cl.args.toList.map (s0.val c.G) ++ cs) s0.lv x us rds) : EffOK c r ops o s0 ⟨x, us, rds⟩ := by
  refine EffOK.of_sim hw (fun cl' h => by rw [ho] at h; cases h) (fun s h1 h2 => ?_)
  have hfo : s.val c.G fo = s0.val c.G fo := h1 fo (by rw [ho]; simp [Op.operands, Call.operands, hcal])
  have hargs : cl.args.toList.map (s.val c.G) = cl.args.toList.map (s0.val c.G) := List.map_congr_left fun y hy => h1 y (by
    rw [ho]; simp only [Op.operands, Call.operands, hcal]; simp at hy ⊢; exact .inr hy)
  refine CallEff.sim (rds := rds) hd ho hcal rfl (by rw [hfo]; exact ht) hf ?_
  rw [hargs]
  exact he.local h2
end

/-- An operation, and what goes on with it. -/
def AOp (c : Ctx) (o : Oper) (s : LSt) (κ : Nat) (K : AV → List (Key × LB) → List Key → Nat → Prop) : Prop :=
  match o.op with
  | .call cl => match cl.callee with
    | .value fo => match callTgt (s.val c.G fo) with
      | some (f, fs, cs) => isFn c.P f = true ∧ ∃ x us rds κ', CallEff c f (fs ++ cl.args.toList.map (s.val c.G) ++ cs) s.lv x us rds ∧ K x us rds κ'
      | none => False
    | _ => match stepF c.P o.op (o.op.operands.toList.map (s.val c.G)) s.lv κ with
      | some (x, us, rds, vc) => vc ∧ K x us rds (match us with | [] => κ | _ => κ + 1)
      | none => False
  | op => match stepF c.P op (op.operands.toList.map (s.val c.G)) s.lv κ with
    | some (x, us, rds, vc) => vc ∧ K x us rds (match us with | [] => κ | _ => κ + 1)
    | none => False

/-- A list of operations, one after the other; what was done is gathered (the last one first). -/
def ARun (c : Ctx) (ops : Array Oper) : List Oper → LSt → Nat → List Fx → (LSt → Nat → List Fx → Prop) → Prop
  | [], s, κ, acc, K => K s κ acc
  | o :: os, s, κ, acc, K => match wantA ops o.guard s.fr with
    | some true => AOp c o s κ fun x us rds κ' => ARun c ops os (LSt.put ⟨s.fr, updL s.lv us⟩ o.dst x) κ' (⟨x, us, rds⟩ :: acc) K
    | some false => ARun c ops os (s.put o.dst .undef) κ (⟨.undef, [], []⟩ :: acc) K
    | none => False

def dstB (n : Nat) (os : List Oper) : Bool := os.all fun o => match o.dst with | some d => decide (d < n) | none => true

section
variable {c : Ctx} {r : Option Nat} {ops : Array Oper}

theorem AOp.eff {o : Oper} {s : LSt} {κ : Nat} {K : AV → List (Key × LB) → List Key → Nat → Prop} (hd : ∀ d, o.dst = some d → d < c.n) (hw : wantA ops o.guard s.fr = some true) (h : AOp c o s κ K) :
    ∃ x us rds κ', EffOK c r ops o s ⟨x, us, rds⟩ ∧ K x us rds κ' := by
  have plain : (match stepF c.P o.op (o.op.operands.toList.map (s.val c.G)) s.lv κ with
      | some (x, us, rds, vc) => vc ∧ K x us rds (match us with | [] => κ | _ => κ + 1)
      | none => False) → ∃ x us rds κ', EffOK c r ops o s ⟨x, us, rds⟩ ∧ K x us rds κ' := by
    intro h
    split at h
    · rename_i x us rds vc hs
      exact ⟨x, us, rds, _, EffOK.plain hd hw hs h.1, h.2⟩
    · exact h.elim
  unfold AOp at h
  split at h
  · rename_i cl ho
    split at h
    · rename_i fo hcal
      split at h
      · rename_i f fs cs ht
        obtain ⟨hf, x, us, rds, κ', he, hK⟩ := h
        exact ⟨x, us, rds, κ', EffOK.call hd hw ho hcal ht hf he, hK⟩
      · exact h.elim
    · rw [ho] at h plain; exact plain h
  · exact plain h

theorem ARun.chain {K : LSt → Nat → List Fx → Prop} : ∀ {os : List Oper} {s : LSt} {κ : Nat} {acc : List Fx}, dstB c.n os = true → ARun c ops os s κ acc K →
    ∃ es s' κ', Chain c r ops os es s s' ∧ K s' κ' (es.reverse ++ acc)
  | [], s, κ, _, _, h => ⟨[], s, κ, rfl, h⟩
  | o :: os, s, κ, acc, hd, h => by
    simp only [dstB, List.all_cons, Bool.and_eq_true] at hd
    have hdo : ∀ d, o.dst = some d → d < c.n := fun d e => by have := hd.1; rw [e] at this; simpa using this
    simp only [ARun] at h
    split at h
    · rename_i hw
      obtain ⟨x, us, rds, κ', he, hK⟩ := AOp.eff (r := r) hdo hw h
      obtain ⟨es, s', κ'', h1, h2⟩ := ARun.chain hd.2 hK
      exact ⟨⟨x, us, rds⟩ :: es, s', κ'', ⟨he, h1⟩, by simpa using h2⟩
    · rename_i hw
      obtain ⟨es, s', κ'', h1, h2⟩ := ARun.chain hd.2 h
      exact ⟨⟨.undef, [], []⟩ :: es, s', κ'', ⟨EffOK.skip hdo hw, h1⟩, by simpa using h2⟩
    · exact h.elim
end

/-! ### code -/

/-- How code is left. -/
inductive Ex where
  | normal
  | exit (id : Nat)
  | goto (l : Nat)
  | ret
  | panic (d : DV)

def ExOK (x : Ex) (e : Exit) (F : Nat → Prop) (w : World) : Prop :=
  match x with
  | .normal => e = .normal
  | .exit id => e = .exit id
  | .goto l => e = .goto l
  | .ret => e = .ret
  | .panic d => ∃ v, e = .panic [{ v := v, recovered := false }] ∧ Rd (memF w F) v d

def Post (c : Ctx) (Q : Ex → LSt → Nat → Prop) : Exit → Act → World → Prop := fun e a w => ∃ x s κ F β, Q x s κ ∧ StOK c F β s a w ∧ ExOK x e F w

/-- What code does, on abstract states. -/
def AW (c : Ctx) (r : Option Nat) (code : Code) (s : LSt) (κ : Nat) (Q : Ex → LSt → Nat → Prop) : Prop :=
  ∀ F β a w, StOK c F β s a w → code.wpIn (fen r) 0 c.P (Post c Q) a w

def thenA (K : LSt → Nat → Prop) (Q : Ex → LSt → Nat → Prop) : Ex → LSt → Nat → Prop
  | .normal, s, κ => K s κ
  | e, s, κ => Q e s κ

def blockA (id : Nat) (Q : Ex → LSt → Nat → Prop) : Ex → LSt → Nat → Prop
  | .exit id', s, κ => if id' = id then Q .normal s κ else Q (.exit id') s κ
  | e, s, κ => Q e s κ

section
variable {c : Ctx} {r : Option Nat} {s : LSt} {κ : Nat} {Q : Ex → LSt → Nat → Prop}

theorem AW.region {id : Nat} {ops : Array Oper} (hd : dstB c.n ops.toList = true) (h : ARun c ops ops.toList s κ [] fun s' κ' _ => Q .normal s' κ') : AW c r (.region id ops false) s κ Q := by
  intro F β a w hs
  obtain ⟨es, s', κ', h1, h2⟩ := ARun.chain (r := r) hd h
  exact h1.region (fun F' β' a' w' h' => ⟨.normal, s', κ', F', β', h2, h', rfl⟩) hs

theorem AW.draw {id : Nat} {ops : Array Oper} (hm : c.P.follows .mixedOrders = true) (hst : statB ops = true) (hd : dstB c.n ops.toList = true)
    (h : ARun c ops ops.toList s κ [] fun s' κ' acc => dynB ops acc.reverse = true ∧ Q .normal s' κ') : AW c r (.region id ops true) s κ Q := by
  intro F β a w hs
  obtain ⟨es, s', κ', h1, h2, h3⟩ := ARun.chain (r := r) hd h
  exact h1.draw hm hst (by simpa using h2) (fun F' β' a' w' h' => ⟨.normal, s', κ', F', β', h3, h', rfl⟩) hs

theorem AW.skip (h : Q .normal s κ) : AW c r .skip s κ Q := fun F β _ _ hs => wpIn_skip ⟨.normal, s, κ, F, β, h, hs, rfl⟩
theorem AW.label {l : Nat} (h : Q .normal s κ) : AW c r (.label l) s κ Q := fun F β _ _ hs => wpIn_label ⟨.normal, s, κ, F, β, h, hs, rfl⟩
theorem AW.exit {id : Nat} (h : Q (.exit id) s κ) : AW c r (.exit id) s κ Q := fun F β _ _ hs => wpIn_exit ⟨.exit id, s, κ, F, β, h, hs, rfl⟩
theorem AW.goto {l : Nat} (h : Q (.goto l) s κ) : AW c r (.goto l) s κ Q := fun F β _ _ hs => wpIn_goto ⟨.goto l, s, κ, F, β, h, hs, rfl⟩
theorem AW.ret (h : Q .ret s κ) : AW c r .ret s κ Q := fun F β _ _ hs => wpIn_ret ⟨.ret, s, κ, F, β, h, hs, rfl⟩

theorem AW.seq {x y : Code} {K : LSt → Nat → Prop} (h : AW c r x s κ (thenA K Q)) (hK : ∀ s κ, K s κ → AW c r y s κ Q) : AW c r (.seq x y) s κ Q := by
  intro F β a w hs
  refine wpIn_seq (wpIn_mono (h F β a w hs) fun e a' w' hp => ?_)
  obtain ⟨e', s', κ', F', β', hq, hs', he⟩ := hp
  cases e' with
  | normal => cases he; exact hK s' κ' hq F' β' a' w' hs'
  | exit id => cases he; exact ⟨.exit id, s', κ', F', β', hq, hs', rfl⟩
  | goto l => cases he; exact ⟨.goto l, s', κ', F', β', hq, hs', rfl⟩
  | ret => cases he; exact ⟨.ret, s', κ', F', β', hq, hs', rfl⟩
  | panic d => obtain ⟨v, rfl, hv⟩ := he; exact ⟨.panic d, s', κ', F', β', hq, hs', v, rfl, hv⟩

theorem AW.mono {x : Code} {Q' : Ex → LSt → Nat → Prop} (h : AW c r x s κ Q) (hq : ∀ e s κ, Q e s κ → Q' e s κ) : AW c r x s κ Q' := fun F β a w hs =>
  wpIn_mono (h F β a w hs) fun _ _ _ ⟨e', s', κ', F', β', h1, h2, h3⟩ => ⟨e', s', κ', F', β', hq _ _ _ h1, h2, h3⟩

theorem AW.cond {o : Operand} {x y : Code} {b : Bool} (hb : s.val c.G o = .c (.d (.bool b))) (h : AW c r (if b then x else y) s κ Q) : AW c r (.cond o x y) s κ Q := by
  intro F β a w hs
  have h1 := hs.val o
  rw [hb] at h1
  exact wpIn_cond (Vw.c_bool h1) (h F β a w hs)

theorem AW.block {id : Nat} {x : Code} (h : AW c r x s κ (blockA id Q)) : AW c r (.block id x) s κ Q := by
  intro F β a w hs
  refine wpIn_block (wpIn_mono (h F β a w hs) fun e a' w' hp => ?_)
  obtain ⟨e', s', κ', F', β', hq, hs', he⟩ := hp
  cases e' with
  | normal => cases he; exact ⟨.normal, s', κ', F', β', hq, hs', rfl⟩
  | exit id' =>
    cases he
    simp only [blockA] at hq
    simp only [Exit.inBlock]
    split
    · rename_i hid; rw [if_pos hid] at hq; exact ⟨.normal, s', κ', F', β', hq, hs', rfl⟩
    · rename_i hid; rw [if_neg hid] at hq; exact ⟨.exit id', s', κ', F', β', hq, hs', rfl⟩
  | goto l => cases he; exact ⟨.goto l, s', κ', F', β', hq, hs', rfl⟩
  | ret => cases he; exact ⟨.ret, s', κ', F', β', hq, hs', rfl⟩
  | panic d => obtain ⟨v, rfl, hv⟩ := he; exact ⟨.panic d, s', κ', F', β', hq, hs', v, rfl, hv⟩

/-- Parts of what is known may be forgotten, keys named anew. -/
theorem AW.coarse {x : Code} {s2 : LSt} {κ2 : Nat} {g : Key → Key} (hc : Coarse c s s2 g) (h : AW c r x s2 κ2 Q) : AW c r x s κ Q :=
  fun F β a w hs => h F _ a w (hs.coarse hc)

/-- A loop: what holds at its head, of a state or of one that knows less; a number that falls. -/
theorem AW.loop {x : Code} (I : LSt → Nat → Prop) (μ : LSt → Nat → Nat) (h0 : I s κ)
    (hr : ∀ s κ, I s κ → AW c r x s κ (thenA (fun s' κ' => ∃ s2 κ2 g, Coarse c s' s2 g ∧ I s2 κ2 ∧ μ s2 κ2 < μ s κ) Q)) : AW c r (.loop x) s κ Q := by
  have key : ∀ n s κ, I s κ → μ s κ ≤ n → ∀ F β a w, StOK c F β s a w → Code.roundsIn (fen r) 0 c.P x (Post c Q) (n + 1) a w := by
    intro n
    induction n with
    | zero =>
      intro s κ hI hn F β a w hs
      rw [roundsIn_succ]
      refine wpIn_mono (hr s κ hI F β a w hs) fun e a' w' hp => ?_
      obtain ⟨e', s', κ', F', β', hq, hs', he⟩ := hp
      cases e' with
      | normal => obtain ⟨s2, κ2, g, h1, h2, h3⟩ := hq; omega
      | exit id => cases he; exact ⟨.exit id, s', κ', F', β', hq, hs', rfl⟩
      | goto l => cases he; exact ⟨.goto l, s', κ', F', β', hq, hs', rfl⟩
      | ret => cases he; exact ⟨.ret, s', κ', F', β', hq, hs', rfl⟩
      | panic d => obtain ⟨v, rfl, hv⟩ := he; exact ⟨.panic d, s', κ', F', β', hq, hs', v, rfl, hv⟩
    | succ n ih =>
      intro s κ hI hn F β a w hs
      rw [roundsIn_succ]
      refine wpIn_mono (hr s κ hI F β a w hs) fun e a' w' hp => ?_
      obtain ⟨e', s', κ', F', β', hq, hs', he⟩ := hp
      cases e' with
      | normal =>
        cases he
        obtain ⟨s2, κ2, g, h1, h2, h3⟩ := hq
        exact ih s2 κ2 h2 (by omega) F' _ a' w' (hs'.coarse h1)
      | exit id => cases he; exact ⟨.exit id, s', κ', F', β', hq, hs', rfl⟩
      | goto l => cases he; exact ⟨.goto l, s', κ', F', β', hq, hs', rfl⟩
      | ret => cases he; exact ⟨.ret, s', κ', F', β', hq, hs', rfl⟩
      | panic d => obtain ⟨v, rfl, hv⟩ := he; exact ⟨.panic d, s', κ', F', β', hq, hs', v, rfl, hv⟩
  intro F β a w hs
  exact wpIn_loop_rounds _ (key (μ s κ) s κ h0 (Nat.le_refl _) F β a w hs)
end
end Go.Am

namespace Go.Am

/-! ### a function's contract out of its body -/

def resV (P : Program) (s : LSt) : ResultVar → Option AV
  | .tmp t => some (s.fr t)
  | .cell a T => match s.fr a with
    | .c (.ptr k off) => match s.lv k with | .cells _ _ _ cs => loadA P T (cs.drop off) | _ => none
    | _ => none

def resL (P : Program) (s : LSt) : List ResultVar → Option (List AV)
  | [] => some []
  | x :: l => match resV P s x, resL P s l with | some y, some r => some (y :: r) | _, _ => none

def AV.noTup : AV → Bool
  | .tup _ => false
  | _ => true

def resA (P : Program) (s : LSt) (l : List ResultVar) : Option AV :=
  match resL P s l with
  | some [x] => some x
  | some r => if r.all AV.noTup then some (.tup r) else none
  | none => none

theorem Vw.av0_of {V : Vw} {v : Value} {x : AV} (h : V.av v x) (hx : x.noTup = true) : V.av0 v x := by
  cases x with
  | tup l => cases hx
  | _ => exact h

def resSem (tmps : Array Value) : ResultVar → Sem Value
  | .tmp t => pure (tmps.getD t undef)
  | .cell a t => do loadVar t (← asAddr (tmps.getD a undef))

theorem results_eq (fn : Func) (tmps : Array Value) : results fn tmps = (do let vs ← fn.results.mapM (resSem tmps); pure (if h : vs.size = 1 then vs[0] else .tuple vs)) := by
  unfold results
  refine congrArg (fun g : ResultVar → Sem Value => (do let vs ← fn.results.mapM g; pure (if h : vs.size = 1 then vs[0] else .tuple vs) : Sem Value)) (a₂ := resSem tmps) ?_
  funext x
  cases x <;> rfl

section
variable {c : Ctx} {F : Nat → Prop} {β : Key → Nat} {s : LSt} {a : Act} {w : World}

theorem resV_run (h : StOK c F β s a w) {x : ResultVar} {y : AV} (hr : resV c.P s x = some y) :
    ∃ v, (resSem a.tmps x).run c.P w = .ok v w ∧ (Vw.mk F β s.lv w).av v y := by
  cases x with
  | tmp t =>
    simp only [resV, Option.some.injEq] at hr; subst hr
    exact ⟨a.tmps.getD t undef, rfl, h.fr t⟩
  | cell b T =>
    simp only [resV] at hr
    split at hr
    · rename_i k off he
      split at hr
      · rename_i own fz T' cs hk
        have h1 := h.fr b
        rw [he] at h1
        obtain ⟨h1, _⟩ := h1
        simp only [Vw.atPtr, hk] at h1
        have hb := h.blk k
        unfold Vw.blk at hb; simp only [hk] at hb
        obtain ⟨arr, h2, h3, h4, _⟩ := hb
        obtain ⟨v, h5, h6⟩ := run_loadAt (P := c.P) (T := T) (Vw.mk F β s.lv w) (b := β k) (o := off) hr (fun i => arr.getD (off + i) undef)
          (fun i hi => by
            have hi' : off + i < arr.size := by simp at hi; omega
            rw [cell_of_block h2 hi']; simp [Array.getD, hi'])
          (fun i hi => by
            have hi' : off + i < arr.size := by simp at hi; omega
            simp only [Array.getD, hi', dite_true, List.getElem_drop]
            exact h4 (off + i) (by simp at hi; omega) hi')
        refine ⟨v, ?_, h6⟩
        simp only [Instr.loadAt, Instr.sureAddr, Sem.run_bind, Sem.run_pure, Result.andThen_ok] at h5
        show (do loadVar T (← asAddr (a.tmps.getD b undef)) : Sem Value).run c.P w = .ok v w
        rw [h1]
        simp only [asAddr, Sem.run_bind, Sem.run_pure, Result.andThen_ok]
        exact h5
      · cases hr
    · cases hr

theorem resL_run (h : StOK c F β s a w) : ∀ {l : List ResultVar} {ys : List AV}, resL c.P s l = some ys →
    ∃ vs : List Value, (l.mapM (resSem a.tmps)).run c.P w = .ok vs w ∧ vs.length = ys.length ∧
      ∀ i (h : i < ys.length) (h' : i < vs.length), (Vw.mk F β s.lv w).av vs[i] ys[i]
  | [], ys, hr => by simp only [resL, Option.some.injEq] at hr; subst hr; exact ⟨[], rfl, rfl, fun i h => absurd h (Nat.not_lt_zero i)⟩
  | x :: l, ys, hr => by
    simp only [resL] at hr
    split at hr
    · rename_i y r' h1 h2
      simp only [Option.some.injEq] at hr; subst hr
      obtain ⟨v, h3, h4⟩ := resV_run h h1
      obtain ⟨vs, h5, h6, h7⟩ := resL_run h h2
      refine ⟨v :: vs, ?_, by simp [h6], fun i p q => ?_⟩
      · rw [List.mapM_cons, Sem.run_bind, h3, Result.andThen_ok, Sem.run_bind, h5]; rfl
      · cases i with
        | zero => exact h4
        | succ i => exact h7 i (by simpa using p) (by simpa using q)
    · cases hr

theorem resA_run (h : StOK c F β s a w) {fn : Func} {y : AV} (hr : resA c.P s fn.results.toList = some y) : ∃ v, (results fn a.tmps).run c.P w = .ok v w ∧ (Vw.mk F β s.lv w).av v y := by
  unfold resA at hr
  have key : ∀ ys, resL c.P s fn.results.toList = some ys → ∃ vs : Array Value, (results fn a.tmps).run c.P w = .ok (if h : vs.size = 1 then vs[0] else .tuple vs) w ∧ vs.size = ys.length ∧
      ∀ i (h : i < ys.length) (h' : i < vs.size), (Vw.mk F β s.lv w).av vs[i] ys[i] := by
    intro ys hys
    obtain ⟨vs, h1, h2, h3⟩ := resL_run h hys
    refine ⟨vs.toArray, ?_, by simpa using h2, fun i p q => by simpa using h3 i p (by simpa using q)⟩
    rw [results_eq, Sem.run_bind, Array.mapM_eq_mapM_toList, map_eq_pure_bind, Sem.run_bind, h1]
    rfl
  split at hr
  · rename_i x hx
    simp only [Option.some.injEq] at hr; subst hr
    obtain ⟨vs, h1, h2, h3⟩ := key _ hx
    have h2' : vs.size = 1 := h2
    rw [dif_pos h2'] at h1
    exact ⟨_, h1, h3 0 (by simp) (by omega)⟩
  · rename_i ys hne hys
    split at hr
    · rename_i hall
      simp only [Option.some.injEq] at hr; subst hr
      obtain ⟨vs, h1, h2, h3⟩ := key _ hys
      have h2' : vs.size ≠ 1 := fun e => by
        rw [e] at h2
        match ys, h2, hne with
        | [x], _, hne => exact hne x rfl
      rw [dif_neg h2'] at h1
      rw [List.all_eq_true] at hall
      exact ⟨_, h1, vs, rfl, h2, fun i p q => Vw.av0_of (h3 i p q) (hall _ (List.getElem_mem p))⟩
    · cases hr
  · cases hr
end

/-- How a function's body ends. -/
def Fin (c : Ctx) (fn : Func) (x : AV) (σ' ν : List LB) : Ex → LSt → Nat → Prop
  | .normal, s, _ | .ret, s, _ => ∃ s2 g, Coarse c s s2 g ∧ s2.lv = lvOf σ' ν ∧ resA c.P s2 fn.results.toList = some x
  | _, _, _ => False

theorem CallsS.of_AW {P : Program} {G : List (List DV)} {f : FuncId} {fn : Func} {code : Code} {args : List AV} {σ σ' ν : List LB} {x : AV} (hf : P.funcs[f]? = some fn) (hb : fn.body = some code) (hl : args.length ≤ fn.ntmps)
    (h : ∀ c : Ctx, c.P = P → c.G = G → c.n = fn.ntmps → c.lv0 = lvOf σ [] → AW c none code ⟨fun t => args.getD t .undef, lvOf σ []⟩ 1000 (Fin c fn x σ' ν)) : CallsS P G f args σ (.ret x σ' ν) := by
  intro F β w vs hS hvl hv
  refine calls_of_wp hf hb ?_
  let c : Ctx := { CtxE P G w F β (lvOf σ []) with n := fn.ntmps }
  have hS' : Sits c F β (lvOf σ []) w := hS
  let a : Act := { tmps := vs ++ Array.replicate (fn.ntmps - vs.size) undef, defers := [] }
  have hst : StOK c F β ⟨fun t => args.getD t .undef, lvOf σ []⟩ a w := by
    refine hS'.with ?_ rfl (fun t => ?_)
    · show (vs ++ Array.replicate (fn.ntmps - vs.size) undef).size = fn.ntmps
      simp; omega
    · show (Vw.mk F β (lvOf σ []) w).av ((vs ++ Array.replicate (fn.ntmps - vs.size) undef).getD t undef) (args.getD t .undef)
      by_cases ht : t < args.length
      · have h1 : args.getD t .undef = args[t] := getD_lt ht
        have h2 : (vs ++ Array.replicate (fn.ntmps - vs.size) undef).getD t undef = vs[t]'(by omega) := by
          rw [Array.getD_eq_getD_getElem?, Array.getElem?_append_left (by omega), Array.getElem?_eq_getElem (by omega)]; rfl
        rw [h1, h2]; exact hv t ht (by omega)
      · have h1 : args.getD t .undef = .undef := getD_ge ht
        have h2 : (vs ++ Array.replicate (fn.ntmps - vs.size) undef).getD t undef = undef := by
          rw [Array.getD_eq_getD_getElem?, Array.getElem?_append_right (by omega), Array.getElem?_replicate]; split <;> rfl
        rw [h1, h2]; rfl
  have hw := (wpIn_wide (n := 0)).1 (h c rfl rfl rfl rfl F β a w hst)
  refine wp_mono hw fun e a' w' hp => ?_
  obtain ⟨e', s', κ', F', β', hq, hs', he⟩ := hp
  have fin : (∃ s2 g, Coarse c s' s2 g ∧ s2.lv = lvOf σ' ν ∧ resA c.P s2 fn.results.toList = some x) → a'.defers = [] ∧ ∃ v, (results fn a'.tmps).run P w' = .ok v w' ∧ outR P G σ F β w (.ret x σ' ν) (.returned v) w' := by
    rintro ⟨s2, g, h1, h2, h3⟩
    have hs2 := hs'.coarse h1
    obtain ⟨v, h4, h5⟩ := resA_run hs2 h3
    refine ⟨hs'.defers, v, h4, v, F', fun k => β' (g k), rfl, ?_, ?_⟩
    · have := hs2.sits; rw [h2] at this; exact this
    · rw [h2] at h5; exact h5
  cases e' with
  | normal => cases he; exact fin hq
  | ret => cases he; exact fin hq
  | exit id => exact hq.elim
  | goto l => exact hq.elim
  | panic d => exact hq.elim
end Go.Am

namespace Go.Am

/-! ### calls in the caller's own blocks: no border -/

/-- A block that a callee may be handed as it lies. -/
def LB.okB : LB → Bool
  | .cells own fz _ _ => !own && !fz
  | .map own _ => !own
  | _ => true

def AllOk (lv : Key → LB) : Prop := ∀ k, (lv k).okB = true

/-- How a call ends: what it gives back, or with what it panics; the blocks behind it. -/
inductive OutG where
  | ret (x : AV) (lv : Key → LB)
  | pan (d : DV) (lv : Key → LB)

def outG (P : Program) (G : List (List DV)) (lv : Key → LB) (F : Nat → Prop) (β : Key → Nat) (w : World) (o : OutG) (e : Ending) (w' : World) : Prop :=
  match o with
  | .ret x lv' => ∃ v F' β', e = .returned v ∧ Sits (CtxE P G w F β lv) F' β' lv' w' ∧ (Vw.mk F' β' lv' w').av v x
  | .pan d lv' => ∃ v F' β', e = .panicked [{ v := v, recovered := false }] ∧ Sits (CtxE P G w F β lv) F' β' lv' w' ∧ Rd (memF w' F') v d

/-- What a function does, called in these blocks. -/
def CallG (P : Program) (G : List (List DV)) (f : FuncId) (args : List AV) (lv : Key → LB) (o : OutG) : Prop :=
  ∀ (F : Nat → Prop) (β : Key → Nat) (w : World) (vs : Array Value), Sits (CtxE P G w F β lv) F β lv w → vs.size = args.length →
    (∀ i (h : i < args.length) (h' : i < vs.size), (Vw.mk F β lv w).av vs[i] args[i]) → Calls P f vs w (outG P G lv F β w o)

section
variable {c : Ctx} {F : Nat → Prop} {β : Key → Nat} {s : LSt} {a : Act} {w : World}

theorem StOK.enterG (h : StOK c F β s a w) (ho : AllOk s.lv) : Sits (CtxE c.P c.G w F β s.lv) F β s.lv w := by
  refine ⟨?_, h.inj, fun _ => trivial, rfl, rfl, fun b hb => ⟨(h.Flt b hb).1, .inl hb⟩, fun _ hb => hb, fun _ _ _ => rfl, Nat.le_refl _, h.glob, fun k _ => .inr ⟨rfl, LB.sub_refl _⟩, fun _ => Nat.le_refl _, ⟨rfl, rfl⟩⟩
  intro k
  have hb := h.blk k
  have hp := ho k
  unfold Vw.blk at hb ⊢
  cases e : s.lv k with
  | cells own fz T cs =>
    rw [e] at hp
    simp only [LB.okB, Bool.and_eq_true, Bool.not_eq_true'] at hp
    simp only [e] at hb ⊢
    obtain ⟨arr, b1, b2, b3, b4, b5⟩ := hb
    refine ⟨arr, b1, b2, b3, b4, ?_⟩
    rw [hp.1]; simp only [ownAt, Bool.false_eq_true, if_false]
    exact .inr ⟨k, by rw [e, hp.2]; rfl, rfl⟩
  | map own es =>
    rw [e] at hp
    simp only [LB.okB, Bool.not_eq_true'] at hp
    simp only [e] at hb ⊢
    obtain ⟨ents, clock, b1, b2, b3, b4, b5⟩ := hb
    refine ⟨ents, clock, b1, b2, b3, b4, ?_⟩
    rw [hp]; simp only [ownAt, Bool.false_eq_true, if_false]
    exact .inr ⟨k, by rw [e]; rfl, rfl⟩
  | hole => simp only [e]
  | dead => simp only [e]
  | nils => simp only [e]

theorem Vw.blk_ctx {c c' : Ctx} {V : Vw} {k : Key} (h : ∀ o, ownAt c o (V.β k) → ownAt c' o (V.β k)) (hb : V.blk c k) : V.blk c' k := by
  unfold Vw.blk at *
  cases e : V.lv k with
  | cells own fz T cs => rw [e] at hb; obtain ⟨arr, b1, b2, b3, b4, b5⟩ := hb; exact ⟨arr, b1, b2, b3, b4, h _ b5⟩
  | map own es => rw [e] at hb; obtain ⟨x, y, b1, b2, b3, b4, b5⟩ := hb; exact ⟨x, y, b1, b2, b3, b4, h _ b5⟩
  | hole => trivial
  | dead => trivial
  | nils => trivial

theorem StOK.backG (h : StOK c F β s a w) {F' : Nat → Prop} {β' : Key → Nat} {lv' : Key → LB} {w' : World}
    (hx : Sits (CtxE c.P c.G w F β s.lv) F' β' lv' w') : StOK c F' β' ⟨s.fr, lv'⟩ a w' := by
  have hF : ∀ b, F b → F' b := hx.F0
  have hold : ∀ b, b < w.heap.size → ¬ (∃ k, (s.lv k).live = true ∧ β k = b) → w'.heap[b]? = w.heap[b]? := hx.old
  have hkeep : ∀ k, s.lv k ≠ .hole → lv' k = .dead ∨ (β' k = β k ∧ (s.lv k).sub (lv' k)) := hx.keep
  have hge := h.ge
  refine h.step (hoo := hx.oso) hF ?_ ?_ ?_ hx.asz ?_ hx.inj ?_ hx.ge ?_
  · intro b hb
    refine hold b (h.Flt b hb).1 ?_
    rintro ⟨k, hk, rfl⟩
    exact h.live_nF hk hb
  · intro k
    by_cases h0 : s.lv k = .hole
    · rw [h0]; simp [LB.sub]
    · rcases hkeep k h0 with hd | ⟨_, hs⟩
      · rw [hd]; cases s.lv k <;> simp [LB.sub]
      · exact hs
  · intro k h0 hd
    rcases hkeep k h0 with hd' | ⟨h1, _⟩
    · exact absurd hd' hd
    · exact h1
  · intro k _
    refine Vw.blk_ctx ?_ (hx.blk k)
    intro o ho
    unfold ownAt at ho ⊢
    have ho' : if o = true then w.heap.size ≤ β' k else w.heap.size ≤ β' k ∨ ∃ j, (s.lv j).live = true ∧ β j = β' k := ho
    cases o with
    | true => simp only [if_true] at ho' ⊢; exact Nat.le_trans hge ho'
    | false =>
      simp only [Bool.false_eq_true, if_false] at ho' ⊢
      rcases ho' with h1 | ⟨j, hj, hj2⟩
      · exact .inl (Nat.le_trans hge h1)
      · have := h.live_own hj
        rw [hj2] at this; exact this
  · intro b hb
    rcases (hx.Flt b hb).2 with h1 | h1
    · exact .inl h1
    · have h1' : w.heap.size ≤ b := h1
      exact .inr ⟨(hx.Flt b hb).1, Nat.le_trans hge h1'⟩
  · intro b hb hnW
    refine hold b (Nat.lt_of_lt_of_le hb hge) ?_
    rintro ⟨k, hk, rfl⟩
    rcases h.live_own hk with h1 | h1
    · omega
    · exact hnW h1

/-- How an operation ends that may panic. -/
def SimP (c : Ctx) (o : Oper) (s : LSt) (d : DV) (s' : LSt) : Prop :=
  ∀ (F : Nat → Prop) (β : Key → Nat) (a : Act) (w : World) (K : Act → World → Prop) (Q : Exit → Act → World → Prop), StOK c F β s a w →
    (∀ F' β' v a' w', StOK c F' β' s' a' w' → Rd (memF w' F') v d → Q (.panic [{ v := v, recovered := false }]) a' w') → o.wp c.P a w K Q

/-- A call in the machine, with a panic or without. -/
theorem wp_callQ {o : Oper} {cl : Call} {fo : Operand} {fv : AV} {f : FuncId} {fs cs : List AV} (h : StOK c F β s a w) (ho : o.op = .call cl) (hcal : cl.callee = .value fo) (hfo : s.val c.G fo = fv)
    (ht : callTgt fv = some (f, fs, cs)) (hf : isFn c.P f = true) {K : Act → World → Prop} {Q : Exit → Act → World → Prop}
    (hK : ∀ vs : Array Value, vs.size = (fs ++ cl.args.toList.map (s.val c.G) ++ cs).length → (∀ i (h : i < (fs ++ cl.args.toList.map (s.val c.G) ++ cs).length) (h' : i < vs.size), (Vw.mk F β s.lv w).av vs[i] (fs ++ cl.args.toList.map (s.val c.G) ++ cs)[i]) →
      Calls c.P f vs w fun e w' => (∃ v, e = .returned v ∧ K (a.put o.dst v) w') ∨ ∃ ch, e = .panicked ch ∧ Q (.panic ch) a w') : o.wp c.P a w K Q := by
  obtain ⟨fs', cs', h1, h2, h3, h4, h5⟩ := run_callTgt (hfo ▸ h.val fo) ht
  have hv := call_vals (V := Vw.mk F β s.lv w) (args' := cl.args.map a.eval) (as := cl.args.toList.map (s.val c.G)) h2 (by simp) h3 h4 (fun i p q => by simp only [Array.getElem_map, List.getElem_map, Array.getElem_toList]; exact h.val _) h5
  have hc := hK _ hv.1 hv.2
  have hr : (execOp a.eval o).run c.P w = .ok (.enter f (fs' ++ cl.args.map a.eval ++ cs')) w := by
    simp only [execOp, ho, resolve, hcal, h1, Deferred.ofValue, Sem.run_bind, Sem.run_pure, Result.andThen_ok, invoke]
    rw [run_callFunc hf]
  unfold Oper.wp
  rw [hr, Oper.upon_enter]
  refine hc.mono fun e w' he => ?_
  rcases he with ⟨v, rfl, hk⟩ | ⟨ch, rfl, hk⟩ <;> exact hk

theorem CallG.sim {o : Oper} {cl : Call} {fo : Operand} {fv : AV} {f : FuncId} {fs cs : List AV} {x : AV} {lv' : Key → LB} (hd : ∀ d, o.dst = some d → d < c.n) (ho : o.op = .call cl) (hcal : cl.callee = .value fo)
    (hfo : s.val c.G fo = fv) (ht : callTgt fv = some (f, fs, cs)) (hf : isFn c.P f = true) (hok : AllOk s.lv) (hc : CallG c.P c.G f (fs ++ cl.args.toList.map (s.val c.G) ++ cs) s.lv (.ret x lv')) :
    Sim c o s (LSt.put ⟨s.fr, lv'⟩ o.dst x) := by
  intro F β a w K Q h hK
  refine wp_callQ h ho hcal hfo ht hf fun vs hl hv => ?_
  refine (hc F β w vs (h.enterG hok) hl hv).mono fun e w' he => ?_
  obtain ⟨v, F', β', rfl, hS, hav⟩ := he
  exact .inl ⟨v, rfl, hK _ _ _ _ (StOK.putD (h.backG hS) hd hav)⟩

theorem CallG.simP {o : Oper} {cl : Call} {fo : Operand} {fv : AV} {f : FuncId} {fs cs : List AV} {d : DV} {lv' : Key → LB} (ho : o.op = .call cl) (hcal : cl.callee = .value fo)
    (hfo : s.val c.G fo = fv) (ht : callTgt fv = some (f, fs, cs)) (hf : isFn c.P f = true) (hok : AllOk s.lv) (hc : CallG c.P c.G f (fs ++ cl.args.toList.map (s.val c.G) ++ cs) s.lv (.pan d lv')) :
    SimP c o s d ⟨s.fr, lv'⟩ := by
  intro F β a w K Q h hK
  refine wp_callQ h ho hcal hfo ht hf fun vs hl hv => ?_
  refine (hc F β w vs (h.enterG hok) hl hv).mono fun e w' he => ?_
  obtain ⟨v, F', β', rfl, hS, hav⟩ := he
  exact .inr ⟨_, rfl, hK _ _ v _ _ (h.backG hS) hav⟩
end

/-- How a function's body ends. -/
def FinG (c : Ctx) (fn : Func) : OutG → Ex → LSt → Nat → Prop
  | .ret x lv', .normal, s, _ | .ret x lv', .ret, s, _ => resA c.P s fn.results.toList = some x ∧ s.lv = lv'
  | .pan d lv', .panic d', s, _ => d' = d ∧ s.lv = lv'
  | _, _, _, _ => False

theorem CallG.of_AW {P : Program} {G : List (List DV)} {f : FuncId} {fn : Func} {code : Code} {args : List AV} {lv : Key → LB} {o : OutG} {κ : Nat} (hf : P.funcs[f]? = some fn) (hb : fn.body = some code) (hl : args.length ≤ fn.ntmps)
    (h : ∀ c : Ctx, c.P = P → c.G = G → c.n = fn.ntmps → c.lv0 = lv → AW c none code ⟨fun t => args.getD t .undef, lv⟩ κ (FinG c fn o)) : CallG P G f args lv o := by
  intro F β w vs hS hvl hv
  refine calls_of_wp hf hb ?_
  let c : Ctx := { CtxE P G w F β lv with n := fn.ntmps }
  have hS' : Sits c F β lv w := hS
  let a : Act := { tmps := vs ++ Array.replicate (fn.ntmps - vs.size) undef, defers := [] }
  have hst : StOK c F β ⟨fun t => args.getD t .undef, lv⟩ a w := by
    refine hS'.with ?_ rfl (fun t => ?_)
    · show (vs ++ Array.replicate (fn.ntmps - vs.size) undef).size = fn.ntmps
      simp; omega
    · show (Vw.mk F β lv w).av ((vs ++ Array.replicate (fn.ntmps - vs.size) undef).getD t undef) (args.getD t .undef)
      by_cases ht : t < args.length
      · have h1 : args.getD t .undef = args[t] := getD_lt ht
        have h2 : (vs ++ Array.replicate (fn.ntmps - vs.size) undef).getD t undef = vs[t]'(by omega) := by
          rw [Array.getD_eq_getD_getElem?, Array.getElem?_append_left (by omega), Array.getElem?_eq_getElem (by omega)]; rfl
        rw [h1, h2]; exact hv t ht (by omega)
      · have h1 : args.getD t .undef = .undef := getD_ge ht
        have h2 : (vs ++ Array.replicate (fn.ntmps - vs.size) undef).getD t undef = undef := by
          rw [Array.getD_eq_getD_getElem?, Array.getElem?_append_right (by omega), Array.getElem?_replicate]; split <;> rfl
        rw [h1, h2]; rfl
  have hw := (wpIn_wide (n := 0)).1 (h c rfl rfl rfl rfl F β a w hst)
  refine wp_mono hw fun e a' w' hp => ?_
  obtain ⟨e', s', κ', F', β', hq, hs', he⟩ := hp
  cases o with
  | ret x lv' =>
    have fin : resA c.P s' fn.results.toList = some x ∧ s'.lv = lv' → a'.defers = [] ∧ ∃ v, (results fn a'.tmps).run P w' = .ok v w' ∧ outG P G lv F β w (.ret x lv') (.returned v) w' := by
      rintro ⟨h0, h1⟩
      obtain ⟨v, h4, h5⟩ := resA_run hs' h0
      subst h1
      exact ⟨hs'.defers, v, h4, v, F', β', rfl, hs'.sits, h5⟩
    cases e' with
    | normal => cases he; exact fin hq
    | ret => cases he; exact fin hq
    | exit id => exact hq.elim
    | goto l => exact hq.elim
    | panic d => exact hq.elim
  | pan d lv' =>
    cases e' with
    | normal => exact hq.elim
    | ret => exact hq.elim
    | exit id => exact hq.elim
    | goto l => exact hq.elim
    | panic d' =>
      obtain ⟨rfl, h1⟩ := hq
      subst h1
      obtain ⟨v, rfl, hr⟩ := he
      exact ⟨hs'.defers, v, F', β', rfl, hs'.sits, hr⟩

/-- A call that is handed no block and leaves none, in any blocks. -/
theorem CallG.of_P {P : Program} {G : List (List DV)} {f : FuncId} {args : List AV} {x : AV} (h : CallsP P G f args x) : True := trivial
end Go.Am

namespace Go.Am

section
variable {c : Ctx} {F : Nat → Prop} {β : Key → Nat} {s : LSt} {a : Act} {w : World}

/-! ### comparisons with nil -/

/-- Is a value nil, that is none of the deep ones that '==' goes by? -/
def nilA (lv : Key → LB) : AV → Option Bool
  | .c (.ptr k _) => match lv k with | .cells .. => some false | _ => none
  | .c (.lsl k _ _ _) => match lv k with | .cells .. => some false | .nils => some true | _ => none
  | .c (.mapr k) => match lv k with | .map .. => some false | _ => none
  | .c (.d .nilmap) => some true
  | .c (.func ..) => some false
  | .c (.d (.func ..)) => some false
  | .c (.d .nilFunc) => some true
  | .c (.ifc ..) => some false
  | _ => none

/-- The nil that it is compared with. -/
def nilOf : AV → AV → Bool
  | .c (.ptr ..), .c (.d .nilp) => true
  | .c (.lsl ..), .c (.d .nilsl) => true
  | .c (.mapr _), .c (.d .nilmap) => true
  | .c (.d .nilmap), .c (.d .nilmap) => true
  | .c (.func ..), .c (.d .nilFunc) => true
  | .c (.d (.func ..)), .c (.d .nilFunc) => true
  | .c (.d .nilFunc), .c (.d .nilFunc) => true
  | .c (.ifc ..), .c (.d .nilIface) => true
  | _, _ => false

/-- The kind of type that such a comparison has. -/
def nilT (P : Program) (T : TypeId) : AV → Bool
  | .c (.ptr ..) => match P.underlying T with | some (.pointer _) => true | _ => false
  | .c (.lsl ..) => match P.underlying T with | some (.slice _) => true | _ => false
  | .c (.mapr _) | .c (.d .nilmap) => match P.underlying T with | some (.map _ _) => true | _ => false
  | .c (.func ..) | .c (.d (.func ..)) | .c (.d .nilFunc) => match P.underlying T with | some (.func _ _ _) => true | _ => false
  | .c (.ifc ..) => match P.underlying T with | some (.interface _) => true | _ => false
  | _ => false

def keyA : AV → List Key
  | .c (.ptr k _) => [k]
  | .c (.lsl k ..) => [k]
  | .c (.mapr k) => [k]
  | _ => []

theorem nilFin {P : Program} {w : World} {T : TypeId} {x y : Operand} {u v : Value} {b : Bool} (hE : ∀ m, (Op.equalIn (m + 1) T u v).run P w = .ok b w)
    (h1 : binOp .eql T u v = (do pure (.bool (← Op.equal T u v)))) (h2 : binOp .neq T u v = (do pure (.bool (!(← Op.equal T u v))))) (h3 : eqGuard .eql T x y u v = pure ()) (h4 : eqGuard .neq T x y u v = pure ()) :
    (do eqGuard .eql T x y u v; binOp .eql T u v : Sem Value).run P w = .ok (.bool b) w ∧ (do eqGuard .neq T x y u v; binOp .neq T u v : Sem Value).run P w = .ok (.bool (!b)) w := by
  have hq : (Op.equal T u v).run P w = .ok b w := hE 9999
  rw [h1, h2, h3, h4]
  constructor <;> (rw [Sem.run_bind, Sem.run_pure, Result.andThen_ok, Sem.run_bind, hq]; rfl)

theorem run_nilEq {V : Vw} {P : Program} {T : TypeId} {x y : Operand} {p q : AV} {u v : Value} {b : Bool} (hu : V.av u p) (hv : V.av v q) (hn : nilA V.lv p = some b) (hq : nilOf p q = true) (hT : nilT P T p = true) :
    (do eqGuard .eql T x y u v; binOp .eql T u v : Sem Value).run P V.w = .ok (.bool b) V.w ∧ (do eqGuard .neq T x y u v; binOp .neq T u v : Sem Value).run P V.w = .ok (.bool (!b)) V.w := by
  unfold nilOf at hq
  split at hq
  case h_1 k o =>
    simp only [nilA] at hn
    split at hn
    · rename_i e
      simp only [Option.some.injEq] at hn; subst hn
      obtain ⟨hu, _⟩ := hu
      simp only [Vw.atPtr, e] at hu
      obtain ⟨hv, _⟩ := hv
      cases hv
      subst hu
      simp only [nilT] at hT
      split at hT
      · rename_i e hT'
        exact nilFin (fun m => by simp [Op.equalIn, run_underlying hT']) rfl rfl rfl rfl
      · cases hT
    · cases hn
  case h_2 k o l z =>
    simp only [nilA] at hn
    obtain ⟨hv, _⟩ := hv
    cases hv
    obtain ⟨hu, _⟩ := hu
    simp only [nilT] at hT
    split at hT
    · rename_i e hT'
      split at hn
      · rename_i e
        simp only [Option.some.injEq] at hn; subst hn
        simp only [Vw.atLsl, e] at hu
        obtain ⟨cap, rfl, _⟩ := hu
        exact nilFin (fun m => by simp [Op.equalIn, run_underlying hT']) rfl rfl rfl rfl
      · rename_i e
        simp only [Option.some.injEq] at hn; subst hn
        simp only [Vw.atLsl, e] at hu
        rw [hu.1]
        exact nilFin (fun m => by simp [Op.equalIn, run_underlying hT']) rfl rfl rfl rfl
      · cases hn
    · cases hT
  case h_3 k =>
    simp only [nilA] at hn
    split at hn
    · rename_i e
      simp only [Option.some.injEq] at hn; subst hn
      obtain ⟨hu, _⟩ := hu
      simp only [Vw.atMap, e] at hu
      obtain ⟨hv, _⟩ := hv
      cases hv
      subst hu
      simp only [nilT] at hT
      split at hT
      · rename_i e hT'
        exact nilFin (fun m => by simp [Op.equalIn, run_underlying hT']) rfl rfl rfl rfl
      · cases hT
    · cases hn
  case h_4 =>
    simp only [nilA, Option.some.injEq] at hn; subst hn
    obtain ⟨hu, _⟩ := hu; cases hu
    obtain ⟨hv, _⟩ := hv; cases hv
    simp only [nilT] at hT
    split at hT
    · rename_i e hT'
      exact nilFin (fun m => by simp [Op.equalIn, run_underlying hT']) rfl rfl rfl rfl
    · cases hT
  case h_5 fn f cs =>
    simp only [nilA, Option.some.injEq] at hn; subst hn
    obtain ⟨_, _, rfl, _⟩ := hu
    obtain ⟨hv, _⟩ := hv; cases hv
    simp only [nilT] at hT
    split at hT
    · rename_i e hT'
      exact nilFin (fun m => by simp [Op.equalIn, run_underlying hT']) rfl rfl rfl rfl
    · cases hT
  case h_6 fn f cs =>
    simp only [nilA, Option.some.injEq] at hn; subst hn
    obtain ⟨hu, _⟩ := hu; cases hu
    obtain ⟨hv, _⟩ := hv; cases hv
    simp only [nilT] at hT
    split at hT
    · rename_i e hT'
      exact nilFin (fun m => by simp [Op.equalIn, run_underlying hT']) rfl rfl rfl rfl
    · cases hT
  case h_7 =>
    simp only [nilA, Option.some.injEq] at hn; subst hn
    obtain ⟨hu, _⟩ := hu; cases hu
    obtain ⟨hv, _⟩ := hv; cases hv
    simp only [nilT] at hT
    split at hT
    · rename_i e hT'
      exact nilFin (fun m => by simp [Op.equalIn, run_underlying hT']) rfl rfl rfl rfl
    · cases hT
  case h_8 t r =>
    simp only [nilA, Option.some.injEq] at hn; subst hn
    obtain ⟨_, rfl, _⟩ := hu
    obtain ⟨hv, _⟩ := hv; cases hv
    simp only [nilT] at hT
    split at hT
    · rename_i e hT'
      exact nilFin (fun m => by simp [Op.equalIn, run_underlying hT']) rfl rfl rfl rfl
    · cases hT
  case h_9 => cases hq

theorem sim_nilEq {o : Oper} {op : BinOp} {T T' : TypeId} {x y : Operand} {b : Bool} (hd : ∀ d, o.dst = some d → d < c.n) (ho : o.op = .binOp op T x y T') (hop : op = .eql ∨ op = .neq)
    (hn : nilA s.lv (s.val c.G x) = some b) (hq : nilOf (s.val c.G x) (s.val c.G y) = true) (hT : nilT c.P T (s.val c.G x) = true) :
    Sim c o s (s.put o.dst (.c (.d (.bool (if op = .eql then b else !b))))) :=
  Sim.of_pure hd fun F β a w hs => by
    have h := run_nilEq (V := Vw.mk F β s.lv w) (P := c.P) (T := T) (x := x) (y := y) (hs.val x) (hs.val y) hn hq hT
    rcases hop with rfl | rfl
    · exact ⟨.bool b, by simp only [execOp, ho]; have := h.1; simp only [Sem.run_bind] at this ⊢; rw [this]; rfl, Vw.mk_bool _ _⟩
    · exact ⟨.bool (!b), by simp only [execOp, ho]; have := h.2; simp only [Sem.run_bind] at this ⊢; rw [this]; rfl, Vw.mk_bool _ _⟩
end
end Go.Am
