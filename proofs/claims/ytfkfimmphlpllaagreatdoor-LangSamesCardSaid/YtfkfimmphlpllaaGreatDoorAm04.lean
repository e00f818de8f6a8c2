/- Helpers: an abstract machine for Go functions, and walks of functions of the program. -/
import Derived.Test.YtfkfimmphlpllaaGreatDoorAm03

set_option linter.all false

namespace Go.Am

section
variable {P : Program} {G : List (List DV)}

theorem nilB_iff {α : Type} {l : List α} : nilB l = true ↔ l = [] := by cases l <;> simp [nilB]
theorem oneB_ok {k : Key} {l : List Key} (h : oneB k l = true) : l = [k] := by
  unfold oneB at h
  split at h
  · rw [Nat.eq_of_beq_eq_true h]
  · cases h

theorem app_toFw (P : Program) (f : Rec) (d : Option Nat) (fr : Nat → AV) (lv : Key → LB) : (toFw P f).e.app d ⟨fr, lv⟩ = ⟨putF d f.x fr, updL lv (unU f.us)⟩ := by
  show LSt.put ⟨fr, updL lv (unU f.us)⟩ d f.x = _
  rw [putF_put]

theorem apartB_ok {f g : Rec} (h : apartB P f g = true) : (toFw P f).apart (toFw P g) := by
  unfold apartB at h
  simp only [Bool.and_eq_true, Bool.or_eq_true, Bool.not_eq_true', List.all_eq_true] at h
  obtain ⟨⟨⟨⟨h1, h2⟩, h3⟩, h4⟩, h5⟩ := h
  have hmem : ∀ {us : List (Key × LB)} {k : Key}, k ∈ (unU us).map (·.1) → ∃ p ∈ us, p.1 = k := by
    intro us k hk; rw [unU_keys] at hk; simpa using hk
  refine ⟨fun ha => ?_, fun ha => ?_, ?_, ?_, ?_⟩
  · rcases h1 with h1 | h1
    · have : f.all = true := ha
      rw [this] at h1; cases h1
    · exact unU_nil.2 (nilB_iff.1 h1)
  · rcases h2 with h2 | h2
    · have : g.all = true := ha
      rw [this] at h2; cases h2
    · exact unU_nil.2 (nilB_iff.1 h2)
  · intro k hk hk'
    obtain ⟨p, hp, rfl⟩ := hmem hk
    obtain ⟨q, hq, e⟩ := hmem hk'
    have := h3 p hp
    rw [List.any_eq_false] at this
    exact this q hq (by rw [e]; exact Nat.beq_refl _)
  · intro k hk
    obtain ⟨p, hp, rfl⟩ := hmem hk
    rcases h4 p hp with h | h
    · left; intro hm; have hm' : p.1 ∈ g.rds := hm; rw [memB_iff.2 hm'] at h; cases h
    · right; exact ⟨unU_nil.2 (nilB_iff.1 h.1.1), oneB_ok h.1.2, h.2⟩
  · intro k hk
    obtain ⟨p, hp, rfl⟩ := hmem hk
    rcases h5 p hp with h | h
    · left; intro hm; have hm' : p.1 ∈ f.rds := hm; rw [memB_iff.2 hm'] at h; cases h
    · right; exact ⟨unU_nil.2 (nilB_iff.1 h.1.1), oneB_ok h.1.2, h.2⟩

theorem idle_apart {f g : Rec} (h : Rec.idle f = true ∨ Rec.idle g = true ∨ (Rec.quiet f = true ∧ Rec.quiet g = true)) : (toFw P f).apart (toFw P g) := by
  have key : ∀ {us : List (Key × LB)}, us = [] → unU us = [] := fun h => unU_nil.2 h
  rcases h with h | h | ⟨h, h'⟩
  · unfold Rec.idle at h
    simp only [Bool.and_eq_true, Bool.not_eq_true'] at h
    have h1 := key (nilB_iff.1 h.1.1)
    have h2 := nilB_iff.1 h.1.2
    refine ⟨fun ha => ?_, fun _ => h1, ?_, ?_, ?_⟩
    · have : f.all = true := ha
      rw [h.2] at this; cases this
    · intro k hk; have : (toFw P f).e.us = [] := h1
      rw [this] at hk; cases hk
    · intro k hk; have : (toFw P f).e.us = [] := h1
      rw [this] at hk; cases hk
    · intro k _; left; have : (toFw P f).e.rds = [] := h2
      rw [this]; simp
  · unfold Rec.idle at h
    simp only [Bool.and_eq_true, Bool.not_eq_true'] at h
    have h1 := key (nilB_iff.1 h.1.1)
    have h2 := nilB_iff.1 h.1.2
    refine ⟨fun _ => h1, fun ha => ?_, ?_, ?_, ?_⟩
    · have : g.all = true := ha
      rw [h.2] at this; cases this
    · intro k _ hk; have : (toFw P g).e.us = [] := h1
      rw [this] at hk; cases hk
    · intro k _; left; have : (toFw P g).e.rds = [] := h2
      rw [this]; simp
    · intro k hk; have : (toFw P g).e.us = [] := h1
      rw [this] at hk; cases hk
  · unfold Rec.quiet at h h'
    simp only [Bool.and_eq_true, Bool.not_eq_true'] at h h'
    have h1 := key (nilB_iff.1 h.1)
    have h2 := key (nilB_iff.1 h'.1)
    refine ⟨fun _ => h2, fun _ => h1, ?_, ?_, ?_⟩
    · intro k hk; have : (toFw P f).e.us = [] := h1
      rw [this] at hk; cases hk
    · intro k hk; have : (toFw P f).e.us = [] := h1
      rw [this] at hk; cases hk
    · intro k hk; have : (toFw P g).e.us = [] := h2
      rw [this] at hk; cases hk

theorem pairs_ok {ms : List Nat} : ∀ {r : List Rec} {j0 : Nat} {before : List (Nat × Rec)}, indB.pairs P ms r j0 before = true →
    (∀ (j : Nat) g, r[j]? = some g → ∀ p ∈ before, (ms.getD (j0 + j) 0).testBit p.1 = true ∨ (toFw P p.2).apart (toFw P g)) ∧
    (∀ (i j : Nat) f g, i < j → r[i]? = some f → r[j]? = some g → (ms.getD (j0 + j) 0).testBit (j0 + i) = true ∨ (toFw P f).apart (toFw P g))
  | [], j0, before, h => ⟨fun j g hg => by simp at hg, fun i j f g _ hf => by simp at hf⟩
  | a :: r, j0, before, h => by
    unfold indB.pairs at h
    cases hi : Rec.idle a with
    | true =>
      rw [hi] at h; simp only [cond_true] at h
      obtain ⟨h1, h2⟩ := pairs_ok h
      refine ⟨fun j g hg p hp => ?_, fun i j f g hij hf hg => ?_⟩
      · cases j with
        | zero => simp only [List.getElem?_cons_zero, Option.some.injEq] at hg; subst hg; exact .inr (idle_apart (.inr (.inl hi)))
        | succ j =>
          have := h1 j g (by simpa using hg) p hp
          have e : j0 + 1 + j = j0 + (j + 1) := by omega
          rwa [e] at this
      · cases j with
        | zero => omega
        | succ j =>
          cases i with
          | zero => simp only [List.getElem?_cons_zero, Option.some.injEq] at hf; subst hf; exact .inr (idle_apart (.inl hi))
          | succ i =>
            have := h2 i j f g (by omega) (by simpa using hf) (by simpa using hg)
            have e : j0 + 1 + j = j0 + (j + 1) := by omega
            have e2 : j0 + 1 + i = j0 + (i + 1) := by omega
            rwa [e, e2] at this
    | false =>
      rw [hi] at h; simp only [cond_false, Bool.and_eq_true, List.all_eq_true, Bool.or_eq_true] at h
      obtain ⟨h0, h⟩ := h
      obtain ⟨h1, h2⟩ := pairs_ok h
      refine ⟨fun j g hg p hp => ?_, fun i j f g hij hf hg => ?_⟩
      · cases j with
        | zero =>
          simp only [List.getElem?_cons_zero, Option.some.injEq] at hg; subst hg
          rcases h0 p hp with (h3 | h3) | h3
          · exact .inr (idle_apart (.inr (.inr ⟨h3.2, h3.1⟩)))
          · exact .inl h3
          · exact .inr (apartB_ok h3)
        | succ j =>
          have := h1 j g (by simpa using hg) p (List.mem_cons_of_mem _ hp)
          have e : j0 + 1 + j = j0 + (j + 1) := by omega
          rwa [e] at this
      · cases j with
        | zero => omega
        | succ j =>
          have e : j0 + 1 + j = j0 + (j + 1) := by omega
          cases i with
          | zero =>
            simp only [List.getElem?_cons_zero, Option.some.injEq] at hf; subst hf
            have := h1 j g (by simpa using hg) (j0, a) (List.mem_cons_self ..)
            rw [e] at this; exact this
          | succ i =>
            have := h2 i j f g (by omega) (by simpa using hf) (by simpa using hg)
            have e2 : j0 + 1 + i = j0 + (i + 1) := by omega
            rwa [e, e2] at this

/-- What a region that draws does. -/
theorem drawK_ok {call : EvCall2} (hc : CallOK P G call) {ops : Array Oper} : ∀ {os : List Oper} {fr : Tb AV} {lv : Tb LB} {nx : Nat} {lg : List Key} {acc : List Rec} {k : List Rec → Tb AV → Tb LB → Nat → List Key → Res} {r : Res},
    drawK P G call ops os fr lv nx lg acc k = r → Good r → AllOk (lvT' lv) →
    ∃ (rs : List Rec) (fr' : Tb AV) (lv' : Tb LB) (nx' : Nat) (l : List Key), k (rs.reverse ++ acc) fr' lv' nx' (l ++ lg) = r ∧ AllOk (lvT' lv') ∧ LgOK lv lv' l ∧ ∀ c : Ctx, c.P = P → c.G = G → dstB c.n os = true → ChainW c none ops os (rs.map (toFw P)) (SS fr lv) (SS fr' lv')
  | [], fr, lv, nx, lg, acc, k, r, h, hg, ho => ⟨[], fr, lv, nx, [], h, ho, LgOK.refl _, fun c _ _ _ => rfl⟩
  | o :: os, fr, lv, nx, lg, acc, k, r, h, hg, ho => by
    have h0 : (optK (wantA ops o.guard (frT' fr)) (.bad 8 [o.op]) fun b =>
      boolK b (putK' o.dst .undef fr fun fr => drawK P G call ops os fr lv nx lg (⟨.undef, [], [], false, lv, o.op, [], nx⟩ :: acc) k)
        (OpK.rec (motive := fun _ => Res)
          (fun _ => .bad 9 [o.op])
          (fun cl fo => boolK (isoB ops)
            (callK P G call o.op cl fo fr lv nx [] (fun x lv' nx' lg' => forceA x fun x => putK' o.dst x fr fun fr => drawK P G call ops os fr lv' nx' (lg' ++ lg) (⟨x, lg'.map fun q => (q, lvT' lv' q), [], true, lv, o.op, [], nx⟩ :: acc) k) (fun _ _ _ _ => .bad 10 [o.op]))
            (callDK P G call o.op cl fo fr lv nx fun x us rds nx' => forceA x fun x => putK' o.dst x fr fun fr => wrK us lv lg fun lv' lg => drawK P G call ops os fr lv' nx' lg (⟨x, us, rds, false, lv, o.op, [], nx⟩ :: acc) k))
          (opK P o.op (valsT G fr o.op.operands.toList) lv nx fun x us rds => nxK nx us fun nx' => forceA x fun x => putK' o.dst x fr fun fr' => wrK us lv lg fun lv' lg => drawK P G call ops os fr' lv' nx' lg (⟨x, us, rds, false, lv, o.op, valsT G fr o.op.operands.toList, nx⟩ :: acc) k)
          (opKd o.op))) = r := h
    obtain ⟨b, hw, h1⟩ := optK_some h0 hg.ne
    cases b with
    | false =>
      have h1' : putK' o.dst .undef fr (fun fr => drawK P G call ops os fr lv nx lg (⟨.undef, [], [], false, lv, o.op, [], nx⟩ :: acc) k) = r := h1
      obtain ⟨fr1, h2, e1⟩ := putK'_ok h1'
      obtain ⟨rs, fr', lv', nx', l, q1, q2, q3, q4⟩ := drawK_ok hc h2 hg ho
      refine ⟨⟨.undef, [], [], false, lv, o.op, [], nx⟩ :: rs, fr', lv', nx', l, by simpa using q1, q2, q3, fun c hP hG hd => ?_⟩
      obtain ⟨hd1, hd2⟩ := dstB_cons hd
      refine ⟨EffP.skip hd1 hw, rfl, ?_⟩
      have : (toFw P ⟨.undef, [], [], false, lv, o.op, [], nx⟩).e.app o.dst (SS fr lv) = SS fr1 lv := by
        unfold SS; rw [app_toFw, ← e1]; rfl
      rw [this]; exact q4 c hP hG hd2
    | true =>
      cases ek : opKd o.op with
      | pan x => rw [ek] at h1; exact absurd h1 hg.ne
      | call cl fo =>
        rw [ek] at h1
        obtain ⟨hop, hcal⟩ := opKd_call ek
        have h1' : boolK (isoB ops)
            (callK P G call o.op cl fo fr lv nx [] (fun x lv' nx' lg' => forceA x fun x => putK' o.dst x fr fun fr => drawK P G call ops os fr lv' nx' (lg' ++ lg) (⟨x, lg'.map fun q => (q, lvT' lv' q), [], true, lv, o.op, [], nx⟩ :: acc) k) (fun _ _ _ _ => .bad 10 [o.op]))
            (callDK P G call o.op cl fo fr lv nx fun x us rds nx' => forceA x fun x => putK' o.dst x fr fun fr => wrK us lv lg fun lv' lg => drawK P G call ops os fr lv' nx' lg (⟨x, us, rds, false, lv, o.op, [], nx⟩ :: acc) k) = r := h1
        cases hi : isoB ops with
        | false =>
          rw [hi] at h1'
          have h2 : callK P G call o.op cl fo fr lv nx [] (fun x lv' nx' lg' => forceA x fun x => putK' o.dst x fr fun fr => drawK P G call ops os fr lv' nx' (lg' ++ lg) (⟨x, lg'.map fun q => (q, lvT' lv' q), [], true, lv, o.op, [], nx⟩ :: acc) k) (fun _ _ _ _ => .bad 10 [o.op]) = r := h1'
          obtain ⟨f, fs, cs, c1, c2, c3⟩ := callK_ok hc h2 hg ho
          rcases c3 with ⟨x, lv1, nx1, l1, d1, d2, d3, d4⟩ | ⟨d, lv1, nx1, l1, d1, _⟩
          · rw [forceA_eq, List.append_nil] at d1
            have d1' : putK' o.dst x fr (fun fr => drawK P G call ops os fr lv1 nx1 (l1 ++ lg) (⟨x, l1.map fun q => (q, lvT' lv1 q), [], true, lv, o.op, [], nx⟩ :: acc) k) = r := d1
            obtain ⟨fr1, h3, e1⟩ := putK'_ok d1'
            obtain ⟨rs, fr', lv', nx', l, q1, q2, q3, q4⟩ := drawK_ok hc h3 hg d3
            refine ⟨⟨x, l1.map fun q => (q, lvT' lv1 q), [], true, lv, o.op, [], nx⟩ :: rs, fr', lv', nx', l ++ l1, by simpa [List.append_assoc] using q1, q2, d4.trans q3, fun c hP hG hd => ?_⟩
            obtain ⟨hd1, hd2⟩ := dstB_cons hd
            refine ⟨EffP.callAll hP hG hd1 hw hop hcal c1 c2 ho d3 d4 d2, rfl, ?_⟩
            have : (toFw P ⟨x, l1.map fun q => (q, lvT' lv1 q), [], true, lv, o.op, [], nx⟩).e.app o.dst (SS fr lv) = SS fr1 lv1 := by
              unfold SS; rw [app_toFw, logU d4 d3, ← e1]
            rw [this]; exact q4 c hP hG hd2
          · exact absurd d1 hg.ne
        | true =>
          rw [hi] at h1'
          have h2 : callDK P G call o.op cl fo fr lv nx (fun x us rds nx' => forceA x fun x => putK' o.dst x fr fun fr => wrK us lv lg fun lv' lg => drawK P G call ops os fr lv' nx' lg (⟨x, us, rds, false, lv, o.op, [], nx⟩ :: acc) k) = r := h1'
          obtain ⟨f, fs, cs, x, us, rds, nx1, c1, c2, d1, c3⟩ := callDK_ok hc h2 hg
          rw [forceA_eq] at d1
          have d1' : putK' o.dst x fr (fun fr => wrK us lv lg fun lv' lg => drawK P G call ops os fr lv' nx1 lg (⟨x, us, rds, false, lv, o.op, [], nx⟩ :: acc) k) = r := d1
          obtain ⟨fr1, h3, e1⟩ := putK'_ok d1'
          have h3' : wrK us lv lg (fun lv' lg => drawK P G call ops os fr1 lv' nx1 lg (⟨x, us, rds, false, lv, o.op, [], nx⟩ :: acc) k) = r := h3
          obtain ⟨lv1, l1, h5, e2, e3, e4⟩ := wrK_ok h3' hg ho
          obtain ⟨rs, fr', lv', nx', l, q1, q2, q3, q4⟩ := drawK_ok hc h5 hg e3
          refine ⟨⟨x, us, rds, false, lv, o.op, [], nx⟩ :: rs, fr', lv', nx', l ++ l1, by simpa [List.append_assoc] using q1, q2, e4.trans q3, fun c hP hG hd => ?_⟩
          obtain ⟨hd1, hd2⟩ := dstB_cons hd
          have heff : EffOK c none ops o (SS fr lv) ⟨x, us, rds⟩ := EffOK.call hd1 hw hop hcal (by rw [hG]; exact c1) (by rw [hP]; exact c2) (by rw [hG]; exact c3 c hP hG)
          refine ⟨EffP.of_EffOK heff (fun lv' hok => ?_), rfl, ?_⟩
          · rcases hok with ⟨h1, _⟩ | ⟨_, h1 | ⟨h1, j, h2, h3⟩⟩
            · cases h1
            · exact agree_un h1
            · exfalso
              obtain ⟨vc, g1, _⟩ := softB_ok h3
              simp only at g1
              rw [hop] at g1
              have g2 : stepB P cl [] (upd (lvT' lv) j (lv' j)) nx = some (x, [], [j], vc) := g1
              unfold stepB at g2; rw [hcal] at g2; cases g2
          · have : (toFw P ⟨x, us, rds, false, lv, o.op, [], nx⟩).e.app o.dst (SS fr lv) = SS fr1 lv1 := by
              unfold SS; rw [app_toFw, ← e1, ← e2]
            rw [this]; exact q4 c hP hG hd2
      | plain =>
        rw [ek] at h1
        have h1' : opK P o.op (valsT G fr o.op.operands.toList) lv nx (fun x us rds => nxK nx us fun nx' => forceA x fun x => putK' o.dst x fr fun fr' => wrK us lv lg fun lv' lg => drawK P G call ops os fr' lv' nx' lg (⟨x, us, rds, false, lv, o.op, valsT G fr o.op.operands.toList, nx⟩ :: acc) k) = r := h1
        obtain ⟨x, us, rds, h2, hdo⟩ := opK_ok h1' hg
        have h2' : nxK nx us (fun nx' => forceA x fun x => putK' o.dst x fr fun fr' => wrK us lv lg fun lv' lg => drawK P G call ops os fr' lv' nx' lg (⟨x, us, rds, false, lv, o.op, valsT G fr o.op.operands.toList, nx⟩ :: acc) k) = r := h2
        obtain ⟨nx1, h3⟩ := nxK_ok h2'
        rw [forceA_eq] at h3
        obtain ⟨fr1, h4, e1⟩ := putK'_ok h3
        have h4' : wrK us lv lg (fun lv' lg => drawK P G call ops os fr1 lv' nx1 lg (⟨x, us, rds, false, lv, o.op, valsT G fr o.op.operands.toList, nx⟩ :: acc) k) = r := h4
        obtain ⟨lv1, l1, h5, e2, e3, e4⟩ := wrK_ok h4' hg ho
        obtain ⟨rs, fr', lv', nx', l, q1, q2, q3, q4⟩ := drawK_ok hc h5 hg e3
        refine ⟨⟨x, us, rds, false, lv, o.op, valsT G fr o.op.operands.toList, nx⟩ :: rs, fr', lv', nx', l ++ l1, by simpa [List.append_assoc] using q1, q2, e4.trans q3, fun c hP hG hd => ?_⟩
        obtain ⟨hd1, hd2⟩ := dstB_cons hd
        refine ⟨EffP.plain hP hG hd1 hw hdo, rfl, ?_⟩
        have : (toFw P ⟨x, us, rds, false, lv, o.op, valsT G fr o.op.operands.toList, nx⟩).e.app o.dst (SS fr lv) = SS fr1 lv1 := by
          unfold SS; rw [app_toFw, ← e1, ← e2]
        rw [this]; exact q4 c hP hG hd2

/-- What code does. -/
def CodeDoes (P : Program) (G : List (List DV)) (N : Nat) (x : Code) (s s' : LSt) (e : Ex) : Prop :=
  ∀ c : Ctx, c.P = P → c.G = G → c.n = N → ∀ F β a w, StOK c F β s a w → x.wpIn (fen none) 0 c.P (fun ex a' w' => ∃ F' β', StOK c F' β' s' a' w' ∧ ExOK e ex F' w') a w

def RunOK (P : Program) (G : List (List DV)) (x : Code) (run : RunT) : Prop := ∀ call, CallOK P G call → ∀ N fr lv nx lg k r, run call N fr lv nx lg k = r → Good r → AllOk (lvT' lv) →
  ∃ e fr' lv' nx' l, k e fr' lv' nx' (l ++ lg) = r ∧ AllOk (lvT' lv') ∧ LgOK lv lv' l ∧ CodeDoes P G N x (SS fr lv) (SS fr' lv') e

theorem region_ok (hm : P.follows .mixedOrders = true) (id : Nat) (ops : Array Oper) (dr : Bool) : RunOK P G (.region id ops dr) (m_region P G id ops dr) := by
  intro call hc N fr lv nx lg k r h hg ho
  have h0 : boolK (dstB N ops.toList) (.bad 11 []) (Bool.rec (motive := fun _ => Res) (opsK P G call ops ops.toList fr lv nx lg k)
    (boolK (statB ops) (.bad 12 []) (drawK P G call ops ops.toList fr lv nx lg [] fun acc fr lv nx lg => boolK (indB P (ancMasks ops.toList []) acc.reverse) (.bad 13 (ops.toList.map (·.op))) (k .normal fr lv nx lg))) dr) = r := h
  obtain ⟨hd, h1⟩ := boolK_true h0 hg.ne
  cases dr with
  | false =>
    obtain ⟨e, fr', lv', nx', l, q1, q2, q3, q4⟩ := opsK_ok hc h1 hg ho
    refine ⟨e, fr', lv', nx', l, q1, q2, q3, ?_⟩
    intro c hP hG hn F β a w hs
    refine wpIn_region ?_
    have := q4 c 0 _ hP hG (by rw [hn]; exact hd) rfl (fun F' β' a' w' ex h1 h2 => (⟨F', β', h1, h2⟩ : ∃ F' β', StOK c F' β' (SS fr' lv') a' w' ∧ ExOK e ex F' w')) F β a w hs
    rw [List.range_eq_range']
    simpa using this
  | true =>
    obtain ⟨hst, h2⟩ := boolK_true h1 hg.ne
    obtain ⟨rs, fr', lv', nx', l, q1, q2, q3, q4⟩ := drawK_ok hc h2 hg ho
    rw [List.append_nil, List.reverse_reverse] at q1
    obtain ⟨hi, h3⟩ := boolK_true q1 hg.ne
    refine ⟨.normal, fr', lv', nx', l, h3, q2, q3, ?_⟩
    intro c hP hG hn F β a w hs
    have hch := q4 c hP hG (by rw [hn]; exact hd)
    have hp := pairs_ok (P := P) (ms := ancMasks ops.toList []) (r := rs) (j0 := 0) (before := []) hi
    unfold statB at hst
    simp only [Bool.and_eq_true, List.all_eq_true, List.mem_range] at hst
    obtain ⟨hs1, hs2⟩ := hst
    have hanc : ∀ i j, ((ancMasks ops.toList []).getD j 0).testBit i = true → Anc ops i j := ancMasks_sound ops.toList [] (by simp) (fun i j h => by simp at h)
    refine ChainW.draw (by rw [hP]; exact hm) hch (fun i o ho ed hed hb => backL_sound ops.toList 0 rfl hs1 i o (Nat.zero_le _) ho ed hed hb) (fun i j o o' f g hij ho ho' hf hg => ?_)
      (fun F' β' a' w' h' => ⟨F', β', h', rfl⟩) hs
    have hj : j < ops.size := (Array.getElem?_eq_some_iff.1 ho').1
    rw [List.getElem?_map, Option.map_eq_some_iff] at hf hg
    obtain ⟨f0, hf0, rfl⟩ := hf
    obtain ⟨g0, hg0, rfl⟩ := hg
    have h5 := hs2 j hj i hij
    rw [ho, ho'] at h5
    simp only [Bool.or_eq_true] at h5
    rcases h5 with h5 | h5
    · exact .inl (hanc i j h5)
    · rcases hp.2 i j f0 g0 hij hf0 hg0 with h6 | h6
      · simp only [Nat.zero_add] at h6; exact .inl (hanc i j h6)
      · exact .inr ⟨h5, h6⟩

theorem CodeDoes.mono {N : Nat} {x : Code} {s s' : LSt} {e : Ex} (h : CodeDoes P G N x s s' e) {c : Ctx} (hP : c.P = P) (hG : c.G = G) (hn : c.n = N) {Q : Exit → Act → World → Prop}
    (hQ : ∀ F' β' a' w' ex, StOK c F' β' s' a' w' → ExOK e ex F' w' → Q ex a' w') {F : Nat → Prop} {β : Key → Nat} {a : Act} {w : World} (hs : StOK c F β s a w) : x.wpIn (fen none) 0 c.P Q a w :=
  wpIn_mono (h c hP hG hn F β a w hs) fun ex a' w' ⟨F', β', h1, h2⟩ => hQ F' β' a' w' ex h1 h2

theorem seq_ok {x y : Code} {a b : RunT} (ha : RunOK P G x a) (hb : RunOK P G y b) : RunOK P G (.seq x y) (m_seq x y a b) := by
  intro call hc N fr lv nx lg k r h hg ho
  obtain ⟨e, fr1, lv1, nx1, l1, q1, q2, q3, q4⟩ := ha call hc N fr lv nx lg _ r h hg ho
  cases e with
  | normal =>
    have q1' : b call N fr1 lv1 nx1 (l1 ++ lg) k = r := q1
    obtain ⟨e, fr', lv', nx', l, p1, p2, p3, p4⟩ := hb call hc N fr1 lv1 nx1 _ k r q1' hg q2
    refine ⟨e, fr', lv', nx', l ++ l1, by rw [List.append_assoc]; exact p1, p2, q3.trans p3, ?_⟩
    intro c hP hG hn F β ac w hs
    refine wpIn_seq (q4.mono hP hG hn (fun F' β' a' w' ex h1 h2 => ?_) hs)
    have : ex = .normal := h2
    subst this
    exact p4 c hP hG hn F' β' a' w' h1
  | exit id =>
    refine ⟨.exit id, fr1, lv1, nx1, l1, q1, q2, q3, fun c hP hG hn F β ac w hs => wpIn_seq (q4.mono hP hG hn (fun F' β' a' w' ex h1 h2 => ?_) hs)⟩
    have : ex = .exit id := h2
    subst this; exact ⟨F', β', h1, rfl⟩
  | goto id =>
    refine ⟨.goto id, fr1, lv1, nx1, l1, q1, q2, q3, fun c hP hG hn F β ac w hs => wpIn_seq (q4.mono hP hG hn (fun F' β' a' w' ex h1 h2 => ?_) hs)⟩
    have : ex = .goto id := h2
    subst this; exact ⟨F', β', h1, rfl⟩
  | ret =>
    refine ⟨.ret, fr1, lv1, nx1, l1, q1, q2, q3, fun c hP hG hn F β ac w hs => wpIn_seq (q4.mono hP hG hn (fun F' β' a' w' ex h1 h2 => ?_) hs)⟩
    have : ex = .ret := h2
    subst this; exact ⟨F', β', h1, rfl⟩
  | panic d =>
    refine ⟨.panic d, fr1, lv1, nx1, l1, q1, q2, q3, fun c hP hG hn F β ac w hs => wpIn_seq (q4.mono hP hG hn (fun F' β' a' w' ex h1 h2 => ?_) hs)⟩
    obtain ⟨v, rfl, hv⟩ := h2
    exact ⟨F', β', h1, v, rfl, hv⟩

theorem cond_ok {o : Operand} {x y : Code} {a b : RunT} (ha : RunOK P G x a) (hb : RunOK P G y b) : RunOK P G (.cond o x y) (m_cond G o x y a b) := by
  intro call hc N fr lv nx lg k r h hg ho
  have h0 : condK (valT G fr o) (b call N fr lv nx lg k) (a call N fr lv nx lg k) = r := h
  unfold condK at h0
  split at h0
  · rename_i t ht
    rw [valT_eq G fr (lvT' lv)] at ht
    cases t with
    | false =>
      obtain ⟨e, fr', lv', nx', l, p1, p2, p3, p4⟩ := hb call hc N fr lv nx lg k r h0 hg ho
      refine ⟨e, fr', lv', nx', l, p1, p2, p3, fun c hP hG hn F β ac w hs => ?_⟩
      have hv := hs.val o
      have ht' : (SS fr lv).val c.G o = .c (.d (.bool false)) := by rw [hG]; exact ht
      rw [ht'] at hv
      exact wpIn_cond_false (Vw.c_bool hv) (p4 c hP hG hn F β ac w hs)
    | true =>
      obtain ⟨e, fr', lv', nx', l, p1, p2, p3, p4⟩ := ha call hc N fr lv nx lg k r h0 hg ho
      refine ⟨e, fr', lv', nx', l, p1, p2, p3, fun c hP hG hn F β ac w hs => ?_⟩
      have hv := hs.val o
      have ht' : (SS fr lv).val c.G o = .c (.d (.bool true)) := by rw [hG]; exact ht
      rw [ht'] at hv
      exact wpIn_cond_true (Vw.c_bool hv) (p4 c hP hG hn F β ac w hs)
  · exact absurd h0 hg.ne

theorem block_ok {id : Nat} {x : Code} {a : RunT} (ha : RunOK P G x a) : RunOK P G (.block id x) (m_block id x a) := by
  intro call hc N fr lv nx lg k r h hg ho
  obtain ⟨e, fr1, lv1, nx1, l1, q1, q2, q3, q4⟩ := ha call hc N fr lv nx lg _ r h hg ho
  cases e with
  | normal =>
    refine ⟨.normal, fr1, lv1, nx1, l1, q1, q2, q3, fun c hP hG hn F β ac w hs => wpIn_block (q4.mono hP hG hn (fun F' β' a' w' ex h1 h2 => ?_) hs)⟩
    have : ex = .normal := h2
    subst this; exact ⟨F', β', h1, rfl⟩
  | exit i =>
    have q1' : Bool.rec (motive := fun _ => Res) (k (.exit i) fr1 lv1 nx1 (l1 ++ lg)) (k .normal fr1 lv1 nx1 (l1 ++ lg)) (Nat.beq i id) = r := q1
    cases hb : Nat.beq i id with
    | true =>
      rw [hb] at q1'
      have := Nat.eq_of_beq_eq_true hb
      subst this
      refine ⟨.normal, fr1, lv1, nx1, l1, q1', q2, q3, fun c hP hG hn F β ac w hs => wpIn_block (q4.mono hP hG hn (fun F' β' a' w' ex h1 h2 => ?_) hs)⟩
      have : ex = .exit i := h2
      subst this
      simp only [Exit.inBlock, if_true]
      exact ⟨F', β', h1, rfl⟩
    | false =>
      rw [hb] at q1'
      have hne := Nat.ne_of_beq_eq_false hb
      refine ⟨.exit i, fr1, lv1, nx1, l1, q1', q2, q3, fun c hP hG hn F β ac w hs => wpIn_block (q4.mono hP hG hn (fun F' β' a' w' ex h1 h2 => ?_) hs)⟩
      have : ex = .exit i := h2
      subst this
      simp only [Exit.inBlock, if_neg hne]
      exact ⟨F', β', h1, rfl⟩
  | goto i =>
    refine ⟨.goto i, fr1, lv1, nx1, l1, q1, q2, q3, fun c hP hG hn F β ac w hs => wpIn_block (q4.mono hP hG hn (fun F' β' a' w' ex h1 h2 => ?_) hs)⟩
    have : ex = .goto i := h2
    subst this; exact ⟨F', β', h1, rfl⟩
  | ret =>
    refine ⟨.ret, fr1, lv1, nx1, l1, q1, q2, q3, fun c hP hG hn F β ac w hs => wpIn_block (q4.mono hP hG hn (fun F' β' a' w' ex h1 h2 => ?_) hs)⟩
    have : ex = .ret := h2
    subst this; exact ⟨F', β', h1, rfl⟩
  | panic d =>
    refine ⟨.panic d, fr1, lv1, nx1, l1, q1, q2, q3, fun c hP hG hn F β ac w hs => wpIn_block (q4.mono hP hG hn (fun F' β' a' w' ex h1 h2 => ?_) hs)⟩
    obtain ⟨v, rfl, hv⟩ := h2
    exact ⟨F', β', h1, v, rfl, hv⟩

theorem loop_ok {x : Code} {a : RunT} (ha : RunOK P G x a) : RunOK P G (.loop x) (m_loop x a) := by
  intro call hc N fr lv nx lg k r h hg ho
  have key : ∀ m (fr : Tb AV) (lv : Tb LB) (nx : Nat) (lg : List Key), loopK a call N m fr lv nx lg k = r → AllOk (lvT' lv) →
      ∃ e fr' lv' nx' l, k e fr' lv' nx' (l ++ lg) = r ∧ AllOk (lvT' lv') ∧ LgOK lv lv' l ∧
        ∀ c : Ctx, c.P = P → c.G = G → c.n = N → ∀ F β ac w, StOK c F β (SS fr lv) ac w → Code.roundsIn (fen none) 0 c.P x (fun ex a' w' => ∃ F' β', StOK c F' β' (SS fr' lv') a' w' ∧ ExOK e ex F' w') m ac w := by
    intro m
    induction m with
    | zero => intro fr lv nx lg h _; exact absurd h hg.ne
    | succ m ih =>
      intro fr lv nx lg h ho
      obtain ⟨e, fr1, lv1, nx1, l1, q1, q2, q3, q4⟩ := ha call hc N fr lv nx lg _ r h hg ho
      cases e with
      | normal =>
        have q1' : loopK a call N m fr1 lv1 nx1 (l1 ++ lg) k = r := q1
        obtain ⟨e, fr', lv', nx', l, p1, p2, p3, p4⟩ := ih fr1 lv1 nx1 _ q1' q2
        refine ⟨e, fr', lv', nx', l ++ l1, by rw [List.append_assoc]; exact p1, p2, q3.trans p3, fun c hP hG hn F β ac w hs => ?_⟩
        rw [roundsIn_succ]
        refine q4.mono hP hG hn (fun F' β' a' w' ex h1 h2 => ?_) hs
        have : ex = .normal := h2
        subst this
        exact p4 c hP hG hn F' β' a' w' h1
      | exit i =>
        refine ⟨.exit i, fr1, lv1, nx1, l1, q1, q2, q3, fun c hP hG hn F β ac w hs => ?_⟩
        rw [roundsIn_succ]
        refine q4.mono hP hG hn (fun F' β' a' w' ex h1 h2 => ?_) hs
        have : ex = .exit i := h2
        subst this; exact ⟨F', β', h1, rfl⟩
      | goto i =>
        refine ⟨.goto i, fr1, lv1, nx1, l1, q1, q2, q3, fun c hP hG hn F β ac w hs => ?_⟩
        rw [roundsIn_succ]
        refine q4.mono hP hG hn (fun F' β' a' w' ex h1 h2 => ?_) hs
        have : ex = .goto i := h2
        subst this; exact ⟨F', β', h1, rfl⟩
      | ret =>
        refine ⟨.ret, fr1, lv1, nx1, l1, q1, q2, q3, fun c hP hG hn F β ac w hs => ?_⟩
        rw [roundsIn_succ]
        refine q4.mono hP hG hn (fun F' β' a' w' ex h1 h2 => ?_) hs
        have : ex = .ret := h2
        subst this; exact ⟨F', β', h1, rfl⟩
      | panic d =>
        refine ⟨.panic d, fr1, lv1, nx1, l1, q1, q2, q3, fun c hP hG hn F β ac w hs => ?_⟩
        rw [roundsIn_succ]
        refine q4.mono hP hG hn (fun F' β' a' w' ex h1 h2 => ?_) hs
        obtain ⟨v, rfl, hv⟩ := h2
        exact ⟨F', β', h1, v, rfl, hv⟩
  obtain ⟨e, fr', lv', nx', l, p1, p2, p3, p4⟩ := key 1000000 fr lv nx lg h ho
  exact ⟨e, fr', lv', nx', l, p1, p2, p3, fun c hP hG hn F β ac w hs => wpIn_loop_rounds _ (p4 c hP hG hn F β ac w hs)⟩

theorem runK_ok (hm : P.follows .mixedOrders = true) (x : Code) : RunOK P G x (runK P G x) := by
  have leaf : ∀ {y : Code} {e : Ex}, (∀ c : Ctx, ∀ ex, e = ex → True) → (∀ (c : Ctx) (s : LSt) F β a w, StOK c F β s a w → y.wpIn (fen none) 0 c.P (fun ex a' w' => ∃ F' β', StOK c F' β' s a' w' ∧ ExOK e ex F' w') a w) →
      RunOK P G y (fun _ _ fr lv nx lg k => k e fr lv nx lg) := by
    intro y e _ hy call hc N fr lv nx lg k r h hg ho
    exact ⟨e, fr, lv, nx, [], h, ho, LgOK.refl _, fun c _ _ _ F β a w hs => hy c _ F β a w hs⟩
  have bad : ∀ y : Code, RunOK P G y m_bad := fun y call hc N fr lv nx lg k r h hg ho => absurd h hg.ne
  induction x with
  | skip => exact leaf (e := .normal) (fun _ _ _ => trivial) fun c s F β a w hs => wpIn_skip ⟨F, β, hs, rfl⟩
  | region id ops dr => exact region_ok hm id ops dr
  | seq a b iha ihb => exact seq_ok iha ihb
  | cond o a b iha ihb => exact cond_ok iha ihb
  | block id a iha => exact block_ok iha
  | loop a iha => exact loop_ok iha
  | rangeFunc f ps a b _ _ => exact bad _
  | exit id => exact leaf (e := .exit id) (fun _ _ _ => trivial) fun c s F β a w hs => wpIn_exit ⟨F, β, hs, rfl⟩
  | scope a _ => exact bad _
  | label l => exact leaf (e := .normal) (fun _ _ _ => trivial) fun c s F β a w hs => wpIn_label ⟨F, β, hs, rfl⟩
  | goto l => exact leaf (e := .goto l) (fun _ _ _ => trivial) fun c s F β a w hs => wpIn_goto ⟨F, β, hs, rfl⟩
  | ret => exact leaf (e := .ret) (fun _ _ _ => trivial) fun c s F β a w hs => wpIn_ret ⟨F, β, hs, rfl⟩
  | refuse w => exact bad _

theorem argsK_ok : ∀ {us : List AV} {i : Nat} {fr : Tb AV} {k : Tb AV → Res} {r : Res}, argsK us i fr k = r →
    ∃ fr', k fr' = r ∧ ∀ j : Nat, frT' fr' j = if i ≤ j ∧ j < i + us.length then us.getD (j - i) .undef else frT' fr j
  | [], i, fr, k, r, h => ⟨fr, h, fun j => by rw [if_neg (by simp only [List.length_nil]; omega)]⟩
  | x :: us, i, fr, k, r, h => by
    have h1 : (Tb.setK .undef x (pathOf i) fr fun fr => argsK us (Nat.succ i) fr k) = r := h
    rw [Tb.setK_eq] at h1
    obtain ⟨fr', e1, e2⟩ := argsK_ok h1
    refine ⟨fr', e1, fun j => ?_⟩
    rw [e2 j, frT'_set]
    by_cases hj : j = i
    · subst hj
      rw [if_neg (by omega), if_pos (by simp), upd_same]; simp
    · rw [upd_ne _ _ hj]
      by_cases h2 : Nat.succ i ≤ j ∧ j < Nat.succ i + us.length
      · rw [if_pos h2, if_pos (by simp; omega)]
        have : j - i = (j - Nat.succ i) + 1 := by omega
        rw [this]; rfl
      · rw [if_neg h2, if_neg (by simp; omega)]

theorem CodeDoes.aw {N : Nat} {x : Code} {s s' : LSt} {e : Ex} (h : CodeDoes P G N x s s' e) {c : Ctx} (hP : c.P = P) (hG : c.G = G) (hn : c.n = N) {κ : Nat} {Q : Ex → LSt → Nat → Prop} (hQ : Q e s' 0) : AW c none x s κ Q :=
  fun F β a w hs => h.mono hP hG hn (fun F' β' a' w' ex h1 h2 => ⟨e, s', 0, F', β', hQ, h1, h2⟩) hs

theorem funK_ok (hm : P.follows .mixedOrders = true) {call : EvCall2} (hc : CallOK P G call) : CallOK P G (funK P G call) := by
  intro f us lv nx lg kr kp r h hg ho
  unfold funK at h
  obtain ⟨fn, h1, h2⟩ := optK_some h hg.ne
  obtain ⟨code, h3, h4⟩ := optK_some h2 hg.ne
  obtain ⟨h5, h6⟩ := boolK_true h4 hg.ne
  obtain ⟨fr, h7, h8⟩ := argsK_ok h6
  obtain ⟨e, fr', lv', nx', l, q1, q2, q3, q4⟩ := runK_ok hm code call hc fn.ntmps fr lv nx lg _ r h7 hg ho
  have hfr : frT' fr = fun t => us.getD t .undef := by
    funext j
    rw [h8 j]
    by_cases hj : j < us.length
    · rw [if_pos ⟨Nat.zero_le _, by omega⟩, Nat.sub_zero]
    · rw [if_neg (by omega), getD_ge hj]
      show Tb.get AV.undef .leaf _ = _
      exact Tb.get_leaf _ _
  have hSS : SS fr lv = ⟨fun t => us.getD t .undef, lvT' lv⟩ := by unfold SS; rw [hfr]
  rw [hSS] at q4
  cases e with
  | normal =>
    have q1' : (optK (resA P ⟨frT' fr', lvT' lv'⟩ fn.results.toList) (.bad 20 []) fun x => forceA x fun x => kr x lv' nx' (l ++ lg)) = r := q1
    obtain ⟨x, h9, h10⟩ := optK_some q1' hg.ne
    rw [forceA_eq] at h10
    exact .inl ⟨x, lv', nx', l, h10, CallG.of_AW (κ := 0) h1 h3 (Nat.le_of_ble_eq_true h5) fun c hP hG hn _ => q4.aw hP hG hn ⟨by rw [hP]; exact h9, rfl⟩, q2, q3⟩
  | ret =>
    have q1' : (optK (resA P ⟨frT' fr', lvT' lv'⟩ fn.results.toList) (.bad 23 []) fun x => forceA x fun x => kr x lv' nx' (l ++ lg)) = r := q1
    obtain ⟨x, h9, h10⟩ := optK_some q1' hg.ne
    rw [forceA_eq] at h10
    exact .inl ⟨x, lv', nx', l, h10, CallG.of_AW (κ := 0) h1 h3 (Nat.le_of_ble_eq_true h5) fun c hP hG hn _ => q4.aw hP hG hn ⟨by rw [hP]; exact h9, rfl⟩, q2, q3⟩
  | panic d =>
    have q1' : kp d lv' nx' (l ++ lg) = r := q1
    exact .inr ⟨d, lv', nx', l, q1', CallG.of_AW (κ := 0) h1 h3 (Nat.le_of_ble_eq_true h5) fun c hP hG hn _ => q4.aw hP hG hn ⟨rfl, rfl⟩, q2, q3⟩
  | exit i => exact absurd q1 hg.ne
  | goto i => exact absurd q1 hg.ne

/-- What a table of functions known otherwise has to say. -/
structure SpecOK (P : Program) (G : List (List DV)) (sp : Tb Spec) (ft : TypeId) : Prop where
  pure : ∀ f g us x, sp.get .body (pathOf f) = .pure g → g us = some x → ∀ lv, AllOk lv → CallG P G f us lv (.ret x lv)
  caughtR : ∀ f, sp.get .body (pathOf f) = .caught → ∀ v t fs cs lv lv' x, callTgt v = some (t, fs, cs) → isFn P t = true → AllOk lv → CallG P G t (fs ++ cs) lv (.ret x lv') → CallG P G f [v] lv (.ret (.c (.d (.int .i64 0))) lv')
  caughtP : ∀ f, sp.get .body (pathOf f) = .caught → ∀ v t fs cs lv lv' n, callTgt v = some (t, fs, cs) → isFn P t = true → AllOk lv → CallG P G t (fs ++ cs) lv (.pan (.iface ft (.agg [.int .i64 n])) lv') → CallG P G f [v] lv (.ret (.c (.d (.int .i64 n))) lv')
  selfN : ∀ f g, sp.get .body (pathOf f) = .self g → ∀ lv k off T cs r, AllOk lv → g T off cs.length = true → lv k = .cells false false T cs → cs.drop off = .d .nilp :: r → CallG P G f [.c (.ptr k off)] lv (.ret (.tup []) (upd lv k (.cells false false T (setSeg cs off [.ptr k off]))))
  selfP : ∀ f g, sp.get .body (pathOf f) = .self g → ∀ lv k off T cs r, AllOk lv → g T off cs.length = true → lv k = .cells false false T cs → cs.drop off = .ptr k off :: r → CallG P G f [.c (.ptr k off)] lv (.ret (.tup []) lv)

theorem evK_ok (hm : P.follows .mixedOrders = true) {sp : Tb Spec} {ft : TypeId} (hsp : SpecOK P G sp ft) : ∀ n, CallOK P G (evK P G sp ft n)
  | 0 => fun f us lv nx lg kr kp r h hg ho => absurd h hg.ne
  | n + 1 => fun f us lv nx lg kr kp r h hg ho => by
    have ih := evK_ok hm hsp n
    have h0 : Spec.rec (motive := fun _ => Res) (funK P G (evK P G sp ft n) f us lv nx lg kr kp) (fun g => optK (g us) (.bad 29 []) fun x => forceA x fun x => kr x lv nx lg) (caughtK P ft (evK P G sp ft n) us lv nx lg kr) (fun g => selfK g us lv nx lg kr) (sp.get .body (pathOf f)) = r := h
    cases es : sp.get .body (pathOf f) with
    | body => rw [es] at h0; exact funK_ok hm ih f us lv nx lg kr kp r h0 hg ho
    | pure g =>
      rw [es] at h0
      obtain ⟨x, h1, h2⟩ := optK_some h0 hg.ne
      rw [forceA_eq] at h2
      exact .inl ⟨x, lv, nx, [], h2, hsp.pure f g us x es h1 _ ho, ho, LgOK.refl _⟩
    | caught =>
      rw [es] at h0
      have h1 : caughtK P ft (evK P G sp ft n) us lv nx lg kr = r := h0
      unfold caughtK at h1
      split at h1
      · rename_i v
        obtain ⟨⟨t, fs, cs⟩, h2, h3⟩ := optK_some h1 hg.ne
        obtain ⟨h4, h5⟩ := boolK_true h3 hg.ne
        rcases ih _ _ _ _ _ _ _ _ h5 hg ho with ⟨x, lv', nx', l, q1, q2, q3, q4⟩ | ⟨d, lv', nx', l, q1, q2, q3, q4⟩
        · exact .inl ⟨_, lv', nx', l, q1, hsp.caughtR f es v t fs cs _ _ x h2 h4 ho q2, q3, q4⟩
        · split at q1
          · rename_i t' m
            obtain ⟨hb, q5⟩ := boolK_true q1 hg.ne
            have := Nat.eq_of_beq_eq_true hb
            subst this
            exact .inl ⟨_, lv', nx', l, q5, hsp.caughtP f es v t fs cs _ _ m h2 h4 ho q2, q3, q4⟩
          · exact absurd q1 hg.ne
      · exact absurd h1 hg.ne
    | self T0 =>
      rw [es] at h0
      have h1 : selfK T0 us lv nx lg kr = r := h0
      unfold selfK at h1
      split at h1
      · rename_i k off
        split at h1
        · rename_i own T cs hk
          have hown : own = false := by have := ho k; rw [hk] at this; simp only [LB.okB, Bool.and_eq_true, Bool.not_eq_true'] at this; exact this.1
          subst hown
          obtain ⟨hb0, h6⟩ := boolK_true h1 hg.ne
          clear h1
          split at h6
          · rename_i y hcs
            obtain ⟨lv', l, e1, e2, e3, e4⟩ := wrK_ok h6 hg ho
            refine .inl ⟨_, lv', nx, l, e1, ?_, e3, e4⟩
            have := hsp.selfN f _ es (lvT' lv) k off T cs y ho hb0 hk hcs
            have e5 : lvT' lv' = upd (lvT' lv) k (.cells false false T (setSeg cs off [.ptr k off])) := by rw [e2]; rfl
            rw [e5]; exact this
          · rename_i k' off' y hcs
            obtain ⟨hb, h2⟩ := boolK_true h6 hg.ne
            simp only [Bool.and_eq_true] at hb
            have b1 := Nat.eq_of_beq_eq_true hb.1
            have b2 := Nat.eq_of_beq_eq_true hb.2
            subst b1; subst b2
            exact .inl ⟨_, lv, nx, [], h2, hsp.selfP f _ es (lvT' lv) _ _ T cs y ho hb0 hk hcs, ho, LgOK.refl _⟩
          · exact absurd h6 hg.ne
        · exact absurd h1 hg.ne
      · exact absurd h1 hg.ne
end
end Go.Am
