/- Helpers: an abstract machine for Go functions, and walks of functions of the program. -/
import Derived.Test.YtbelgphoccpelaaGreatDoorKn02
import Derived.RangeFuncLeaves
import Derived.RangeFuncRecord

set_option linter.all false
set_option maxHeartbeats 8000000
set_option maxRecDepth 100000
namespace Go.Am

/-! ### regions that draw their order and write: what was touched is gathered -/

theorem AOp.op {c : Ctx} {o o' : Oper} {s : LSt} {κ : Nat} {K : AV → List (Key × LB) → List Key → Nat → Prop} (ho : o'.op = o.op) (h : AOp c o s κ K) : AOp c o' s κ K := by
  unfold AOp at *; grind

abbrev Tch := List Key × List Key

def ARunPD (c : Ctx) : List POp → LSt → Nat → List Tch → (LSt → Nat → List Tch → Prop) → Prop
  | [], s, κ, acc, K => K s κ acc
  | p :: ps, s, κ, acc, K => match p.g with
    | none => AOp c ⟨none, p.op, 0, "", #[], none⟩ s κ fun x us rds κ' => ARunPD c ps (LSt.put ⟨s.fr, updL s.lv us⟩ p.dst x) κ' ((us.map (·.1), rds) :: acc) K
    | some (t, w) => guardG t fun t => guardA (wantG (s.fr t) w)
      (fun _ => AOp c ⟨none, p.op, 0, "", #[], none⟩ s κ fun x us rds κ' => ARunPD c ps (LSt.put ⟨s.fr, updL s.lv us⟩ p.dst x) κ' ((us.map (·.1), rds) :: acc) K)
      (fun _ => ARunPD c ps (s.put p.dst .undef) κ (([], []) :: acc) K)

def tchE (e : Fx) : Tch := (e.us.map (·.1), e.rds)

theorem ARunPD_run {c : Ctx} {ops : Array Oper} {K : LSt → Nat → List Tch → Prop} : ∀ {os : List Oper} {s : LSt} {κ : Nat} {acc : List Fx}, ARunPD c (prepL (ops.toList.map (·.dst)) os) s κ (acc.map tchE) K → ARun c ops os s κ acc (fun s κ acc => K s κ (acc.map tchE))
  | [], s, κ, acc, h => h
  | ⟨d, o, ty, pos, af, none⟩ :: os, s, κ, acc, h => by
    simp only [prepL, prepO, ARunPD] at h
    simp only [ARun, wantA]
    refine AOp.mono (AOp.op (o := ⟨none, o, 0, "", #[], none⟩) rfl h) fun x us rds κ' h2 => ?_
    exact ARunPD_run (acc := ⟨x, us, rds⟩ :: acc) h2
  | ⟨d, o, ty, pos, af, some (j, w)⟩ :: os, s, κ, acc, h => by
    simp only [prepL, prepO, ARunPD, gd_get, guardG, guardA] at h
    simp only [ARun, wantA]
    split at h
    · rename_i t ht
      (try rw [ht]; simp only)
      unfold wantG at h
      split at h
      · rename_i hw
        split at hw
        · rename_i b he
          (try rw [he]; simp only [Option.some.injEq] at hw; simp only [hw])
          refine AOp.mono (AOp.op (o := ⟨none, o, 0, "", #[], none⟩) rfl h) fun x us rds κ' h2 => ?_
          exact ARunPD_run (acc := ⟨x, us, rds⟩ :: acc) h2
        · cases hw
        grind
      · rename_i hw
        split at hw
        · rename_i b he
          (try rw [he]; simp only [Option.some.injEq] at hw; simp only [hw])
          exact ARunPD_run (acc := ⟨.undef, [], []⟩ :: acc) h
        · rename_i he
          (try rw [he])
          exact ARunPD_run (acc := ⟨.undef, [], []⟩ :: acc) h
        grind
      grind
    grind

def tchB (e e' : Tch) : Bool := e.1.all (fun p => !(e'.1.any fun q => q == p) && !e'.2.contains p) && e'.1.all (fun p => !e.2.contains p)

def dynK (ops : Array Oper) (es : List Tch) : Bool :=
  let ms := ancMasks ops.toList []
  (List.range es.length).all fun j => match es[j]? with
    | some e' => (e'.1.isEmpty && e'.2.isEmpty) || (List.range j).all fun i => match es[i]? with
      | some e => (e.1.isEmpty && e.2.isEmpty) || (ms.getD j 0).testBit i || tchB e e'
      | none => true
    | none => true

theorem touchB_eq (e e' : Fx) : touchB e e' = tchB (tchE e) (tchE e') := by
  simp only [touchB, tchB, tchE, List.all_map, List.any_map]
  rfl

theorem dynB_eq (ops : Array Oper) (es : List Fx) : dynB ops es = dynK ops (es.map tchE) := by
  have h1 : ∀ e : Fx, idle e = ((tchE e).1.isEmpty && (tchE e).2.isEmpty) := fun e => by simp [idle, tchE]
  simp only [dynB, dynK, List.length_map, List.getElem?_map]
  congr 1
  funext j
  cases hj : es[j]? with
  | none => rfl
  | some e' =>
    simp only [Option.map_some, h1]
    congr 2
    funext i
    cases hi : es[i]? with
    | none => rfl
    | some e => simp only [Option.map_some, touchB_eq]

/-- A region that draws its order. -/
theorem AW.drawP {c : Ctx} {r : Option Nat} {s : LSt} {κ : Nat} {Q : Ex → LSt → Nat → Prop} {id : Nat} {ops : Array Oper} (hm : c.P.follows .mixedOrders = true) (hst : statB ops = true) (hd : dstB c.n ops.toList = true)
    (h : ARunPD c (prep ops) s κ [] fun s' κ' acc => dynK ops acc.reverse = true ∧ Q .normal s' κ') : AW c r (.region id ops true) s κ Q := by
  refine AW.draw hm hst hd ?_
  have h1 := ARunPD_run (acc := []) h
  refine ARun.mono h1 fun s' κ' acc h2 => ⟨?_, h2.2⟩
  rw [dynB_eq, List.map_reverse]; grind

def contPD (c : Ctx) (ps : List POp) (d : Option Tmp) (s : LSt) (κ : Nat) (acc : List Tch) (K : LSt → Nat → List Tch → Prop) (r : Option StepR) : Prop :=
  goA r κ fun x us rds κ' => ARunPD c ps (LSt.put ⟨s.fr, updL s.lv us⟩ d x) κ' ((us.map (·.1), rds) :: acc) K

def guardPD (c : Ctx) (o : Op) (ps : List POp) (d : Option Tmp) (s : LSt) (κ : Nat) (acc : List Tch) (K : LSt → Nat → List Tch → Prop) (w : Option Bool) : Prop :=
  match w with
  | some true => ARunPD c (⟨d, o, none⟩ :: ps) s κ acc K
  | some false => ARunPD c ps (s.put d .undef) κ (([], []) :: acc) K
  | none => False

def CallPD (c : Ctx) (f : FuncId) (xs : List AV) (ps : List POp) (d : Option Tmp) (s : LSt) (κ : Nat) (acc : List Tch) (K : LSt → Nat → List Tch → Prop) : Prop :=
  CallDo c f xs s.lv fun x us rds κ' => ARunPD c ps (LSt.put ⟨s.fr, updL s.lv us⟩ d x) κ' ((us.map (·.1), rds) :: acc) K

def callPD (c : Ctx) (tgt : Option (FuncId × List AV × List AV)) (xs : List AV) (ps : List POp) (d : Option Tmp) (s : LSt) (κ : Nat) (acc : List Tch) (K : LSt → Nat → List Tch → Prop) : Prop :=
  match tgt with
  | some (f, fs, cs) => isFn c.P f = true ∧ CallPD c f (fs ++ xs ++ cs) ps d s κ acc K
  | none => False

section
variable {c : Ctx} {ps : List POp} {d : Option Tmp} {s : LSt} {κ : Nat} {acc : List Tch} {K : LSt → Nat → List Tch → Prop} {T : TypeId} {x y z : Operand}
theorem ARunPD_cons {o : Op} : ARunPD c (⟨d, o, none⟩ :: ps) s κ acc K =
    AOp c ⟨none, o, 0, "", #[], none⟩ s κ fun x us rds κ' => ARunPD c ps (LSt.put ⟨s.fr, updL s.lv us⟩ d x) κ' ((us.map (·.1), rds) :: acc) K := rfl
@[simp] theorem ARunPD_nil : ARunPD c [] s κ acc K = K s κ acc := propext ⟨id, id⟩
@[simp] theorem contPD_nil {v : AV} {rds : List Key} {vc : Prop} : contPD c ps d s κ acc K (some (v, [], rds, vc)) = (vc ∧ ARunPD c ps (s.put d v) κ (([], rds) :: acc) K) := propext ⟨id, id⟩
@[simp] theorem contPD_one {v : AV} {p : Key × LB} {rds : List Key} {vc : Prop} : contPD c ps d s κ acc K (some (v, [p], rds, vc)) = (vc ∧ ARunPD c ps (LSt.put ⟨s.fr, upd s.lv p.1 p.2⟩ d v) (κ + 1) (([p.1], rds) :: acc) K) := propext ⟨id, id⟩
@[simp] theorem contPD_two {v : AV} {p q : Key × LB} {rds : List Key} {vc : Prop} : contPD c ps d s κ acc K (some (v, [p, q], rds, vc)) = (vc ∧ ARunPD c ps (LSt.put ⟨s.fr, upd (upd s.lv p.1 p.2) q.1 q.2⟩ d v) (κ + 1) (([p.1, q.1], rds) :: acc) K) := propext ⟨id, id⟩
@[simp] theorem guardPD_t {o : Op} : guardPD c o ps d s κ acc K (some true) = ARunPD c (⟨d, o, none⟩ :: ps) s κ acc K := propext ⟨id, id⟩
@[simp] theorem guardPD_f {o : Op} : guardPD c o ps d s κ acc K (some false) = ARunPD c ps (s.put d .undef) κ (([], []) :: acc) K := propext ⟨id, id⟩
@[simp] theorem callPD_func {f : FuncId} {xs : List AV} : callPD c (some (f, [], [])) xs ps d s κ acc K = (isFn c.P f = true ∧ CallPD c f xs ps d s κ acc K) := by simp [callPD]
@[simp] theorem rd_guard {o : Op} {t : Tmp} {w : Bool} : ARunPD c (⟨d, o, some (some t, w)⟩ :: ps) s κ acc K = guardPD c o ps d s κ acc K (wantG (s.fr t) w) := propext ⟨id, id⟩
@[simp] theorem rd_move : ARunPD c (⟨d, .move x, none⟩ :: ps) s κ acc K = ARunPD c ps (s.put d (s.val c.G x)) κ (([], []) :: acc) K := by rw [ARunPD_cons, AOp_move]; rfl
@[simp] theorem rd_assign : ARunPD c (⟨d, .assign x, none⟩ :: ps) s κ acc K = ARunPD c ps (s.put d (s.val c.G x)) κ (([], []) :: acc) K := by rw [ARunPD_cons, AOp_assign]; rfl
@[simp] theorem rd_pick : ARunPD c (⟨d, .pick x y z, none⟩ :: ps) s κ acc K = contPD c ps d s κ acc K (pickA (s.val c.G x) (s.val c.G y) (s.val c.G z)) := by rfl
@[simp] theorem rd_alloc : ARunPD c (⟨d, .alloc T, none⟩ :: ps) s κ acc K = contPD c ps d s κ acc K (allocA c.P T s.lv κ) := by rfl
@[simp] theorem rd_field {f : Nat} : ARunPD c (⟨d, .field T x f, none⟩ :: ps) s κ acc K = contPD c ps d s κ acc K (fieldA c.P T f (s.val c.G x)) := by rfl
@[simp] theorem rd_indexAddr : ARunPD c (⟨d, .indexAddr T x y, none⟩ :: ps) s κ acc K = contPD c ps d s κ acc K (stepIndexAddr c.P T s.lv (s.val c.G x) (s.val c.G y)) := by rfl
@[simp] theorem rd_index : ARunPD c (⟨d, .index T x y, none⟩ :: ps) s κ acc K = contPD c ps d s κ acc K (stepIndex c.P T (s.val c.G x) (s.val c.G y)) := by rfl
@[simp] theorem rd_ext {i : Nat} : ARunPD c (⟨d, .extract x i, none⟩ :: ps) s κ acc K = contPD c ps d s κ acc K (extA i (s.val c.G x)) := by rfl
@[simp] theorem rd_mki : ARunPD c (⟨d, .makeInterface T x, none⟩ :: ps) s κ acc K = contPD c ps d s κ acc K (mkiA c.P T (s.val c.G x)) := by rfl
@[simp] theorem rd_mks : ARunPD c (⟨d, .makeSlice T x y, none⟩ :: ps) s κ acc K = contPD c ps d s κ acc K (stepMake c.P T s.lv κ (s.val c.G x) (s.val c.G y)) := by rfl
@[simp] theorem rd_slice00 : ARunPD c (⟨d, .slice T x none none none, none⟩ :: ps) s κ acc K = contPD c ps d s κ acc K (stepSlice c.P T s.lv (s.val c.G x) none none) := by rfl
@[simp] theorem rd_slice10 : ARunPD c (⟨d, .slice T x (some y) none none, none⟩ :: ps) s κ acc K = contPD c ps d s κ acc K (stepSlice c.P T s.lv (s.val c.G x) (some (s.val c.G y)) none) := by rfl
@[simp] theorem rd_slice01 : ARunPD c (⟨d, .slice T x none (some y) none, none⟩ :: ps) s κ acc K = contPD c ps d s κ acc K (stepSlice c.P T s.lv (s.val c.G x) none (some (s.val c.G y))) := by rfl
@[simp] theorem rd_slice11 : ARunPD c (⟨d, .slice T x (some y) (some z) none, none⟩ :: ps) s κ acc K = contPD c ps d s κ acc K (stepSlice c.P T s.lv (s.val c.G x) (some (s.val c.G y)) (some (s.val c.G z))) := by rfl
@[simp] theorem rd_len : ARunPD c (⟨d, .call { callee := .builtin .len, args := #[x], argTypes := #[T] }, none⟩ :: ps) s κ acc K = contPD c ps d s κ acc K (lenP c.P T s.lv (s.val c.G x)) := by rfl
@[simp] theorem rd_append {T' : TypeId} : ARunPD c (⟨d, .call { callee := .builtin .append, args := #[x, y], argTypes := #[T, T'] }, none⟩ :: ps) s κ acc K = contPD c ps d s κ acc K (if T = T' then stepAppend c.P T s.lv κ (s.val c.G x) (s.val c.G y) else none) := by rfl
@[simp] theorem rd_call {xs : Array Operand} {ts : Array TypeId} : ARunPD c (⟨d, .call { callee := .value x, args := xs, argTypes := ts }, none⟩ :: ps) s κ acc K = callPD c (callTgt (s.val c.G x)) (xs.toList.map (s.val c.G)) ps d s κ acc K := by
  rfl
@[simp] theorem rd_bin {op : BinOp} {T' : TypeId} : ARunPD c (⟨d, .binOp op T x y T', none⟩ :: ps) s κ acc K = contPD c ps d s κ acc K (stepBin c.P op T (s.val c.G x) (s.val c.G y)) := by rfl
@[simp] theorem rd_un {op : UnOp} : ARunPD c (⟨d, .unOp op T x, none⟩ :: ps) s κ acc K = contPD c ps d s κ acc K (unaA op (s.val c.G x)) := by rfl
@[simp] theorem rd_load : ARunPD c (⟨d, .load T x, none⟩ :: ps) s κ acc K = contPD c ps d s κ acc K (stepLoad c.P T s.lv (s.val c.G x)) := by rfl
@[simp] theorem rd_store : ARunPD c (⟨d, .store T x y, none⟩ :: ps) s κ acc K = contPD c ps d s κ acc K (stepStore c.P T s.lv (s.val c.G x) (s.val c.G y)) := by rfl
@[simp] theorem rd_box : ARunPD c (⟨d, .box T x, none⟩ :: ps) s κ acc K = contPD c ps d s κ acc K (boxA T (s.val c.G x) s.lv κ) := by rfl
@[simp] theorem rd_nil : ARunPD c (⟨d, .nilCheck x, none⟩ :: ps) s κ acc K = contPD c ps d s κ acc K (stepNil s.lv (s.val c.G x)) := by rfl
@[simp] theorem rd_conv {S : TypeId} : ARunPD c (⟨d, .convert S T x, none⟩ :: ps) s κ acc K = contPD c ps d s κ acc K (convA c.P S T (s.val c.G x)) := by rfl
@[simp] theorem rd_fieldAddr {f : Nat} : ARunPD c (⟨d, .fieldAddr T x f, none⟩ :: ps) s κ acc K = contPD c ps d s κ acc K (stepFieldAddr c.P T f s.lv (s.val c.G x)) := by rfl
@[simp] theorem rd_build {parts : Array (Nat × Operand)} : ARunPD c (⟨d, .build T parts, none⟩ :: ps) s κ acc K = contPD c ps d s κ acc K (buildA c.P T (parts.toList.map (·.1)) (parts.toList.map fun p => s.val c.G p.2)) := by
  rw [ARunPD_cons]
  simp only [AOp, stepF, Op.operands, contPD, goA, buildA, List.map_map, List.length_map, Array.length_toList]
  rfl
@[simp] theorem rd_buildSlice {n : Nat} {parts : Array (Nat × Operand)} : ARunPD c (⟨d, .buildSlice T n parts, none⟩ :: ps) s κ acc K = contPD c ps d s κ acc K (stepBuildSlice c.P T n (parts.toList.map (·.1)) s.lv κ (parts.toList.map fun p => s.val c.G p.2)) := by
  rw [ARunPD_cons]
  simp only [AOp, stepF, Op.operands, contPD, goA, List.map_map]
  rfl
@[simp] theorem rd_copy {T' : TypeId} : ARunPD c (⟨d, .call { callee := .builtin .copy, args := #[x, y], argTypes := #[T, T'] }, none⟩ :: ps) s κ acc K = contPD c ps d s κ acc K (stepCopy c.P T s.lv (s.val c.G x) (s.val c.G y)) := by
  rfl
@[simp] theorem rd_max {xs : Array Operand} {ts : Array TypeId} : ARunPD c (⟨d, .call { callee := .builtin .max, args := xs, argTypes := ts }, none⟩ :: ps) s κ acc K = contPD c ps d s κ acc K (match intsOf (xs.toList.map (s.val c.G)) with
    | some (k, n :: l) => some (.c (.d (.int k (l.foldl (fun a b => if b > a then b else a) n))), [], [], True)
    | _ => none) := by
  rw [ARunPD_cons]
  simp only [AOp, stepF, stepB, Op.operands, Call.operands, contPD, goA, Array.empty_append]
  rfl
@[simp] theorem rd_min {xs : Array Operand} {ts : Array TypeId} : ARunPD c (⟨d, .call { callee := .builtin .min, args := xs, argTypes := ts }, none⟩ :: ps) s κ acc K = contPD c ps d s κ acc K (match intsOf (xs.toList.map (s.val c.G)) with
    | some (k, n :: l) => some (.c (.d (.int k (l.foldl (fun a b => if b < a then b else a) n))), [], [], True)
    | _ => none) := by
  rw [ARunPD_cons]
  simp only [AOp, stepF, stepB, Op.operands, Call.operands, contPD, goA, Array.empty_append]
  rfl
end
end Go.Am
namespace Go.Am
open N
theorem CallPD.frzN {c : Ctx} {f : FuncId} {ps : List POp} {d : Option Tmp} {s : LSt} {κ : Nat} {acc : List Tch} {K : LSt → Nat → List Tch → Prop} (κ' : Nat) (kh : Key) (κb : Key) {T : TypeId} {k : IntKind} {l : List Nat} {x : AV} (n : Nat) (hn : n ≤ l.length) (hk : s.lv κb = .cells true false T (wK k l)) (hl : l.length ≤ 9223372036854775807)
    (hc : CallsP c.P c.G f [nK k (some (l.take n))] x) (hx : x.pure = true) (hh : s.lv kh = .hole) (hkh : kh ≠ κb) (hK : ARunPD c ps (LSt.put ⟨s.fr, upd s.lv κb (.cells true true T (wK k l))⟩ d x) κ' (([κb], [kh]) :: acc) K) : CallPD c f [.c (.lsl κb 0 n 1)] ps d s κ acc K := by
  refine CallDo.frz κ' kh κb T (wK k l) [kh] hc hx hk hh hkh rfl (fun i p q => ?_) (fun a ha j hj => ?_) (by simp) hK
  · have hi : i = 0 := by simp at p; omega
    subst hi
    right
    have h1 : (wK k l).take n = wK k (l.take n) := by simp [wK, List.map_take]
    have hln : (l.take n).length = n := by rw [List.length_take]; omega
    simp only [List.getElem_cons_zero, dArg, toDV, upd_same, wK_len, Nat.mul_one, Nat.zero_add, List.drop_zero, h1, toDVs_wK, Option.map_some]
    rw [if_pos ⟨hn, by omega⟩]
    have h2 := chunk_one ((l.take n).map fun (x : Nat) => DV.int k (x : Int))
    rw [List.length_map, hln] at h2
    simp only [Option.map_some, h2]
    simp [nK, dK]
    rfl
  · simp only [List.mem_singleton] at ha; subst ha
    simp only [rdA, rdK, List.mem_cons, upd_same] at hj
    rcases hj with rfl | hj
    · simp
    · simp only [List.mem_flatMap] at hj
      obtain ⟨y, hy, hj⟩ := hj
      simp only [wK, List.mem_map] at hy
      obtain ⟨z, _, rfl⟩ := hy
      cases hj
section
variable {c : Ctx} {r : Option Nat} {s s' : LSt} {κ κ' : Nat} {Q : Ex → LSt → Nat → Prop} {id : Nat} {ops : Array Oper} {y : Code}
theorem AW.d0 (hm : c.P.follows .mixedOrders = true) (h : AW c r y s' κ' Q) (hst : statB ops = true := by kernel_rfl) (hd : dstB c.n ops.toList = true := by exact rfl) (hr : ∀ K : LSt → Nat → Prop, K s' κ' → ARunPD c (prep ops) s κ [] fun s' κ' acc => dynK ops acc.reverse = true ∧ K s' κ' := by intro K k; simp; (repeat refine and_o ?_); refine ⟨by kernel_rfl, ?_⟩; (repeat refine and_o ?_); exact k) : AW c r (.seq (.region id ops true) y) s κ Q :=
  AW.seqK fun K hK => AW.drawP hm hst hd (hr K (hK _ _ h))
theorem AW.dl0 (hm : c.P.follows .mixedOrders = true) (h : Q .normal s' κ') (hst : statB ops = true := by kernel_rfl) (hd : dstB c.n ops.toList = true := by exact rfl) (hr : ∀ K : LSt → Nat → Prop, K s' κ' → ARunPD c (prep ops) s κ [] fun s' κ' acc => dynK ops acc.reverse = true ∧ K s' κ' := by intro K k; simp; (repeat refine and_o ?_); refine ⟨by kernel_rfl, ?_⟩; (repeat refine and_o ?_); exact k) : AW c r (.region id ops true) s κ Q :=
  AW.drawP hm hst hd (hr (fun s κ => Q .normal s κ) h)
theorem AW.e0 (hm : c.P.follows .mixedOrders = true) (h : AW c r y s' κ' Q) (hst : statB ops = true := by kernel_rfl) (hd : dstB c.n ops.toList = true := by exact rfl) (hq : ops.toList.all (fun o => quietOp o.op) = true := by exact rfl) (hr : ∀ K : LSt → Nat → Prop, K s' κ' → ARunP c (prep ops) s κ K := by intro K k; simp; (repeat refine and_o ?_); exact k) : AW c r (.seq (.region id ops true) y) s κ Q :=
  AW.seqK fun K hK => AW.drawQ hm hst hd hq (hr K (hK _ _ h))
theorem AW.d1 {a1 : Prop} (hm : c.P.follows .mixedOrders = true) (e1 : a1) (h : AW c r y s' κ' Q) (hst : statB ops = true := by kernel_rfl) (hd : dstB c.n ops.toList = true := by exact rfl) (hr : a1 → ∀ K : LSt → Nat → Prop, K s' κ' → ARunPD c (prep ops) s κ [] fun s' κ' acc => dynK ops acc.reverse = true ∧ K s' κ' := by intro e1 K k; simp [e1]; (repeat refine and_o ?_); refine ⟨by kernel_rfl, ?_⟩; (repeat refine and_o ?_); exact k) : AW c r (.seq (.region id ops true) y) s κ Q :=
  AW.seqK fun K hK => AW.drawP hm hst hd (hr e1 K (hK _ _ h))
theorem AW.dl1 {a1 : Prop} (hm : c.P.follows .mixedOrders = true) (e1 : a1) (h : Q .normal s' κ') (hst : statB ops = true := by kernel_rfl) (hd : dstB c.n ops.toList = true := by exact rfl) (hr : a1 → ∀ K : LSt → Nat → Prop, K s' κ' → ARunPD c (prep ops) s κ [] fun s' κ' acc => dynK ops acc.reverse = true ∧ K s' κ' := by intro e1 K k; simp [e1]; (repeat refine and_o ?_); refine ⟨by kernel_rfl, ?_⟩; (repeat refine and_o ?_); exact k) : AW c r (.region id ops true) s κ Q :=
  AW.drawP hm hst hd (hr e1 (fun s κ => Q .normal s κ) h)
theorem AW.e1 {a1 : Prop} (hm : c.P.follows .mixedOrders = true) (e1 : a1) (h : AW c r y s' κ' Q) (hst : statB ops = true := by kernel_rfl) (hd : dstB c.n ops.toList = true := by exact rfl) (hq : ops.toList.all (fun o => quietOp o.op) = true := by exact rfl) (hr : a1 → ∀ K : LSt → Nat → Prop, K s' κ' → ARunP c (prep ops) s κ K := by intro e1 K k; simp [e1]; (repeat refine and_o ?_); exact k) : AW c r (.seq (.region id ops true) y) s κ Q :=
  AW.seqK fun K hK => AW.drawQ hm hst hd hq (hr e1 K (hK _ _ h))
theorem AW.d2 {a1 : Prop} {a2 : Prop} (hm : c.P.follows .mixedOrders = true) (e1 : a1) (e2 : a2) (h : AW c r y s' κ' Q) (hst : statB ops = true := by kernel_rfl) (hd : dstB c.n ops.toList = true := by exact rfl) (hr : a1 → a2 → ∀ K : LSt → Nat → Prop, K s' κ' → ARunPD c (prep ops) s κ [] fun s' κ' acc => dynK ops acc.reverse = true ∧ K s' κ' := by intro e1 e2 K k; simp [e1, e2]; (repeat refine and_o ?_); refine ⟨by kernel_rfl, ?_⟩; (repeat refine and_o ?_); exact k) : AW c r (.seq (.region id ops true) y) s κ Q :=
  AW.seqK fun K hK => AW.drawP hm hst hd (hr e1 e2 K (hK _ _ h))
theorem AW.dl2 {a1 : Prop} {a2 : Prop} (hm : c.P.follows .mixedOrders = true) (e1 : a1) (e2 : a2) (h : Q .normal s' κ') (hst : statB ops = true := by kernel_rfl) (hd : dstB c.n ops.toList = true := by exact rfl) (hr : a1 → a2 → ∀ K : LSt → Nat → Prop, K s' κ' → ARunPD c (prep ops) s κ [] fun s' κ' acc => dynK ops acc.reverse = true ∧ K s' κ' := by intro e1 e2 K k; simp [e1, e2]; (repeat refine and_o ?_); refine ⟨by kernel_rfl, ?_⟩; (repeat refine and_o ?_); exact k) : AW c r (.region id ops true) s κ Q :=
  AW.drawP hm hst hd (hr e1 e2 (fun s κ => Q .normal s κ) h)
theorem AW.e2 {a1 : Prop} {a2 : Prop} (hm : c.P.follows .mixedOrders = true) (e1 : a1) (e2 : a2) (h : AW c r y s' κ' Q) (hst : statB ops = true := by kernel_rfl) (hd : dstB c.n ops.toList = true := by exact rfl) (hq : ops.toList.all (fun o => quietOp o.op) = true := by exact rfl) (hr : a1 → a2 → ∀ K : LSt → Nat → Prop, K s' κ' → ARunP c (prep ops) s κ K := by intro e1 e2 K k; simp [e1, e2]; (repeat refine and_o ?_); exact k) : AW c r (.seq (.region id ops true) y) s κ Q :=
  AW.seqK fun K hK => AW.drawQ hm hst hd hq (hr e1 e2 K (hK _ _ h))
theorem AW.d3 {a1 : Prop} {a2 : Prop} {a3 : Prop} (hm : c.P.follows .mixedOrders = true) (e1 : a1) (e2 : a2) (e3 : a3) (h : AW c r y s' κ' Q) (hst : statB ops = true := by kernel_rfl) (hd : dstB c.n ops.toList = true := by exact rfl) (hr : a1 → a2 → a3 → ∀ K : LSt → Nat → Prop, K s' κ' → ARunPD c (prep ops) s κ [] fun s' κ' acc => dynK ops acc.reverse = true ∧ K s' κ' := by intro e1 e2 e3 K k; simp [e1, e2, e3]; (repeat refine and_o ?_); refine ⟨by kernel_rfl, ?_⟩; (repeat refine and_o ?_); exact k) : AW c r (.seq (.region id ops true) y) s κ Q :=
  AW.seqK fun K hK => AW.drawP hm hst hd (hr e1 e2 e3 K (hK _ _ h))
theorem AW.dl3 {a1 : Prop} {a2 : Prop} {a3 : Prop} (hm : c.P.follows .mixedOrders = true) (e1 : a1) (e2 : a2) (e3 : a3) (h : Q .normal s' κ') (hst : statB ops = true := by kernel_rfl) (hd : dstB c.n ops.toList = true := by exact rfl) (hr : a1 → a2 → a3 → ∀ K : LSt → Nat → Prop, K s' κ' → ARunPD c (prep ops) s κ [] fun s' κ' acc => dynK ops acc.reverse = true ∧ K s' κ' := by intro e1 e2 e3 K k; simp [e1, e2, e3]; (repeat refine and_o ?_); refine ⟨by kernel_rfl, ?_⟩; (repeat refine and_o ?_); exact k) : AW c r (.region id ops true) s κ Q :=
  AW.drawP hm hst hd (hr e1 e2 e3 (fun s κ => Q .normal s κ) h)
theorem AW.e3 {a1 : Prop} {a2 : Prop} {a3 : Prop} (hm : c.P.follows .mixedOrders = true) (e1 : a1) (e2 : a2) (e3 : a3) (h : AW c r y s' κ' Q) (hst : statB ops = true := by kernel_rfl) (hd : dstB c.n ops.toList = true := by exact rfl) (hq : ops.toList.all (fun o => quietOp o.op) = true := by exact rfl) (hr : a1 → a2 → a3 → ∀ K : LSt → Nat → Prop, K s' κ' → ARunP c (prep ops) s κ K := by intro e1 e2 e3 K k; simp [e1, e2, e3]; (repeat refine and_o ?_); exact k) : AW c r (.seq (.region id ops true) y) s κ Q :=
  AW.seqK fun K hK => AW.drawQ hm hst hd hq (hr e1 e2 e3 K (hK _ _ h))
theorem AW.d4 {a1 : Prop} {a2 : Prop} {a3 : Prop} {a4 : Prop} (hm : c.P.follows .mixedOrders = true) (e1 : a1) (e2 : a2) (e3 : a3) (e4 : a4) (h : AW c r y s' κ' Q) (hst : statB ops = true := by kernel_rfl) (hd : dstB c.n ops.toList = true := by exact rfl) (hr : a1 → a2 → a3 → a4 → ∀ K : LSt → Nat → Prop, K s' κ' → ARunPD c (prep ops) s κ [] fun s' κ' acc => dynK ops acc.reverse = true ∧ K s' κ' := by intro e1 e2 e3 e4 K k; simp [e1, e2, e3, e4]; (repeat refine and_o ?_); refine ⟨by kernel_rfl, ?_⟩; (repeat refine and_o ?_); exact k) : AW c r (.seq (.region id ops true) y) s κ Q :=
  AW.seqK fun K hK => AW.drawP hm hst hd (hr e1 e2 e3 e4 K (hK _ _ h))
theorem AW.dl4 {a1 : Prop} {a2 : Prop} {a3 : Prop} {a4 : Prop} (hm : c.P.follows .mixedOrders = true) (e1 : a1) (e2 : a2) (e3 : a3) (e4 : a4) (h : Q .normal s' κ') (hst : statB ops = true := by kernel_rfl) (hd : dstB c.n ops.toList = true := by exact rfl) (hr : a1 → a2 → a3 → a4 → ∀ K : LSt → Nat → Prop, K s' κ' → ARunPD c (prep ops) s κ [] fun s' κ' acc => dynK ops acc.reverse = true ∧ K s' κ' := by intro e1 e2 e3 e4 K k; simp [e1, e2, e3, e4]; (repeat refine and_o ?_); refine ⟨by kernel_rfl, ?_⟩; (repeat refine and_o ?_); exact k) : AW c r (.region id ops true) s κ Q :=
  AW.drawP hm hst hd (hr e1 e2 e3 e4 (fun s κ => Q .normal s κ) h)
theorem AW.e4 {a1 : Prop} {a2 : Prop} {a3 : Prop} {a4 : Prop} (hm : c.P.follows .mixedOrders = true) (e1 : a1) (e2 : a2) (e3 : a3) (e4 : a4) (h : AW c r y s' κ' Q) (hst : statB ops = true := by kernel_rfl) (hd : dstB c.n ops.toList = true := by exact rfl) (hq : ops.toList.all (fun o => quietOp o.op) = true := by exact rfl) (hr : a1 → a2 → a3 → a4 → ∀ K : LSt → Nat → Prop, K s' κ' → ARunP c (prep ops) s κ K := by intro e1 e2 e3 e4 K k; simp [e1, e2, e3, e4]; (repeat refine and_o ?_); exact k) : AW c r (.seq (.region id ops true) y) s κ Q :=
  AW.seqK fun K hK => AW.drawQ hm hst hd hq (hr e1 e2 e3 e4 K (hK _ _ h))
theorem AW.d5 {a1 : Prop} {a2 : Prop} {a3 : Prop} {a4 : Prop} {a5 : Prop} (hm : c.P.follows .mixedOrders = true) (e1 : a1) (e2 : a2) (e3 : a3) (e4 : a4) (e5 : a5) (h : AW c r y s' κ' Q) (hst : statB ops = true := by kernel_rfl) (hd : dstB c.n ops.toList = true := by exact rfl) (hr : a1 → a2 → a3 → a4 → a5 → ∀ K : LSt → Nat → Prop, K s' κ' → ARunPD c (prep ops) s κ [] fun s' κ' acc => dynK ops acc.reverse = true ∧ K s' κ' := by intro e1 e2 e3 e4 e5 K k; simp [e1, e2, e3, e4, e5]; (repeat refine and_o ?_); refine ⟨by kernel_rfl, ?_⟩; (repeat refine and_o ?_); exact k) : AW c r (.seq (.region id ops true) y) s κ Q :=
  AW.seqK fun K hK => AW.drawP hm hst hd (hr e1 e2 e3 e4 e5 K (hK _ _ h))
theorem AW.dl5 {a1 : Prop} {a2 : Prop} {a3 : Prop} {a4 : Prop} {a5 : Prop} (hm : c.P.follows .mixedOrders = true) (e1 : a1) (e2 : a2) (e3 : a3) (e4 : a4) (e5 : a5) (h : Q .normal s' κ') (hst : statB ops = true := by kernel_rfl) (hd : dstB c.n ops.toList = true := by exact rfl) (hr : a1 → a2 → a3 → a4 → a5 → ∀ K : LSt → Nat → Prop, K s' κ' → ARunPD c (prep ops) s κ [] fun s' κ' acc => dynK ops acc.reverse = true ∧ K s' κ' := by intro e1 e2 e3 e4 e5 K k; simp [e1, e2, e3, e4, e5]; (repeat refine and_o ?_); refine ⟨by kernel_rfl, ?_⟩; (repeat refine and_o ?_); exact k) : AW c r (.region id ops true) s κ Q :=
  AW.drawP hm hst hd (hr e1 e2 e3 e4 e5 (fun s κ => Q .normal s κ) h)
theorem AW.el0 (hm : c.P.follows .mixedOrders = true) (h : Q .normal s' κ') (hst : statB ops = true := by kernel_rfl) (hd : dstB c.n ops.toList = true := by exact rfl) (hq : ops.toList.all (fun o => quietOp o.op) = true := by exact rfl) (hr : ∀ K : LSt → Nat → Prop, K s' κ' → ARunP c (prep ops) s κ K := by intro K k; simp; (repeat refine and_o ?_); exact k) : AW c r (.region id ops true) s κ Q :=
  AW.drawQ hm hst hd hq (hr (fun s κ => Q .normal s κ) h)
theorem AW.el1 {a1 : Prop} (hm : c.P.follows .mixedOrders = true) (e1 : a1) (h : Q .normal s' κ') (hst : statB ops = true := by kernel_rfl) (hd : dstB c.n ops.toList = true := by exact rfl) (hq : ops.toList.all (fun o => quietOp o.op) = true := by exact rfl) (hr : a1 → ∀ K : LSt → Nat → Prop, K s' κ' → ARunP c (prep ops) s κ K := by intro e1 K k; simp [e1]; (repeat refine and_o ?_); exact k) : AW c r (.region id ops true) s κ Q :=
  AW.drawQ hm hst hd hq (hr e1 (fun s κ => Q .normal s κ) h)
theorem AW.el2 {a1 : Prop} {a2 : Prop} (hm : c.P.follows .mixedOrders = true) (e1 : a1) (e2 : a2) (h : Q .normal s' κ') (hst : statB ops = true := by kernel_rfl) (hd : dstB c.n ops.toList = true := by exact rfl) (hq : ops.toList.all (fun o => quietOp o.op) = true := by exact rfl) (hr : a1 → a2 → ∀ K : LSt → Nat → Prop, K s' κ' → ARunP c (prep ops) s κ K := by intro e1 e2 K k; simp [e1, e2]; (repeat refine and_o ?_); exact k) : AW c r (.region id ops true) s κ Q :=
  AW.drawQ hm hst hd hq (hr e1 e2 (fun s κ => Q .normal s κ) h)
theorem AW.el3 {a1 : Prop} {a2 : Prop} {a3 : Prop} (hm : c.P.follows .mixedOrders = true) (e1 : a1) (e2 : a2) (e3 : a3) (h : Q .normal s' κ') (hst : statB ops = true := by kernel_rfl) (hd : dstB c.n ops.toList = true := by exact rfl) (hq : ops.toList.all (fun o => quietOp o.op) = true := by exact rfl) (hr : a1 → a2 → a3 → ∀ K : LSt → Nat → Prop, K s' κ' → ARunP c (prep ops) s κ K := by intro e1 e2 e3 K k; simp [e1, e2, e3]; (repeat refine and_o ?_); exact k) : AW c r (.region id ops true) s κ Q :=
  AW.drawQ hm hst hd hq (hr e1 e2 e3 (fun s κ => Q .normal s κ) h)
theorem AW.el4 {a1 : Prop} {a2 : Prop} {a3 : Prop} {a4 : Prop} (hm : c.P.follows .mixedOrders = true) (e1 : a1) (e2 : a2) (e3 : a3) (e4 : a4) (h : Q .normal s' κ') (hst : statB ops = true := by kernel_rfl) (hd : dstB c.n ops.toList = true := by exact rfl) (hq : ops.toList.all (fun o => quietOp o.op) = true := by exact rfl) (hr : a1 → a2 → a3 → a4 → ∀ K : LSt → Nat → Prop, K s' κ' → ARunP c (prep ops) s κ K := by intro e1 e2 e3 e4 K k; simp [e1, e2, e3, e4]; (repeat refine and_o ?_); exact k) : AW c r (.region id ops true) s κ Q :=
  AW.drawQ hm hst hd hq (hr e1 e2 e3 e4 (fun s κ => Q .normal s κ) h)
end

section
variable {c : Ctx} {r : Option Nat} {ops : Array Oper}

/-- What an operation does from one state, none other. -/
def SimW (c : Ctx) (r : Option Nat) (ops : Array Oper) (o : Oper) (s s1 : LSt) : Prop :=
  ∀ F β a w K Q, StOK c F β s a w → (∀ F' β' a' w', StOK c F' β' s1 a' w' → K a' w') →
    if Region.wanted o (yielded ops a.tmps) then o.wpIn (fen r) 0 c.P a w K Q else K (a.put o.dst undef) w

theorem SimW.of_eff {o : Oper} {s : LSt} {e : Fx} (h : EffOK c r ops o s e) : SimW c r ops o s (e.app o.dst s) :=
  fun F β a w K Q hs hK => h s (fun _ _ => rfl) ⟨fun _ _ => rfl, fun _ _ => rfl⟩ F β a w K Q hs hK

def ChainS (c : Ctx) (r : Option Nat) (ops : Array Oper) : List Oper → LSt → LSt → Prop
  | [], s, s' => s' = s
  | o :: os, s, s' => ∃ s1, SimW c r ops o s s1 ∧ ChainS c r ops os s1 s'

theorem ChainS.opers {Q : Exit → Act → World → Prop} : ∀ {os : List Oper} {s s' : LSt} (n : Nat), ops.toList.drop n = os → ChainS c r ops os s s' →
    (∀ F' β' a' w', StOK c F' β' s' a' w' → Q .normal a' w') → ∀ F β a w, StOK c F β s a w → wpOpsIn (fen r) 0 c.P ops Q (List.range' n os.length) a w
  | [], s, s', n, _, h, hQ => fun F β a w hs => by
    have h : s' = s := h
    subst h; exact hQ F β a w hs
  | o :: os, s, s', n, h1, h, hQ => fun F β a w hs => by
    obtain ⟨s1, h2, h3⟩ := h
    have ho : ops[n]? = some o := by
      have : (ops.toList.drop n)[0]? = some o := by rw [h1]; rfl
      rw [List.getElem?_drop] at this
      simpa using this
    have ih := ChainS.opers (os := os) (n + 1) (by rw [← List.drop_drop, h1]; rfl) h3 hQ
    have key := h2 F β a w (wpOpsIn (fen r) 0 c.P ops Q (List.range' (n + 1) os.length)) Q hs (fun F' β' a' w' h' => ih F' β' a' w' h')
    simp only [List.length_cons, List.range'_succ]
    rw [wpOpsIn_cons]
    unfold wpOpIn
    rw [ho]
    simp only
    split at key
    · grind
    · rename_i hw; rw [if_neg hw]; exact ⟨fun _ _ => trivial, key⟩

theorem AW.regionS {s s' : LSt} {κ : Nat} {Q : Ex → LSt → Nat → Prop} {id : Nat} (h : ChainS c r ops ops.toList s s') (hQ : Q .normal s' κ) : AW c r (.region id ops false) s κ Q := by
  intro F β a w hs
  refine wpIn_region ?_
  have := ChainS.opers (Q := Post c Q) 0 rfl h (fun F' β' a' w' h' => ⟨.normal, s', κ, F', β', hQ, h', rfl⟩) F β a w hs
  rw [List.range_eq_range']
  grind
end

/-- The state at a call's entry, in a context of its own. -/
theorem Sits.enter {P : Program} {G : List (List DV)} {F : Nat → Prop} {β : Key → Nat} {lv : Key → LB} {w : World} (hS : Sits (CtxE P G w F β lv) F β lv w) {n : Nat} {fr : Nat → AV} {a : Act} (h1 : a.tmps.size = n) (h2 : a.defers = [])
    (h3 : ∀ t, (Vw.mk F β lv w).av (a.tmps.getD t undef) (fr t)) : StOK { CtxE P G w F β lv with n := n } F β ⟨fr, lv⟩ a w :=
  Sits.with (c := { CtxE P G w F β lv with n := n }) hS h1 h2 h3

section
variable {P : Program} {T : TypeId} {lv : Key → LB} {κ : Key} {v : AV} {us : List (Key × LB)} {rds : List Key}

theorem stepBin_bs {op : BinOp} {x y : AV} (h : stepBin_b P op T x y = some (v, us, rds, true)) : ∃ vc, stepBin P op T x y = some (v, us, rds, vc) ∧ vc := by
  unfold stepBin_b at h; unfold stepBin
  (repeat' split at h) <;> simp_all <;> exact ⟨True, trivial⟩

theorem stepLoad_bs {x : AV} (h : stepLoad_b P T lv x = some (v, us, rds, true)) : ∃ vc, stepLoad P T lv x = some (v, us, rds, vc) ∧ vc := by
  unfold stepLoad_b at h; unfold stepLoad
  (repeat' split at h) <;> simp_all <;> exact ⟨True, trivial⟩

theorem stepStore_bs {x y : AV} (h : stepStore_b P T lv x y = some (v, us, rds, true)) : ∃ vc, stepStore P T lv x y = some (v, us, rds, vc) ∧ vc := by
  unfold stepStore_b at h; unfold stepStore
  (repeat' split at h) <;> simp_all <;> exact ⟨True, trivial⟩

theorem stepNil_bs {x : AV} (h : stepNil_b lv x = some (v, us, rds, true)) : ∃ vc, stepNil lv x = some (v, us, rds, vc) ∧ vc := by
  unfold stepNil_b at h; unfold stepNil
  (repeat' split at h) <;> simp_all <;> exact ⟨True, trivial⟩

theorem stepFieldAddr_bs {f : Nat} {x : AV} (h : stepFieldAddr_b P T f lv x = some (v, us, rds, true)) : ∃ vc, stepFieldAddr P T f lv x = some (v, us, rds, vc) ∧ vc := by
  unfold stepFieldAddr_b at h; unfold stepFieldAddr
  (repeat' split at h) <;> simp_all <;> exact ⟨True, trivial⟩

theorem stepIndexAddr_bs {x i : AV} (h : stepIndexAddr_b P T lv x i = some (v, us, rds, true)) : ∃ vc, stepIndexAddr P T lv x i = some (v, us, rds, vc) ∧ vc := by
  unfold stepIndexAddr_b at h; unfold stepIndexAddr
  (repeat' split at h) <;> first | (cases h; done) | (simp only [Option.some.injEq, Prod.mk.injEq, decide_eq_true_eq] at h; obtain ⟨rfl, rfl, rfl, h⟩ := h; refine ⟨_, ?_, h⟩; grind)

theorem stepIndex_bs {x i : AV} (h : stepIndex_b P T x i = some (v, us, rds, true)) : ∃ vc, stepIndex P T x i = some (v, us, rds, vc) ∧ vc := by
  unfold stepIndex_b at h; unfold stepIndex
  (repeat' split at h) <;> first | (cases h; done) | (simp only [Option.some.injEq, Prod.mk.injEq, decide_eq_true_eq] at h; obtain ⟨rfl, rfl, rfl, h⟩ := h; refine ⟨_, ?_, h⟩; grind)

theorem stepSlice_bs {x : AV} {lo hi : Option AV} (h : stepSlice_b P T lv x lo hi = some (v, us, rds, true)) : ∃ vc, stepSlice P T lv x lo hi = some (v, us, rds, vc) ∧ vc := by
  unfold stepSlice_b at h; unfold stepSlice
  (repeat' split at h) <;> simp_all <;> exact ⟨True, trivial⟩

theorem stepMake_bs {x y : AV} (h : stepMake_b P T lv κ x y = some (v, us, rds, true)) : ∃ vc, stepMake P T lv κ x y = some (v, us, rds, vc) ∧ vc := by
  unfold stepMake_b at h; unfold stepMake
  (repeat' split at h) <;> simp_all <;> exact ⟨True, trivial⟩

theorem stepAppend_bs {x y : AV} (h : stepAppend_b P T lv κ x y = some (v, us, rds, true)) : ∃ vc, stepAppend P T lv κ x y = some (v, us, rds, vc) ∧ vc := by
  unfold stepAppend_b at h; unfold stepAppend
  (repeat' split at h) <;> simp_all <;> exact ⟨True, trivial⟩

theorem stepBuildSlice_bs {n : Nat} {ixs : List Nat} {vals : List AV} (h : stepBuildSlice_b P T n ixs lv κ vals = some (v, us, rds, true)) : ∃ vc, stepBuildSlice P T n ixs lv κ vals = some (v, us, rds, vc) ∧ vc := by
  unfold stepBuildSlice_b at h; unfold stepBuildSlice
  (repeat' split at h) <;> simp_all <;> exact ⟨True, trivial⟩

theorem stepCopy_bs {x y : AV} (h : stepCopy_b P T lv y x = some (v, us, rds, true)) : ∃ vc, stepCopy P T lv y x = some (v, us, rds, vc) ∧ vc := by
  unfold stepCopy_b at h; unfold stepCopy
  (repeat' split at h) <;> first | (cases h; done) | (simp only [Option.some.injEq, Prod.mk.injEq, decide_eq_true_eq] at h; obtain ⟨rfl, rfl, rfl, h⟩ := h; refine ⟨_, ?_, h⟩; grind)

theorem stepB_bs {cl : Call} {vals : List AV} (h : stepB_b P cl vals lv κ = some (v, us, rds, true)) : ∃ vc, stepB P cl vals lv κ = some (v, us, rds, vc) ∧ vc := by
  unfold stepB_b at h; unfold stepB
  split at h
  · split at h
    · split at h
      · simp only [Option.some.injEq, Prod.mk.injEq] at h
        obtain ⟨rfl, rfl, rfl, h⟩ := h
        rename_i n hn
        refine ⟨_, ?_, lenOkB_iff h⟩; grind
      grind
    grind
  · split at h
    · split at h
      · rename_i hT; subst hT; obtain ⟨vc, h1, h2⟩ := stepAppend_bs h; grind
      grind
    grind
  · split at h
    · obtain ⟨vc, h1, h2⟩ := stepCopy_bs h; grind
    grind
  · split at h
    · simp_all; exact ⟨True, trivial⟩
    grind
  · split at h
    · simp_all; exact ⟨True, trivial⟩
    grind
  grind

def BsOK (P : Program) : Prop := ∀ op vals lv κ x us rds, stepF_b P op vals lv κ = some (x, us, rds, true) → ∃ vc, stepF P op vals lv κ = some (x, us, rds, vc) ∧ vc

theorem bsOK (P : Program) : BsOK P := by
  intro op vals lv κ v us rds h
  unfold stepF_b at h; unfold stepF
  split at h
  all_goals first
    | exact stepBuildSlice_bs h
    | exact stepLoad_bs h
    | exact stepStore_bs h
    | exact stepNil_bs h
    | exact stepBin_bs h
    | exact stepMake_bs h
    | exact stepFieldAddr_bs h
    | exact stepIndexAddr_bs h
    | exact stepIndex_bs h
    | exact stepB_bs h
    | (cases h; done)
    | (split at h; (obtain ⟨vc, h1, h2⟩ := stepSlice_bs h; refine ⟨vc, ?_, h2⟩; simp only [*]; done); (cases h; done))
    | ((repeat' split at h) <;> first | (cases h; done) | (simp only [Option.some.injEq, Prod.mk.injEq, and_true] at h; obtain ⟨rfl, rfl, rfl⟩ := h; refine ⟨True, ?_, trivial⟩; simp only [*, if_true]; done))
    | skip
  split at h
  · rename_i l hh hb
    obtain ⟨vc, h1, h2⟩ := stepSlice_bs h
    grind
  grind

end

/-! ### what the fast evaluator computes is so -/

def Good (r : Res) : Prop := ∀ n o, r ≠ .bad n o

theorem Good.ne {r : Res} (h : Good r) {n : Nat} {o : List Op} : Res.bad n o ≠ r := fun e => h n o e.symm

noncomputable def SS (fr : Tb AV) (lv : Tb LB) : LSt := ⟨frT' fr, lvT' lv⟩

def LgOK (lv lv' : Tb LB) (l : List Key) : Prop := ∀ k, k ∉ l → lvT' lv' k = lvT' lv k

theorem LgOK.refl (lv : Tb LB) : LgOK lv lv [] := fun _ _ => rfl
theorem LgOK.trans {a b c : Tb LB} {l m : List Key} (h1 : LgOK a b l) (h2 : LgOK b c m) : LgOK a c (m ++ l) := by
  intro k hk
  rw [List.mem_append] at hk
  rw [h2 k (fun h => hk (.inl h)), h1 k (fun h => hk (.inr h))]

theorem unU_keys (us : List (Key × LB)) : (unU us).map (·.1) = us.map (·.1) := by simp [unU]

theorem updL_unU {us : List (Key × LB)} : ∀ {lv lv' : Key → LB}, (∀ k, lv' k = lv k ∨ lv' k = (lv k).un) → ∀ k, updL lv' (unU us) k = updL lv us k ∨ updL lv' (unU us) k = (updL lv us k).un := by
  induction us with
  | nil => intro lv lv' h k; exact h k
  | cons p us ih =>
    intro lv lv' h k
    show updL (upd lv' p.1 p.2.un) (unU us) k = updL (upd lv p.1 p.2) us k ∨ _ = (updL (upd lv p.1 p.2) us k).un
    refine ih (fun j => ?_) k
    by_cases e : j = p.1
    · subst e; rw [upd_same, upd_same]; simp
    · rw [upd_ne _ _ e, upd_ne _ _ e]; exact h j

theorem LB.un_sub (x : LB) : x.sub x.un := by cases x <;> simp [LB.un, LB.sub]
theorem LB.un_live (x : LB) : x.un.live = x.live := by
  cases x with
  | cells o fz T cs => cases fz <;> rfl
  | _ => rfl

theorem ownAt_un {c : Ctx} {own : Bool} {b : Nat} (h : ownAt c own b) : ownAt c false b := ownAt_weak h (by simp)

/-- Whose a block is may be forgotten. -/
theorem StOK.forget {c : Ctx} {F : Nat → Prop} {β : Key → Nat} {fr : Nat → AV} {lv lv' : Key → LB} {a : Act} {w : World} (h : StOK c F β ⟨fr, lv⟩ a w) (hl : ∀ k, lv' k = lv k ∨ lv' k = (lv k).un) : StOK c F β ⟨fr, lv'⟩ a w := by
  have hsub : ∀ k, (lv k).sub (lv' k) := by
    intro k; rcases hl k with e | e <;> rw [e]
    · exact LB.sub_refl _
    · exact LB.un_sub _
  have hlive : ∀ k, (lv' k).live = (lv k).live := by
    intro k; rcases hl k with e | e <;> rw [e]
    exact LB.un_live _
  refine h.step (fun _ h => h) (fun _ _ => rfl) hsub (fun _ _ _ => rfl) (fun _ => Nat.le_refl _) ?_ ?_ (fun b h => .inl h) (Nat.le_refl _) (fun _ _ _ => rfl)
  · intro k hK
    have hb := h.blk k
    unfold Vw.blk at hb ⊢
    rcases hl k with e | e
    · simp only [e]
      cases ek : lv k with
      | cells own fz T cs =>
        simp only [ek] at hb
        obtain ⟨arr, b1, b2, b3, b4, b5⟩ := hb
        exact ⟨arr, b1, b2, fun i p q => hK.cv (b3 i p q), b4, b5⟩
      | map own es =>
        simp only [ek] at hb
        obtain ⟨x, y, b1, b2, b3, b4, b5⟩ := hb
        exact ⟨x, y, b1, b2, fun i p q => ⟨Rd.mono (memF_le hK.F hK.mem) (b3 i p q).1, hK.av0 (b3 i p q).2⟩, b4, b5⟩
      | _ => trivial
    · simp only [e]
      cases ek : lv k with
      | cells own fz T cs =>
        simp only [ek] at hb
        obtain ⟨arr, b1, b2, b3, b4, b5⟩ := hb
        exact ⟨arr, b1, b2, fun i p q => hK.cv (b3 i p q), b4, ownAt_un b5⟩
      | map own es =>
        simp only [ek] at hb
        obtain ⟨x, y, b1, b2, b3, b4, b5⟩ := hb
        exact ⟨x, y, b1, b2, fun i p q => ⟨Rd.mono (memF_le hK.F hK.mem) (b3 i p q).1, hK.av0 (b3 i p q).2⟩, b4, ownAt_un b5⟩
      | _ => trivial
  · intro k k' h1 h2 he
    rw [hlive] at h1 h2
    exact h.inj _ _ h1 h2 he

theorem Sim.un {c : Ctx} {o : Oper} {s : LSt} {d : Option Nat} {x : AV} {us : List (Key × LB)} (h : Sim c o s (LSt.put ⟨s.fr, updL s.lv us⟩ d x)) : Sim c o s (LSt.put ⟨s.fr, updL s.lv (unU us)⟩ d x) := by
  intro F β a w K Q hs hK
  refine h F β a w K Q hs fun F' β' a' w' h' => hK F' β' a' w' ?_
  have hl : ∀ k, updL s.lv (unU us) k = updL s.lv us k ∨ updL s.lv (unU us) k = (updL s.lv us k).un := updL_unU (fun _ => .inl rfl)
  cases d with
  | none => exact StOK.forget h' hl
  | some d => exact StOK.forget h' hl

theorem wrK_ok : ∀ {us : List (Key × LB)} {lv : Tb LB} {lg : List Key} {k : Tb LB → List Key → Res} {r : Res}, wrK us lv lg k = r → Good r → AllOk (lvT' lv) →
    ∃ lv' l, k lv' (l ++ lg) = r ∧ lvT' lv' = updL (lvT' lv) (unU us) ∧ AllOk (lvT' lv') ∧ LgOK lv lv' l
  | [], lv, lg, k, r, h, hg, ho => ⟨lv, [], h, rfl, ho, LgOK.refl _⟩
  | p :: us, lv, lg, k, r, h, hg, ho => by
    have h1 : (forceNat p.1 fun q => forceB p.2 fun b => boolK b.okB (.bad 3 []) (Tb.setK .hole b (pathOf q) lv fun lv => wrK us lv (q :: lg) k)) = r := h
    rw [forceNat_eq, forceB_eq] at h1
    obtain ⟨hb, h1⟩ := boolK_true h1 hg.ne
    rw [Tb.setK_eq] at h1
    have hset := lvT'_set lv p.1 p.2.un
    have ho1 : AllOk (lvT' (lv.set .hole p.2.un (pathOf p.1))) := by
      intro j
      rw [hset]
      by_cases e : j = p.1
      · subst e; rw [upd_same]; exact hb
      · rw [upd_ne _ _ e]; exact ho j
    obtain ⟨lv', l, e1, e2, e3, e4⟩ := wrK_ok h1 hg ho1
    refine ⟨lv', l ++ [p.1], by grind, ?_, e3, ?_⟩
    · rw [e2, hset]; rfl
    · intro j hj
      simp only [List.mem_append, List.mem_singleton, not_or] at hj
      rw [e4 j hj.1, hset, upd_ne _ _ hj.2]

def putF (d : Option Nat) (x : AV) (fr : Nat → AV) : Nat → AV := match d with | some d => upd fr d x | none => fr

theorem putF_put (d : Option Nat) (x : AV) (fr : Nat → AV) (lv : Key → LB) : LSt.put ⟨fr, lv⟩ d x = ⟨putF d x fr, lv⟩ := by cases d <;> rfl

theorem putK'_ok {d : Option Nat} {x : AV} {fr : Tb AV} {k : Tb AV → Res} {r : Res} (h : putK' d x fr k = r) : ∃ fr', k fr' = r ∧ frT' fr' = putF d x (frT' fr) := by
  cases d with
  | none => exact ⟨fr, h, rfl⟩
  | some d =>
    have h1 : (forceA x fun x => Tb.setK .undef x (pathOf d) fr k) = r := h
    rw [forceA_eq, Tb.setK_eq] at h1
    exact ⟨_, h1, frT'_set fr d x⟩

theorem nxK_ok : ∀ {us : List (Key × LB)} {nx : Nat} {k : Nat → Res} {r : Res}, nxK nx us k = r → ∃ nx', k nx' = r
  | [], nx, k, r, h => ⟨nx, h⟩
  | p :: us, nx, k, r, h => by
    have h1 : boolK (Nat.beq p.1 nx) (nxK nx us k) (forceNat nx fun n => k (Nat.succ n)) = r := h
    cases hb : Nat.beq p.1 nx with
    | false => rw [hb] at h1; exact nxK_ok (us := us) h1
    | true => rw [hb] at h1; have h2 : (forceNat nx fun n => k (Nat.succ n)) = r := h1
              rw [forceNat_eq] at h2; grind

theorem valT_eq (G : List (List DV)) (fr : Tb AV) (lv : Key → LB) (x : Operand) : valT G fr x = (LSt.mk (frT' fr) lv).val G x := by cases x <;> rfl

theorem valsT_eq (G : List (List DV)) (fr : Tb AV) (lv : Key → LB) : ∀ (l : List Operand), valsT G fr l = l.map ((LSt.mk (frT' fr) lv).val G)
  | [] => rfl
  | x :: l => by
    show valT G fr x :: valsT G fr l = _
    rw [valT_eq G fr lv, valsT_eq G fr lv l]; rfl

/-- What an operation does, by either table. -/
def OpDoes (P : Program) (op : Op) (vals : List AV) (lv : Key → LB) (κ : Nat) (x : AV) (us : List (Key × LB)) (rds : List Key) : Prop :=
  (∃ vc, stepF P op vals lv κ = some (x, us, rds, vc) ∧ vc) ∨ stepN P op vals lv κ = some (x, us, rds)

theorem opK_ok {P : Program} {op : Op} {vals : List AV} {lv : Tb LB} {nx : Nat} {k : AV → List (Key × LB) → List Key → Res} {r : Res} (h : opK P op vals lv nx k = r) (hg : Good r) :
    ∃ x us rds, k x us rds = r ∧ OpDoes P op vals (lvT' lv) nx x us rds := by
  unfold opK at h
  cases e : stepF_b P op vals (lvT' lv) nx with
  | none =>
    rw [e] at h
    obtain ⟨q, h1, h2⟩ := optK_some (x := stepN P op vals (lvT' lv) nx) h hg.ne
    exact ⟨_, _, _, h2, .inr h1⟩
  | some q =>
    rw [e] at h
    obtain ⟨x, us, rds, b⟩ := q
    have h' : boolK b (optK (stepN P op vals (lvT' lv) nx) (.bad 1 [op]) fun r => k r.1 r.2.1 r.2.2) (k x us rds) = r := h
    cases b with
    | true =>
      obtain ⟨vc, h1, h2⟩ := bsOK P _ _ _ _ _ _ _ e
      exact ⟨x, us, rds, h', .inl ⟨vc, h1, h2⟩⟩
    | false =>
      obtain ⟨q, h1, h2⟩ := optK_some (x := stepN P op vals (lvT' lv) nx) h' hg.ne
      exact ⟨_, _, _, h2, .inr h1⟩

theorem OpDoes.sim {c : Ctx} {o : Oper} {s : LSt} {κ : Nat} {x : AV} {us : List (Key × LB)} {rds : List Key} (hd : ∀ d, o.dst = some d → d < c.n)
    (h : OpDoes c.P o.op (o.op.operands.toList.map (s.val c.G)) s.lv κ x us rds) : Sim c o s (LSt.put ⟨s.fr, updL s.lv us⟩ o.dst x) := by
  rcases h with ⟨vc, h1, h2⟩ | h1
  · exact stepF_sim hd rfl rfl h1 h2
  · exact stepN_sim hd rfl rfl h1

theorem OpDoes.local {P : Program} {op : Op} {vals : List AV} {lv lv' : Key → LB} {κ : Nat} {x : AV} {us : List (Key × LB)} {rds : List Key} (h : OpDoes P op vals lv κ x us rds) (ha : Agree lv lv' us rds) : OpDoes P op vals lv' κ x us rds := by
  rcases h with ⟨vc, h1, h2⟩ | h1
  · exact .inl ⟨vc, stepF_local h1 ha, h2⟩
  · exact .inr (stepN_local h1 ha)

/-- What is known of calls. -/
def CallOK (P : Program) (G : List (List DV)) (call : EvCall2) : Prop := ∀ f us lv nx lg kr kp r, call f us lv nx lg kr kp = r → Good r → AllOk (lvT' lv) →
  (∃ x lv' nx' l, kr x lv' nx' (l ++ lg) = r ∧ CallG P G f us (lvT' lv) (.ret x (lvT' lv')) ∧ AllOk (lvT' lv') ∧ LgOK lv lv' l) ∨
  (∃ d lv' nx' l, kp d lv' nx' (l ++ lg) = r ∧ CallG P G f us (lvT' lv) (.pan d (lvT' lv')) ∧ AllOk (lvT' lv') ∧ LgOK lv lv' l)

section
variable {P : Program} {G : List (List DV)}

theorem callK_ok {call : EvCall2} (hc : CallOK P G call) {op : Op} {cl : Call} {fo : Operand} {fr : Tb AV} {lv : Tb LB} {nx : Nat} {lg : List Key} {kr : KRet} {kp : KPan} {r : Res}
    (h : callK P G call op cl fo fr lv nx lg kr kp = r) (hg : Good r) (ho : AllOk (lvT' lv)) :
    ∃ f fs cs, tgtC P ((SS fr lv).val G) cl.callee = some (f, fs, cs) ∧ isFn P f = true ∧
      ((∃ x lv' nx' l, kr x lv' nx' (l ++ lg) = r ∧ CallG P G f (fs ++ cl.args.toList.map ((SS fr lv).val G) ++ cs) (lvT' lv) (.ret x (lvT' lv')) ∧ AllOk (lvT' lv') ∧ LgOK lv lv' l) ∨
      (∃ d lv' nx' l, kp d lv' nx' (l ++ lg) = r ∧ CallG P G f (fs ++ cl.args.toList.map ((SS fr lv).val G) ++ cs) (lvT' lv) (.pan d (lvT' lv')) ∧ AllOk (lvT' lv') ∧ LgOK lv lv' l)) := by
  unfold callK at h
  obtain ⟨⟨f, fs, cs⟩, h1, h2⟩ := optK_some h hg.ne
  obtain ⟨h3, h4⟩ := boolK_true h2 hg.ne
  rw [show valT G fr = (SS fr lv).val G from funext (valT_eq G fr (lvT' lv))] at h1
  rw [valsT_eq G fr (lvT' lv)] at h4
  exact ⟨f, fs, cs, h1, h3, hc _ _ _ _ _ _ _ _ h4 hg ho⟩

theorem opKd_call {op : Op} {cl : Call} {fo : Operand} (h : opKd op = .call cl fo) : op = .call cl ∧ ∀ b, cl.callee ≠ .builtin b := by
  unfold opKd at h
  split at h
  · cases h
  · rename_i cl'
    split at h
    · rename_i e; cases h; exact ⟨rfl, fun b hb => by rw [e] at hb; cases hb⟩
    · rename_i e; cases h; exact ⟨rfl, fun b hb => by rw [e] at hb; cases hb⟩
    · cases h
  · cases h

theorem opKd_pan {op : Op} {x : Operand} (h : opKd op = .pan x) : op = .panic x := by
  unfold opKd at h
  grind

theorem panK_ok {x : AV} {k : DV → Res} {b r : Res} (h : panK x k b = r) (hb : b ≠ r) : ∃ t d, x = .c (.d (.iface t d)) ∧ k (.iface t d) = r := by
  unfold panK at h
  grind

theorem simP_panic {c : Ctx} {o : Oper} {s : LSt} {x : Operand} {t : TypeId} {d : DV} (ho : o.op = .panic x) (hx : s.val c.G x = .c (.d (.iface t d))) : SimP c o s (.iface t d) s := by
  intro F β a w K Q hs hK
  have hv := hx ▸ hs.val x
  obtain ⟨hv, _⟩ := hv
  obtain ⟨u, hu⟩ : ∃ u, a.eval x = u := ⟨_, rfl⟩
  rw [hu] at hv
  have hv' := hv
  cases hv with
  | iface _ u' _ hr =>
    have hrun : (execOp a.eval o).run c.P w = .halt (.panic (.iface t u')) w := by
      simp [execOp, ho, hu, Instr.panic, goPanic, Sem.run]
    unfold Oper.wp
    rw [hrun, Oper.upon_panic]
    exact hK F β _ a w hs hv'

/-- The end of what is done in a region's own order. -/
def RegDoes (P : Program) (G : List (List DV)) (ops : Array Oper) (os : List Oper) (s s' : LSt) (e : Ex) : Prop :=
  ∀ (c : Ctx) (n : Nat) (Q : Exit → Act → World → Prop), c.P = P → c.G = G → dstB c.n os = true → ops.toList.drop n = os →
    (∀ F' β' a' w' ex, StOK c F' β' s' a' w' → ExOK e ex F' w' → Q ex a' w') → ∀ F β a w, StOK c F β s a w → wpOpsIn (fen none) 0 c.P ops Q (List.range' n os.length) a w

theorem drop_get {ops : Array Oper} {o : Oper} {os : List Oper} {n : Nat} (h : ops.toList.drop n = o :: os) : ops[n]? = some o ∧ ops.toList.drop (n + 1) = os := by
  constructor
  · have : (ops.toList.drop n)[0]? = some o := by rw [h]; rfl
    grind
  · rw [← List.drop_drop, h]; rfl

theorem dstB_cons {n : Nat} {o : Oper} {os : List Oper} (h : dstB n (o :: os) = true) : (∀ d, o.dst = some d → d < n) ∧ dstB n os = true := by
  simp only [dstB, List.all_cons, Bool.and_eq_true] at h
  refine ⟨fun d hd => ?_, h.2⟩
  grind

/-- One operation, and what is done behind it. -/
theorem RegDoes.cons {ops : Array Oper} {o : Oper} {os : List Oper} {s s1 s' : LSt} {e : Ex} (hw : wantA ops o.guard s.fr = some true) (hdf : ∀ cl, o.op ≠ .defer cl)
    (h : ∀ c : Ctx, c.P = P → c.G = G → (∀ d, o.dst = some d → d < c.n) → Sim c o s s1) (hk : RegDoes P G ops os s1 s' e) : RegDoes P G ops (o :: os) s s' e := by
  intro c n Q hP hG hd hdr hQ F β a w hs
  obtain ⟨ho, hdr'⟩ := drop_get hdr
  obtain ⟨hd1, hd2⟩ := dstB_cons hd
  have ih := hk c (n + 1) Q hP hG hd2 hdr' hQ
  simp only [List.length_cons, List.range'_succ]
  rw [wpOpsIn_cons]
  unfold wpOpIn
  rw [ho]
  simp only
  rw [wantA_sound hs hw]
  simp only [if_true]
  exact wpIn_fen hdf (h c hP hG hd1 F β a w _ Q hs fun F' β' a' w' h' => ih F' β' a' w' h')

theorem RegDoes.skip {ops : Array Oper} {o : Oper} {os : List Oper} {s s' : LSt} {e : Ex} (hw : wantA ops o.guard s.fr = some false)
    (hk : RegDoes P G ops os (s.put o.dst .undef) s' e) : RegDoes P G ops (o :: os) s s' e := by
  intro c n Q hP hG hd hdr hQ F β a w hs
  obtain ⟨ho, hdr'⟩ := drop_get hdr
  obtain ⟨hd1, hd2⟩ := dstB_cons hd
  have ih := hk c (n + 1) Q hP hG hd2 hdr' hQ
  simp only [List.length_cons, List.range'_succ]
  rw [wpOpsIn_cons]
  unfold wpOpIn
  rw [ho]
  simp only
  rw [wantA_sound hs hw]
  simp only [Bool.false_eq_true, if_false]
  exact ⟨fun _ _ => trivial, ih F β _ _ (hs.putD hd1 (undef_junk _))⟩

theorem RegDoes.pan {ops : Array Oper} {o : Oper} {os : List Oper} {s s' : LSt} {d : DV} (hw : wantA ops o.guard s.fr = some true) (hdf : ∀ cl, o.op ≠ .defer cl)
    (h : ∀ c : Ctx, c.P = P → c.G = G → SimP c o s d s') : RegDoes P G ops (o :: os) s s' (.panic d) := by
  intro c n Q hP hG hd hdr hQ F β a w hs
  obtain ⟨ho, hdr'⟩ := drop_get hdr
  simp only [List.length_cons, List.range'_succ]
  rw [wpOpsIn_cons]
  unfold wpOpIn
  rw [ho]
  simp only
  rw [wantA_sound hs hw]
  simp only [if_true]
  exact wpIn_fen hdf (h c hP hG F β a w _ Q hs fun F' β' v a' w' h' hv => hQ F' β' a' w' _ h' ⟨v, rfl, hv⟩)

theorem opsK_ok {call : EvCall2} (hc : CallOK P G call) {ops : Array Oper} : ∀ {os : List Oper} {fr : Tb AV} {lv : Tb LB} {nx : Nat} {lg : List Key} {k : KEx} {r : Res},
    opsK P G call ops os fr lv nx lg k = r → Good r → AllOk (lvT' lv) →
    ∃ e fr' lv' nx' l, k e fr' lv' nx' (l ++ lg) = r ∧ AllOk (lvT' lv') ∧ LgOK lv lv' l ∧ RegDoes P G ops os (SS fr lv) (SS fr' lv') e
  | [], fr, lv, nx, lg, k, r, h, hg, ho => by
    refine ⟨.normal, fr, lv, nx, [], h, ho, LgOK.refl _, ?_⟩
    intro c n Q hP hG hd hdr hQ F β a w hs
    exact hQ F β a w .normal hs rfl
  | o :: os, fr, lv, nx, lg, k, r, h, hg, ho => by
    have h0 : (optK (wantA ops o.guard (frT' fr)) (.bad 6 [o.op]) fun b =>
      boolK b (putK' o.dst .undef fr fun fr => opsK P G call ops os fr lv nx lg k)
        (OpK.rec (motive := fun _ => Res)
          (fun x => panK (valT G fr x) (fun d => k (.panic d) fr lv nx lg) (.bad 7 [o.op]))
          (fun cl fo => callK P G call o.op cl fo fr lv nx lg (fun x lv nx lg => putK' o.dst x fr fun fr => opsK P G call ops os fr lv nx lg k) (fun d lv nx lg => k (.panic d) fr lv nx lg))
          (opK P o.op (valsT G fr o.op.operands.toList) lv nx fun x us _ => nxK nx us fun nx' => putK' o.dst x fr fun fr => wrK us lv lg fun lv lg => opsK P G call ops os fr lv nx' lg k)
          (opKd o.op))) = r := h
    obtain ⟨b, hw, h1⟩ := optK_some h0 hg.ne
    cases b with
    | false =>
      have h1' : putK' o.dst .undef fr (fun fr => opsK P G call ops os fr lv nx lg k) = r := h1
      obtain ⟨fr1, h2, e1⟩ := putK'_ok h1'
      obtain ⟨e, fr', lv', nx', l, q1, q2, q3, q4⟩ := opsK_ok hc h2 hg ho
      refine ⟨e, fr', lv', nx', l, q1, q2, q3, RegDoes.skip hw ?_⟩
      have : (SS fr lv).put o.dst .undef = SS fr1 lv := by
        show LSt.put ⟨frT' fr, lvT' lv⟩ o.dst .undef = _
        rw [putF_put, ← e1]; rfl
      rw [this]; exact q4
    | true =>
      cases ek : opKd o.op with
      | pan x =>
        rw [ek] at h1
        have h2 : panK (valT G fr x) (fun d => k (.panic d) fr lv nx lg) (.bad 7 [o.op]) = r := h1
        obtain ⟨t, d, e1, e2⟩ := panK_ok h2 hg.ne
        have hop := opKd_pan ek
        refine ⟨.panic (.iface t d), fr, lv, nx, [], e2, ho, LgOK.refl _, RegDoes.pan hw (fun cl h => by rw [hop] at h; cases h) fun c hP hG => ?_⟩
        refine simP_panic hop ?_
        rw [hG]; rw [valT_eq G fr (lvT' lv)] at e1; exact e1
      | call cl fo =>
        rw [ek] at h1
        obtain ⟨hop, hcal⟩ := opKd_call ek
        obtain ⟨f, fs, cs, c1, c2, c3⟩ := callK_ok (fo := fo) hc h1 hg ho
        have hdf : ∀ cl', o.op ≠ .defer cl' := fun cl' h => by rw [hop] at h; cases h
        rcases c3 with ⟨x, lv1, nx1, l1, d1, d2, d3, d4⟩ | ⟨d, lv1, nx1, l1, d1, d2, d3, d4⟩
        · obtain ⟨fr1, h2, e1⟩ := putK'_ok d1
          obtain ⟨e, fr', lv', nx', l, q1, q2, q3, q4⟩ := opsK_ok hc h2 hg d3
          refine ⟨e, fr', lv', nx', l ++ l1, by rw [List.append_assoc]; exact q1, q2, d4.trans q3, RegDoes.cons hw hdf (s1 := SS fr1 lv1) (fun c hP hG hd => ?_) q4⟩
          have hsim := CallG.sim (c := c) (s := SS fr lv) (o := o) (cl := cl) (f := f) (fs := fs) (cs := cs) (x := x) (lv' := lvT' lv1) hd hop (by rw [hP, hG]; exact c1) (by rw [hP]; exact c2) ho (by rw [hP, hG]; exact d2)
          have : LSt.put ⟨(SS fr lv).fr, lvT' lv1⟩ o.dst x = SS fr1 lv1 := by rw [putF_put]; show LSt.mk (putF o.dst x (frT' fr)) (lvT' lv1) = _; rw [← e1]; rfl
          rw [this] at hsim; exact hsim
        · refine ⟨.panic d, fr, lv1, nx1, l1, d1, d3, d4, RegDoes.pan hw hdf fun c hP hG => ?_⟩
          exact CallG.simP (c := c) (s := SS fr lv) (o := o) (cl := cl) (f := f) (fs := fs) (cs := cs) (d := d) (lv' := lvT' lv1) hop (by rw [hP, hG]; exact c1) (by rw [hP]; exact c2) ho (by rw [hP, hG]; exact d2)
      | plain =>
        rw [ek] at h1
        have h1' : opK P o.op (valsT G fr o.op.operands.toList) lv nx (fun x us _ => nxK nx us fun nx' => putK' o.dst x fr fun fr => wrK us lv lg fun lv lg => opsK P G call ops os fr lv nx' lg k) = r := h1
        obtain ⟨x, us, rds, h2, hdo⟩ := opK_ok h1' hg
        have h2' : nxK nx us (fun nx' => putK' o.dst x fr fun fr => wrK us lv lg fun lv lg => opsK P G call ops os fr lv nx' lg k) = r := h2
        obtain ⟨nx1, h3⟩ := nxK_ok h2'
        have h3' : putK' o.dst x fr (fun fr => wrK us lv lg fun lv lg => opsK P G call ops os fr lv nx1 lg k) = r := h3
        obtain ⟨fr1, h4, e1⟩ := putK'_ok h3'
        have h4' : wrK us lv lg (fun lv lg => opsK P G call ops os fr1 lv nx1 lg k) = r := h4
        obtain ⟨lv1, l1, h5, e2, e3, e4⟩ := wrK_ok h4' hg ho
        obtain ⟨e, fr', lv', nx', l, q1, q2, q3, q4⟩ := opsK_ok hc h5 hg e3
        have hdf : ∀ cl', o.op ≠ .defer cl' := fun cl' h => by
          rw [h] at hdo
          rcases hdo with ⟨vc, g1, _⟩ | g1
          · simp [stepF] at g1
          · simp [stepN] at g1
        refine ⟨e, fr', lv', nx', l ++ l1, by rw [List.append_assoc]; exact q1, q2, e4.trans q3, RegDoes.cons hw hdf (s1 := SS fr1 lv1) (fun c hP hG hd => ?_) q4⟩
        have hsim := (OpDoes.sim (c := c) (o := o) (s := SS fr lv) (κ := nx) (x := x) (us := us) (rds := rds) hd (by
          rw [hP, hG]; rw [valsT_eq G fr (lvT' lv)] at hdo; exact hdo)).un
        have : LSt.put ⟨(SS fr lv).fr, updL (SS fr lv).lv (unU us)⟩ o.dst x = SS fr1 lv1 := by
          rw [putF_put]; show LSt.mk (putF o.dst x (frT' fr)) (updL (lvT' lv) (unU us)) = _; rw [← e1, ← e2]; rfl
        rw [this] at hsim; exact hsim
end

noncomputable def toFw (P : Program) (f : Rec) : Fw := ⟨⟨f.x, unU f.us, f.rds⟩, lvT' f.lv, f.all, softB P f⟩

theorem okB_un {b : LB} (h : b.okB = true) : b.un = b := by
  cases b with
  | cells own fz T cs => simp only [LB.okB, Bool.and_eq_true, Bool.not_eq_true'] at h; simp only [LB.un, h.1]
  | map own es => simp only [LB.okB, Bool.not_eq_true'] at h; simp only [LB.un, h]
  | _ => rfl

theorem unU_nil {us : List (Key × LB)} : unU us = [] ↔ us = [] := by cases us <;> simp [unU]

theorem agree_un {lv lv' : Key → LB} {us : List (Key × LB)} {rds : List Key} (h : Agree lv lv' (unU us) rds) : Agree lv lv' us rds :=
  ⟨h.1, fun p hp => h.2 (p.1, p.2.un) (List.mem_map_of_mem (f := fun p : Key × LB => (p.1, p.2.un)) hp)⟩

theorem logU {lv lv' : Tb LB} {l : List Key} (h : LgOK lv lv' l) (ho : AllOk (lvT' lv')) : updL (lvT' lv) (unU (l.map fun q => (q, lvT' lv' q))) = lvT' lv' := by
  have key : ∀ (m : List Key) (f : Key → LB), (∀ k, k ∉ m → f k = lvT' lv' k) → updL f (unU (m.map fun q => (q, lvT' lv' q))) = lvT' lv' := by
    intro m
    induction m with
    | nil => intro f hf; funext k; exact hf k (by simp)
    | cons q m ih =>
      intro f hf
      show updL (upd f q (lvT' lv' q).un) _ = _
      refine ih _ fun k hk => ?_
      by_cases e : k = q
      · subst e; rw [upd_same, okB_un (ho k)]
      · rw [upd_ne _ _ e]; grind
  exact key l _ fun k hk => (h k hk).symm

section
variable {P : Program} {G : List (List DV)}

theorem EffP.skip {c : Ctx} {ops : Array Oper} {o : Oper} {s0 : LSt} {ok : (Key → LB) → Prop} (hd : ∀ d, o.dst = some d → d < c.n) (hw : wantA ops o.guard s0.fr = some false) : EffP c none ops o s0 ⟨.undef, [], []⟩ ok := by
  intro s h1 _ F β a w K Q h hK
  rw [wantA_sound h ((want_congr h1).trans hw)]
  simp only [Bool.false_eq_true, if_false]
  exact hK F β _ _ (h.putD hd (undef_junk _))

theorem EffP.of_sim {c : Ctx} {ops : Array Oper} {o : Oper} {s0 : LSt} {e : Fx} {ok : (Key → LB) → Prop} (hw : wantA ops o.guard s0.fr = some true) (hdf : ∀ cl, o.op ≠ .defer cl)
    (hs : ∀ s : LSt, (∀ x ∈ o.op.operands.toList, s.val c.G x = s0.val c.G x) → ok s.lv → Sim c o s (e.app o.dst s)) : EffP c none ops o s0 e ok := by
  intro s h1 h2 F β a w K Q h hK
  rw [wantA_sound h ((want_congr h1).trans hw)]
  simp only [if_true]
  exact wpIn_fen hdf (hs s (vals_congr h1) h2 F β a w K Q h hK)

theorem softB_ok {f : Rec} {k : Key} {b : LB} (h : softB P f k b = true) : ∃ vc, stepF P f.op f.vals (upd (lvT' f.lv) k b) f.nx = some (f.x, [], [k], vc) ∧ vc := by
  unfold softB at h
  split at h
  · rename_i x k' he
    simp only [Bool.and_eq_true] at h
    have e1 := AV.beq_eq h.1
    have e2 := Nat.eq_of_beq_eq_true h.2
    subst e1; subst e2
    exact bsOK P _ _ _ _ _ _ _ he
  grind

theorem defer_op {P : Program} {op : Op} {vals : List AV} {lv : Key → LB} {κ : Nat} {x : AV} {us : List (Key × LB)} {rds : List Key} (h : OpDoes P op vals lv κ x us rds) : ∀ cl, op ≠ .defer cl := by
  intro cl e; rw [e] at h
  rcases h with ⟨vc, g1, _⟩ | g1
  · simp [stepF] at g1
  · simp [stepN] at g1

theorem EffP.plain {c : Ctx} (hP : c.P = P) (hG : c.G = G) {ops : Array Oper} {o : Oper} {fr : Tb AV} {lv : Tb LB} {nx : Nat} {x : AV} {us : List (Key × LB)} {rds : List Key} (hd : ∀ d, o.dst = some d → d < c.n) (hw : wantA ops o.guard (frT' fr) = some true)
    (h : OpDoes P o.op (valsT G fr o.op.operands.toList) (lvT' lv) nx x us rds) :
    EffP c none ops o (SS fr lv) (toFw P ⟨x, us, rds, false, lv, o.op, valsT G fr o.op.operands.toList, nx⟩).e (toFw P ⟨x, us, rds, false, lv, o.op, valsT G fr o.op.operands.toList, nx⟩).ok := by
  refine EffP.of_sim hw (defer_op h) fun s hv hok => ?_
  have hvals : valsT G fr o.op.operands.toList = o.op.operands.toList.map (s.val c.G) := by
    rw [valsT_eq G fr (lvT' lv), hG]
    exact List.map_congr_left fun y hy => by rw [← hG]; exact (hv y hy).symm
  have fin : ∀ us', us' = us → OpDoes P o.op (o.op.operands.toList.map (s.val c.G)) s.lv nx x us' rds → Sim c o s (Fx.app ⟨x, unU us, rds⟩ o.dst s) := by
    intro us' e h'
    subst e
    exact (OpDoes.sim hd (by rw [hP]; exact h')).un
  rw [hvals] at h
  rcases hok with ⟨h1, _⟩ | ⟨_, h1 | ⟨h1, k, h2, h3⟩⟩
  · cases h1
  · exact fin us rfl (h.local (agree_un h1))
  · have hu : us = [] := unU_nil.1 h1
    obtain ⟨vc, g1, g2⟩ := softB_ok h3
    simp only at g1
    have h2' : rds = [k] := h2
    rw [hvals] at g1
    have g3 := stepF_local (lv' := s.lv) g1 ⟨fun j hj => by rw [List.mem_singleton.1 hj, upd_same], fun p hp => by cases hp⟩
    exact fin [] hu.symm (.inl ⟨vc, by grind, g2⟩)

theorem EffP.callAll {c : Ctx} (hP : c.P = P) (hG : c.G = G) {ops : Array Oper} {o : Oper} {cl : Call} {fr : Tb AV} {lv lv' : Tb LB} {l : List Key} {nx : Nat} {f : FuncId} {fs cs : List AV} {x : AV} (hd : ∀ d, o.dst = some d → d < c.n) (hw : wantA ops o.guard (frT' fr) = some true)
    (hop : o.op = .call cl) (ht : tgtC P ((SS fr lv).val G) cl.callee = some (f, fs, cs)) (hf : isFn P f = true) (ho : AllOk (lvT' lv)) (ho' : AllOk (lvT' lv')) (hl : LgOK lv lv' l)
    (hc : CallG P G f (fs ++ cl.args.toList.map ((SS fr lv).val G) ++ cs) (lvT' lv) (.ret x (lvT' lv'))) :
    EffP c none ops o (SS fr lv) (toFw P ⟨x, l.map fun q => (q, lvT' lv' q), [], true, lv, o.op, [], nx⟩).e (toFw P ⟨x, l.map fun q => (q, lvT' lv' q), [], true, lv, o.op, [], nx⟩).ok := by
  refine EffP.of_sim hw (fun cl' h => by rw [hop] at h; cases h) fun s hv hok => ?_
  rcases hok with ⟨_, h1⟩ | ⟨h1, _⟩
  · have h1' : s.lv = lvT' lv := h1
    obtain ⟨e1, hargs⟩ := tgtC_congr (P := P) (cl := cl) (val := s.val c.G) (val' := (SS fr lv).val c.G) (fun y hy => hv y (by rw [hop]; exact hy))
    have hsim := CallG.sim (c := c) (s := s) (o := o) (cl := cl) (f := f) (fs := fs) (cs := cs) (x := x) (lv' := lvT' lv') hd hop (by rw [hP, e1, hG]; exact ht) (by rw [hP]; exact hf) (by rw [h1']; exact ho) (by rw [hP, hargs, hG, h1']; exact hc)
    have : Fx.app ⟨x, unU (l.map fun q => (q, lvT' lv' q)), []⟩ o.dst s = LSt.put ⟨s.fr, lvT' lv'⟩ o.dst x := by
      unfold Fx.app; simp only; rw [h1', logU hl ho']
    show Sim c o s (Fx.app ⟨x, unU (l.map fun q => (q, lvT' lv' q)), []⟩ o.dst s)
    rw [this]; exact hsim
  · cases h1

theorem EffP.of_EffOK {c : Ctx} {ops : Array Oper} {o : Oper} {s0 : LSt} {x : AV} {us : List (Key × LB)} {rds : List Key} {ok : (Key → LB) → Prop} (h : EffOK c none ops o s0 ⟨x, us, rds⟩) (hok : ∀ lv, ok lv → Agree s0.lv lv us rds) :
    EffP c none ops o s0 ⟨x, unU us, rds⟩ ok := by
  intro s h1 h2 F β a w K Q hs hK
  refine h s h1 (hok _ h2) F β a w K Q hs fun F' β' a' w' h' => hK F' β' a' w' ?_
  have hl : ∀ k, updL s.lv (unU us) k = updL s.lv us k ∨ updL s.lv (unU us) k = (updL s.lv us k).un := updL_unU (fun _ => .inl rfl)
  unfold Fx.app at h' ⊢
  simp only at h' ⊢
  cases hd : o.dst with
  | none => rw [hd] at h'; exact StOK.forget h' hl
  | some d => rw [hd] at h'; exact StOK.forget h' hl

/-! ### a call that is handed its blocks alone -/

theorem blksK_ok : ∀ {σ : List LB} {i : Nat} {lv : Tb LB} {k : Tb LB → Res} {r : Res}, blksK σ i lv k = r →
    ∃ lv', k lv' = r ∧ ∀ j : Nat, lvT' lv' j = if i ≤ j ∧ j < i + σ.length then (σ.getD (j - i) .hole).un else lvT' lv j
  | [], i, lv, k, r, h => ⟨lv, h, fun j => by grind⟩
  | b :: σ, i, lv, k, r, h => by
    have h1 : (forceB b fun x => Tb.setK .hole x (pathOf i) lv fun lv => blksK σ (Nat.succ i) lv k) = r := h
    rw [forceB_eq, Tb.setK_eq] at h1
    obtain ⟨lv', e1, e2⟩ := blksK_ok h1
    refine ⟨lv', e1, fun j => ?_⟩
    rw [e2 j, lvT'_set]
    by_cases hj : j = i
    · subst hj
      rw [if_neg (by omega), if_pos (by simp), upd_same]; simp
    · rw [upd_ne _ _ hj]
      grind

theorem Good.done {x : AV} {lv : Tb LB} {nx : Nat} {lg : List Key} : Good (.done x lv nx lg) := fun _ _ h => by cases h
theorem Good.pan' {x : DV} {lv : Tb LB} {nx : Nat} {lg : List Key} : Good (.pan x lv nx lg) := fun _ _ h => by cases h

theorem pass_unOk {b : LB} (h : b.pass = true) : b.un = b ∧ b.okB = true := by
  cases b with
  | cells own fz T cs =>
    simp only [LB.pass, Bool.and_eq_true, Bool.not_eq_true'] at h
    simp [LB.un, LB.okB, h.1, h.2]
  | map own es => simp only [LB.pass, Bool.not_eq_true'] at h; simp [LB.un, LB.okB, h]
  | dead => cases h
  | _ => simp [LB.un, LB.okB]

theorem callDK_ok {call : EvCall2} (hc : CallOK P G call) {op : Op} {cl : Call} {fo : Operand} {fr : Tb AV} {lv : Tb LB} {nx : Nat} {k : AV → List (Key × LB) → List Key → Nat → Res} {r : Res}
    (h : callDK P G call op cl fo fr lv nx k = r) (hg : Good r) :
    ∃ f fs cs x us rds nx', tgtC P ((SS fr lv).val G) cl.callee = some (f, fs, cs) ∧ isFn P f = true ∧ k x us rds nx' = r ∧
      ∀ c : Ctx, c.P = P → c.G = G → CallEff c f (fs ++ cl.args.toList.map ((SS fr lv).val G) ++ cs) (lvT' lv) x us rds := by
  unfold callDK at h
  obtain ⟨⟨f, fs, cs⟩, h1, h2⟩ := optK_some h hg.ne
  obtain ⟨h3, h4⟩ := boolK_true h2 hg.ne
  obtain ⟨q, h5, h6⟩ := optK_some h4 hg.ne
  obtain ⟨l0, h7, h8⟩ := blksK_ok h6
  simp only at h7 h5
  rw [show valT G fr = (SS fr lv).val G from funext (valT_eq G fr (lvT' lv))] at h1
  rw [valsT_eq G fr (lvT' lv)] at h5 h7
  -- the inner run
  cases hin : call f q.us l0 1000 [] .done .pan with
  | bad n o => rw [hin] at h7; exact absurd h7 hg.ne
  | pan d lv' nx' lg' => rw [hin] at h7; exact absurd h7 hg.ne
  | done x lv' n' lg =>
    rw [hin] at h7
    have h9 : backK lv nx (fs ++ cl.args.toList.map ((SS fr lv).val G) ++ cs) q x lv' n' lg k = r := h7
    unfold backK at h9
    obtain ⟨h10, h11⟩ := boolK_true h9 hg.ne
    rw [Bool.and_eq_true, Bool.and_eq_true] at h10
    obtain ⟨⟨g1, g2⟩, g3⟩ := h10
    have hpass : ∀ b ∈ q.σ, b.pass = true := by
      unfold passOk at g2
      simp only [Bool.and_eq_true, List.all_eq_true] at g2
      exact g2.1.1.1.1.1.2
    have hlen : q.σ.length ≤ 1000 := by
      unfold passOk at g2
      simp only [Bool.and_eq_true] at g2
      exact Nat.le_of_ble_eq_true g2.2
    have hl0 : lvT' l0 = lvOf q.σ [] := by
      refine funext fun (j : Nat) => ?_
      rw [h8 j]
      unfold lvOf
      by_cases hj : j < 1000
      · rw [if_pos hj]
        by_cases hj2 : j < q.σ.length
        · rw [if_pos ⟨Nat.zero_le _, by omega⟩, Nat.sub_zero, getD_lt hj2]
          exact (pass_unOk (hpass _ (List.getElem_mem hj2))).1
        · rw [if_neg (by omega), getD_ge hj2]
          show Tb.get LB.hole .leaf _ = _
          exact Tb.get_leaf _ _
      · rw [if_neg hj, if_neg (by omega)]
        show Tb.get LB.hole .leaf _ = _
        rw [Tb.get_leaf]; simp
    have hall0 : AllOk (lvT' l0) := by
      intro (j : Nat); rw [hl0]; unfold lvOf
      split
      · by_cases hj2 : j < q.σ.length
        · rw [getD_lt hj2]; exact (pass_unOk (hpass _ (List.getElem_mem hj2))).2
        · rw [getD_ge hj2]; rfl
      · simp [LB.okB]
    have hcall := hc f q.us l0 1000 [] .done .pan _ hin Good.done hall0
    rcases hcall with ⟨x', lv'', nx'', l, e1, e2, e3, e4⟩ | ⟨d, lv'', nx'', l, e1, _⟩
    · simp only [Res.done.injEq, List.append_nil] at e1
      obtain ⟨rfl, rfl, rfl, rfl⟩ := e1
      have hlv' : lvT' lv'' = lvOf ((upFrom 0 q.σ.length).map (lvT' lv'')) ((upFrom 1000 (nx'' - 1000)).map (lvT' lv'')) := by
        refine funext fun (j : Nat) => ?_
        have hcl : j ∉ l → lvT' lv'' j = lvOf q.σ [] j := fun hj => by rw [e4 j hj, hl0]
        have hlog : j ∈ l → j < q.σ.length ∨ (1000 ≤ j ∧ j < nx'') := by
          intro hj
          have := List.all_eq_true.1 g1 j hj
          simp only [Bool.or_eq_true, Bool.and_eq_true, Nat.blt] at this
          rcases this with h | ⟨h, h'⟩
          · exact .inl (Nat.le_of_ble_eq_true h)
          · exact .inr ⟨Nat.le_of_ble_eq_true h, Nat.le_of_ble_eq_true h'⟩
        unfold lvOf
        by_cases hj : j < 1000
        · rw [if_pos hj]
          by_cases hj2 : j < q.σ.length
          · rw [getD_lt (by simpa [upFrom_len] using hj2)]
            simp [upFrom_get]
          · rw [getD_ge (by simpa [upFrom_len] using hj2)]
            have : j ∉ l := fun hm => by rcases hlog hm with h | h <;> omega
            rw [hcl this]; unfold lvOf; rw [if_pos hj, getD_ge hj2]
        · rw [if_neg hj]
          by_cases hj2 : j - 1000 < nx'' - 1000
          · rw [getD_lt (by simpa [upFrom_len] using hj2)]
            simp only [List.getElem_map, upFrom_get]
            have : 1000 + (j - 1000) = j := by omega
            rw [this]
          · rw [getD_ge (by simpa [upFrom_len] using hj2)]
            have : j ∉ l := fun hm => by rcases hlog hm with h | h <;> omega
            rw [hcl this]; unfold lvOf; rw [if_neg hj]; simp
      have hS : CallsS P G f q.us q.σ (.ret x' ((upFrom 0 q.σ.length).map (lvT' lv'')) ((upFrom 1000 (nx'' - 1000)).map (lvT' lv''))) := by
        intro F β w vs hS hvl hv
        rw [hl0] at e2
        have := e2 F β w vs hS hvl hv
        rw [hlv'] at this
        exact this
      refine ⟨f, fs, cs, _, _, _, _, h1, h3, h11, fun c hP hG => ?_⟩
      exact CallEff.pass h5 g2 g3 (by rw [hP, hG]; exact hS)
    · cases e1
end

section
variable {P : Program} {G : List (List DV)}

theorem nilB_iff {α : Type} {l : List α} : nilB l = true ↔ l = [] := by cases l <;> simp [nilB]
theorem oneB_ok {k : Key} {l : List Key} (h : oneB k l = true) : l = [k] := by
  unfold oneB at h
  split at h
  · simp_all
  grind

theorem app_toFw (P : Program) (f : Rec) (d : Option Nat) (fr : Nat → AV) (lv : Key → LB) : (toFw P f).e.app d ⟨fr, lv⟩ = ⟨putF d f.x fr, updL lv (unU f.us)⟩ := by
  show LSt.put ⟨fr, updL lv (unU f.us)⟩ d f.x = _
  rw [putF_put]

theorem apartB_ok {f g : Rec} (h : apartB P f g = true) : (toFw P f).apart (toFw P g) := by
  unfold apartB at h
  simp only [Bool.and_eq_true, Bool.or_eq_true, Bool.not_eq_true', List.all_eq_true] at h
  obtain ⟨⟨⟨⟨h1, h2⟩, h3⟩, h4⟩, h5⟩ := h
  have hmem : ∀ {us : List (Key × LB)} {k : Key}, k ∈ (unU us).map (·.1) → ∃ p ∈ us, p.1 = k := by
    intro us k hk; rw [unU_keys] at hk; simpa using hk
  refine ⟨fun ha => ?_, fun ha => ?_, ?_, ?_, ?_⟩
  · rcases h1 with h1 | h1
    · have : f.all = true := ha
      grind
    · exact unU_nil.2 (nilB_iff.1 h1)
  · rcases h2 with h2 | h2
    · have : g.all = true := ha
      grind
    · exact unU_nil.2 (nilB_iff.1 h2)
  · intro k hk hk'
    obtain ⟨p, hp, rfl⟩ := hmem hk
    obtain ⟨q, hq, e⟩ := hmem hk'
    have := h3 p hp
    rw [List.any_eq_false] at this
    exact this q hq (by simp_all)
  · intro k hk
    obtain ⟨p, hp, rfl⟩ := hmem hk
    rcases h4 p hp with h | h
    · left; intro hm; have hm' : p.1 ∈ g.rds := hm; rw [memB_iff.2 hm'] at h; cases h
    · right; exact ⟨unU_nil.2 (nilB_iff.1 h.1.1), oneB_ok h.1.2, h.2⟩
  · intro k hk
    obtain ⟨p, hp, rfl⟩ := hmem hk
    rcases h5 p hp with h | h
    · left; intro hm; have hm' : p.1 ∈ f.rds := hm; rw [memB_iff.2 hm'] at h; cases h
    · right; exact ⟨unU_nil.2 (nilB_iff.1 h.1.1), oneB_ok h.1.2, h.2⟩

theorem idle_apart {f g : Rec} (h : Rec.idle f = true ∨ Rec.idle g = true ∨ (Rec.quiet f = true ∧ Rec.quiet g = true)) : (toFw P f).apart (toFw P g) := by
  have key : ∀ {us : List (Key × LB)}, us = [] → unU us = [] := fun h => unU_nil.2 h
  rcases h with h | h | ⟨h, h'⟩
  · unfold Rec.idle at h
    simp only [Bool.and_eq_true, Bool.not_eq_true'] at h
    have h1 := key (nilB_iff.1 h.1.1)
    have h2 := nilB_iff.1 h.1.2
    refine ⟨fun ha => ?_, fun _ => h1, ?_, ?_, ?_⟩
    · have : f.all = true := ha
      grind
    · intro k hk; have : (toFw P f).e.us = [] := h1
      grind
    · intro k hk; have : (toFw P f).e.us = [] := h1
      grind
    · intro k _; left; have : (toFw P f).e.rds = [] := h2
      grind
  · unfold Rec.idle at h
    simp only [Bool.and_eq_true, Bool.not_eq_true'] at h
    have h1 := key (nilB_iff.1 h.1.1)
    have h2 := nilB_iff.1 h.1.2
    refine ⟨fun _ => h1, fun ha => ?_, ?_, ?_, ?_⟩
    · have : g.all = true := ha
      grind
    · intro k _ hk; have : (toFw P g).e.us = [] := h1
      grind
    · intro k _; left; have : (toFw P g).e.rds = [] := h2
      grind
    · intro k hk; have : (toFw P g).e.us = [] := h1
      grind
  · unfold Rec.quiet at h h'
    simp only [Bool.and_eq_true, Bool.not_eq_true'] at h h'
    have h1 := key (nilB_iff.1 h.1)
    have h2 := key (nilB_iff.1 h'.1)
    refine ⟨fun _ => h2, fun _ => h1, ?_, ?_, ?_⟩
    · intro k hk; have : (toFw P f).e.us = [] := h1
      grind
    · intro k hk; have : (toFw P f).e.us = [] := h1
      grind
    · intro k hk; have : (toFw P g).e.us = [] := h2
      grind

theorem pairs_ok {ms : List Nat} : ∀ {r : List Rec} {j0 : Nat} {before : List (Nat × Rec)}, indB.pairs P ms r j0 before = true →
    (∀ (j : Nat) g, r[j]? = some g → ∀ p ∈ before, (ms.getD (j0 + j) 0).testBit p.1 = true ∨ (toFw P p.2).apart (toFw P g)) ∧
    (∀ (i j : Nat) f g, i < j → r[i]? = some f → r[j]? = some g → (ms.getD (j0 + j) 0).testBit (j0 + i) = true ∨ (toFw P f).apart (toFw P g))
  | [], j0, before, h => ⟨fun j g hg => by simp at hg, fun i j f g _ hf => by simp at hf⟩
  | a :: r, j0, before, h => by
    unfold indB.pairs at h
    cases hi : Rec.idle a with
    | true =>
      rw [hi] at h; simp only [cond_true] at h
      obtain ⟨h1, h2⟩ := pairs_ok h
      refine ⟨fun j g hg p hp => ?_, fun i j f g hij hf hg => ?_⟩
      · cases j with
        | zero => simp only [List.getElem?_cons_zero, Option.some.injEq] at hg; subst hg; exact .inr (idle_apart (.inr (.inl hi)))
        | succ j =>
          grind
      · cases j with
        | zero => omega
        | succ j =>
          cases i with
          | zero => simp only [List.getElem?_cons_zero, Option.some.injEq] at hf; subst hf; exact .inr (idle_apart (.inl hi))
          | succ i =>
            grind
    | false =>
      rw [hi] at h; simp only [cond_false, Bool.and_eq_true, List.all_eq_true, Bool.or_eq_true] at h
      obtain ⟨h0, h⟩ := h
      obtain ⟨h1, h2⟩ := pairs_ok h
      refine ⟨fun j g hg p hp => ?_, fun i j f g hij hf hg => ?_⟩
      · cases j with
        | zero =>
          simp only [List.getElem?_cons_zero, Option.some.injEq] at hg; subst hg
          rcases h0 p hp with (h3 | h3) | h3
          · exact .inr (idle_apart (.inr (.inr ⟨h3.2, h3.1⟩)))
          · grind
          · exact .inr (apartB_ok h3)
        | succ j =>
          grind
      · cases j with
        | zero => omega
        | succ j =>
          have e : j0 + 1 + j = j0 + (j + 1) := by omega
          cases i with
          | zero =>
            simp only [List.getElem?_cons_zero, Option.some.injEq] at hf; subst hf
            have := h1 j g (by grind) (j0, a) (List.mem_cons_self ..)
            grind
          | succ i =>
            grind

/-- What a region that draws does. -/
theorem drawK_ok {call : EvCall2} (hc : CallOK P G call) {ops : Array Oper} : ∀ {os : List Oper} {fr : Tb AV} {lv : Tb LB} {nx : Nat} {lg : List Key} {acc : List Rec} {k : List Rec → Tb AV → Tb LB → Nat → List Key → Res} {r : Res},
    drawK P G call ops os fr lv nx lg acc k = r → Good r → AllOk (lvT' lv) →
    ∃ (rs : List Rec) (fr' : Tb AV) (lv' : Tb LB) (nx' : Nat) (l : List Key), k (rs.reverse ++ acc) fr' lv' nx' (l ++ lg) = r ∧ AllOk (lvT' lv') ∧ LgOK lv lv' l ∧ ∀ c : Ctx, c.P = P → c.G = G → dstB c.n os = true → ChainW c none ops os (rs.map (toFw P)) (SS fr lv) (SS fr' lv')
  | [], fr, lv, nx, lg, acc, k, r, h, hg, ho => ⟨[], fr, lv, nx, [], h, ho, LgOK.refl _, fun c _ _ _ => rfl⟩
  | o :: os, fr, lv, nx, lg, acc, k, r, h, hg, ho => by
    have h0 : (optK (wantA ops o.guard (frT' fr)) (.bad 8 [o.op]) fun b =>
      boolK b (putK' o.dst .undef fr fun fr => drawK P G call ops os fr lv nx lg (⟨.undef, [], [], false, lv, o.op, [], nx⟩ :: acc) k)
        (OpK.rec (motive := fun _ => Res)
          (fun _ => .bad 9 [o.op])
          (fun cl fo => boolK (isoB ops)
            (callK P G call o.op cl fo fr lv nx [] (fun x lv' nx' lg' => forceA x fun x => putK' o.dst x fr fun fr => drawK P G call ops os fr lv' nx' (lg' ++ lg) (⟨x, lg'.map fun q => (q, lvT' lv' q), [], true, lv, o.op, [], nx⟩ :: acc) k) (fun _ _ _ _ => .bad 10 [o.op]))
            (callDK P G call o.op cl fo fr lv nx fun x us rds nx' => forceA x fun x => putK' o.dst x fr fun fr => wrK us lv lg fun lv' lg => drawK P G call ops os fr lv' nx' lg (⟨x, us, rds, false, lv, o.op, [], nx⟩ :: acc) k))
          (opK P o.op (valsT G fr o.op.operands.toList) lv nx fun x us rds => nxK nx us fun nx' => forceA x fun x => putK' o.dst x fr fun fr' => wrK us lv lg fun lv' lg => drawK P G call ops os fr' lv' nx' lg (⟨x, us, rds, false, lv, o.op, valsT G fr o.op.operands.toList, nx⟩ :: acc) k)
          (opKd o.op))) = r := h
    obtain ⟨b, hw, h1⟩ := optK_some h0 hg.ne
    cases b with
    | false =>
      have h1' : putK' o.dst .undef fr (fun fr => drawK P G call ops os fr lv nx lg (⟨.undef, [], [], false, lv, o.op, [], nx⟩ :: acc) k) = r := h1
      obtain ⟨fr1, h2, e1⟩ := putK'_ok h1'
      obtain ⟨rs, fr', lv', nx', l, q1, q2, q3, q4⟩ := drawK_ok hc h2 hg ho
      refine ⟨⟨.undef, [], [], false, lv, o.op, [], nx⟩ :: rs, fr', lv', nx', l, by simpa using q1, q2, q3, fun c hP hG hd => ?_⟩
      obtain ⟨hd1, hd2⟩ := dstB_cons hd
      refine ⟨EffP.skip hd1 hw, rfl, ?_⟩
      have : (toFw P ⟨.undef, [], [], false, lv, o.op, [], nx⟩).e.app o.dst (SS fr lv) = SS fr1 lv := by
        unfold SS; rw [app_toFw, ← e1]; rfl
      rw [this]; exact q4 c hP hG hd2
    | true =>
      cases ek : opKd o.op with
      | pan x => rw [ek] at h1; exact absurd h1 hg.ne
      | call cl fo =>
        rw [ek] at h1
        obtain ⟨hop, hcal⟩ := opKd_call ek
        have h1' : boolK (isoB ops)
            (callK P G call o.op cl fo fr lv nx [] (fun x lv' nx' lg' => forceA x fun x => putK' o.dst x fr fun fr => drawK P G call ops os fr lv' nx' (lg' ++ lg) (⟨x, lg'.map fun q => (q, lvT' lv' q), [], true, lv, o.op, [], nx⟩ :: acc) k) (fun _ _ _ _ => .bad 10 [o.op]))
            (callDK P G call o.op cl fo fr lv nx fun x us rds nx' => forceA x fun x => putK' o.dst x fr fun fr => wrK us lv lg fun lv' lg => drawK P G call ops os fr lv' nx' lg (⟨x, us, rds, false, lv, o.op, [], nx⟩ :: acc) k) = r := h1
        cases hi : isoB ops with
        | false =>
          rw [hi] at h1'
          have h2 : callK P G call o.op cl fo fr lv nx [] (fun x lv' nx' lg' => forceA x fun x => putK' o.dst x fr fun fr => drawK P G call ops os fr lv' nx' (lg' ++ lg) (⟨x, lg'.map fun q => (q, lvT' lv' q), [], true, lv, o.op, [], nx⟩ :: acc) k) (fun _ _ _ _ => .bad 10 [o.op]) = r := h1'
          obtain ⟨f, fs, cs, c1, c2, c3⟩ := callK_ok (fo := fo) hc h2 hg ho
          rcases c3 with ⟨x, lv1, nx1, l1, d1, d2, d3, d4⟩ | ⟨d, lv1, nx1, l1, d1, _⟩
          · rw [forceA_eq, List.append_nil] at d1
            have d1' : putK' o.dst x fr (fun fr => drawK P G call ops os fr lv1 nx1 (l1 ++ lg) (⟨x, l1.map fun q => (q, lvT' lv1 q), [], true, lv, o.op, [], nx⟩ :: acc) k) = r := d1
            obtain ⟨fr1, h3, e1⟩ := putK'_ok d1'
            obtain ⟨rs, fr', lv', nx', l, q1, q2, q3, q4⟩ := drawK_ok hc h3 hg d3
            refine ⟨⟨x, l1.map fun q => (q, lvT' lv1 q), [], true, lv, o.op, [], nx⟩ :: rs, fr', lv', nx', l ++ l1, by simpa [List.append_assoc] using q1, q2, d4.trans q3, fun c hP hG hd => ?_⟩
            obtain ⟨hd1, hd2⟩ := dstB_cons hd
            refine ⟨EffP.callAll hP hG hd1 hw hop c1 c2 ho d3 d4 d2, rfl, ?_⟩
            have : (toFw P ⟨x, l1.map fun q => (q, lvT' lv1 q), [], true, lv, o.op, [], nx⟩).e.app o.dst (SS fr lv) = SS fr1 lv1 := by
              unfold SS; rw [app_toFw, logU d4 d3, ← e1]
            rw [this]; exact q4 c hP hG hd2
          · exact absurd d1 hg.ne
        | true =>
          rw [hi] at h1'
          have h2 : callDK P G call o.op cl fo fr lv nx (fun x us rds nx' => forceA x fun x => putK' o.dst x fr fun fr => wrK us lv lg fun lv' lg => drawK P G call ops os fr lv' nx' lg (⟨x, us, rds, false, lv, o.op, [], nx⟩ :: acc) k) = r := h1'
          obtain ⟨f, fs, cs, x, us, rds, nx1, c1, c2, d1, c3⟩ := callDK_ok (fo := fo) hc h2 hg
          rw [forceA_eq] at d1
          have d1' : putK' o.dst x fr (fun fr => wrK us lv lg fun lv' lg => drawK P G call ops os fr lv' nx1 lg (⟨x, us, rds, false, lv, o.op, [], nx⟩ :: acc) k) = r := d1
          obtain ⟨fr1, h3, e1⟩ := putK'_ok d1'
          have h3' : wrK us lv lg (fun lv' lg => drawK P G call ops os fr1 lv' nx1 lg (⟨x, us, rds, false, lv, o.op, [], nx⟩ :: acc) k) = r := h3
          obtain ⟨lv1, l1, h5, e2, e3, e4⟩ := wrK_ok h3' hg ho
          obtain ⟨rs, fr', lv', nx', l, q1, q2, q3, q4⟩ := drawK_ok hc h5 hg e3
          refine ⟨⟨x, us, rds, false, lv, o.op, [], nx⟩ :: rs, fr', lv', nx', l ++ l1, by simpa [List.append_assoc] using q1, q2, e4.trans q3, fun c hP hG hd => ?_⟩
          obtain ⟨hd1, hd2⟩ := dstB_cons hd
          have heff : EffOK c none ops o (SS fr lv) ⟨x, us, rds⟩ := EffOK.call hd1 hw hop (by rw [hP, hG]; exact c1) (by rw [hP]; exact c2) (by rw [hG]; exact c3 c hP hG)
          refine ⟨EffP.of_EffOK heff (fun lv' hok => ?_), rfl, ?_⟩
          · rcases hok with ⟨h1, _⟩ | ⟨_, h1 | ⟨h1, j, h2, h3⟩⟩
            · cases h1
            · exact agree_un h1
            · exfalso
              obtain ⟨vc, g1, _⟩ := softB_ok h3
              simp only at g1
              rw [hop] at g1
              have g2 : stepB P cl [] (upd (lvT' lv) j (lv' j)) nx = some (x, [], [j], vc) := g1
              unfold stepB at g2; split at g2 <;> first | exact absurd (by assumption) (hcal _) | cases g2
          · have : (toFw P ⟨x, us, rds, false, lv, o.op, [], nx⟩).e.app o.dst (SS fr lv) = SS fr1 lv1 := by
              unfold SS; rw [app_toFw, ← e1, ← e2]
            rw [this]; exact q4 c hP hG hd2
      | plain =>
        rw [ek] at h1
        have h1' : opK P o.op (valsT G fr o.op.operands.toList) lv nx (fun x us rds => nxK nx us fun nx' => forceA x fun x => putK' o.dst x fr fun fr' => wrK us lv lg fun lv' lg => drawK P G call ops os fr' lv' nx' lg (⟨x, us, rds, false, lv, o.op, valsT G fr o.op.operands.toList, nx⟩ :: acc) k) = r := h1
        obtain ⟨x, us, rds, h2, hdo⟩ := opK_ok h1' hg
        have h2' : nxK nx us (fun nx' => forceA x fun x => putK' o.dst x fr fun fr' => wrK us lv lg fun lv' lg => drawK P G call ops os fr' lv' nx' lg (⟨x, us, rds, false, lv, o.op, valsT G fr o.op.operands.toList, nx⟩ :: acc) k) = r := h2
        obtain ⟨nx1, h3⟩ := nxK_ok h2'
        rw [forceA_eq] at h3
        obtain ⟨fr1, h4, e1⟩ := putK'_ok h3
        have h4' : wrK us lv lg (fun lv' lg => drawK P G call ops os fr1 lv' nx1 lg (⟨x, us, rds, false, lv, o.op, valsT G fr o.op.operands.toList, nx⟩ :: acc) k) = r := h4
        obtain ⟨lv1, l1, h5, e2, e3, e4⟩ := wrK_ok h4' hg ho
        obtain ⟨rs, fr', lv', nx', l, q1, q2, q3, q4⟩ := drawK_ok hc h5 hg e3
        refine ⟨⟨x, us, rds, false, lv, o.op, valsT G fr o.op.operands.toList, nx⟩ :: rs, fr', lv', nx', l ++ l1, by simpa [List.append_assoc] using q1, q2, e4.trans q3, fun c hP hG hd => ?_⟩
        obtain ⟨hd1, hd2⟩ := dstB_cons hd
        refine ⟨EffP.plain hP hG hd1 hw hdo, rfl, ?_⟩
        have : (toFw P ⟨x, us, rds, false, lv, o.op, valsT G fr o.op.operands.toList, nx⟩).e.app o.dst (SS fr lv) = SS fr1 lv1 := by
          unfold SS; rw [app_toFw, ← e1, ← e2]
        rw [this]; exact q4 c hP hG hd2

/-- What code does. -/
def CodeDoes (P : Program) (G : List (List DV)) (N : Nat) (x : Code) (s s' : LSt) (e : Ex) : Prop :=
  ∀ c : Ctx, c.P = P → c.G = G → c.n = N → ∀ F β a w, StOK c F β s a w → x.wpIn (fen none) 0 c.P (fun ex a' w' => ∃ F' β', StOK c F' β' s' a' w' ∧ ExOK e ex F' w') a w

def RunOK (P : Program) (G : List (List DV)) (x : Code) (run : RunT) : Prop := ∀ call, CallOK P G call → ∀ N fr lv nx lg k r, run call N fr lv nx lg k = r → Good r → AllOk (lvT' lv) →
  ∃ e fr' lv' nx' l, k e fr' lv' nx' (l ++ lg) = r ∧ AllOk (lvT' lv') ∧ LgOK lv lv' l ∧ CodeDoes P G N x (SS fr lv) (SS fr' lv') e

theorem region_ok (hm : P.follows .mixedOrders = true) (id : Nat) (ops : Array Oper) (dr : Bool) : RunOK P G (.region id ops dr) (m_region P G id ops dr) := by
  intro call hc N fr lv nx lg k r h hg ho
  have h0 : boolK (dstB N ops.toList) (.bad 11 []) (Bool.rec (motive := fun _ => Res) (opsK P G call ops ops.toList fr lv nx lg k)
    (boolK (statB ops) (.bad 12 []) (drawK P G call ops ops.toList fr lv nx lg [] fun acc fr lv nx lg => boolK (indB P (ancMasks ops.toList []) acc.reverse) (.bad 13 (ops.toList.map (·.op))) (k .normal fr lv nx lg))) dr) = r := h
  obtain ⟨hd, h1⟩ := boolK_true h0 hg.ne
  cases dr with
  | false =>
    obtain ⟨e, fr', lv', nx', l, q1, q2, q3, q4⟩ := opsK_ok hc h1 hg ho
    refine ⟨e, fr', lv', nx', l, q1, q2, q3, ?_⟩
    intro c hP hG hn F β a w hs
    refine wpIn_region ?_
    have := q4 c 0 _ hP hG (by grind) rfl (fun F' β' a' w' ex h1 h2 => (⟨F', β', h1, h2⟩ : ∃ F' β', StOK c F' β' (SS fr' lv') a' w' ∧ ExOK e ex F' w')) F β a w hs
    rw [List.range_eq_range']
    omega
  | true =>
    obtain ⟨hst, h2⟩ := boolK_true h1 hg.ne
    obtain ⟨rs, fr', lv', nx', l, q1, q2, q3, q4⟩ := drawK_ok hc h2 hg ho
    rw [List.append_nil, List.reverse_reverse] at q1
    obtain ⟨hi, h3⟩ := boolK_true q1 hg.ne
    refine ⟨.normal, fr', lv', nx', l, h3, q2, q3, ?_⟩
    intro c hP hG hn F β a w hs
    have hch := q4 c hP hG (by grind)
    have hp := pairs_ok (P := P) (ms := ancMasks ops.toList []) (r := rs) (j0 := 0) (before := []) hi
    unfold statB at hst
    simp only [Bool.and_eq_true, List.all_eq_true, List.mem_range] at hst
    obtain ⟨hs1, hs2⟩ := hst
    have hanc : ∀ i j, ((ancMasks ops.toList []).getD j 0).testBit i = true → Anc ops i j := ancMasks_sound ops.toList [] (by simp) (fun i j h => by simp at h)
    refine ChainW.draw (by grind) hch (fun i o ho ed hed hb => backL_sound ops.toList 0 rfl hs1 i o (Nat.zero_le _) ho ed hed hb) (fun i j o o' f g hij ho ho' hf hg => ?_)
      (fun F' β' a' w' h' => ⟨F', β', h', rfl⟩) hs
    grind

theorem CodeDoes.mono {N : Nat} {x : Code} {s s' : LSt} {e : Ex} (h : CodeDoes P G N x s s' e) {c : Ctx} (hP : c.P = P) (hG : c.G = G) (hn : c.n = N) {Q : Exit → Act → World → Prop}
    (hQ : ∀ F' β' a' w' ex, StOK c F' β' s' a' w' → ExOK e ex F' w' → Q ex a' w') {F : Nat → Prop} {β : Key → Nat} {a : Act} {w : World} (hs : StOK c F β s a w) : x.wpIn (fen none) 0 c.P Q a w :=
  wpIn_mono (h c hP hG hn F β a w hs) fun ex a' w' ⟨F', β', h1, h2⟩ => hQ F' β' a' w' ex h1 h2

theorem seq_ok {x y : Code} {a b : RunT} (ha : RunOK P G x a) (hb : RunOK P G y b) : RunOK P G (.seq x y) (m_seq x y a b) := by
  intro call hc N fr lv nx lg k r h hg ho
  obtain ⟨e, fr1, lv1, nx1, l1, q1, q2, q3, q4⟩ := ha call hc N fr lv nx lg _ r h hg ho
  cases e with
  | normal =>
    have q1' : b call N fr1 lv1 nx1 (l1 ++ lg) k = r := q1
    obtain ⟨e, fr', lv', nx', l, p1, p2, p3, p4⟩ := hb call hc N fr1 lv1 nx1 _ k r q1' hg q2
    refine ⟨e, fr', lv', nx', l ++ l1, by grind, p2, q3.trans p3, ?_⟩
    intro c hP hG hn F β ac w hs
    refine wpIn_seq (q4.mono hP hG hn (fun F' β' a' w' ex h1 h2 => ?_) hs)
    have : ex = .normal := h2
    subst this
    exact p4 c hP hG hn F' β' a' w' h1
  | exit id =>
    refine ⟨.exit id, fr1, lv1, nx1, l1, q1, q2, q3, fun c hP hG hn F β ac w hs => wpIn_seq (q4.mono hP hG hn (fun F' β' a' w' ex h1 h2 => ?_) hs)⟩
    have : ex = .exit id := h2
    subst this; exact ⟨F', β', h1, rfl⟩
  | goto id =>
    refine ⟨.goto id, fr1, lv1, nx1, l1, q1, q2, q3, fun c hP hG hn F β ac w hs => wpIn_seq (q4.mono hP hG hn (fun F' β' a' w' ex h1 h2 => ?_) hs)⟩
    have : ex = .goto id := h2
    subst this; exact ⟨F', β', h1, rfl⟩
  | ret =>
    refine ⟨.ret, fr1, lv1, nx1, l1, q1, q2, q3, fun c hP hG hn F β ac w hs => wpIn_seq (q4.mono hP hG hn (fun F' β' a' w' ex h1 h2 => ?_) hs)⟩
    have : ex = .ret := h2
    subst this; exact ⟨F', β', h1, rfl⟩
  | panic d =>
    refine ⟨.panic d, fr1, lv1, nx1, l1, q1, q2, q3, fun c hP hG hn F β ac w hs => wpIn_seq (q4.mono hP hG hn (fun F' β' a' w' ex h1 h2 => ?_) hs)⟩
    obtain ⟨v, rfl, hv⟩ := h2
    exact ⟨F', β', h1, v, rfl, hv⟩

theorem cond_ok {o : Operand} {x y : Code} {a b : RunT} (ha : RunOK P G x a) (hb : RunOK P G y b) : RunOK P G (.cond o x y) (m_cond G o x y a b) := by
  intro call hc N fr lv nx lg k r h hg ho
  have h0 : condK (valT G fr o) (b call N fr lv nx lg k) (a call N fr lv nx lg k) = r := h
  unfold condK at h0
  split at h0
  · rename_i t ht
    rw [valT_eq G fr (lvT' lv)] at ht
    cases t with
    | false =>
      obtain ⟨e, fr', lv', nx', l, p1, p2, p3, p4⟩ := hb call hc N fr lv nx lg k r h0 hg ho
      refine ⟨e, fr', lv', nx', l, p1, p2, p3, fun c hP hG hn F β ac w hs => ?_⟩
      have hv := hs.val o
      have ht' : (SS fr lv).val c.G o = .c (.d (.bool false)) := by rw [hG]; exact ht
      rw [ht'] at hv
      exact wpIn_cond_false (Vw.c_bool hv) (p4 c hP hG hn F β ac w hs)
    | true =>
      obtain ⟨e, fr', lv', nx', l, p1, p2, p3, p4⟩ := ha call hc N fr lv nx lg k r h0 hg ho
      refine ⟨e, fr', lv', nx', l, p1, p2, p3, fun c hP hG hn F β ac w hs => ?_⟩
      have hv := hs.val o
      have ht' : (SS fr lv).val c.G o = .c (.d (.bool true)) := by rw [hG]; exact ht
      rw [ht'] at hv
      exact wpIn_cond_true (Vw.c_bool hv) (p4 c hP hG hn F β ac w hs)
  · exact absurd h0 hg.ne

theorem block_ok {id : Nat} {x : Code} {a : RunT} (ha : RunOK P G x a) : RunOK P G (.block id x) (m_block id x a) := by
  intro call hc N fr lv nx lg k r h hg ho
  obtain ⟨e, fr1, lv1, nx1, l1, q1, q2, q3, q4⟩ := ha call hc N fr lv nx lg _ r h hg ho
  cases e with
  | normal =>
    refine ⟨.normal, fr1, lv1, nx1, l1, q1, q2, q3, fun c hP hG hn F β ac w hs => wpIn_block (q4.mono hP hG hn (fun F' β' a' w' ex h1 h2 => ?_) hs)⟩
    have : ex = .normal := h2
    subst this; exact ⟨F', β', h1, rfl⟩
  | exit i =>
    have q1' : Bool.rec (motive := fun _ => Res) (k (.exit i) fr1 lv1 nx1 (l1 ++ lg)) (k .normal fr1 lv1 nx1 (l1 ++ lg)) (Nat.beq i id) = r := q1
    cases hb : Nat.beq i id with
    | true =>
      rw [hb] at q1'
      have := Nat.eq_of_beq_eq_true hb
      subst this
      refine ⟨.normal, fr1, lv1, nx1, l1, q1', q2, q3, fun c hP hG hn F β ac w hs => wpIn_block (q4.mono hP hG hn (fun F' β' a' w' ex h1 h2 => ?_) hs)⟩
      have : ex = .exit i := h2
      subst this
      simp only [Exit.inBlock, if_true]
      exact ⟨F', β', h1, rfl⟩
    | false =>
      rw [hb] at q1'
      have hne := Nat.ne_of_beq_eq_false hb
      refine ⟨.exit i, fr1, lv1, nx1, l1, q1', q2, q3, fun c hP hG hn F β ac w hs => wpIn_block (q4.mono hP hG hn (fun F' β' a' w' ex h1 h2 => ?_) hs)⟩
      have : ex = .exit i := h2
      subst this
      simp only [Exit.inBlock, if_neg hne]
      grind
  | goto i =>
    refine ⟨.goto i, fr1, lv1, nx1, l1, q1, q2, q3, fun c hP hG hn F β ac w hs => wpIn_block (q4.mono hP hG hn (fun F' β' a' w' ex h1 h2 => ?_) hs)⟩
    have : ex = .goto i := h2
    subst this; exact ⟨F', β', h1, rfl⟩
  | ret =>
    refine ⟨.ret, fr1, lv1, nx1, l1, q1, q2, q3, fun c hP hG hn F β ac w hs => wpIn_block (q4.mono hP hG hn (fun F' β' a' w' ex h1 h2 => ?_) hs)⟩
    have : ex = .ret := h2
    subst this; exact ⟨F', β', h1, rfl⟩
  | panic d =>
    refine ⟨.panic d, fr1, lv1, nx1, l1, q1, q2, q3, fun c hP hG hn F β ac w hs => wpIn_block (q4.mono hP hG hn (fun F' β' a' w' ex h1 h2 => ?_) hs)⟩
    obtain ⟨v, rfl, hv⟩ := h2
    exact ⟨F', β', h1, v, rfl, hv⟩

theorem loop_ok {x : Code} {a : RunT} (ha : RunOK P G x a) : RunOK P G (.loop x) (m_loop x a) := by
  intro call hc N fr lv nx lg k r h hg ho
  have key : ∀ m (fr : Tb AV) (lv : Tb LB) (nx : Nat) (lg : List Key), loopK a call N m fr lv nx lg k = r → AllOk (lvT' lv) →
      ∃ e fr' lv' nx' l, k e fr' lv' nx' (l ++ lg) = r ∧ AllOk (lvT' lv') ∧ LgOK lv lv' l ∧
        ∀ c : Ctx, c.P = P → c.G = G → c.n = N → ∀ F β ac w, StOK c F β (SS fr lv) ac w → Code.roundsIn (fen none) 0 c.P x (fun ex a' w' => ∃ F' β', StOK c F' β' (SS fr' lv') a' w' ∧ ExOK e ex F' w') m ac w := by
    intro m
    induction m with
    | zero => intro fr lv nx lg h _; exact absurd h hg.ne
    | succ m ih =>
      intro fr lv nx lg h ho
      obtain ⟨e, fr1, lv1, nx1, l1, q1, q2, q3, q4⟩ := ha call hc N fr lv nx lg _ r h hg ho
      cases e with
      | normal =>
        have q1' : loopK a call N m fr1 lv1 nx1 (l1 ++ lg) k = r := q1
        obtain ⟨e, fr', lv', nx', l, p1, p2, p3, p4⟩ := ih fr1 lv1 nx1 _ q1' q2
        refine ⟨e, fr', lv', nx', l ++ l1, by grind, p2, q3.trans p3, fun c hP hG hn F β ac w hs => ?_⟩
        rw [roundsIn_succ]
        refine q4.mono hP hG hn (fun F' β' a' w' ex h1 h2 => ?_) hs
        have : ex = .normal := h2
        subst this
        exact p4 c hP hG hn F' β' a' w' h1
      | exit i =>
        refine ⟨.exit i, fr1, lv1, nx1, l1, q1, q2, q3, fun c hP hG hn F β ac w hs => ?_⟩
        rw [roundsIn_succ]
        refine q4.mono hP hG hn (fun F' β' a' w' ex h1 h2 => ?_) hs
        have : ex = .exit i := h2
        subst this; exact ⟨F', β', h1, rfl⟩
      | goto i =>
        refine ⟨.goto i, fr1, lv1, nx1, l1, q1, q2, q3, fun c hP hG hn F β ac w hs => ?_⟩
        rw [roundsIn_succ]
        refine q4.mono hP hG hn (fun F' β' a' w' ex h1 h2 => ?_) hs
        have : ex = .goto i := h2
        subst this; exact ⟨F', β', h1, rfl⟩
      | ret =>
        refine ⟨.ret, fr1, lv1, nx1, l1, q1, q2, q3, fun c hP hG hn F β ac w hs => ?_⟩
        rw [roundsIn_succ]
        refine q4.mono hP hG hn (fun F' β' a' w' ex h1 h2 => ?_) hs
        have : ex = .ret := h2
        subst this; exact ⟨F', β', h1, rfl⟩
      | panic d =>
        refine ⟨.panic d, fr1, lv1, nx1, l1, q1, q2, q3, fun c hP hG hn F β ac w hs => ?_⟩
        rw [roundsIn_succ]
        refine q4.mono hP hG hn (fun F' β' a' w' ex h1 h2 => ?_) hs
        obtain ⟨v, rfl, hv⟩ := h2
        exact ⟨F', β', h1, v, rfl, hv⟩
  obtain ⟨e, fr', lv', nx', l, p1, p2, p3, p4⟩ := key 1000000 fr lv nx lg h ho
  exact ⟨e, fr', lv', nx', l, p1, p2, p3, fun c hP hG hn F β ac w hs => wpIn_loop_rounds _ (p4 c hP hG hn F β ac w hs)⟩

theorem runK_ok (hm : P.follows .mixedOrders = true) (x : Code) : RunOK P G x (runK P G x) := by
  have leaf : ∀ {y : Code} {e : Ex}, (∀ c : Ctx, ∀ ex, e = ex → True) → (∀ (c : Ctx) (s : LSt) F β a w, StOK c F β s a w → y.wpIn (fen none) 0 c.P (fun ex a' w' => ∃ F' β', StOK c F' β' s a' w' ∧ ExOK e ex F' w') a w) →
      RunOK P G y (fun _ _ fr lv nx lg k => k e fr lv nx lg) := by
    intro y e _ hy call hc N fr lv nx lg k r h hg ho
    exact ⟨e, fr, lv, nx, [], h, ho, LgOK.refl _, fun c _ _ _ F β a w hs => hy c _ F β a w hs⟩
  have bad : ∀ y : Code, RunOK P G y m_bad := fun y call hc N fr lv nx lg k r h hg ho => absurd h hg.ne
  induction x with
  | skip => exact leaf (e := .normal) (fun _ _ _ => trivial) fun c s F β a w hs => wpIn_skip ⟨F, β, hs, rfl⟩
  | region id ops dr => exact region_ok hm id ops dr
  | seq a b iha ihb => exact seq_ok iha ihb
  | cond o a b iha ihb => exact cond_ok iha ihb
  | block id a iha => exact block_ok iha
  | loop a iha => exact loop_ok iha
  | rangeFunc f ps a b _ _ => exact bad _
  | exit id => exact leaf (e := .exit id) (fun _ _ _ => trivial) fun c s F β a w hs => wpIn_exit ⟨F, β, hs, rfl⟩
  | scope a _ => exact bad _
  | label l => exact leaf (e := .normal) (fun _ _ _ => trivial) fun c s F β a w hs => wpIn_label ⟨F, β, hs, rfl⟩
  | goto l => exact leaf (e := .goto l) (fun _ _ _ => trivial) fun c s F β a w hs => wpIn_goto ⟨F, β, hs, rfl⟩
  | ret => exact leaf (e := .ret) (fun _ _ _ => trivial) fun c s F β a w hs => wpIn_ret ⟨F, β, hs, rfl⟩
  | refuse w => exact bad _

theorem argsK_ok : ∀ {us : List AV} {i : Nat} {fr : Tb AV} {k : Tb AV → Res} {r : Res}, argsK us i fr k = r →
    ∃ fr', k fr' = r ∧ ∀ j : Nat, frT' fr' j = if i ≤ j ∧ j < i + us.length then us.getD (j - i) .undef else frT' fr j
  | [], i, fr, k, r, h => ⟨fr, h, fun j => by grind⟩
  | x :: us, i, fr, k, r, h => by
    have h1 : (Tb.setK .undef x (pathOf i) fr fun fr => argsK us (Nat.succ i) fr k) = r := h
    rw [Tb.setK_eq] at h1
    obtain ⟨fr', e1, e2⟩ := argsK_ok h1
    refine ⟨fr', e1, fun j => ?_⟩
    rw [e2 j, frT'_set]
    by_cases hj : j = i
    · subst hj
      rw [if_neg (by omega), if_pos (by simp), upd_same]; simp
    · rw [upd_ne _ _ hj]
      grind

theorem CodeDoes.aw {N : Nat} {x : Code} {s s' : LSt} {e : Ex} (h : CodeDoes P G N x s s' e) {c : Ctx} (hP : c.P = P) (hG : c.G = G) (hn : c.n = N) {κ : Nat} {Q : Ex → LSt → Nat → Prop} (hQ : Q e s' 0) : AW c none x s κ Q :=
  fun F β a w hs => h.mono hP hG hn (fun F' β' a' w' ex h1 h2 => ⟨e, s', 0, F', β', hQ, h1, h2⟩) hs

theorem funK_ok (hm : P.follows .mixedOrders = true) {call : EvCall2} (hc : CallOK P G call) : CallOK P G (funK P G call) := by
  intro f us lv nx lg kr kp r h hg ho
  unfold funK at h
  obtain ⟨fn, h1, h2⟩ := optK_some h hg.ne
  obtain ⟨code, h3, h4⟩ := optK_some h2 hg.ne
  obtain ⟨h5, h6⟩ := boolK_true h4 hg.ne
  obtain ⟨fr, h7, h8⟩ := argsK_ok h6
  obtain ⟨e, fr', lv', nx', l, q1, q2, q3, q4⟩ := runK_ok hm code call hc fn.ntmps fr lv nx lg _ r h7 hg ho
  have hfr : frT' fr = fun t => us.getD t .undef := by
    funext j
    rw [h8 j]
    by_cases hj : j < us.length
    · grind
    · rw [if_neg (by omega), getD_ge hj]
      show Tb.get AV.undef .leaf _ = _
      exact Tb.get_leaf _ _
  have hSS : SS fr lv = ⟨fun t => us.getD t .undef, lvT' lv⟩ := by unfold SS; rw [hfr]
  rw [hSS] at q4
  cases e with
  | normal =>
    have q1' : (optK (resA P ⟨frT' fr', lvT' lv'⟩ fn.results.toList) (.bad 20 []) fun x => forceA x fun x => kr x lv' nx' (l ++ lg)) = r := q1
    obtain ⟨x, h9, h10⟩ := optK_some q1' hg.ne
    rw [forceA_eq] at h10
    exact .inl ⟨x, lv', nx', l, h10, CallG.of_AW (κ := 0) h1 h3 (Nat.le_of_ble_eq_true h5) fun c hP hG hn _ => q4.aw hP hG hn ⟨by rw [hP]; exact h9, rfl⟩, q2, q3⟩
  | ret =>
    have q1' : (optK (resA P ⟨frT' fr', lvT' lv'⟩ fn.results.toList) (.bad 23 []) fun x => forceA x fun x => kr x lv' nx' (l ++ lg)) = r := q1
    obtain ⟨x, h9, h10⟩ := optK_some q1' hg.ne
    rw [forceA_eq] at h10
    exact .inl ⟨x, lv', nx', l, h10, CallG.of_AW (κ := 0) h1 h3 (Nat.le_of_ble_eq_true h5) fun c hP hG hn _ => q4.aw hP hG hn ⟨by rw [hP]; exact h9, rfl⟩, q2, q3⟩
  | panic d =>
    have q1' : kp d lv' nx' (l ++ lg) = r := q1
    exact .inr ⟨d, lv', nx', l, q1', CallG.of_AW (κ := 0) h1 h3 (Nat.le_of_ble_eq_true h5) fun c hP hG hn _ => q4.aw hP hG hn ⟨rfl, rfl⟩, q2, q3⟩
  | exit i => exact absurd q1 hg.ne
  | goto i => exact absurd q1 hg.ne

/-- What a table of functions known otherwise has to say. -/
structure SpecOK (P : Program) (G : List (List DV)) (sp : Tb Spec) (ft : TypeId) : Prop where
  pure : ∀ f g us x, sp.get .body (pathOf f) = .pure g → g us = some x → ∀ lv, AllOk lv → CallG P G f us lv (.ret x lv)
  caughtR : ∀ f, sp.get .body (pathOf f) = .caught → ∀ v t fs cs lv lv' x, callTgt v = some (t, fs, cs) → isFn P t = true → AllOk lv → CallG P G t (fs ++ cs) lv (.ret x lv') → CallG P G f [v] lv (.ret (.c (.d (.int .i64 0))) lv')
  caughtP : ∀ f, sp.get .body (pathOf f) = .caught → ∀ v t fs cs lv lv' n, callTgt v = some (t, fs, cs) → isFn P t = true → AllOk lv → CallG P G t (fs ++ cs) lv (.pan (.iface ft (.agg [.int .i64 n])) lv') → CallG P G f [v] lv (.ret (.c (.d (.int .i64 n))) lv')
  selfN : ∀ f g, sp.get .body (pathOf f) = .self g → ∀ lv k off T cs r, AllOk lv → g T off cs.length = true → lv k = .cells false false T cs → cs.drop off = .d .nilp :: r → CallG P G f [.c (.ptr k off)] lv (.ret (.tup []) (upd lv k (.cells false false T (setSeg cs off [.ptr k off]))))
  selfP : ∀ f g, sp.get .body (pathOf f) = .self g → ∀ lv k off T cs r, AllOk lv → g T off cs.length = true → lv k = .cells false false T cs → cs.drop off = .ptr k off :: r → CallG P G f [.c (.ptr k off)] lv (.ret (.tup []) lv)

theorem evK_ok (hm : P.follows .mixedOrders = true) {sp : Tb Spec} {ft : TypeId} (hsp : SpecOK P G sp ft) : ∀ n, CallOK P G (evK P G sp ft n)
  | 0 => fun f us lv nx lg kr kp r h hg ho => absurd h hg.ne
  | n + 1 => fun f us lv nx lg kr kp r h hg ho => by
    have ih := evK_ok hm hsp n
    have h0 : Spec.rec (motive := fun _ => Res) (funK P G (evK P G sp ft n) f us lv nx lg kr kp) (fun g => optK (g us) (.bad 29 []) fun x => forceA x fun x => kr x lv nx lg) (caughtK P ft (evK P G sp ft n) us lv nx lg kr) (fun g => selfK g us lv nx lg kr) (sp.get .body (pathOf f)) = r := h
    cases es : sp.get .body (pathOf f) with
    | body => rw [es] at h0; exact funK_ok hm ih f us lv nx lg kr kp r h0 hg ho
    | pure g =>
      rw [es] at h0
      obtain ⟨x, h1, h2⟩ := optK_some h0 hg.ne
      rw [forceA_eq] at h2
      exact .inl ⟨x, lv, nx, [], h2, hsp.pure f g us x es h1 _ ho, ho, LgOK.refl _⟩
    | caught =>
      rw [es] at h0
      have h1 : caughtK P ft (evK P G sp ft n) us lv nx lg kr = r := h0
      unfold caughtK at h1
      split at h1
      · rename_i v
        obtain ⟨⟨t, fs, cs⟩, h2, h3⟩ := optK_some h1 hg.ne
        obtain ⟨h4, h5⟩ := boolK_true h3 hg.ne
        rcases ih _ _ _ _ _ _ _ _ h5 hg ho with ⟨x, lv', nx', l, q1, q2, q3, q4⟩ | ⟨d, lv', nx', l, q1, q2, q3, q4⟩
        · exact .inl ⟨_, lv', nx', l, q1, hsp.caughtR f es v t fs cs _ _ x h2 h4 ho q2, q3, q4⟩
        · split at q1
          · rename_i t' m
            obtain ⟨hb, q5⟩ := boolK_true q1 hg.ne
            have := Nat.eq_of_beq_eq_true hb
            subst this
            exact .inl ⟨_, lv', nx', l, q5, hsp.caughtP f es v t fs cs _ _ m h2 h4 ho q2, q3, q4⟩
          · exact absurd q1 hg.ne
      · exact absurd h1 hg.ne
    | self T0 =>
      rw [es] at h0
      have h1 : selfK T0 us lv nx lg kr = r := h0
      unfold selfK at h1
      split at h1
      · rename_i k off
        split at h1
        · rename_i own T cs hk
          have hown : own = false := by have := ho k; rw [hk] at this; simp only [LB.okB, Bool.and_eq_true, Bool.not_eq_true'] at this; exact this.1
          subst hown
          obtain ⟨hb0, h6⟩ := boolK_true h1 hg.ne
          clear h1
          split at h6
          · rename_i y hcs
            obtain ⟨lv', l, e1, e2, e3, e4⟩ := wrK_ok h6 hg ho
            refine .inl ⟨_, lv', nx, l, e1, ?_, e3, e4⟩
            have := hsp.selfN f _ es (lvT' lv) k off T cs y ho hb0 hk hcs
            have e5 : lvT' lv' = upd (lvT' lv) k (.cells false false T (setSeg cs off [.ptr k off])) := by rw [e2]; rfl
            grind
          · rename_i k' off' y hcs
            obtain ⟨hb, h2⟩ := boolK_true h6 hg.ne
            simp only [Bool.and_eq_true] at hb
            have b1 := Nat.eq_of_beq_eq_true hb.1
            have b2 := Nat.eq_of_beq_eq_true hb.2
            subst b1; subst b2
            exact .inl ⟨_, lv, nx, [], h2, hsp.selfP f _ es (lvT' lv) _ _ T cs y ho hb0 hk hcs, ho, LgOK.refl _⟩
          · exact absurd h6 hg.ne
        · exact absurd h1 hg.ne
      · exact absurd h1 hg.ne
end
end Go.Am
/-! Intervals of rational numbers. -/
namespace Go.Am
def minR (x y : Rat) : Rat := if x < y then x else y
def maxR (x y : Rat) : Rat := if x < y then y else x
def absR (x : Rat) : Rat := if x < 0 then -x else x

theorem minR_l (x y : Rat) : minR x y ≤ x := by unfold minR; split <;> grind
theorem minR_r (x y : Rat) : minR x y ≤ y := by unfold minR; split <;> grind
theorem minR_or (x y : Rat) : minR x y = x ∨ minR x y = y := by unfold minR; split <;> simp
theorem maxR_l (x y : Rat) : x ≤ maxR x y := by unfold maxR; split <;> grind
theorem maxR_r (x y : Rat) : y ≤ maxR x y := by unfold maxR; split <;> grind
theorem maxR_or (x y : Rat) : maxR x y = x ∨ maxR x y = y := by unfold maxR; split <;> simp
theorem minR_le {x y z : Rat} : z ≤ minR x y ↔ z ≤ x ∧ z ≤ y := by unfold minR; split <;> grind
theorem maxR_le {x y z : Rat} : maxR x y ≤ z ↔ x ≤ z ∧ y ≤ z := by unfold maxR; split <;> grind

/-- An interval, by its ends. -/
abbrev Iv := Rat × Rat
def Iv.has (a : Iv) (x : Rat) : Prop := a.1 ≤ x ∧ x ≤ a.2
def Iv.neg (a : Iv) : Iv := (-a.2, -a.1)
def Iv.add (a b : Iv) : Iv := (a.1 + b.1, a.2 + b.2)
def Iv.sub (a b : Iv) : Iv := (a.1 - b.2, a.2 - b.1)
def hull4 (w x y z : Rat) : Iv := (minR (minR (minR w x) y) z, maxR (maxR (maxR w x) y) z)
def Iv.mul (a b : Iv) : Iv := hull4 (a.1 * b.1) (a.1 * b.2) (a.2 * b.1) (a.2 * b.2)

theorem hull4_lo (w x y z : Rat) : (hull4 w x y z).1 ≤ w ∧ (hull4 w x y z).1 ≤ x ∧ (hull4 w x y z).1 ≤ y ∧ (hull4 w x y z).1 ≤ z := by
  simp only [hull4]
  have h := (minR_le (x := minR (minR w x) y) (y := z) (z := minR (minR (minR w x) y) z)).1 Rat.le_refl
  have h2 := minR_le.1 h.1
  have h3 := minR_le.1 h2.1
  exact ⟨h3.1, h3.2, h2.2, h.2⟩
theorem hull4_hi (w x y z : Rat) : w ≤ (hull4 w x y z).2 ∧ x ≤ (hull4 w x y z).2 ∧ y ≤ (hull4 w x y z).2 ∧ z ≤ (hull4 w x y z).2 := by
  simp only [hull4]
  have h := (maxR_le (x := maxR (maxR w x) y) (y := z) (z := maxR (maxR (maxR w x) y) z)).1 Rat.le_refl
  have h2 := maxR_le.1 h.1
  have h3 := maxR_le.1 h2.1
  exact ⟨h3.1, h3.2, h2.2, h.2⟩
theorem hull4_or (w x y z : Rat) : ((hull4 w x y z).1 = w ∨ (hull4 w x y z).1 = x ∨ (hull4 w x y z).1 = y ∨ (hull4 w x y z).1 = z) ∧ ((hull4 w x y z).2 = w ∨ (hull4 w x y z).2 = x ∨ (hull4 w x y z).2 = y ∨ (hull4 w x y z).2 = z) := by
  simp only [hull4, minR, maxR]
  constructor <;> grind

/-- A product lies between the products of the ends. -/
theorem mul_between {a b c d p q : Rat} (h1 : a ≤ p) (h2 : p ≤ b) (h3 : c ≤ q) (h4 : q ≤ d) :
    (a * c ≤ p * q ∨ a * d ≤ p * q ∨ b * c ≤ p * q ∨ b * d ≤ p * q) ∧ (p * q ≤ a * c ∨ p * q ≤ a * d ∨ p * q ≤ b * c ∨ p * q ≤ b * d) := by
  have m : ∀ {x y : Rat}, 0 ≤ x → 0 ≤ y → 0 ≤ x * y := fun hx hy => Rat.mul_nonneg hx hy
  have e1 : 0 ≤ p - a := by grind
  have e2 : 0 ≤ b - p := by grind
  have e3 : 0 ≤ q - c := by grind
  have e4 : 0 ≤ d - q := by grind
  constructor
  · by_cases hp : 0 ≤ p
    · have := m hp e3
      by_cases hc : 0 ≤ c
      · have := m e1 hc; grind
      · have := m e2 (show 0 ≤ -c by grind); grind
    · have := m (show 0 ≤ -p by grind) e4
      by_cases hd : 0 ≤ d
      · have := m e1 hd; grind
      · have := m e2 (show 0 ≤ -d by grind); grind
  · by_cases hp : 0 ≤ p
    · have := m hp e4
      by_cases hd : 0 ≤ d
      · have := m e2 hd; grind
      · have := m e1 (show 0 ≤ -d by grind); grind
    · have := m (show 0 ≤ -p by grind) e3
      by_cases hc : 0 ≤ c
      · have := m e2 hc; grind
      · have := m e1 (show 0 ≤ -c by grind); grind

theorem Iv.mul_has {a b : Iv} {p q : Rat} (h1 : a.has p) (h2 : b.has q) : (a.mul b).has (p * q) := by
  obtain ⟨x, y⟩ := mul_between h1.1 h1.2 h2.1 h2.2
  obtain ⟨l1, l2, l3, l4⟩ := hull4_lo (a.1 * b.1) (a.1 * b.2) (a.2 * b.1) (a.2 * b.2)
  obtain ⟨u1, u2, u3, u4⟩ := hull4_hi (a.1 * b.1) (a.1 * b.2) (a.2 * b.1) (a.2 * b.2)
  unfold Iv.has Iv.mul
  constructor
  · rcases x with x | x | x | x
    · exact Rat.le_trans l1 x
    · exact Rat.le_trans l2 x
    · exact Rat.le_trans l3 x
    · exact Rat.le_trans l4 x
  · rcases y with y | y | y | y
    · exact Rat.le_trans y u1
    · exact Rat.le_trans y u2
    · exact Rat.le_trans y u3
    · exact Rat.le_trans y u4

/-- How the program multiplies: both ends not below 0. -/
theorem Iv.mul_pos {a b : Iv} (h1 : a.1 ≤ a.2) (h2 : b.1 ≤ b.2) (h3 : 0 ≤ a.1) (h4 : 0 ≤ b.1) : a.mul b = (a.1 * b.1, a.2 * b.2) := by
  have m : ∀ {x y : Rat}, 0 ≤ x → 0 ≤ y → 0 ≤ x * y := fun hx hy => Rat.mul_nonneg hx hy
  have e1 := m h3 (show 0 ≤ b.2 - b.1 by grind)
  have e2 := m h4 (show 0 ≤ a.2 - a.1 by grind)
  have e3 := m (show 0 ≤ a.2 by grind) (show 0 ≤ b.2 - b.1 by grind)
  have e4 := m (show 0 ≤ b.2 by grind) (show 0 ≤ a.2 - a.1 by grind)
  simp only [Iv.mul, hull4, minR, maxR, Prod.mk.injEq]
  constructor <;> grind
theorem Iv.mul_negl (a b : Iv) : (a.neg.mul b).neg = a.mul b := by
  simp only [Iv.neg, Iv.mul, hull4, minR, maxR, Prod.mk.injEq, Rat.neg_mul]
  constructor <;> grind
theorem Iv.mul_negr (a b : Iv) : (a.mul b.neg).neg = a.mul b := by
  simp only [Iv.neg, Iv.mul, hull4, minR, maxR, Prod.mk.injEq, Rat.mul_neg]
  constructor <;> grind
end Go.Am
/-! More of intervals: quotients, sizes, what results of numbers lie in. -/
namespace Go.Am

instance (a : Iv) (x : Rat) : Decidable (a.has x) := inferInstanceAs (Decidable (_ ∧ _))

theorem inv_anti {x y : Rat} (h : x ≤ y) (hs : 0 < x ∨ y < 0) : y⁻¹ ≤ x⁻¹ := by
  have hx : x ≠ 0 := by grind
  have hy : y ≠ 0 := by grind
  have hxy : 0 < x * y := by
    rcases hs with h1 | h1
    · exact Rat.mul_pos h1 (by grind)
    · have := Rat.mul_pos (a := -x) (b := -y) (by grind) (by grind)
      rwa [Rat.neg_mul, Rat.mul_neg, Rat.neg_neg] at this
  refine Rat.le_of_mul_le_mul_left (c := x * y) ?_ hxy
  rw [Rat.mul_assoc, Rat.mul_inv_cancel y hy, Rat.mul_one, Rat.mul_comm x y, Rat.mul_assoc, Rat.mul_inv_cancel x hx, Rat.mul_one]
  exact h

/-- How the program divides. -/
def Iv.quo (a b : Iv) : Iv := a.mul (1 / b.2, 1 / b.1)
theorem mul_one_div (x y : Rat) : x * (1 / y) = x / y := by rw [Rat.div_def, Rat.div_def, Rat.one_mul]
theorem Iv.quo_has {a b : Iv} {p q : Rat} (hp : a.has p) (hq : b.has q) (h0 : ¬ b.has 0) : (a.quo b).has (p / q) := by
  rw [← mul_one_div]
  unfold Iv.has at h0 hq
  have hs : 0 < b.1 ∨ b.2 < 0 := by grind
  refine Iv.mul_has hp ⟨?_, ?_⟩
  · show 1 / b.2 ≤ 1 / q
    rw [Rat.div_def, Rat.div_def, Rat.one_mul, Rat.one_mul]
    exact inv_anti hq.2 (by grind)
  · show 1 / q ≤ 1 / b.1
    rw [Rat.div_def, Rat.div_def, Rat.one_mul, Rat.one_mul]
    exact inv_anti hq.1 (by grind)

/-- Sum, difference, product, quotient. -/
def opR (op : Int) (x y : Rat) : Rat := if op = 1 then x - y else if op = 2 then x * y else if op = 3 then x / y else x + y
def someR (a b : Iv) (op : Int) (x : Rat) : Prop := opR op a.1 b.1 = x ∨ opR op a.1 b.2 = x ∨ opR op a.2 b.1 = x ∨ opR op a.2 b.2 = x
def exR (a b c : Iv) (op : Int) (x : Rat) : Prop := c.has x ∧ someR a b op c.1 ∧ someR a b op c.2
instance (a b : Iv) (op : Int) (x : Rat) : Decidable (someR a b op x) := inferInstanceAs (Decidable (_ ∨ _))
instance (a b c : Iv) (op : Int) (x : Rat) : Decidable (exR a b c op x) := inferInstanceAs (Decidable (_ ∧ _))

theorem ex_add {a b : Iv} {p q : Rat} (hp : a.has p) (hq : b.has q) : exR a b (a.add b) 0 (p + q) := by
  unfold Iv.has at hp hq
  refine ⟨⟨?_, ?_⟩, .inl rfl, .inr (.inr (.inr rfl))⟩ <;> simp only [Iv.add] <;> grind
theorem ex_sub {a b : Iv} {p q : Rat} (hp : a.has p) (hq : b.has q) : exR a b (a.sub b) 1 (p - q) := by
  unfold Iv.has at hp hq
  refine ⟨⟨?_, ?_⟩, .inr (.inl rfl), .inr (.inr (.inl rfl))⟩ <;> simp only [Iv.sub] <;> grind
theorem ex_mul {a b : Iv} {p q : Rat} (hp : a.has p) (hq : b.has q) : exR a b (a.mul b) 2 (p * q) := by
  refine ⟨Iv.mul_has hp hq, ?_, ?_⟩
  · rcases (hull4_or (a.1 * b.1) (a.1 * b.2) (a.2 * b.1) (a.2 * b.2)).1 with h | h | h | h
    · exact .inl h.symm
    · exact .inr (.inl h.symm)
    · exact .inr (.inr (.inl h.symm))
    · exact .inr (.inr (.inr h.symm))
  · rcases (hull4_or (a.1 * b.1) (a.1 * b.2) (a.2 * b.1) (a.2 * b.2)).2 with h | h | h | h
    · exact .inl h.symm
    · exact .inr (.inl h.symm)
    · exact .inr (.inr (.inl h.symm))
    · exact .inr (.inr (.inr h.symm))
theorem ex_quo {a b : Iv} {p q : Rat} (hp : a.has p) (hq : b.has q) (h0 : ¬ b.has 0) : exR a b (a.quo b) 3 (p / q) := by
  have key : ∀ {x : Rat}, x = a.1 * (1 / b.2) ∨ x = a.1 * (1 / b.1) ∨ x = a.2 * (1 / b.2) ∨ x = a.2 * (1 / b.1) → someR a b 3 x := by
    intro x h
    simp only [mul_one_div] at h
    rcases h with h | h | h | h
    · exact .inr (.inl h.symm)
    · exact .inl h.symm
    · exact .inr (.inr (.inr h.symm))
    · exact .inr (.inr (.inl h.symm))
  have ho := hull4_or (a.1 * (1 / b.2)) (a.1 * (1 / b.1)) (a.2 * (1 / b.2)) (a.2 * (1 / b.1))
  exact ⟨Iv.quo_has hp hq h0, key ho.1, key ho.2⟩

def Iv.size (a : Iv) : Rat := maxR (absR a.1) (absR a.2)
def Iv.near (a : Iv) : Rat := if a.has 0 then 0 else minR (absR a.1) (absR a.2)
def Iv.abs (a : Iv) : Iv := (a.near, a.size)
def Iv.join (a b : Iv) : Iv := (minR a.1 b.1, maxR a.2 b.2)
def Iv.meet (a b : Iv) : Iv := (maxR a.1 b.1, minR a.2 b.2)
theorem size_le {a : Iv} {p : Rat} (hp : a.has p) : absR p ≤ a.size := by
  unfold Iv.has at hp
  simp only [Iv.size, maxR, absR]
  grind
theorem near_le {a : Iv} {p : Rat} (hp : a.has p) : a.near ≤ absR p := by
  unfold Iv.has at hp
  simp only [Iv.near, Iv.has, minR, absR]
  grind
theorem abs_has {a : Iv} {p : Rat} (hp : a.has p) : a.abs.has (absR p) := ⟨near_le hp, size_le hp⟩
theorem neg_has {a : Iv} {p : Rat} (hp : a.has p) : a.neg.has (-p) := by
  unfold Iv.has at *
  simp only [Iv.neg]
  grind
theorem join_hasl {a b : Iv} {p : Rat} (hp : a.has p) : (a.join b).has p := ⟨Rat.le_trans (minR_l _ _) hp.1, Rat.le_trans hp.2 (maxR_l _ _)⟩
theorem join_hasr {a b : Iv} {p : Rat} (hp : b.has p) : (a.join b).has p := ⟨Rat.le_trans (minR_r _ _) hp.1, Rat.le_trans hp.2 (maxR_r _ _)⟩
theorem meet_has {a b : Iv} {p : Rat} (hp : a.has p) : ((a.meet b).1 ≤ (a.meet b).2 ∧ (a.meet b).has p) ↔ b.has p := by
  unfold Iv.has at *
  simp only [Iv.meet, maxR, minR]
  grind
/-- A number that is moved into an interval. -/
theorem clamp_has {a : Iv} (h : a.1 ≤ a.2) (x : Rat) : a.has (minR (maxR x a.1) a.2) := by
  unfold Iv.has
  simp only [maxR, minR]
  grind
end Go.Am
namespace Go.Am

/-! ### functions whose loops make new blocks -/

/-- Entering a function that is handed no block: and this is known of the context. -/

theorem CallsP.en0 {P : Program} {G : List (List DV)} {f : FuncId} {fn : Func} {code : Code} {args : List AV} {x : AV} (hf : P.funcs[f]? = some fn) (hb : fn.body = some code)
    (h : ∀ z : Ev, AW ⟨P, G, z.w, z.F, z.W, fn.ntmps, fun _ => .hole, z.b⟩ none code ⟨fun t => args.getD t .undef, fun _ => .hole⟩ 0 (FinP ⟨P, G, z.w, z.F, z.W, fn.ntmps, fun _ => .hole, z.b⟩ fn x)) (hl : Nat.ble args.length fn.ntmps = true := by kernel_rfl) : CallsP P G f args x :=
  CallsP.of_AW0 hf hb (Nat.le_of_ble_eq_true hl) fun ⟨_, _, w, F, W, _, q, b⟩ h1 h2 h3 h4 => by cases h1; cases h2; cases h3; cases h4; exact h ⟨w, F, W, fun _ => .hole, b⟩

/-- Some keys are forgotten. -/
def drG (D : List Key) (kh : Key) : Key → Key := fun k => if k ∈ D then kh else k

theorem LB.as_same {x : LB} {g : Key → Key} (h : x.ren g = x) (hm : ∀ own es, x = .map own es → ∀ p ∈ es, ∀ l, p.2 ≠ .tup l) : x.as x g := by
  cases x with
  | cells own fz T cs =>
    have h' : cs.map (CV.ren g) = cs := by injection h
    exact ⟨own, cs, rfl, h'.symm, fun h => h⟩
  | map own es =>
    have h' : es.map (fun p => (p.1, p.2.ren0 g)) = es := by injection h
    exact ⟨own, es, rfl, h'.symm, fun h => h, hm own es rfl⟩
  | hole => rfl
  | dead => intro h; cases h
  | nils => rfl

def OffL (g : Key → Key) (lv : Key → LB) : Prop := ∀ k, (lv k).ren g = lv k
theorem OffL_hole {g : Key → Key} : OffL g (fun _ => .hole) := fun _ => rfl
theorem OffL_upd {g : Key → Key} {lv : Key → LB} {k : Key} {b : LB} (h : OffL g lv) (hb : b.ren g = b) : OffL g (upd lv k b) := fun k' => by
  unfold upd; split
  · exact hb
  · exact h k'
@[simp] theorem LB.ren_cells {g : Key → Key} {own fz : Bool} {T : TypeId} {cs : List CV} : (LB.cells own fz T cs).ren g = .cells own fz T (cs.map (CV.ren g)) := rfl
@[simp] theorem LB.ren_dead {g : Key → Key} : LB.dead.ren g = .dead := rfl
@[simp] theorem LB.ren_nils {g : Key → Key} : LB.nils.ren g = .nils := rfl
@[simp] theorem CV.ren_d {g : Key → Key} {x : DV} : (CV.d x).ren g = .d x := rfl
@[simp] theorem CV.ren_ptr {g : Key → Key} {k : Key} {o : Nat} : (CV.ptr k o).ren g = .ptr (g k) o := rfl
@[simp] theorem CV.ren_lsl {g : Key → Key} {k : Key} {o l z : Nat} : (CV.lsl k o l z).ren g = .lsl (g k) o l z := rfl
@[simp] theorem AV.ren_c {g : Key → Key} {x : CV} : (AV.c x).ren g = .c (x.ren g) := rfl
@[simp] theorem AV.ren_agg {g : Key → Key} {cs : List CV} : (AV.agg cs).ren g = .agg (cs.map (CV.ren g)) := rfl

theorem Le.drop {c : Ctx} {fr : Nat → AV} {lv lv' : Key → LB} (D : List Key) (kh : Key) (l : List (Nat × AV)) (hc : c.lv0 = fun _ => .hole) (hD : ∀ k ∈ D, lv' k = .hole) (hlv : ∀ k, k ∉ D → lv k = lv' k) (hh : lv kh = .hole)
    (hm : noMap lv') (hr : OffL (drG D kh) lv') (hl : ∀ p ∈ l, p.2.flat1 = true ∧ fr p.1 = p.2 ∧ p.2.ren (drG D kh) = p.2) : Le c ⟨fr, lv⟩ ⟨frOf l, lv'⟩ := by
  refine ⟨drG D kh, fun k => ?_, fun k k' h1 h2 e => ?_, fun t => ?_, fun k hk => absurd (by rw [hc]) hk⟩
  · show (lv (drG D kh k)).as (lv' k) _
    by_cases hk : k ∈ D
    · rw [hD k hk]
      have : drG D kh k = kh := if_pos hk
      rw [this]; exact hh
    · have : drG D kh k = k := if_neg hk
      rw [this, hlv k hk]
      exact LB.as_same (hr k) (fun own es h => absurd h (hm k own es))
  · have n1 : k ∉ D := fun h => by have h1' : (lv' k).live = true := h1; rw [hD k h] at h1'; cases h1'
    have n2 : k' ∉ D := fun h => by have h2' : (lv' k').live = true := h2; rw [hD k' h] at h2'; cases h2'
    unfold drG at e; grind
  · rcases frOf_cases (P := fun t x => x.flat1 = true ∧ fr t = x ∧ x.ren (drG D kh) = x) hl t with h | ⟨h1, h2, h3⟩
    · grind
    grind
theorem Le.drop2 {c : Ctx} {fr : Nat → AV} {lv lv' : Key → LB} {l : List (Nat × AV)} (D : List Key) (kh : Key) (hc : c.lv0 = fun _ => .hole := by exact rfl) (hD : ∀ k ∈ D, lv' k = .hole := by intro k hk; simp at hk; subst hk; simp [upd]) (hlv : ∀ k, k ∉ D → lv k = lv' k := by intro k hk; simp at hk; simp only [upd]; (repeat (any_goals split)) <;> simp_all) (hh : lv kh = .hole := by simp [upd])
    (hm : noMap lv' := by repeat (first | exact noMap_hole | refine noMap_upd ?_ _ _ _ _ _ | (refine noMap_upd_dead ?_ _) | (refine noMap_blS ?_ _ _ _) | (refine noMap_upd_nils ?_ _) | simp)) (hr : OffL (drG D kh) lv' := by repeat (first | exact OffL_hole | refine OffL_upd ?_ (by simp [drG]))) (hl : ∀ p ∈ l, p.2.flat1 = true ∧ fr p.1 = p.2 ∧ p.2.ren (drG D kh) = p.2 := by simp [drG]) : Le c ⟨fr, lv⟩ ⟨frOf l, lv'⟩ := Le.drop D kh l hc hD hlv hh hm hr hl

/-! ### function values -/

def mkfA (fn : Fn) (fs cs : List AV) : Option StepR := match refL fs, refL cs with
  | some fr, some cr => some (.c (funA fn fr cr), [], [], True)
  | _, _ => none

theorem stepF_mkf {P : Program} {fn : Fn} {first caps : Array Operand} {v : Operand → AV} {lv : Key → LB} {κ : Key} :
    stepF P (.makeFunc fn first caps) ((Op.makeFunc fn first caps).operands.toList.map v) lv κ = mkfA fn (first.toList.map v) (caps.toList.map v) := by
  have e : (Op.makeFunc fn first caps).operands.toList.map v = first.toList.map v ++ caps.toList.map v := by simp [Op.operands]
  rw [e]
  simp only [stepF, List.length_append, List.length_map, Array.length_toList, if_true]
  rw [List.take_left' (by simp), List.drop_left' (by simp)]
  rfl

section
variable {c : Ctx} {ps : List POp} {d : Option Tmp} {s : LSt} {κ : Nat} {K : LSt → Nat → Prop} {acc : List Tch} {KD : LSt → Nat → List Tch → Prop}
@[simp] theorem rp_mkf {fn : Fn} {first caps : Array Operand} : ARunP c (⟨d, .makeFunc fn first caps, none⟩ :: ps) s κ K = contP c ps d s κ K (mkfA fn (first.toList.map (s.val c.G)) (caps.toList.map (s.val c.G))) := by
  rw [ARunP_cons]
  simp only [AOp, stepF_mkf, contP, goA]
  rfl
@[simp] theorem rd_mkf {fn : Fn} {first caps : Array Operand} : ARunPD c (⟨d, .makeFunc fn first caps, none⟩ :: ps) s κ acc KD = contPD c ps d s κ acc KD (mkfA fn (first.toList.map (s.val c.G)) (caps.toList.map (s.val c.G))) := by
  rw [ARunPD_cons]
  simp only [AOp, stepF_mkf, contPD, goA]
  rfl
theorem callP_gen {f : FuncId} {xs fs cs : List AV} : callP c (some (f, fs, cs)) xs ps d s κ K = (isFn c.P f = true ∧ CallP c f (fs ++ xs ++ cs) ps d s κ K) := propext ⟨id, id⟩
theorem callPD_gen {f : FuncId} {xs fs cs : List AV} : callPD c (some (f, fs, cs)) xs ps d s κ acc KD = (isFn c.P f = true ∧ CallPD c f (fs ++ xs ++ cs) ps d s κ acc KD) := propext ⟨id, id⟩
theorem callTgt_c {f : FuncId} {fs cs : List Ref} : callTgt (.c (.func (.func f) fs cs)) = some (f, fs.map refAV, cs.map refAV) := rfl
theorem callTgt_d {f : FuncId} {fs cs : List DV} : callTgt (.c (.d (.func (.func f) fs cs))) = some (f, fs.map dAV, cs.map dAV) := rfl
end

/-! ### calls that are handed live blocks -/

theorem CallDo.passN {c : Ctx} {f : FuncId} {xs us : List AV} {lv : Key → LB} {K : AV → List (Key × LB) → List Key → Nat → Prop} (κ' kh : Key) (own : Bool) (sel : List Key) (σ σ' : List LB) {x : AV} (rds : List Key)
    (hc : CallsS c.P c.G f us σ (.ret x σ' [])) (hn : sel.Nodup) (hkh : kh ∉ sel) (hl1 : sel.length = σ.length) (hl2 : σ'.length = σ.length) (hb : σ.length ≤ 1000)
    (hsel : ∀ i (h : i < sel.length) (h' : i < σ.length), (lv sel[i]).as σ[i] (keyMap sel [] kh)) (hh : lv kh = .hole) (hpass : ∀ b ∈ σ, b.pass = true) (hnh : ∀ b, b ∈ σ ++ σ' → b ≠ .hole)
    (hown : own = true → ∀ k ∈ sel, (lv k).ownB = true) (hlen : us.length = xs.length)
    (hargs : ∀ i (h : i < xs.length) (h' : i < us.length), us[i].flat1 = true ∧ xs[i] = us[i].ren (keyMap sel [] kh))
    (hrd : ∀ a ∈ xs, ∀ k ∈ rdA lv a, k ∈ rds) (hrh : kh ∈ rds)
    (hK : K (x.ren (keyMap sel [] kh)) (backW (keyMap sel [] kh) own sel σ') rds κ') : CallDo c f xs lv K := by
  have key := CallEff.gen (c := c) (f := f) (as := xs) (lv := lv) us [] sel [] kh σ σ' [] x own rds (fun z hz => by cases hz) (by simp) (by grind) (fun z hz => by cases hz) (by grind) (fun z hz => by cases hz) hl1 hl2 rfl hb hsel (fun k hk => by cases hk) hh hpass (by grind) hown hlen (fun i p q => .inl (hargs i p q)) (fun a ha k hk => .inl (hrd a ha k hk)) hrh hc
  have e : frzW [] ++ backW (keyMap sel [] kh) own sel σ' ++ backW (keyMap sel [] kh) own [] [] = backW (keyMap sel [] kh) own sel σ' := by simp [frzW, backW]
  rw [e] at key
  exact ⟨_, _, rds, κ', key, hK⟩

/-- Two blocks of scalars, which the callee only reads. -/
theorem CallDo.pass2 {c : Ctx} {f : FuncId} {xs us : List AV} {lv : Key → LB} {K : AV → List (Key × LB) → List Key → Nat → Prop} (κ' kh k0 k1 : Key) (own : Bool) {T0 T1 : TypeId} {cs0 cs1 : List CV} {x : AV} (rds : List Key)
    (hc : CallsS c.P c.G f us [.cells false false T0 cs0, .cells false false T1 cs1] (.ret x [.cells false false T0 cs0, .cells false false T1 cs1] [])) (hx : x.pure = true)
    (h0 : lv k0 = .cells own false T0 cs0) (h1 : lv k1 = .cells own false T1 cs1) (p0 : ∀ x ∈ cs0, x.pure = true) (p1 : ∀ x ∈ cs1, x.pure = true) (hk : k0 ≠ k1) (hh : lv kh = .hole) (hlen : us.length = xs.length)
    (hargs : ∀ i (h : i < xs.length) (h' : i < us.length), us[i].flat1 = true ∧ xs[i] = us[i].ren (keyMap [k0, k1] [] kh))
    (hrd : ∀ a ∈ xs, ∀ k ∈ rdA lv a, k ∈ rds) (hrh : kh ∈ rds)
    (hK : K x [(k0, .cells own false T0 cs0), (k1, .cells own false T1 cs1)] rds κ') : CallDo c f xs lv K := by
  have r0 : ∀ g, (LB.cells false false T0 cs0).ren g = .cells false false T0 cs0 := fun g => LB.ren_pure p0 g
  have r1 : ∀ g, (LB.cells false false T1 cs1).ren g = .cells false false T1 cs1 := fun g => LB.ren_pure p1 g
  have m0 : ∀ g, cs0.map (CV.ren g) = cs0 := fun g => by simp_all
  have m1 : ∀ g, cs1.map (CV.ren g) = cs1 := fun g => by simp_all
  refine CallDo.passN κ' kh own [k0, k1] _ _ rds hc (by simp [hk]) ?_ rfl rfl (by simp) ?_ hh (by simp [LB.pass]) (by simp) ?_ hlen hargs hrd hrh ?_
  · grind
  · intro i p q
    have hi : i = 0 ∨ i = 1 := by simp at p; omega
    rcases hi with rfl | rfl
    · exact ⟨own, cs0, h0, (m0 _).symm, fun h => by cases h⟩
    · exact ⟨own, cs1, h1, (m1 _).symm, fun h => by cases h⟩
  · intro ho k hk'
    simp only [List.mem_cons, List.not_mem_nil, or_false] at hk'
    rcases hk' with rfl | rfl
    · rw [h0]; exact ho
    · rw [h1]; exact ho
  · rw [AV.ren_pure hx]
    have e : backW (keyMap [k0, k1] [] kh) own [k0, k1] [.cells false false T0 cs0, .cells false false T1 cs1] = [(k0, .cells own false T0 cs0), (k1, .cells own false T1 cs1)] := by
      simp only [backW, List.zipWith_cons_cons, List.zipWith_nil_left, r0, r1, LB.fix, Bool.false_or]
    grind

theorem lvOf_two (b b' : LB) : lvOf [b, b'] [] = upd (upd (fun _ => .hole) 0 b) 1 b' := by
  funext k
  unfold lvOf upd
  grind

/-- How a function ends that was handed two blocks and has only read them. -/
def Fin2 (c : Ctx) (fn : Func) (x : AV) (b0 b1 : LB) : Ex → LSt → Nat → Prop
  | .normal, s, _ | .ret, s, _ => ∃ l kh, (∀ p ∈ l, p.2.pure = true ∧ s.fr p.1 = p.2) ∧ s.lv kh = .hole ∧ s.lv 0 = b0 ∧ s.lv 1 = b1 ∧ resA c.P ⟨frOf l, fun _ => .hole⟩ fn.results.toList = some x
  | _, _, _ => False

theorem resA_lv {P : Program} {l : List (Nat × AV)} {lv lv' : Key → LB} {rs : List ResultVar} (hr : ∀ r ∈ rs, ∃ t, r = .tmp t) : resA P ⟨frOf l, lv⟩ rs = resA P ⟨frOf l, lv'⟩ rs := by
  have h1 : ∀ rs : List ResultVar, (∀ r ∈ rs, ∃ t, r = .tmp t) → resL P ⟨frOf l, lv⟩ rs = resL P ⟨frOf l, lv'⟩ rs := by
    intro rs
    induction rs with
    | nil => intro _; rfl
    | cons r rs ih =>
      intro h
      obtain ⟨t, rfl⟩ := h r (by simp)
      have := ih fun r hr => h r (by simp [hr])
      simp only [resL, resV, this]
  unfold resA; grind

theorem CallsS.of_AW2 {P : Program} {G : List (List DV)} {f : FuncId} {fn : Func} {code : Code} {args : List AV} {T0 T1 : TypeId} {cs0 cs1 : List CV} {x : AV} (hf : P.funcs[f]? = some fn) (hb : fn.body = some code) (hl : args.length ≤ fn.ntmps)
    (hr : ∀ r ∈ fn.results.toList, ∃ t, r = .tmp t) (p0 : ∀ x ∈ cs0, x.pure = true) (p1 : ∀ x ∈ cs1, x.pure = true)
    (h : ∀ c : Ctx, c.P = P → c.G = G → c.n = fn.ntmps → AW c none code ⟨fun t => args.getD t .undef, upd (upd (fun _ => .hole) 0 (.cells false false T0 cs0)) 1 (.cells false false T1 cs1)⟩ 1000 (Fin2 c fn x (.cells false false T0 cs0) (.cells false false T1 cs1))) :
    CallsS P G f args [.cells false false T0 cs0, .cells false false T1 cs1] (.ret x [.cells false false T0 cs0, .cells false false T1 cs1] []) := by
  have m0 : ∀ g, cs0.map (CV.ren g) = cs0 := fun g => by have := LB.ren_pure (T := T0) (own := false) (fz := false) p0 g; simp_all
  have m1 : ∀ g, cs1.map (CV.ren g) = cs1 := fun g => by have := LB.ren_pure (T := T1) (own := false) (fz := false) p1 g; simp_all
  refine CallsS.of_AW hf hb hl fun c h1 h2 h3 h4 => ?_
  rw [lvOf_two] at h4 ⊢
  refine AW.mono (h c h1 h2 h3) fun e s κ hq => ?_
  have fin : (∃ l kh, (∀ p ∈ l, p.2.pure = true ∧ s.fr p.1 = p.2) ∧ s.lv kh = .hole ∧ s.lv 0 = .cells false false T0 cs0 ∧ s.lv 1 = .cells false false T1 cs1 ∧ resA c.P ⟨frOf l, fun _ => .hole⟩ fn.results.toList = some x) →
      ∃ s2 g, Coarse c s s2 g ∧ s2.lv = lvOf [.cells false false T0 cs0, .cells false false T1 cs1] [] ∧ resA c.P s2 fn.results.toList = some x := by
    rintro ⟨l, kh, g1, g2, g3, g4, g5⟩
    refine ⟨⟨frOf l, upd (upd (fun _ => .hole) 0 (.cells false false T0 cs0)) 1 (.cells false false T1 cs1)⟩, fun k => if k = 0 then 0 else if k = 1 then 1 else kh, ⟨fun k => ?_, fun k k' e1 e2 e => ?_, fun t => ?_, fun k hk => ?_⟩, by rw [lvOf_two], by rw [resA_lv hr (lv' := fun _ => .hole)]; exact g5⟩
    · show (s.lv _).as (upd _ 1 _ k) _
      by_cases hk1 : k = 1
      · subst hk1
        exact ⟨false, cs1, g4, (m1 _).symm, fun h => h⟩
      · by_cases hk0 : k = 0
        · subst hk0
          exact ⟨false, cs0, g3, (m0 _).symm, fun h => h⟩
        · simp only [upd, hk0, hk1, if_false]; exact g2
    · have q : ∀ k, (upd (upd (fun _ => LB.hole) 0 (.cells false false T0 cs0)) 1 (.cells false false T1 cs1) k).live = true → k = 0 ∨ k = 1 := by
        intro k hk
        unfold upd at hk
        by_cases hk1 : k = 1
        · omega
        · by_cases hk0 : k = 0
          · omega
          · rw [if_neg hk1, if_neg hk0] at hk; cases hk
      grind
    · rcases frOf_cases (P := fun t x => x.pure = true ∧ s.fr t = x) g1 t with h | ⟨h1, h2⟩
      · grind
      · exact .inr ⟨AV.flat1_pure h1, by rw [AV.ren_pure h1]; exact h2⟩
    · right
      rw [h4] at hk
      show (if k = 0 then 0 else if k = 1 then 1 else kh) = k
      by_cases hk1 : k = 1
      · grind
      simp_all
  cases e with
  | normal => exact fin hq
  | ret => exact fin hq
  | exit id => exact hq.elim
  | goto l => exact hq.elim
  | panic d => exact hq.elim

theorem CallsS.en2 {P : Program} {G : List (List DV)} {f : FuncId} {fn : Func} {code : Code} {args : List AV} {T0 T1 : TypeId} {cs0 cs1 : List CV} {x : AV} (hf : P.funcs[f]? = some fn) (hb : fn.body = some code) (p0 : ∀ x ∈ cs0, x.pure = true) (p1 : ∀ x ∈ cs1, x.pure = true)
    (hr : ∀ r ∈ fn.results.toList, ∃ t, r = .tmp t)
    (h : ∀ z : Ev, AW ⟨P, G, z.w, z.F, z.W, fn.ntmps, z.q, z.b⟩ none code ⟨fun t => args.getD t .undef, upd (upd (fun _ => .hole) 0 (.cells false false T0 cs0)) 1 (.cells false false T1 cs1)⟩ 1000 (Fin2 ⟨P, G, z.w, z.F, z.W, fn.ntmps, z.q, z.b⟩ fn x (.cells false false T0 cs0) (.cells false false T1 cs1))) (hl : Nat.ble args.length fn.ntmps = true := by kernel_rfl) :
    CallsS P G f args [.cells false false T0 cs0, .cells false false T1 cs1] (.ret x [.cells false false T0 cs0, .cells false false T1 cs1] []) :=
  CallsS.of_AW2 hf hb (Nat.le_of_ble_eq_true hl) hr p0 p1 fun ⟨_, _, w, F, W, _, q, b⟩ h1 h2 h3 => by cases h1; cases h2; cases h3; exact h ⟨w, F, W, q, b⟩

theorem Fin2.tmp {c : Ctx} {fn : Func} {x : AV} {t : Nat} {s : LSt} {κ : Nat} {b0 b1 : LB} (hr : fn.results = #[.tmp t]) (kh : Key) (hx : s.fr t = x) (hp : x.pure = true) (hh : s.lv kh = .hole) (h0 : s.lv 0 = b0) (h1 : s.lv 1 = b1) (hn : x.noTup = true) : Fin2 c fn x b0 b1 .ret s κ := by
  refine ⟨[(t, x)], kh, by grind, hh, h0, h1, ?_⟩
  rw [hr]
  simp [resA, resL, resV, frOf]
/-! ### regions with further operations -/

section
variable {c : Ctx} {r : Option Nat} {ops : Array Oper} {o : Oper} {s0 : LSt}

theorem EffOK.plainN {κ : Key} {x : AV} {us : List (Key × LB)} {rds : List Key} (hd : ∀ d, o.dst = some d → d < c.n) (hw : wantA ops o.guard s0.fr = some true)
    (h : stepN c.P o.op (o.op.operands.toList.map (s0.val c.G)) s0.lv κ = some (x, us, rds)) : EffOK c r ops o s0 ⟨x, us, rds⟩ := by
  refine EffOK.of_sim hw (fun cl hcl => ?_) (fun s h1 h2 => ?_)
  · rw [hcl] at h; simp [stepN] at h
  · have hl := stepN_local h (show Agree s0.lv s.lv us rds from h2)
    exact stepN_sim hd rfl (List.map_congr_left h1) hl

theorem sim_slice_ae {T e : TypeId} {x : Operand} {lo hi : Option Operand} {κ : Key} {off n : Nat} {own fz : Bool} {T' : TypeId} {cs : List CV} {l : Int} {sz : Nat} {s : LSt} (hd : ∀ d, o.dst = some d → d < c.n) (ho : o.op = .slice T x lo hi none)
    (hx : s.val c.G x = .c (.ptr κ off)) (hk : s.lv κ = .cells own fz T' cs) (hT : arT c.P T = some (n, e, sz)) (hlo : bndA (lo.map (s.val c.G)) 0 = some l) (hhi : bndA (hi.map (s.val c.G)) n = some l)
    (h0 : 0 ≤ l) (h2 : l ≤ n) : Sim c o s (s.put o.dst (.c (.d (.sl [])))) :=
  Sim.of_pure hd fun F β a w hs => by
    have hv := hx ▸ hs.val x
    obtain ⟨hv, _⟩ := hv
    simp only [Vw.atPtr, hk] at hv
    have hr := run_sliceAt_array hT (b := β κ) (o := off) (bnd_of (fun x => hs.val x) hlo) (bnd_of (fun x => hs.val x) hhi) h0 (Int.le_refl _) h2 w
    refine ⟨_, by simp only [execOp, ho, Option.map_none, hv]; simp [hr]; rfl, ?_, rfl⟩
    have e1 : (if n = l.toNat then (⟨β κ, off, none⟩ : Addr) else ⟨β κ, off + l.toNat * sz, none⟩) = ⟨β κ, if n = l.toNat then off else off + l.toNat * sz, none⟩ := by split <;> rfl
    rw [e1]
    exact Rd.sl (β κ) _ (n - l.toNat) sz [] (fun _ _ => .nilIface) (by simp) (by simp) (by simp) (by simp) (by simp) (by simp)

theorem EffOK.sliceE {T e : TypeId} {x : Operand} {lo hi : Option Operand} {κ : Key} {off n : Nat} {own fz : Bool} {T' : TypeId} {cs : List CV} {l : Int} {sz : Nat} (hd : ∀ d, o.dst = some d → d < c.n) (hw : wantA ops o.guard s0.fr = some true) (ho : o.op = .slice T x lo hi none)
    (hx : s0.val c.G x = .c (.ptr κ off)) (hk : s0.lv κ = .cells own fz T' cs) (hT : arT c.P T = some (n, e, sz)) (hlo : bndA (lo.map (s0.val c.G)) 0 = some l) (hhi : bndA (hi.map (s0.val c.G)) n = some l)
    (h0 : 0 ≤ l) (h2 : l ≤ n) : EffOK c r ops o s0 ⟨.c (.d (.sl [])), [], [κ]⟩ := by
  refine EffOK.of_sim hw (fun cl hcl => by grind) (fun s h1 h3 => ?_)
  have e1 : s.val c.G x = s0.val c.G x := h1 x (by rw [ho]; simp [Op.operands])
  have e2 : lo.map (s.val c.G) = lo.map (s0.val c.G) := by
    cases lo with
    | none => rfl
    | some y => exact congrArg some (h1 y (by rw [ho]; simp [Op.operands]))
  have e3 : hi.map (s.val c.G) = hi.map (s0.val c.G) := by
    cases hi with
    | none => rfl
    | some y => exact congrArg some (h1 y (by rw [ho]; simp [Op.operands]))
  have e4 : s.lv κ = s0.lv κ := h3.1 κ (by simp)
  exact sim_slice_ae hd ho (e1.trans hx) (e4.trans hk) hT (by grind) (by grind) h0 h2
end

/-- What the operations of a region do, one after the other. -/
def ChX (c : Ctx) (r : Option Nat) (ops : Array Oper) (os : List Oper) (s : LSt) (κ : Nat) (K : LSt → Nat → Prop) : Prop :=
  ∃ es s' κ', Chain c r ops os es s s' ∧ K s' κ'

section
variable {c : Ctx} {r : Option Nat} {ops : Array Oper}
theorem Chain.append {os2 : List Oper} {es2 : List Fx} {s2 : LSt} : ∀ {os1 : List Oper} {es1 : List Fx} {s s1 : LSt}, Chain c r ops os1 es1 s s1 → Chain c r ops os2 es2 s1 s2 → Chain c r ops (os1 ++ os2) (es1 ++ es2) s s2
  | [], [], s, s1, h, h2 => by have h : s1 = s := h; grind
  | o :: os, e :: es, s, s1, h, h2 => ⟨h.1, Chain.append h.2 h2⟩
  | [], _ :: _, _, _, h, _ => h.elim
  | _ :: _, [], _, _, h, _ => h.elim
theorem ChX.done {s : LSt} {κ : Nat} {K : LSt → Nat → Prop} (h : K s κ) : ChX c r ops [] s κ K := ⟨[], s, κ, rfl, h⟩
theorem ChX.run {os : List Oper} {s : LSt} {κ : Nat} {K : LSt → Nat → Prop} (n : Nat) (hd : dstB c.n (os.take n) = true) (h : ARunP c (prepL (ops.toList.map (·.dst)) (os.take n)) s κ fun s' κ' => ChX c r ops (os.drop n) s' κ' K) : ChX c r ops os s κ K := by
  rw [ARunP_eq] at h
  obtain ⟨es, s', κ', h1, es2, s2, κ2, h2, h3⟩ := ARun.chain (r := r) hd h
  refine ⟨es ++ es2, s2, κ2, ?_, h3⟩
  have := Chain.append h1 h2
  simp_all
theorem ChX.eff {o : Oper} {os : List Oper} {s : LSt} {κ : Nat} {K : LSt → Nat → Prop} {x : AV} {us : List (Key × LB)} {rds : List Key} (κ' : Nat) (he : EffOK c r ops o s ⟨x, us, rds⟩) (h : ChX c r ops os (LSt.put ⟨s.fr, updL s.lv us⟩ o.dst x) κ' K) : ChX c r ops (o :: os) s κ K := by
  obtain ⟨es, s', κ2, h1, h2⟩ := h
  exact ⟨⟨x, us, rds⟩ :: es, s', κ2, ⟨he, h1⟩, h2⟩
theorem AW.regionX {s : LSt} {κ : Nat} {Q : Ex → LSt → Nat → Prop} {id : Nat} (h : ChX c r ops ops.toList s κ fun s' κ' => Q .normal s' κ') : AW c r (.region id ops false) s κ Q := by
  intro F β a w hs
  obtain ⟨es, s', κ', h1, h2⟩ := h
  exact h1.region (fun F' β' a' w' h' => ⟨.normal, s', κ', F', β', h2, h', rfl⟩) hs
end
theorem ChX.stepN {c : Ctx} {r : Option Nat} {ops : Array Oper} {o : Oper} {os : List Oper} {s : LSt} {κ : Nat} {K : LSt → Nat → Prop} {x : AV} {us : List (Key × LB)} {rds : List Key} (κ' : Nat) (hd : dstB c.n [o] = true) (hg : o.guard = none)
    (h : Am.stepN c.P o.op (o.op.operands.toList.map (s.val c.G)) s.lv κ = some (x, us, rds)) (hK : ChX c r ops os (LSt.put ⟨s.fr, updL s.lv us⟩ o.dst x) κ' K) : ChX c r ops (o :: os) s κ K := by
  refine ChX.eff κ' (EffOK.plainN (fun d hd' => ?_) (by rw [hg]; rfl) h) hK
  simp only [dstB, List.all_cons, List.all_nil, Bool.and_true, hd'] at hd
  grind
theorem ChX.sliceE {c : Ctx} {r : Option Nat} {ops : Array Oper} {o : Oper} {os : List Oper} {s : LSt} {κ0 : Nat} {K : LSt → Nat → Prop} (κ' : Nat) {T e : TypeId} {x : Operand} {lo hi : Option Operand} {κ : Key} {off n : Nat} {own fz : Bool} {T' : TypeId} {cs : List CV} {l : Int} {sz : Nat}
    (hd : dstB c.n [o] = true) (hg : o.guard = none) (ho : o.op = .slice T x lo hi none)
    (hx : s.val c.G x = .c (.ptr κ off)) (hk : s.lv κ = .cells own fz T' cs) (hT : arT c.P T = some (n, e, sz)) (hlo : bndA (lo.map (s.val c.G)) 0 = some l) (hhi : bndA (hi.map (s.val c.G)) n = some l)
    (h0 : 0 ≤ l) (h2 : l ≤ n) (hK : ChX c r ops os (LSt.put ⟨s.fr, updL s.lv []⟩ o.dst (.c (.d (.sl [])))) κ' K) : ChX c r ops (o :: os) s κ0 K := by
  refine ChX.eff κ' (EffOK.sliceE (fun d hd' => ?_) (by rw [hg]; rfl) ho hx hk hT hlo hhi h0 h2) hK
  simp only [dstB, List.all_cons, List.all_nil, Bool.and_true, hd'] at hd
  grind



/-! ### states under other names -/

def kmap (m : List (Key × Key × LB)) (kh : Key) : Key → Key := fun k => match m.find? (fun e => e.1 == k) with
  | some e => e.2.1
  | none => kh

@[simp] theorem LB.as_cells {o f own fz : Bool} {T T' : TypeId} {cs cs' : List CV} {g : Key → Key} : (LB.cells o f T cs').as (.cells own fz T' cs) g ↔ (f = fz ∧ T = T' ∧ cs' = cs.map (CV.ren g) ∧ (own = true → o = true)) := by
  constructor
  · rintro ⟨own', cs2, h1, h2, h3⟩
    injection h1 with e1 e2 e3 e4
    subst e1; subst e4
    exact ⟨e2, e3, h2, h3⟩
  · rintro ⟨rfl, rfl, h2, h3⟩
    exact ⟨o, cs', rfl, h2, h3⟩
@[simp] theorem LB.as_nils {x : LB} {g : Key → Key} : x.as .nils g ↔ x = .nils := Iff.rfl

/-- A block under other names (a name that may be written behind the loader too). -/
abbrev LB.like (x y : LB) (g : Key → Key) : Prop := x.as y g
@[simp] theorem LB.like_cells {o f own fz : Bool} {T T' : TypeId} {cs cs' : List CV} {g : Key → Key} : (LB.cells o f T cs').like (.cells own fz T' cs) g ↔ (f = fz ∧ T = T' ∧ cs' = cs.map (CV.ren g) ∧ (own = true → o = true)) := LB.as_cells
@[simp] theorem LB.like_nils {x : LB} {g : Key → Key} : x.like .nils g ↔ x = .nils := Iff.rfl
theorem updL_keys {m : List (Key × Key × LB)} {k : Key} (hn : (m.map (·.1)).Nodup) :
    updL (fun _ => LB.hole) (m.map fun e => (e.1, e.2.2)) k = match m.find? (fun e => e.1 == k) with | some e => e.2.2 | none => .hole := by
  cases h : m.find? (fun e => e.1 == k) with
  | some e =>
    have h1 := List.mem_of_find?_eq_some h
    have h2 := List.find?_some h
    simp only [beq_iff_eq] at h2
    subst h2
    have hn' : ((m.map fun e => (e.1, e.2.2)).map (·.1)).Nodup := by rw [List.map_map]; exact hn
    exact updL_mem hn' (List.mem_map.2 ⟨e, h1, rfl⟩)
  | none =>
    rw [List.find?_eq_none] at h
    rw [updL_not]
    grind

theorem Coarse.keys {c : Ctx} {s : LSt} {lv' : Key → LB} (m : List (Key × Key × LB)) (kh : Key) (l : List (Nat × AV)) (hlv' : lv' = updL (fun _ => .hole) (m.map fun e => (e.1, e.2.2))) (hc : ∀ k, c.lv0 k ≠ .hole → lv' k = .dead ∨ kmap m kh k = k)
    (hn1 : (m.map (·.1)).Nodup) (hn2 : (m.map (·.2.1)).Nodup) (hh : s.lv kh = .hole) (has : ∀ e ∈ m, (s.lv e.2.1).as e.2.2 (kmap m kh)) (hl : ∀ p ∈ l, p.2.flat1 = true ∧ s.fr p.1 = p.2.ren (kmap m kh)) : Coarse c s ⟨frOf l, lv'⟩ (kmap m kh) := by
  have hk : ∀ k, lv' k = match m.find? (fun e => e.1 == k) with | some e => e.2.2 | none => .hole := fun k => by rw [hlv', updL_keys hn1]
  refine ⟨fun k => ?_, fun k k' h1 h2 e => ?_, fun t => ?_, hc⟩
  · show (s.lv (kmap m kh k)).as (lv' k) _
    rw [hk]
    cases h : m.find? (fun e => e.1 == k) with
    | some e =>
      have e1 : kmap m kh k = e.2.1 := by unfold kmap; rw [h]
      grind
    | none =>
      have e1 : kmap m kh k = kh := by unfold kmap; rw [h]
      rw [e1]; exact hh
  · have h1' : (lv' k).live = true := h1
    have h2' : (lv' k').live = true := h2
    rw [hk] at h1' h2'
    cases f1 : m.find? (fun e => e.1 == k) with
    | none => rw [f1] at h1'; cases h1'
    | some e1 =>
      cases f2 : m.find? (fun e => e.1 == k') with
      | none => rw [f2] at h2'; cases h2'
      | some e2 =>
        have g1 : kmap m kh k = e1.2.1 := by unfold kmap; rw [f1]
        have g2 : kmap m kh k' = e2.2.1 := by unfold kmap; rw [f2]
        rw [g1, g2] at e
        have i1 := List.mem_of_find?_eq_some f1
        have i2 := List.mem_of_find?_eq_some f2
        have j1 := List.find?_some f1
        have j2 := List.find?_some f2
        simp only [beq_iff_eq] at j1 j2
        have : e1 = e2 := by
          obtain ⟨a, ha, rfl⟩ := List.mem_iff_getElem.1 i1
          obtain ⟨b, hb, rfl⟩ := List.mem_iff_getElem.1 i2
          have hab : a = b := by
            refine (List.getElem_inj (xs := m.map (·.2.1)) (i := a) (j := b) (h₀ := by grind) (h₁ := by grind) hn2).1 ?_
            simpa using e
          subst hab; rfl
        grind
  · rcases frOf_cases (P := fun t x => x.flat1 = true ∧ s.fr t = x.ren (kmap m kh)) hl t with h | ⟨h1, h2⟩
    · grind
    grind

theorem Le.keys {c : Ctx} {fr : Nat → AV} {lv lv' : Key → LB} (m : List (Key × Key × LB)) (kh : Key) (l : List (Nat × AV)) (hlv' : lv' = updL (fun _ => .hole) (m.map fun e => (e.1, e.2.2))) (hc : c.lv0 = fun _ => .hole)
    (hn1 : (m.map (·.1)).Nodup) (hn2 : (m.map (·.2.1)).Nodup) (hh : lv kh = .hole) (has : ∀ e ∈ m, (lv e.2.1).like e.2.2 (kmap m kh)) (hl : ∀ p ∈ l, p.2.flat1 = true ∧ fr p.1 = p.2.ren (kmap m kh)) : Le c ⟨fr, lv⟩ ⟨frOf l, lv'⟩ :=
  ⟨_, Coarse.keys (s := ⟨fr, lv⟩) m kh l hlv' (fun k hk => absurd (by rw [hc]) hk) hn1 hn2 hh has hl⟩

/-! ### calls that give new blocks back -/

theorem CallDo.newN {c : Ctx} {f : FuncId} {xs : List AV} {lv : Key → LB} {K : AV → List (Key × LB) → List Key → Nat → Prop} (κ' kh : Key) (nk : List Key) (ν : List LB) {x : AV} (hc : CallsS c.P c.G f xs [] (.ret x [] ν)) (hxs : ∀ a ∈ xs, a.pure = true)
    (hn : nk.Nodup) (hkh : kh ∉ nk) (hl : nk.length = ν.length) (hnk : ∀ k ∈ nk, lv k = .hole) (hh : lv kh = .hole) (hnh : ∀ b ∈ ν, b ≠ .hole)
    (hK : K (x.ren (keyMap [] nk kh)) (backW (keyMap [] nk kh) true nk ν) [kh] κ') : CallDo c f xs lv K := by
  have key := CallEff.gen (c := c) (f := f) (as := xs) (lv := lv) xs [] [] nk kh [] [] ν x true [kh] (fun z hz => by cases hz) (by simp) (by simpa using hn) (fun z hz => by cases hz) (by simpa using hkh) (fun z hz => by cases hz) rfl rfl hl (by simp) (fun i h => absurd h (Nat.not_lt_zero i)) hnk hh (fun b hb => by cases hb) (by simpa using hnh) (fun _ k hk => by cases hk) rfl
    (fun i p q => .inl ⟨AV.flat1_pure (hxs _ (List.getElem_mem q)), (AV.ren_pure (hxs _ (List.getElem_mem q)) _).symm⟩) (fun a ha k hk => by rw [rdA_pure (hxs a ha)] at hk; cases hk) (by simp) hc
  have e : frzW [] ++ backW (keyMap [] nk kh) true [] [] ++ backW (keyMap [] nk kh) true nk ν = backW (keyMap [] nk kh) true nk ν := by simp [frzW, backW]
  rw [e] at key
  exact ⟨_, _, [kh], κ', key, hK⟩

theorem lvOf_far (ν : List LB) (k : Nat) (h : ∀ j, j < ν.length → k ≠ 1000 + j) : lvOf [] ν k = .hole := by
  unfold lvOf
  grind
theorem lvOf_n1 (a : LB) : lvOf [] [a] = upd (fun _ => .hole) 1000 a := by
  refine funext fun (k : Nat) => ?_
  unfold upd
  by_cases h : k = 1000
  · subst h; rfl
  · rw [if_neg h]
    refine lvOf_far _ k fun j hj => ?_
    grind
theorem lvOf_n4 (a b d e : LB) : lvOf [] [a, b, d, e] = upd (upd (upd (upd (fun _ => .hole) 1000 a) 1001 b) 1002 d) 1003 e := by
  refine funext fun (k : Nat) => ?_
  unfold upd
  by_cases h3 : k = 1003
  · subst h3; rfl
  · by_cases h2 : k = 1002
    · subst h2; rfl
    · by_cases h1 : k = 1001
      · subst h1; rfl
      · by_cases h : k = 1000
        · subst h; rfl
        · rw [if_neg h3, if_neg h2, if_neg h1, if_neg h]
          refine lvOf_far _ k fun j hj => ?_
          have : j < 4 := by simpa using hj
          omega

/-- How a function ends that leaves new blocks. -/
def FinN (c : Ctx) (fn : Func) (x : AV) (ν : List LB) : Ex → LSt → Nat → Prop
  | .normal, s, _ | .ret, s, _ => ∃ (m : List (Key × Key × LB)) (kh : Key), lvOf [] ν = updL (fun _ => .hole) (m.map fun e => (e.1, e.2.2)) ∧ (m.map (·.1)).Nodup ∧ (m.map (·.2.1)).Nodup ∧ s.lv kh = .hole ∧
      (∀ e ∈ m, (s.lv e.2.1).like e.2.2 (kmap m kh)) ∧ x.flat1 = true ∧ resA c.P s fn.results.toList = some (x.ren (kmap m kh))
  | _, _, _ => False

def FinM (c : Ctx) (fn : Func) (x : AV) (σ' ν : List LB) : Ex → LSt → Nat → Prop
  | .normal, s, _ | .ret, s, _ => ∃ (m : List (Key × Key × LB)) (kh : Key), lvOf σ' ν = updL (fun _ => .hole) (m.map fun e => (e.1, e.2.2)) ∧ (m.map (·.1)).Nodup ∧ (m.map (·.2.1)).Nodup ∧ s.lv kh = .hole ∧
      (∀ k, c.lv0 k ≠ .hole → lvOf σ' ν k = .dead ∨ kmap m kh k = k) ∧ (∀ e ∈ m, (s.lv e.2.1).like e.2.2 (kmap m kh)) ∧ x.flat1 = true ∧ resA c.P s fn.results.toList = some (x.ren (kmap m kh))
  | _, _, _ => False
theorem CallsS.of_AWm {P : Program} {G : List (List DV)} {f : FuncId} {fn : Func} {code : Code} {args : List AV} {σ σ' ν : List LB} {x : AV} (hf : P.funcs[f]? = some fn) (hb : fn.body = some code) (hl : args.length ≤ fn.ntmps)
    (h : ∀ c : Ctx, c.P = P → c.G = G → c.n = fn.ntmps → c.lv0 = lvOf σ [] → AW c none code ⟨fun t => args.getD t .undef, lvOf σ []⟩ 1000 (FinM c fn x σ' ν)) : CallsS P G f args σ (.ret x σ' ν) := by
  intro F β w vs hS hvl hv
  refine enter_wp hf hb hl hS hvl hv (h _ rfl rfl rfl rfl) (fun e s κ hq => by cases e <;> first | exact .inl rfl | exact .inr rfl | exact hq.elim) fun e s' κ F' β' a' w' hq hX0 => ?_
  obtain ⟨m, kh, g1, g2, g3, g4, g8, g5, g6, g7⟩ : ∃ (m : List (Key × Key × LB)) (kh : Key), lvOf σ' ν = updL (fun _ => .hole) (m.map fun e => (e.1, e.2.2)) ∧ (m.map (·.1)).Nodup ∧ (m.map (·.2.1)).Nodup ∧ s'.lv kh = .hole ∧ (∀ k, lvOf σ [] k ≠ .hole → lvOf σ' ν k = .dead ∨ kmap m kh k = k) ∧ (∀ e ∈ m, (s'.lv e.2.1).like e.2.2 (kmap m kh)) ∧ x.flat1 = true ∧ resA P s' fn.results.toList = some (x.ren (kmap m kh)) := by cases e <;> first | exact hq | exact hq.elim
  obtain ⟨v, h4, hav⟩ := resA_run hX0 g7
  have hco : Coarse { CtxE P G w F β (lvOf σ []) with n := fn.ntmps } s' ⟨frOf [], lvOf σ' ν⟩ (kmap m kh) := Coarse.keys m kh [] g1 g8 g2 g3 g4 g5 (fun p hp => by cases hp)
  have hs2 := hX0.coarse hco
  have hR : (Vw.mk F' β' s'.lv w').Ren (Vw.mk F' (fun k => β' (kmap m kh k)) (lvOf σ' ν) w') (kmap m kh) := ⟨rfl, rfl, fun _ _ => rfl, fun k => LB.as_kin (hco.as k)⟩
  refine ⟨hX0.defers, v, h4, v, F', fun k => β' (kmap m kh k), rfl, ?_, hR.av g6 hav⟩
  exact hs2.sits
theorem CallsS.of_AWn {P : Program} {G : List (List DV)} {f : FuncId} {fn : Func} {code : Code} {args : List AV} {ν : List LB} {x : AV} (hf : P.funcs[f]? = some fn) (hb : fn.body = some code) (hl : args.length ≤ fn.ntmps)
    (h : ∀ c : Ctx, c.P = P → c.G = G → c.n = fn.ntmps → c.lv0 = (fun _ => .hole) → AW c none code ⟨fun t => args.getD t .undef, fun _ => .hole⟩ 0 (FinN c fn x ν)) : CallsS P G f args [] (.ret x [] ν) := by
  refine CallsS.of_AWm hf hb hl fun c h1 h2 h3 h4 => ?_
  rw [lvOf_nil'] at h4 ⊢
  refine (AW.mono (fun F β a w hs => h c h1 h2 h3 h4 F β a w hs) fun e s κ hq => ?_ : AW c none code _ 1000 _)
  cases e <;> first | exact hq.elim | (obtain ⟨m, kh, g1, g2, g3, g4, g5, g6, g7⟩ := hq; exact ⟨m, kh, g1, g2, g3, g4, fun k hk => absurd (by rw [h4]) hk, g5, g6, g7⟩)

theorem CallsS.enn {P : Program} {G : List (List DV)} {f : FuncId} {fn : Func} {code : Code} {args : List AV} {ν : List LB} {x : AV} (hf : P.funcs[f]? = some fn) (hb : fn.body = some code)
    (h : ∀ z : Ev, AW ⟨P, G, z.w, z.F, z.W, fn.ntmps, fun _ => .hole, z.b⟩ none code ⟨fun t => args.getD t .undef, fun _ => .hole⟩ 0 (FinN ⟨P, G, z.w, z.F, z.W, fn.ntmps, fun _ => .hole, z.b⟩ fn x ν)) (hl : Nat.ble args.length fn.ntmps = true := by kernel_rfl) : CallsS P G f args [] (.ret x [] ν) :=
  CallsS.of_AWn hf hb (Nat.le_of_ble_eq_true hl) fun ⟨_, _, w, F, W, _, q, b⟩ h1 h2 h3 h4 => by cases h1; cases h2; cases h3; cases h4; exact h ⟨w, F, W, fun _ => .hole, b⟩

/-- A nil slice that is told as a block. -/
theorem CallsS.nil_blk {P : Program} {G : List (List DV)} {f : FuncId} {args : List AV} {sz : Nat} (h : CallsP P G f args (.c (.d .nilsl))) : CallsS P G f args [] (.ret (.c (.lsl 1000 0 0 sz)) [] [.nils]) := by
  intro F β w vs hS hl hv
  refine (h F β w vs hS hl hv).mono fun e w' he => ?_
  obtain ⟨v, F', β', rfl, hX, hav⟩ := he
  have hlv : lvOf [] [] = fun _ => LB.hole := lvOf_nil'
  obtain ⟨hr, ho⟩ := hav
  have hv0 : v = .slice none 0 0 := by
    generalize hd : DV.nilsl = d at hr
    cases hr <;> first | rfl | cases hd
  refine ⟨v, F', β', rfl, ?_, ?_⟩
  · show Sits _ F' β' (lvOf [] [LB.nils]) w'
    rw [lvOf_n1]
    refine ⟨fun k => ?_, fun k k' h1 h2 => ?_, fun _ => trivial, rfl, rfl, hX.Flt, hX.F0, hX.old, hX.ge, hX.glob, fun k hk => ?_, hX.asz, hX.oso⟩
    · show (Vw.mk F' β' (upd (fun _ => LB.hole) 1000 .nils) w').blk _ k
      unfold Vw.blk upd
      by_cases hk : k = 1000
      · simp only [hk, if_true]
      · simp only [hk, if_false]
    · have h1' : (upd (fun _ => LB.hole) 1000 .nils k).live = true := h1
      unfold upd at h1'; split at h1' <;> cases h1'
    · exfalso
      apply hk
      show lvOf [] [] k = .hole
      rw [hlv]
  · refine ⟨?_, ho⟩
    show (Vw.mk F' β' (lvOf [] [LB.nils]) w').atLsl v 1000 0 0 sz
    rw [lvOf_n1]
    unfold Vw.atLsl upd
    simp only [if_true]
    exact ⟨hv0, trivial, trivial⟩

/-- Blocks that nobody writes any more, and a call that reads them. -/
theorem CallDo.frzL {c : Ctx} {f : FuncId} {xs us : List AV} {lv : Key → LB} {K : AV → List (Key × LB) → List Key → Nat → Prop} (κ' kh : Key) (Z : List (Key × TypeId × List CV)) {x : AV} (rds : List Key)
    (hc : CallsP c.P c.G f us x) (hx : x.pure = true) (hZ : ∀ z ∈ Z, lv z.1 = .cells true false z.2.1 z.2.2) (hZn : (Z.map (·.1)).Nodup) (hh : lv kh = .hole) (hlen : us.length = xs.length)
    (hargs : ∀ i (h : i < xs.length) (h' : i < us.length), (us[i].pure = true ∧ xs[i] = us[i]) ∨ ∃ ks, dArg (updL lv (frzW Z)) xs[i] = some (us[i], ks) ∧ ∀ k ∈ ks, k ∈ Z.map (·.1))
    (hrd : ∀ a ∈ xs, ∀ k ∈ rdA (updL lv (frzW Z)) a, k ∈ rds ∨ k ∈ Z.map (·.1)) (hrh : kh ∈ rds)
    (hK : K x (frzW Z) rds κ') : CallDo c f xs lv K := by
  have hkZ : ∀ z ∈ Z, z.1 ≠ kh := fun z hz e => by grind
  have key := CallEff.gen (c := c) (f := f) (as := xs) (lv := lv) us Z [] [] kh [] [] [] x false rds hZ hZn (by simp) (fun z hz => by simp) (by simp) hkZ rfl rfl rfl (by simp)
    (fun i h => absurd h (Nat.not_lt_zero i)) (fun k hk => by cases hk) hh (fun b hb => by cases hb) (fun b hb => by cases hb) (fun h => by cases h) hlen
    (fun i p q => ?_) hrd hrh hc
  · rw [AV.ren_pure hx] at key
    have e : frzW Z ++ backW (keyMap [] [] kh) false [] [] ++ backW (keyMap [] [] kh) false [] [] = frzW Z := by simp [backW]
    rw [e] at key
    exact ⟨x, _, rds, κ', key, hK⟩
  · rcases hargs i p q with ⟨h1, h2⟩ | ⟨ks, h1, h2⟩
    · exact .inl ⟨AV.flat1_pure h1, by rw [AV.ren_pure h1]; exact h2⟩
    · refine .inr ⟨ks, h1, fun k hk => ?_⟩
      obtain ⟨z, hz, rfl⟩ := List.mem_map.1 (h2 k hk)
      have hn : ((frzW Z).map (·.1)).Nodup := by rw [frzW_keys]; exact hZn
      exact ⟨true, z.2.1, z.2.2, updL_mem hn (by simp only [frzW, List.mem_map]; grind)⟩
end Go.Am
