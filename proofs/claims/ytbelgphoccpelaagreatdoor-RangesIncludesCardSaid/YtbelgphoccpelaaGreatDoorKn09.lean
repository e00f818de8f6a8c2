/- Helpers: an abstract machine for Go functions, and walks of functions of the program. -/
import Derived.Test.YtbelgphoccpelaaGreatDoorKn08

set_option linter.all false
set_option maxHeartbeats 8000000
set_option maxRecDepth 100000
namespace Go.Am
open Go.Proofs N

abbrev txA (k : Nat) : AV := .c (.d (.sl [[.int .u32 (.ofNat k)]]))
theorem text_dig (m : Int) (k : Nat) (h1 : 1 ≤ k) (h2 : k ≤ 9) : CallsP Tryz.prog (GG m) 117 [txA k] (.c (.d (.str [UInt8.ofNat (48 + k)]))) := by
  have h : k = 1 ∨ k = 2 ∨ k = 3 ∨ k = 4 ∨ k = 5 ∨ k = 6 ∨ k = 7 ∨ k = 8 ∨ k = 9 := by omega
  rcases h with rfl | rfl | rfl | rfl | rfl | rfl | rfl | rfl | rfl <;> exact CallsP.of_ev (evX_ok m 40) (by kernel_rfl)
theorem text_nil (m : Int) : CallsP Tryz.prog (GG m) 117 [.c (.d .nilsl)] (.c (.d (.str [48]))) := CallsP.of_ev (evX_ok m 40) (by kernel_rfl)
def gText : List AV → Option AV
  | [.c (.d .nilsl)] => some (.c (.d (.str [48])))
  | [.c (.d (.sl [[.int .u32 (.ofNat k)]]))] => bif Nat.ble 1 k && Nat.ble k 9 then some (.c (.d (.str [UInt8.ofNat (48 + k)]))) else none
  | _ => none
theorem gText_ok (m : Int) {us : List AV} {x : AV} (h : gText us = some x) (lv : Key → LB) : CallG Tryz.prog (GG m) 117 us lv (.ret x lv) := by
  unfold gText at h
  split at h
  · cases h
    exact CallG.of_CallsP (fun u hu => by simp only [List.mem_cons, List.not_mem_nil, or_false] at hu; subst hu; rfl) rfl (text_nil m)
  · rename_i k
    cases hb : Nat.ble 1 k && Nat.ble k 9 with
    | false => rw [hb] at h; cases h
    | true =>
      rw [hb] at h; cases h
      simp only [Bool.and_eq_true] at hb
      exact CallG.of_CallsP (fun u hu => by simp only [List.mem_cons, List.not_mem_nil, or_false] at hu; subst hu; rfl) rfl (text_dig m k (Nat.le_of_ble_eq_true hb.1) (Nat.le_of_ble_eq_true hb.2))
  · cases h
def gPar : List AV → Option AV
  | [.c (.d (.str s))] => some (.tup [ratV (ratP s), iA (ratE s)])
  | _ => none
theorem gPar_ok (m : Int) {us : List AV} {x : AV} (h : gPar us = some x) (lv : Key → LB) : CallG Tryz.prog (GG m) 28 us lv (.ret x lv) := by
  unfold gPar at h
  split at h
  · rename_i s
    cases h
    exact CallG.of_CallsP (fun u hu => by simp only [List.mem_cons, List.not_mem_nil, or_false] at hu; subst hu; rfl) (tupR_pure _ _) (rat_Parse m s)
  · cases h
noncomputable def spY : Tb Spec := setS 117 (.pure (gF gText)) (setS 28 (.pure (gF gPar)) spX)
theorem evY_ok (m : Int) (n : Nat) : CallOK Tryz.prog (GG m) (evK Tryz.prog (GG m) spY 0 n) := evK_ok mixed (((spX_ok m).f _ _ (gPar_ok m)).f _ _ (gText_ok m)) n
end Go.Am
