/- Helpers: an abstract machine for Go functions, and walks of functions of the program. -/
import Derived.Test.YtfkfimmphlpllaaGreatDoorDn10

set_option linter.all false

namespace Go.Am
open Go.Proofs
def OB:List UInt8→List UInt8→Bool
 | [],[]=>true
 | a::l,b::m=>Nat.beq a.toNat b.toNat && OB l m
 | _,_=>false
theorem DU:∀ {l m:List UInt8},OB l m=true→l=m
 | [],[],_=>rfl
 | a::l,b::m,h=>by
  simp only [OB,Bool.and_eq_true] at h;rw [UInt8.toNat_inj.1 (Nat.eq_of_beq_eq_true h.1),DU h.2]
 | [],_::_,h=>by cases h
 | _::_,[],h=>by cases h
def El:List UInt8:=[114,101,115,117,108,116,32,121,10]
def Gg:AV:=.tup [.agg [.d .nilsl,.d (.int .i64 (.ofNat 0)),.d .nilsl,.d .nilsl,.d (.int .i64 (.ofNat 0)),.d (.int .i64 (.ofNat 0)),.d .nilsl,.d (.int .i64 (.ofNat 0))],.c (.d (.int .i64 (.ofNat 1))),.c (.d (.int .i64 (.ofNat 144)))]
def gP:List AV→Option AV
 | [.c (.d (.str s))]=>bif OB s CY then some Ax else bif OB s El then some Gg else none
 | _=>none
theorem Tq (m:Int){us:List AV}{x:AV}(h:gP us=some x) (lv:Key→LB):bS Tryz.prog (GG m) 22 us lv (.ret x lv):=by
 unfold gP at h;split at h
 ·rename_i s
  cases h1:OB s CY with
  | true=>
   rw [h1] at h;simp only [cond_true,Option.some.injEq] at h;subst h;rw [DU h1];exact bS.r7 (fun u hu=>by simp at hu;subst hu;rfl) rfl (Ht m)
  | false=>
   rw [h1] at h
   cases h2:OB s El with
   | true=>
    rw [h2] at h;simp only [cond_true,cond_false,Option.some.injEq] at h;subst h;rw [DU h2];exact bS.r7 (fun u hu=>by simp at hu;subst hu;rfl) rfl (F2 m)
   | false=>rw [h2] at h;cases h
 ·cases h
theorem vp.more {P:Program}{G:List (List DV)}{sp:Tb Spec}{ft:TypeId}(h:vp P G sp ft) (f0:Nat) (g0:List AV→Option AV) (hg:∀ us x,g0 us=some x→∀ lv,cD lv→bS P G f0 us lv (.ret x lv)):vp P G (xj f0 (.pure g0) sp) ft where
 pure:=by
  intro f g us x hf hx lv ho;rw [kL] at hf;split at hf
  ·rename_i e;subst e;cases hf;exact hg us x hx lv ho
  ·exact h.pure f g us x hf hx lv ho
 uk:=by
  intro f hf;rw [kL] at hf;split at hf
  ·cases hf
  ·exact h.uk f hf
 um:=by
  intro f hf;rw [kL] at hf;split at hf
  ·cases hf
  ·exact h.um f hf
 EX:=by
  intro f T hf;rw [kL] at hf;split at hf
  ·cases hf
  ·exact h.EX f T hf
 Ey:=by
  intro f T hf;rw [kL] at hf;split at hf
  ·cases hf
  ·exact h.Ey f T hf
noncomputable def spB:Tb Spec:=xj 22 (.pure gP) Ro
theorem NL (m:Int)(n:Nat):jw Tryz.prog (GG m) (Qe Tryz.prog (GG m) spB 179 n):=DD mixed ((G2 m).more 22 gP fun us x h lv _=>Tq m h lv) n
end Go.Am
