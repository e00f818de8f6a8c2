/- Helpers: an abstract machine for Go functions, and walks of functions of the program. -/
import Derived.Test.YtfkfimmphlpllaaGreatDoorEn10

set_option linter.all false
set_option maxHeartbeats 8000000
set_option maxRecDepth 100000
namespace Go.Am
open Go.Proofs
def NX:List UInt8→List UInt8→Bool
 | [],[]=>true
 | a::l,b::m=>Nat.beq a.toNat b.toNat && NX l m
 | _,_=>false
theorem DK:∀ {l m:List UInt8},NX l m=true→l=m
 | [],[],_=>rfl
 | a::l,b::m,h=>by
  simp only [NX,Bool.and_eq_true] at h;rw [UInt8.toNat_inj.1 (Nat.eq_of_beq_eq_true h.1),DK h.2]
 | [],_::_,h=>by cases h
 | _::_,[],h=>by cases h
def F4:List UInt8:=[114,101,115,117,108,116,32,121,10]
def G8:AV:=.tup [.agg [.d .nilsl,.d (.int .i64 (.ofNat 0)),.d .nilsl,.d .nilsl,.d (.int .i64 (.ofNat 0)),.d (.int .i64 (.ofNat 0)),.d .nilsl,.d (.int .i64 (.ofNat 0))],.c (.d (.int .i64 (.ofNat 1))),.c (.d (.int .i64 (.ofNat 144)))]
def gP:List AV→Option AV
 | [.c (.d (.str s))]=>bif NX s E6 then some B9 else bif NX s F4 then some G8 else none
 | _=>none
theorem Ri (m:Int){us:List AV}{x:AV}(h:gP us=some x) (lv:Key→LB):bY Tryz.prog (GG m) 22 us lv (.ret x lv):=by
 unfold gP at h;split at h
 ·rename_i s
  cases h1:NX s E6 with
  | true=>
   rw [h1] at h;simp only [cond_true,Option.some.injEq] at h;subst h;rw [DK h1];exact bY.s8 (fun u hu=>by simp at hu;subst hu;rfl) rfl (IL m)
  | false=>
   rw [h1] at h
   cases h2:NX s F4 with
   | true=>
    rw [h2] at h;simp only [cond_true,cond_false,Option.some.injEq] at h;subst h;rw [DK h2];exact bY.s8 (fun u hu=>by simp at hu;subst hu;rfl) rfl (Ht m)
   | false=>rw [h2] at h;cases h
 ·cases h
theorem vt.more {P:Program}{G:List (List DV)}{sp:Tb Spec}{ft:TypeId}(h:vt P G sp ft) (f0:Nat) (g0:List AV→Option AV) (hg:∀ us x,g0 us=some x→∀ lv,cJ lv→bY P G f0 us lv (.ret x lv)):vt P G (xB f0 (.pure g0) sp) ft where
 pure:=by
  intro f g us x hf hx lv ho;rw [lB] at hf;split at hf
  ·rename_i e;subst e;cases hf;exact hg us x hx lv ho
  ·exact h.pure f g us x hf hx lv ho
 uK:=by
  intro f hf;rw [lB] at hf;split at hf
  ·cases hf
  ·exact h.uK f hf
 uI:=by
  intro f hf;rw [lB] at hf;split at hf
  ·cases hf
  ·exact h.uI f hf
 Gt:=by
  intro f T hf;rw [lB] at hf;split at hf
  ·cases hf
  ·exact h.Gt f T hf
 FV:=by
  intro f T hf;rw [lB] at hf;split at hf
  ·cases hf
  ·exact h.FV f T hf
noncomputable def VB:Tb Spec:=xB 22 (.pure gP) QO
theorem NQ (m:Int)(n:Nat):jR Tryz.prog (GG m) (Pn Tryz.prog (GG m) VB 179 n):=EP mixed ((Jm m).more 22 gP fun us x h lv _=>Ri m h lv) n
end Go.Am
