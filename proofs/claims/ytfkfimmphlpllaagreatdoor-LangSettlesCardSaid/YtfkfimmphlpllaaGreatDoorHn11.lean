/- Helpers: an abstract machine for Go functions, and walks of functions of the program. -/
import Derived.Test.YtfkfimmphlpllaaGreatDoorHn10

set_option linter.all false
set_option maxHeartbeats 8000000
set_option maxRecDepth 100000
namespace Go.Am
open Go.Proofs
def Pp:List UInt8→List UInt8→Bool
 | [],[]=>true
 | a::l,b::m=>Nat.beq a.toNat b.toNat && Pp l m
 | _,_=>false
theorem FB:∀ {l m:List UInt8},Pp l m=true→l=m
 | [],[],_=>rfl
 | a::l,b::m,h=>by
  simp only [Pp,cy] at h;rw [UInt8.toNat_inj.1 (Y9 h.1),FB h.2]
 | [],_::_,h=>by cases h
 | _::_,[],h=>by cases h
def GQ:List UInt8:=[114,101,115,117,108,116,32,121,10]
def Jf:AV:=.tup [.agg [.d .nilsl,.d (.int .i64 (.ofNat 0)),.d .nilsl,.d .nilsl,.d (.int .i64 (.ofNat 0)),.d (.int .i64 (.ofNat 0)),.d .nilsl,.d (.int .i64 (.ofNat 0))],.c (.d (.int .i64 (.ofNat 1))),.c (.d (.int .i64 (.ofNat 144)))]
def gP:List AV→Option AV
 | [.c (.d (.str s))]=>bif Pp s Gt then some EG else bif Pp s GQ then some Jf else none
 | _=>none
theorem TL (m:Int){us:List AV}{x:AV}(h:gP us=some x) (lv:Key→LB):bO Tryz.prog (GG m) 22 us lv (.ret x lv):=by
 unfold gP at h;split at h
 ·rename_i s
  cases h1:Pp s Gt with
  | true=>
   rw [h1] at h;simp only [cond_true,ai] at h;subst h;rw [FB h1];exact bO.uQ (fun u hu=>by simp at hu;subst hu;rfl) rfl (Kr m)
  | false=>
   rw [h1] at h
   cases h2:Pp s GQ with
   | true=>
    rw [h2] at h;simp only [cond_true,cond_false,ai] at h;subst h;rw [FB h2];exact bO.uQ (fun u hu=>by simp at hu;subst hu;rfl) rfl (I7 m)
   | false=>rw [h2] at h;cases h
 ·cases h
theorem xb.more {P:Program}{G:List (List DV)}{sp:Tb Spec}{ft:TypeId}(h:xb P G sp ft) (f0:Nat) (g0:List AV→Option AV) (hg:∀ us x,g0 us=some x→∀ lv,cN lv→bO P G f0 us lv (.ret x lv)):xb P G (zP f0 (.pure g0) sp) ft where
 pure:=by
  intro f g us x hf hx lv ho;rw [mj] at hf;split at hf
  ·rename_i e;subst e;cases hf;exact hg us x hx lv ho
  ·exact h.pure f g us x hf hx lv ho
 wX:=by
  intro f hf;rw [mj] at hf;split at hf
  ·cases hf
  ·exact h.wX f hf
 wP:=by
  intro f hf;rw [mj] at hf;split at hf
  ·cases hf
  ·exact h.wP f hf
 Hv:=by
  intro f T hf;rw [mj] at hf;split at hf
  ·cases hf
  ·exact h.Hv f T hf
 HB:=by
  intro f T hf;rw [mj] at hf;split at hf
  ·cases hf
  ·exact h.HB f T hf
noncomputable def Yl:Tb Spec:=zP 22 (.pure gP) Sd
theorem QU (m:Int)(n:Nat):ke Tryz.prog (GG m) (Rx Tryz.prog (GG m) Yl 179 n):=Gm mixed ((KM m).more 22 gP fun us x h lv _=>TL m h lv) n
end Go.Am
