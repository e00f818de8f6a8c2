/- Helpers: an abstract machine for Go functions, and walks of functions of the program. -/
import Derived.Test.YtfkfimmphlpllaaGreatDoorFn11

set_option linter.all false
set_option maxHeartbeats 8000000
set_option maxRecDepth 100000
namespace Go.Am
open Go.Proofs
def Ox:List UInt8→List UInt8→Bool
 | [],[]=>true
 | a::l,b::m=>Nat.beq a.toNat b.toNat && Ox l m
 | _,_=>false
theorem ER:∀ {l m:List UInt8},Ox l m=true→l=m
 | [],[],_=>rfl
 | a::l,b::m,h=>by
  simp only [Ox,cn] at h;rw [UInt8.toNat_inj.1 (W1 h.1),ER h.2]
 | [],_::_,h=>by cases h
 | _::_,[],h=>by cases h
def Gi:List UInt8:=[114,101,115,117,108,116,32,121,10]
def HR:AV:=.tup [.agg [.d .nilsl,.d (.int .i64 (.ofNat 0)),.d .nilsl,.d .nilsl,.d (.int .i64 (.ofNat 0)),.d (.int .i64 (.ofNat 0)),.d .nilsl,.d (.int .i64 (.ofNat 0))],.c (.d (.int .i64 (.ofNat 1))),.c (.d (.int .i64 (.ofNat 144)))]
def gP:List AV→Option AV
 | [.c (.d (.str s))]=>bif Ox s FG then some Dj else bif Ox s Gi then some HR else none
 | _=>none
theorem R4 (m:Int){us:List AV}{x:AV}(h:gP us=some x) (lv:Key→LB):bP Tryz.prog (GG m) 22 us lv (.ret x lv):=by
 unfold gP at h;split at h
 ·rename_i s
  cases h1:Ox s FG with
  | true=>
   rw [h1] at h;simp only [cond_true,ai] at h;subst h;rw [ER h1];exact bP.ua (fun u hu=>by simp at hu;subst hu;rfl) rfl (Lg m)
  | false=>
   rw [h1] at h
   cases h2:Ox s Gi with
   | true=>
    rw [h2] at h;simp only [cond_true,cond_false,ai] at h;subst h;rw [ER h2];exact bP.ua (fun u hu=>by simp at hu;subst hu;rfl) rfl (Hq m)
   | false=>rw [h2] at h;cases h
 ·cases h
theorem xN.more {P:Program}{G:List (List DV)}{sp:Tb Spec}{ft:TypeId}(h:xN P G sp ft) (f0:Nat) (g0:List AV→Option AV) (hg:∀ us x,g0 us=some x→∀ lv,cF lv→bP P G f0 us lv (.ret x lv)):xN P G (yH f0 (.pure g0) sp) ft where
 pure:=by
  intro f g us x hf hx lv ho;rw [lN] at hf;split at hf
  ·rename_i e;subst e;cases hf;exact hg us x hx lv ho
  ·exact h.pure f g us x hf hx lv ho
 v7:=by
  intro f hf;rw [lN] at hf;split at hf
  ·cases hf
  ·exact h.v7 f hf
 v8:=by
  intro f hf;rw [lN] at hf;split at hf
  ·cases hf
  ·exact h.v8 f hf
 F7:=by
  intro f T hf;rw [lN] at hf;split at hf
  ·cases hf
  ·exact h.F7 f T hf
 GX:=by
  intro f T hf;rw [lN] at hf;split at hf
  ·cases hf
  ·exact h.GX f T hf
noncomputable def WD:Tb Spec:=yH 22 (.pure gP) R7
theorem Ou (m:Int)(n:Nat):jX Tryz.prog (GG m) (P9 Tryz.prog (GG m) WD 179 n):=Fi mixed ((KO m).more 22 gP fun us x h lv _=>R4 m h lv) n
end Go.Am
