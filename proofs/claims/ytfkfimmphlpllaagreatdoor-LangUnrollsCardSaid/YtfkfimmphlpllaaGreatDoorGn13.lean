/- Helpers. -/
import Derived.Test.YtfkfimmphlpllaaGreatDoorGn12

set_option linter.all false
set_option maxHeartbeats 8000000
set_option maxRecDepth 100000
namespace Go.Am
open Go.Proofs
def Rs:List UInt8->List UInt8->Bool
 |[],[]=>true
 |a::l,b::m=>Nat.beq a.toNat b.toNat&&Rs l m
 |_,_=>false
def Gd:∀{l m:List UInt8},Rs l m=true->l=m
 |[],[],_=>rfl
 |a::l,b::m,h=>by
  simp only[Rs,cn]at h;rw[UInt8.toNat_inj.1 (Zr h.1),Gd h.2]
 |[],_::_,h=>by cases h
 |_::_,[],h=>by cases h
def Hh:List UInt8:=[114,101,115,117,108,116,32,121,10]
def JL:AV:=.tup [.agg [.d .nilsl,.d (.int .i64 (.ofNat 0)),.d .nilsl,.d .nilsl,.d (.int .i64 (.ofNat 0)),.d (.int .i64 (.ofNat 0)),.d .nilsl,.d (.int .i64 (.ofNat 0))],.c (.d (.int .i64 (.ofNat 1))),.c (.d (.int .i64 (.ofNat 144)))]
def gP:List AV->Option AV
 |[.c (.d (.str s))]=>bif Rs s Fv then some Fa else bif Rs s Hh then some JL else none
 |_=>none
def Uo(m:Int){us:List AV}{x:AV}(h:gP us=some x)(lv:Key->LB):b9 Tryz.prog (GG m) 22 us lv (.ret x lv):=by
 unfold gP at h;split at h
 ·rename_i s
  cases h1:Rs s Fv with
  |true=>
   rw[h1]at h;simp only[cond_true,ai]at h;subst h;rw[Gd h1];exact b9.ve (λu hu=>by simp at hu;subst hu;rfl) rfl (Ky m)
  |false=>
   rw[h1]at h
   cases h2:Rs s Hh with
   |true=>
    rw[h2]at h;simp only[cond_true,cond_false,ai]at h;subst h;rw[Gd h2];exact b9.ve (λu hu=>by simp at hu;subst hu;rfl) rfl (I1 m)
   |false=>rw[h2]at h;cases h
 ·cases h
def zu.more{P:Program}{G:List (List DV)}{sp:Tb Spec}{ft:TypeId}(h:zu P G sp ft)(f0:Nat)(g0:List AV->Option AV)(hg:∀us x,g0 us=some x->∀lv,cP lv->b9 P G f0 us lv (.ret x lv)):zu P G (Ar f0 (.pure g0) sp) ft where
 pure:=by
  intro f g us x hf hx lv ho;rw[mF]at hf;split at hf
  ·rename_i e;subst e;cases hf;exact hg us x hx lv ho
  ·exact h.pure f g us x hf hx lv ho
 xD:=by
  intro f hf;rw[mF]at hf;split at hf
  ·cases hf
  ·exact h.xD f hf
 xC:=by
  intro f hf;rw[mF]at hf;split at hf
  ·cases hf
  ·exact h.xC f hf
 Ho:=by
  intro f T hf;rw[mF]at hf;split at hf
  ·cases hf
  ·exact h.Ho f T hf
 HZ:=by
  intro f T hf;rw[mF]at hf;split at hf
  ·cases hf
  ·exact h.HZ f T hf
noncomputable def Y2:Tb Spec:=Ar 22 (.pure gP) Tc
def Rr(m:Int)(n:Nat):ld Tryz.prog (GG m) (Sl Tryz.prog (GG m) Y2 179 n):=Gx mixed ((L5 m).more 22 gP λus x h lv _=>Uo m h lv) n
end Go.Am
