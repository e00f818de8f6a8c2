/- Helpers. -/
import Derived.Test.YticmbkclbnjnaaaGreatDoorJn10

set_option linter.all false
set_option maxHeartbeats 8000000
set_option maxRecDepth 100000
namespace Go.Am
open Go.Proofs
def TS:List UInt8->List UInt8->Bool
 |[],[]=>true
 |a::l,b::m=>Nat.beq a.toNat b.toNat&&TS l m
 |_,_=>false
def H8:∀{l m:List UInt8},TS l m=true->l=m
 |[],[],_=>rfl
 |a::l,b::m,h=>by
  simp only[TS,cy]at h;rw[UInt8.toNat_inj.1 (aen h.1),H8 h.2]
 |[],_::_,h=>by cases h
 |_::_,[],h=>by cases h
def JY:List UInt8:=[114,101,115,117,108,116,32,121,10]
def Mt:AV:=.tup [.agg [.d .nilsl,.d (.int .i64 (.ofNat 0)),.d .nilsl,.d .nilsl,.d (.int .i64 (.ofNat 0)),.d (.int .i64 (.ofNat 0)),.d .nilsl,.d (.int .i64 (.ofNat 0))],.c (.d (.int .i64 (.ofNat 1))),.c (.d (.int .i64 (.ofNat 144)))]
def gP:List AV->Option AV
 |[.c (.d (.str s))]=>bif TS s H7 then some GC else bif TS s JY then some Mt else none
 |_=>none
def Wz(m:Int){us:List AV}{x:AV}(h:gP us=some x)(lv:Key->LB):cu Tryz.prog (GG m) 10 us lv (.ret x lv):=by
 unfold gP at h;split at h
 ·rename_i s
  cases h1:TS s H7 with
  |true=>
   rw[h1]at h;simp only[cond_true,ah]at h;subst h;rw[H8 h1];exact cu.wF (λu hu=>by simp at hu;subst hu;rfl) rfl (N4 m)
  |false=>
   rw[h1]at h
   cases h2:TS s JY with
   |true=>
    rw[h2]at h;simp only[cond_true,cond_false,ah]at h;subst h;rw[H8 h2];exact cu.wF (λu hu=>by simp at hu;subst hu;rfl) rfl (Lb m)
   |false=>rw[h2]at h;cases h
 ·cases h
def yJ.more{P:Program}{G:List (List DV)}{sp:Tb Spec}{ft:TypeId}(h:yJ P G sp ft)(f0:Nat)(g0:List AV->Option AV)(hg:∀us x,g0 us=some x->∀lv,dc lv->cu P G f0 us lv (.ret x lv)):yJ P G (BD f0 (.pure g0) sp) ft where
 pure:=by
  intro f g us x hf hx lv ho;rw[nr]at hf;split at hf
  ·rename_i e;subst e;cases hf;exact hg us x hx lv ho
  ·exact h.pure f g us x hf hx lv ho
 yq:=by
  intro f hf;rw[nr]at hf;split at hf
  ·cases hf
  ·exact h.yq f hf
 yy:=by
  intro f hf;rw[nr]at hf;split at hf
  ·cases hf
  ·exact h.yy f hf
 JA:=by
  intro f T hf;rw[nr]at hf;split at hf
  ·cases hf
  ·exact h.JA f T hf
 Ku:=by
  intro f T hf;rw[nr]at hf;split at hf
  ·cases hf
  ·exact h.Ku f T hf
noncomputable def spB:Tb Spec:=BD 10 (.pure gP) Yn
def T8(m:Int)(n:Nat):lP Tryz.prog (GG m) (V4 Tryz.prog (GG m) spB 117 n):=HK mixed ((P4 m).more 10 gP λus x h lv _=>Wz m h lv) n
end Go.Am
