/- Helpers: an abstract machine for Go functions, and walks of functions of the program. -/
import Derived.Test.YtfkfimmphlpllaaGreatDoorDn04

set_option linter.all false

namespace Go.Am
open Go.Am.Ty Go.Proofs N
theorem xz (G:List (List DV))(l:List Nat):aj Tryz.prog G 331 [pL l] (pL (N.cN l)):=by
 refine aZ.iQ 0 (by simp) (fun V v h=>I3 h) fun hl=>?_;refine aj.aH Tryz.func331 rfl (by rw [Tryz.ntmps331];simp) ?_;rintro⟨_,_,w0,F0,W0,_,bq,β0⟩ rfl rfl rfl;refine aac fun K hK=>?_;refine aad rfl ?_;simp;apply hK;clear hK K;refine aac fun K hK=>aak ?_;refine aax (fun l'=>⟨bt [(0,pL l')],fun _=>.hole⟩) 0 (fun l'=>l'.length≤l.length∧N.cN l'=N.cN l) (fun l'=>l'.length) l (Le.slots _ (by simp [pL,AV.cw]) (by simp)) (by simp) ?_;rintro l' ⟨h0,h1⟩
 have fin:∀ (fr:Nat→AV) (κ:Nat),fr 0=pL (N.cN l)→K ⟨fr,fun _=>.hole⟩ κ:=by
  intro fr κ h;apply hK;clear hK;refine aac fun K hK=>?_;refine aad rfl ?_;simp;apply hK;clear hK;exact aag (au.tmp rfl 0 (by simp [h]) rfl rfl rfl)
 refine aac fun K2 hK2=>aac fun K3 hK3=>?_;refine aad rfl ?_;rcases List.eq_nil_or_concat l' with rfl|⟨xs,x,rfl⟩
 ·simp [pL,fh,jO,uq];apply hK3;refine aaB (b:=false) (by simp) (aav ?_);simp;apply fin;simp [pL,← h1]
 ·rw [List.concat_eq_append] at *
  have h3:xs.length+1≤9223372036854775807:=by have:=hl.1;simp at h0;omega
  have h4:IntKind.i64.wrap ((xs.length:Int))=xs.length:=cA ⟨by simp only [yz];omega,by simp only [nV];omega⟩;have h2:(0:Int)<(xs.length:Int)+1:=by omega
  by_cases hx:x=0
  ·subst hx;simp [pL,fh,jO,uq,kI,h2,h4];refine⟨by omega,?_⟩;apply hK3;clear hK3 K3;refine aaB (b:=true) (by simp) (aah ?_);simp;apply hK2;clear hK2 K2;refine aak ?_;refine aad rfl ?_;simp [pL,fh,jO,uq,h2,h4];refine⟨⟨by omega,fun e he=>?_⟩,?_⟩
   ·rcases he with he|rfl
    ·exact RZ _ _ he
    ·rfl
   refine⟨xs,Le.slots [(0,pL xs)] (by simp [pL,AV.cw]) (by simp),⟨by simp at h0;omega,by rw [← h1,gC]⟩,by omega⟩
  ·have hx':¬ ((x:Int)=0):=by omega
   simp [pL,fh,jO,uq,kI,h2,h4,hx'];refine⟨by omega,?_⟩;apply hK3;clear hK3 K3;refine aaB (b:=false) (by simp [hx]) (aav ?_);simp;apply fin;simp [pL,← h1,iA hx]
end Go.Am

namespace Go.Am
open Go.Am.Ty Go.Proofs
end Go.Am

namespace Go.Am
open Go.Am.Ty Go.Proofs
def iU:Option (List (List DV))→CV
 | none=>.d .nilsl
 | some es=>.d (.sl es)
abbrev CE (o:Option (List (List DV))):AV:=.c (iU o)
def sO (o:Option (List (List DV))):List (List DV):=o.getD []
@[simp] theorem Rk (o:Option (List (List DV))):(AV.c (iU o)).pure=true:=by cases o <;> rfl
@[simp] theorem PF (o:Option (List (List DV))):(AV.c (iU o)).cw=true:=by cases o <;> rfl
theorem tM {V:Vw}{v:Value}{o:Option (List (List DV))}(h:V.av v (CE o)):(sO o).length≤9223372036854775807:=by
 cases o with
 | none=>simp [sO]
 | some es=>
  obtain⟨h,_⟩:=h
  cases h with
  | sl b off cap sz es vs hl hc hb hm ho hr=>exact hb
theorem dB {P:Program}{T:TypeId}{lv:Key→LB}{o:Option (List (List DV))}(h:(eJ P T).isSome=true):fh P T lv (CE o)=some (.c (.d (.int .i64 (sO o).length)),[],[],True):=by
 obtain⟨⟨e,z⟩,h⟩:=Option.isSome_iff_exists.1 h
 cases o <;> simp [fh,CE,iU,sO,jO,h,keyOf]
theorem yV {P:Program}{T:TypeId}{lv:Key→LB}{k':IntKind}{o:Option (List (List DV))}{i sz:Nat}(h:(eJ P T).map (·.2)=some sz) (hi:i<(sO o).length) (hs:(sO o)[i].length=sz) :
 az P T lv (CE o) (.c (.d (.int k' (i:Int))))=some (.c (.d (.ptr (sO o)[i])),[],[],True):=by
 obtain⟨⟨e,z⟩,h0,rfl⟩:=Option.map_eq_some_iff.1 h
 cases o with
 | none=>cases hi
 | some es=>
  have hi':i<es.length:=hi;have hs':(es[i]'hi').length=z:=hs;have e1:es.getD i []=es[i]'hi':=by rw [List.getD_eq_getElem?_getD,List.getElem?_eq_getElem hi'];rfl
  have e2:((0:Int)≤(i:Int)∧(i:Int)<(es.length:Int)∧(es.getD i []).length=z)=True:=by
   rw [e1,eq_iff_iff];exact⟨fun _=>trivial,fun _=>⟨by omega,by omega,hs'⟩⟩
  show az P T lv (.c (.d (.sl es))) (.c (.d (.int k' (i:Int))))=some (.c (.d (.ptr (es[i]'hi'))),[],[],True);unfold az;have h2:(Int.toNat (i:Int))=i:=Int.toNat_natCast i;simp only [h2];rw [h0];show some (AV.c (.d (.ptr (es.getD i []))),[],[],(0:Int)≤(i:Int)∧(i:Int)<(es.length:Int)∧(es.getD i []).length=z)=_;rw [e2,e1]
def dEq:DV→DV→Bool
 | .int _ a,.int _ b=>a == b
 | .str s,.str t=>s == t
 | _,_=>false
def Z4:List DV→List DV→Bool
 | [],[]=>true
 | a::l,b::m=>dEq a b && Z4 l m
 | _,_=>false
def eqL:List (List DV)→List (List DV)→Bool
 | [],[]=>true
 | a::l,b::m=>Z4 a b && eqL l m
 | _,_=>false
def Wg (e:List DV):Prop:=∃ a b,e=[.int .i64 a,.int .i64 b]
def YV (e:List DV):Prop:=∃ a s t,e=[.int .i64 a,.str s,.str t]
def Zq (e:List DV):Prop:=∃ a1 a2 a3 a4 a5 a6 s,e=[.int .i64 a1,.int .i64 a2,.int .i64 a3,.int .i64 a4,.int .i64 a5,.int .i64 a6,.str s]
end Go.Am

namespace Go.Am
open Go.Am.Ty Go.Proofs N
theorem mixed:Tryz.prog.follows .mixedOrders=true:=by kernel_rfl
theorem fP {a b:Option (List Nat)}{G:List (List DV)}(ha:can 4294967296 (dO a)) (hb:can 4294967296 (dO b)):aj Tryz.prog G 240 [nK .u32 a,nK .u32 b] (.c (.d (.int .i64 (dm (val 4294967296 (dO a)) (val 4294967296 (dO b)))))):=by
 refine aZ.iQ 0 (by simp) (fun V v h=>gA h) fun hra=>?_;refine aZ.iQ 1 (by simp) (fun V v h=>gA h) fun hrb=>?_;refine aj.aH Tryz.func240 rfl (by rw [Tryz.ntmps240];simp) ?_;rintro⟨_,_,w0,F0,W0,_,bq,β0⟩ rfl rfl rfl;refine aac fun K hK=>?_;refine aad rfl ?_;simp;apply hK;clear hK K;refine aac fun K hK=>aac fun K1 hK1=>?_;refine aad rfl ?_;simp;apply hK1;clear hK1 K1
 by_cases hl:(dO a).length=(dO b).length
 ·refine aao (by simp [hl] <;> omega) ?_;refine aah ?_;simp;apply hK;clear hK K;refine aac fun K hK=>aac fun K1 hK1=>?_;refine aad rfl ?_;simp;have e1:=bK (n:=((dO a).length:Int) - 1) (by omega) (by omega);simp only [e1];apply hK1;clear hK1 K1;refine aak ?_;refine aax (fun (k:Nat)=>⟨bt [(0,nK .u32 a),(1,nK .u32 b),(5,.c (.d (.int .i64 ((k:Int) - 1))))],fun _=>.hole⟩) 0 (fun k=>k≤(dO a).length∧(dO a).drop k=(dO b).drop k) (fun k=>k) (dO a).length (Le.mk' _ rfl aA (by simp)) ⟨Nat.le_refl _,by rw [List.drop_length,hl,List.drop_length]⟩ ?_;rintro k ⟨h1,h2⟩;refine aac fun K3 hK3=>aac fun K4 hK4=>?_;refine aad rfl ?_;simp;apply hK4;clear hK4 K4
  cases k with
  | zero=>
   refine aat ?_;refine aav ?_;simp;apply hK;refine aac fun K hK=>?_;refine aad rfl ?_;simp;apply hK;clear hK K;simp only [List.drop_zero] at h2;exact aag (κ:=0) (au.t (κ:=0) rfl 0 (by simp [lp (congrArg (val 4294967296) h2)]))
  | succ k=>
   have h3:k<(dO b).length:=by omega
   have h4:k<(dO a).length:=by omega
   have e2:((k+1:Nat):Int) - 1=k:=by omega
   simp only [e2];refine aaq ?_;refine aah ?_;simp;apply hK3;refine aac fun K5 hK5=>?_;refine aak ?_;refine aac fun K6 hK6=>?_;refine aaz mixed (by kernel_rfl) rfl rfl ?_;simp [h3,h4];apply hK6;clear hK6 K6
   by_cases hd:(dO a)[k]=(dO b)[k]
   ·refine aao (by simp [hd] <;> omega) ?_;refine aah ?_;simp;apply hK5;refine aad rfl ?_;simp;have e3:=bK (n:=(k:Int) - 1) (by omega) (by omega);simp [e3];refine⟨k,Le.mk' _ (by simp) (by simp) (by simp [e3]),⟨by omega,?_⟩,by omega⟩;rw [List.drop_eq_getElem_cons h4,List.drop_eq_getElem_cons h3,hd,h2]
   ·refine aap (by simp [hd] <;> omega) ?_;refine aac fun K6 hK6=>aac fun K7 hK7=>?_;refine aaz mixed (by kernel_rfl) rfl rfl ?_;simp [h3,h4];apply hK7;clear hK7 K7
    by_cases hlt:(dO a)[k]<(dO b)[k]
    ·refine aap (by simp [hlt] <;> omega) ?_;refine aac fun K7 hK7=>?_;refine aad rfl ?_;simp;apply hK7;clear hK7 K7;have:=nM ha.1 h4 h3 h2 hlt;exact aag (κ:=0) (au.t (κ:=0) rfl 0 (by simp [iI this]))
    ·refine aao (by simp [hlt] <;> omega) ?_;refine aah ?_;simp;apply hK6;clear hK6 K6;refine aac fun K7 hK7=>?_;refine aad rfl ?_;simp;apply hK7;clear hK7 K7;have:=nM hb.1 h3 h4 h2.symm (by omega);exact aag (κ:=0) (au.t (κ:=0) rfl 0 (by simp [jb this]))
 ·refine aap (by simp [hl] <;> omega) ?_;refine aac fun K2 hK2=>aac fun K1 hK1=>?_;refine aad rfl ?_;simp;apply hK1;clear hK1 K1
  by_cases hlt:(dO a).length<(dO b).length
  ·refine aap (by simp [hlt] <;> omega) ?_;refine aac fun K7 hK7=>?_;refine aad rfl ?_;simp;apply hK7;clear hK7 K7;exact aag (κ:=0) (au.t (κ:=0) rfl 0 (by simp [iI (jJ (by omega) ha hb hlt)]))
  ·refine aao (by simp [hlt] <;> omega) ?_;refine aah ?_;simp;apply hK2;refine aac fun K7 hK7=>?_;refine aad rfl ?_;simp;apply hK7;clear hK7 K7;exact aag (κ:=0) (au.t (κ:=0) rfl 0 (by simp [jb (jJ (by omega) hb ha (by omega))]))
end Go.Am

namespace Go.Am
open Go.Am.Ty Go.Proofs N
end Go.Am

namespace Go.Am
open Go.Am.Ty Go.Proofs N
structure PD where
 f:Option (List (List DV))
 mode:Int
 ins:Option (List (List DV))
 nodes:Option (List (List DV))
 head:Int
 tail:Int
 states:Option (List (List DV))
 res:Int
@[simp] def PD.cs (p:PD):List CV:=[iU p.f,.d (.int .i64 p.mode),iU p.ins,iU p.nodes,.d (.int .i64 p.head),.d (.int .i64 p.tail),iU p.states,.d (.int .i64 p.res)]
abbrev PD.A (p:PD):AV:=.agg p.cs
structure PD.ok (p:PD):Prop where
 f:∀ e∈sO p.f,Wg e
 ins:∀ e∈sO p.ins,YV e
 nodes:∀ e∈sO p.nodes,Zq e
 states:∀ e∈sO p.states,Wg e
def FR:DV→Int
 | .str s=>s.length
 | _=>0
def Qy (es:List (List DV)):Nat→Int
 | 0=>0
 | i+1=>IntKind.i64.wrap (IntKind.i64.wrap (Qy es i+FR ((es.getD i []).getD 1 .nilp))+FR ((es.getD i []).getD 2 .nilp))
def Px (n:Int)(es:List (List DV)):Nat→Int
 | 0=>n
 | i+1=>IntKind.i64.wrap (Px n es i+FR ((es.getD i []).getD 6 .nilp))
theorem IC {es:List (List DV)}{i:Nat}{n a:Int}{s t:List UInt8}(hn:n=Qy es i) (hi:i<es.length) (he:es[i]=[.int .i64 a,.str s,.str t]) :
 IntKind.i64.wrap (IntKind.i64.wrap (n+s.length)+t.length)=Qy es (i+1):=by
 have e6:es.getD i []=[.int .i64 a,.str s,.str t]:=by rw [List.getD_eq_getElem?_getD,List.getElem?_eq_getElem hi,he];rfl
 have e7:FR (List.getD [DV.int .i64 a,.str s,.str t] 1 .nilp)=s.length:=rfl;have e8:FR (List.getD [DV.int .i64 a,.str s,.str t] 2 .nilp)=t.length:=rfl;rw [Qy,e6,e7,e8,hn]
theorem G3 {n0:Int}{es:List (List DV)}{i:Nat}{n a1 a2 a3 a4 a5 a6:Int}{s:List UInt8}(hn:n=Px n0 es i) (hi:i<es.length) (he:es[i]=[.int .i64 a1,.int .i64 a2,.int .i64 a3,.int .i64 a4,.int .i64 a5,.int .i64 a6,.str s]) :
 IntKind.i64.wrap (n+s.length)=Px n0 es (i+1):=by
 have e6:es.getD i []=[.int .i64 a1,.int .i64 a2,.int .i64 a3,.int .i64 a4,.int .i64 a5,.int .i64 a6,.str s]:=by rw [List.getD_eq_getElem?_getD,List.getElem?_eq_getElem hi,he];rfl
 have e7:FR (List.getD [DV.int .i64 a1,.int .i64 a2,.int .i64 a3,.int .i64 a4,.int .i64 a5,.int .i64 a6,.str s] 6 .nilp)=s.length:=rfl;rw [Px,e6,e7,hn]
def kC (p:PD):Bool:=decide (100<(sO p.f).length) || decide (100<(sO p.ins).length) || decide (100<(sO p.nodes).length) || decide (100<(sO p.states).length) ||
 decide (2000<Px (Qy (sO p.ins) (sO p.ins).length) (sO p.nodes) (sO p.nodes).length)
theorem PD.Wi {V:Vw}{v:Value}{p:PD}(h:V.av v p.A):(sO p.f).length≤9223372036854775807∧(sO p.ins).length≤9223372036854775807∧(sO p.nodes).length≤9223372036854775807∧(sO p.states).length≤9223372036854775807:=by
 obtain⟨arr,rfl,hs,hc⟩:=h;have hs8:arr.size=8:=hs;exact⟨tM (hc 0 (by simp) (by omega)),tM (hc 2 (by simp) (by omega)),tM (hc 3 (by simp) (by omega)),tM (hc 6 (by simp) (by omega))⟩
set_option maxHeartbeats 2000000 in
theorem Hg (G:List (List DV))(p:PD)(hp:p.ok):aj Tryz.prog G 16 [p.A] (.c (.d (.bool (kC p)))):=by
 refine aZ.iQ 0 (by simp) (fun V v h=>PD.Wi h) fun hr=>?_;obtain⟨hr0,hr2,hr3,hr6⟩:=hr;have lp0:∀ (lv:Key→LB) (o:Option (List (List DV))),fh Tryz.prog 22 lv (CE o)=some (.c (.d (.int .i64 (sO o).length)),[],[],True):=fun lv o=>dB (by simp)
 have lp2:∀ (lv:Key→LB) (o:Option (List (List DV))),fh Tryz.prog 23 lv (CE o)=some (.c (.d (.int .i64 (sO o).length)),[],[],True):=fun lv o=>dB (by simp)
 have lp3:∀ (lv:Key→LB) (o:Option (List (List DV))),fh Tryz.prog 24 lv (CE o)=some (.c (.d (.int .i64 (sO o).length)),[],[],True):=fun lv o=>dB (by simp)
 have lp6:∀ (lv:Key→LB) (o:Option (List (List DV))),fh Tryz.prog 25 lv (CE o)=some (.c (.d (.int .i64 (sO o).length)),[],[],True):=fun lv o=>dB (by simp)
 refine aj.aH Tryz.func16 rfl (by rw [Tryz.ntmps16];simp) ?_;rintro⟨_,_,w0,F0,W0,_,bq,β0⟩ rfl rfl rfl;refine aac fun K hK=>?_;refine aad rfl ?_;simp;apply hK;clear hK K;refine aac fun K hK=>?_;refine aac fun K1 hK1=>?_
 by_cases h0:100<(sO p.f).length
 ·have i0:(100:Int)<((sO p.f).length:Int):=by omega
  refine aad rfl ?_;simp [lp0,i0];apply hK1;clear hK1 K1;refine aaq ?_;refine aac fun K1 hK1=>?_;refine aad rfl ?_;simp;apply hK1;clear hK1 K1;exact aag (κ:=0) (au.t (κ:=0) rfl 2 (by simp [kC,h0]))
 have i0:¬ (100:Int)<((sO p.f).length:Int):=by omega
 by_cases h2:100<(sO p.ins).length
 ·have i2:(100:Int)<((sO p.ins).length:Int):=by omega
  refine aad rfl ?_;simp [lp0,lp2,i0,i2];apply hK1;clear hK1 K1;refine aaq ?_;refine aac fun K1 hK1=>?_;refine aad rfl ?_;simp;apply hK1;clear hK1 K1;exact aag (κ:=0) (au.t (κ:=0) rfl 2 (by simp [kC,h2]))
 have i2:¬ (100:Int)<((sO p.ins).length:Int):=by omega
 by_cases h3:100<(sO p.nodes).length
 ·have i3:(100:Int)<((sO p.nodes).length:Int):=by omega
  refine aad rfl ?_;simp [lp0,lp2,lp3,i0,i2,i3];apply hK1;clear hK1 K1;refine aaq ?_;refine aac fun K1 hK1=>?_;refine aad rfl ?_;simp;apply hK1;clear hK1 K1;exact aag (κ:=0) (au.t (κ:=0) rfl 2 (by simp [kC,h3]))
 have i3:¬ (100:Int)<((sO p.nodes).length:Int):=by omega
 by_cases h6:100<(sO p.states).length
 ·have i6:(100:Int)<((sO p.states).length:Int):=by omega
  refine aad rfl ?_;simp [lp0,lp2,lp3,lp6,i0,i2,i3,i6];apply hK1;clear hK1 K1;refine aaq ?_;refine aac fun K1 hK1=>?_;refine aad rfl ?_;simp;apply hK1;clear hK1 K1;exact aag (κ:=0) (au.t (κ:=0) rfl 2 (by simp [kC,h6]))
 have i6:¬ (100:Int)<((sO p.states).length:Int):=by omega
 refine aad rfl ?_;simp [lp0,lp2,lp3,lp6,i0,i2,i3,i6];apply hK1;clear hK1 K1;refine aat ?_;refine aah ?_;simp;apply hK;clear hK K;refine aac fun K hK=>?_;refine aad rfl ?_;simp;apply hK;clear hK K;refine aac fun K hK=>?_;refine aac fun K1 hK1=>?_;refine aad rfl ?_;simp;apply hK1;clear hK1 K1;refine aak ?_
 refine aax (fun (q:Nat × Int)=>⟨bt [(1,.c (.ptr 0 0)),(3,.c (.d (.int .i64 q.2))),(4,.c (.d (.int .i64 q.1)))],aJ (fun _=>.hole) 0 (.cells true false 27 p.cs)⟩) 1
  (fun q=>q.1≤(sO p.ins).length∧q.2=Qy (sO p.ins) q.1) (fun q=>(sO p.ins).length - q.1) (0,0) (Le.mk' _ (by simp) (by simp) (by simp)) ⟨by simp,rfl⟩ ?_
 rintro⟨i,n⟩ ⟨hi,hn⟩;simp only at hi hn;refine aac fun K3 hK3=>aac fun K4 hK4=>?_;refine aad rfl ?_;simp [lp2];apply hK4;clear hK4 K4
 by_cases hi2:i<(sO p.ins).length
 ·refine aap (by simp [hi2] <;> omega) ?_;refine aah ?_;simp;apply hK3;obtain⟨a,s,t,he⟩:=hp.ins _ (List.getElem_mem hi2)
  have hx:∀ lv:Key→LB,az Tryz.prog 23 lv (CE p.ins) (.c (.d (.int .i64 (i:Int))))=some (.c (.d (.ptr [.int .i64 a,.str s,.str t])),[],[],True):=fun lv=>by
   rw [yV (sz:=3) (by simp) hi2 (by rw [he];rfl),he]
  refine aac fun K5 hK5=>?_;refine aak ?_;refine aaz mixed (by kernel_rfl) rfl rfl ?_;simp [hx];apply hK5;clear hK5 K5;have e3:=bK (n:=(i:Int)+1) (by omega) (by omega);refine aad rfl ?_;simp [e3];refine⟨i+1,IntKind.i64.wrap (IntKind.i64.wrap (n+s.length)+t.length),Le.mk' _ (by simp) (by simp) (by simp),⟨by omega,?_⟩,by omega⟩;exact IC hn hi2 he
 ·refine aao (by simp [hi2] <;> omega) ?_;refine aav ?_;simp;apply hK;have hii:i=(sO p.ins).length:=by omega
  subst hii;refine aac fun K hK=>?_;refine aac fun K1 hK1=>?_;refine aad rfl ?_;simp;apply hK1;clear hK1 K1;refine aak ?_
  refine aax (fun (q:Nat × Int)=>⟨bt [(1,.c (.ptr 0 0)),(3,.c (.d (.int .i64 q.2))),(5,.c (.d (.int .i64 q.1)))],aJ (fun _=>.hole) 0 (.cells true false 27 p.cs)⟩) 1
   (fun q=>q.1≤(sO p.nodes).length∧q.2=Px n (sO p.nodes) q.1) (fun q=>(sO p.nodes).length - q.1) (0,n) (Le.mk' _ (by simp) (by simp) (by simp)) ⟨by simp,rfl⟩ ?_
  rintro⟨i,n'⟩ ⟨hi,hn'⟩;simp only at hi hn';refine aac fun K3 hK3=>aac fun K4 hK4=>?_;refine aad rfl ?_;simp [lp3];apply hK4;clear hK4 K4
  by_cases hi3:i<(sO p.nodes).length
  ·refine aap (by simp [hi3] <;> omega) ?_;refine aah ?_;simp;apply hK3;obtain⟨a1,a2,a3,a4,a5,a6,s,he⟩:=hp.nodes _ (List.getElem_mem hi3)
   have hx:∀ lv:Key→LB,az Tryz.prog 24 lv (CE p.nodes) (.c (.d (.int .i64 (i:Int))))=some (.c (.d (.ptr [.int .i64 a1,.int .i64 a2,.int .i64 a3,.int .i64 a4,.int .i64 a5,.int .i64 a6,.str s])),[],[],True):=fun lv=>by
    rw [yV (sz:=7) (by simp) hi3 (by rw [he];rfl),he]
   refine aac fun K5 hK5=>?_;refine aak ?_;refine aad rfl ?_;simp [hx];apply hK5;clear hK5 K5;have e3:=bK (n:=(i:Int)+1) (by omega) (by omega);refine aad rfl ?_;simp [e3];refine⟨i+1,IntKind.i64.wrap (n'+s.length),Le.mk' _ (by simp) (by simp) (by simp),⟨by omega,?_⟩,by omega⟩;exact G3 hn' hi3 he
  ·refine aao (by simp [hi3] <;> omega) ?_;refine aav ?_;simp;apply hK;have hii:i=(sO p.nodes).length:=by omega
   subst hii;refine aac fun K3 hK3=>?_;refine aad rfl ?_;simp;apply hK3;clear hK3 K3
   have hb:kC p=decide (2000<n'):=by
    simp [kC,h0,h2,h3,h6,hn',hn]
   exact aag (κ:=0) (au.t (κ:=0) rfl 2 (by simp [hb]))
end Go.Am
