/- Helpers: an abstract machine for Go functions, and walks of functions of the program. -/
import Derived.Test.YtfkfimmphlpllaaGreatDoorEn04

set_option linter.all false
set_option maxHeartbeats 8000000
set_option maxRecDepth 100000
namespace Go.Am
open Go.Am.Ty Go.Proofs N
theorem xY (G:List (List DV))(l:List Nat):aa Tryz.prog G 331 [rK l] (rK (N.cW l)):=by
 refine aL.ji 0 (by simp) (fun V v h=>KH h) fun hl=>?_;refine aa.lq Tryz.func331 rfl (by rw [Tryz.ntmps331];simp) ?_;rintro⟨_,_,w0,F0,W0,_,kB,β0⟩ rfl rfl rfl;refine aaa fun K hK=>?_;refine aar rfl ?_;simp;apply hK;clear hK K;refine aaa fun K hK=>aaf ?_;refine aao (fun l'=>⟨bh [(0,rK l')],fun _=>.hole⟩) 0 (fun l'=>l'.length≤l.length∧N.cW l'=N.cW l) (fun l'=>l'.length) l (Le.slots _ (by simp [rK,AV.bV]) (by simp)) (by simp) ?_;rintro l' ⟨h0,h1⟩
 have fin:∀ (fr:Nat→AV) (κ:Nat),fr 0=rK (N.cW l)→K ⟨fr,fun _=>.hole⟩ κ:=by
  intro fr κ h;apply hK;clear hK;refine aaa fun K hK=>?_;refine aar rfl ?_;simp;apply hK;clear hK;exact aal (aq.tmp rfl 0 (by simp [h]) rfl rfl rfl)
 refine aaa fun K2 hK2=>aaa fun K3 hK3=>?_;refine aar rfl ?_;rcases List.eq_nil_or_concat l' with rfl|⟨xs,x,rfl⟩
 ·simp [rK,fc,kq,uJ];apply hK3;refine aaz (b:=false) (by simp) (aam ?_);simp;apply fin;simp [rK,← h1]
 ·rw [List.concat_eq_append] at *
  have h3:xs.length+1≤9223372036854775807:=by have:=hl.1;simp at h0;omega
  have h4:IntKind.i64.wrap ((xs.length:Int))=xs.length:=cE ⟨by simp only [yQ];omega,by simp only [oL];omega⟩;have h2:(0:Int)<(xs.length:Int)+1:=by omega
  by_cases hx:x=0
  ·subst hx;simp [rK,fc,kq,uJ,lK,h2,h4];refine⟨by omega,?_⟩;apply hK3;clear hK3 K3;refine aaz (b:=true) (by simp) (aac ?_);simp;apply hK2;clear hK2 K2;refine aaf ?_;refine aar rfl ?_;simp [rK,fc,kq,uJ,h2,h4];refine⟨⟨by omega,fun e he=>?_⟩,?_⟩
   ·rcases he with he|rfl
    ·exact P5 _ _ he
    ·rfl
   refine⟨xs,Le.slots [(0,rK xs)] (by simp [rK,AV.bV]) (by simp),⟨by simp at h0;omega,by rw [← h1,gT]⟩,by omega⟩
  ·have hx':¬ ((x:Int)=0):=by omega
   simp [rK,fc,kq,uJ,lK,h2,h4,hx'];refine⟨by omega,?_⟩;apply hK3;clear hK3 K3;refine aaz (b:=false) (by simp [hx]) (aam ?_);simp;apply fin;simp [rK,← h1,iN hx]
end Go.Am
namespace Go.Am
open Go.Am.Ty Go.Proofs
variable {o:Option (List (List DV))}{P:Program}{T:TypeId}{lv:Key→LB}
def hO:Option (List (List DV))→CV
 | none=>.d .nilsl
 | some es=>.d (.sl es)
abbrev D8 (o:Option (List (List DV))):AV:=.c (hO o)
def sO (o:Option (List (List DV))):List (List DV):=o.getD []
@[simp] theorem QW (o:Option (List (List DV))):(AV.c (hO o)).pure=true:=by cases o <;> rfl
@[simp] theorem Pw (o:Option (List (List DV))):(AV.c (hO o)).bV=true:=by cases o <;> rfl
theorem uF {V:Vw}{v:Value}(h:V.av v (D8 o)):(sO o).length≤9223372036854775807:=by
 cases o with
 | none=>simp [sO]
 | some es=>
  obtain⟨h,_⟩:=h
  cases h with
  | sl b off cap sz es vs hl hc hb hm ho hr=>exact hb
theorem dJ(h:(eI P T).isSome=true):fc P T lv (D8 o)=some (.c (.d (.int .i64 (sO o).length)),[],[],True):=by
 obtain⟨⟨e,z⟩,h⟩:=Option.isSome_iff_exists.1 h
 cases o <;> simp [fc,D8,hO,sO,kq,h,keyOf]
theorem wN{k':IntKind}{i sz:Nat}(h:(eI P T).map (·.2)=some sz) (hi:i<(sO o).length) (hs:(sO o)[i].length=sz) :
 ak P T lv (D8 o) (.c (.d (.int k' (i:Int))))=some (.c (.d (.ptr (sO o)[i])),[],[],True):=by
 obtain⟨⟨e,z⟩,h0,rfl⟩:=Option.map_eq_some_iff.1 h
 cases o with
 | none=>cases hi
 | some es=>
  have hi':i<es.length:=hi;have hs':(es[i]'hi').length=z:=hs;have e1:es.getD i []=es[i]'hi':=by rw [List.getD_eq_getElem?_getD,List.getElem?_eq_getElem hi'];rfl
  have e2:((0:Int)≤(i:Int)∧(i:Int)<(es.length:Int)∧(es.getD i []).length=z)=True:=by
   rw [e1,eq_iff_iff];exact⟨fun _=>trivial,fun _=>⟨by omega,by omega,hs'⟩⟩
  show ak P T lv (.c (.d (.sl es))) (.c (.d (.int k' (i:Int))))=some (.c (.d (.ptr (es[i]'hi'))),[],[],True);unfold ak;have h2:(Int.toNat (i:Int))=i:=Int.toNat_natCast i;simp only [h2];rw [h0];show some (AV.c (.d (.ptr (es.getD i []))),[],[],(0:Int)≤(i:Int)∧(i:Int)<(es.length:Int)∧(es.getD i []).length=z)=_;rw [e2,e1]
def Vk:DV→DV→Bool
 | .int _ a,.int _ b=>a == b
 | .str s,.str t=>s == t
 | _,_=>false
def U3:List DV→List DV→Bool
 | [],[]=>true
 | a::l,b::m=>Vk a b && U3 l m
 | _,_=>false
def Vy:List (List DV)→List (List DV)→Bool
 | [],[]=>true
 | a::l,b::m=>U3 a b && Vy l m
 | _,_=>false
def R3 (e:List DV):Prop:=∃ a b,e=[.int .i64 a,.int .i64 b]
def TP (e:List DV):Prop:=∃ a s t,e=[.int .i64 a,.str s,.str t]
def S4 (e:List DV):Prop:=∃ a1 a2 a3 a4 a5 a6 s,e=[.int .i64 a1,.int .i64 a2,.int .i64 a3,.int .i64 a4,.int .i64 a5,.int .i64 a6,.str s]
end Go.Am
namespace Go.Am
open Go.Am.Ty Go.Proofs N
variable {es:List (List DV)}{i:Nat}{n:Int}{s:List UInt8}
theorem mixed:Tryz.prog.follows .mixedOrders=true:=by kernel_rfl
theorem gp {a b:Option (List Nat)}{G:List (List DV)}(ha:can 4294967296 (dO a)) (hb:can 4294967296 (dO b)):aa Tryz.prog G 240 [nK .u32 a,nK .u32 b] (.c (.d (.int .i64 (dI (val 4294967296 (dO a)) (val 4294967296 (dO b)))))):=by
 refine aL.ji 0 (by simp) (fun V v h=>gQ h) fun hra=>?_;refine aL.ji 1 (by simp) (fun V v h=>gQ h) fun hrb=>?_;refine aa.en Tryz.func240 rfl fun _=>aab ?_;refine aaa fun K hK=>aab ?_
 by_cases hl:(dO a).length=(dO b).length
 ·refine aag (by simp [hl] <;> omega) (aac (hK _ _ (aaa fun K hK=>aai fun K1 hK1=>?_)));simp;have e1:=bM (n:=((dO a).length:Int) - 1) (by omega) (by omega);simp only [e1];apply hK1;clear hK1 K1;refine aaf ?_;refine aao (fun (k:Nat)=>⟨bh [(0,nK .u32 a),(1,nK .u32 b),(5,.c (.d (.int .i64 ((k:Int) - 1))))],fun _=>.hole⟩) 0 (fun k=>k≤(dO a).length∧(dO a).drop k=(dO b).drop k) (fun k=>k) (dO a).length (Le.mk' _ rfl az (by simp)) ⟨Nat.le_refl _,by rw [List.drop_length,hl,List.drop_length]⟩ ?_;rintro k ⟨h1,h2⟩;refine aaa fun K3 hK3=>aab ?_
  cases k with
  | zero=>
   refine aak (aam (hK _ _ (aab ?_)));simp only [List.drop_zero] at h2;exact aae (aq.rt rfl 0 (by simp [mu (congrArg (val 4294967296) h2)]))
  | succ k=>
   have h3:k<(dO b).length:=by omega
   have h4:k<(dO a).length:=by omega
   have e2:((k+1:Nat):Int) - 1=k:=by omega
   simp only [e2];refine aaj (aac (hK3 _ _ (aaa fun K5 hK5=>aaf (aaa fun K6 hK6=>?_))));refine aaw mixed (by kernel_rfl) rfl rfl ?_;simp [h3,h4];apply hK6;clear hK6 K6
   by_cases hd:(dO a)[k]=(dO b)[k]
   ·refine aag (by simp [hd] <;> omega) (aac (hK5 _ _ (aad ?_)));simp;have e3:=bM (n:=(k:Int) - 1) (by omega) (by omega);simp [e3];refine⟨k,Le.mk' _ (by simp) (by simp) (by simp [e3]),⟨by omega,?_⟩,by omega⟩;rw [List.drop_eq_getElem_cons h4,List.drop_eq_getElem_cons h3,hd,h2]
   ·refine aah (by simp [hd] <;> omega) (aaa fun K6 hK6=>aaa fun K7 hK7=>?_);refine aaw mixed (by kernel_rfl) rfl rfl ?_;simp [h3,h4];apply hK7;clear hK7 K7
    by_cases hlt:(dO a)[k]<(dO b)[k]
    ·refine aah (by simp [hlt] <;> omega) (aab ?_);have:=oc ha.1 h4 h3 h2 hlt;exact aae (aq.rt rfl 0 (by simp [jb this]))
    ·refine aag (by simp [hlt] <;> omega) (aac (hK6 _ _ (aab ?_)));have:=oc hb.1 h3 h4 h2.symm (by omega);exact aae (aq.rt rfl 0 (by simp [jB this]))
 ·refine aah (by simp [hl] <;> omega) (aaa fun K2 hK2=>aab ?_)
  by_cases hlt:(dO a).length<(dO b).length
  ·refine aah (by simp [hlt] <;> omega) (aab ?_);exact aae (aq.rt rfl 0 (by simp [jb (ke (by omega) ha hb hlt)]))
  ·refine aag (by simp [hlt] <;> omega) (aac (hK2 _ _ (aab ?_)));exact aae (aq.rt rfl 0 (by simp [jB (ke (by omega) hb ha (by omega))]))
structure PD where
 f:Option (List (List DV))
 mode:Int
 ins:Option (List (List DV))
 nodes:Option (List (List DV))
 head:Int
 tail:Int
 states:Option (List (List DV))
 res:Int
@[simp] def PD.cs (p:PD):List CV:=[hO p.f,.d (.int .i64 p.mode),hO p.ins,hO p.nodes,.d (.int .i64 p.head),.d (.int .i64 p.tail),hO p.states,.d (.int .i64 p.res)]
abbrev PD.A (p:PD):AV:=.agg p.cs
structure PD.ok (p:PD):Prop where
 f:∀ e∈sO p.f,R3 e
 ins:∀ e∈sO p.ins,TP e
 nodes:∀ e∈sO p.nodes,S4 e
 states:∀ e∈sO p.states,R3 e
def HO:DV→Int
 | .str s=>s.length
 | _=>0
def PC (es:List (List DV)):Nat→Int
 | 0=>0
 | i+1=>IntKind.i64.wrap (IntKind.i64.wrap (PC es i+HO ((es.getD i []).getD 1 .nilp))+HO ((es.getD i []).getD 2 .nilp))
def O5 (n:Int)(es:List (List DV)):Nat→Int
 | 0=>n
 | i+1=>IntKind.i64.wrap (O5 n es i+HO ((es.getD i []).getD 6 .nilp))
theorem IU{a:Int}{t:List UInt8}(hn:n=PC es i) (hi:i<es.length) (he:es[i]=[.int .i64 a,.str s,.str t]) :
 IntKind.i64.wrap (IntKind.i64.wrap (n+s.length)+t.length)=PC es (i+1):=by
 have e6:es.getD i []=[.int .i64 a,.str s,.str t]:=by rw [List.getD_eq_getElem?_getD,List.getElem?_eq_getElem hi,he];rfl
 have e7:HO (List.getD [DV.int .i64 a,.str s,.str t] 1 .nilp)=s.length:=rfl;have e8:HO (List.getD [DV.int .i64 a,.str s,.str t] 2 .nilp)=t.length:=rfl;rw [PC,e6,e7,e8,hn]
theorem Jx {n0:Int}{a1 a2 a3 a4 a5 a6:Int}(hn:n=O5 n0 es i) (hi:i<es.length) (he:es[i]=[.int .i64 a1,.int .i64 a2,.int .i64 a3,.int .i64 a4,.int .i64 a5,.int .i64 a6,.str s]) :
 IntKind.i64.wrap (n+s.length)=O5 n0 es (i+1):=by
 have e6:es.getD i []=[.int .i64 a1,.int .i64 a2,.int .i64 a3,.int .i64 a4,.int .i64 a5,.int .i64 a6,.str s]:=by rw [List.getD_eq_getElem?_getD,List.getElem?_eq_getElem hi,he];rfl
 have e7:HO (List.getD [DV.int .i64 a1,.int .i64 a2,.int .i64 a3,.int .i64 a4,.int .i64 a5,.int .i64 a6,.str s] 6 .nilp)=s.length:=rfl;rw [O5,e6,e7,hn]
def nL (p:PD):Bool:=decide (100<(sO p.f).length) || decide (100<(sO p.ins).length) || decide (100<(sO p.nodes).length) || decide (100<(sO p.states).length) ||
 decide (2000<O5 (PC (sO p.ins) (sO p.ins).length) (sO p.nodes) (sO p.nodes).length)
theorem PD.RL {V:Vw}{v:Value}{p:PD}(h:V.av v p.A):(sO p.f).length≤9223372036854775807∧(sO p.ins).length≤9223372036854775807∧(sO p.nodes).length≤9223372036854775807∧(sO p.states).length≤9223372036854775807:=by
 obtain⟨arr,rfl,hs,hc⟩:=h;have hs8:arr.size=8:=hs;exact⟨uF (hc 0 (by simp) (by omega)),uF (hc 2 (by simp) (by omega)),uF (hc 3 (by simp) (by omega)),uF (hc 6 (by simp) (by omega))⟩
theorem J2 (G:List (List DV))(p:PD)(hp:p.ok):aa Tryz.prog G 16 [p.A] (.c (.d (.bool (nL p)))):=by
 refine aL.ji 0 (by simp) (fun V v h=>PD.RL h) fun hr=>?_;obtain⟨hr0,hr2,hr3,hr6⟩:=hr;have lp0:∀ (lv:Key→LB) (o:Option (List (List DV))),fc Tryz.prog 22 lv (D8 o)=some (.c (.d (.int .i64 (sO o).length)),[],[],True):=fun lv o=>dJ (by simp)
 have lp2:∀ (lv:Key→LB) (o:Option (List (List DV))),fc Tryz.prog 23 lv (D8 o)=some (.c (.d (.int .i64 (sO o).length)),[],[],True):=fun lv o=>dJ (by simp)
 have lp3:∀ (lv:Key→LB) (o:Option (List (List DV))),fc Tryz.prog 24 lv (D8 o)=some (.c (.d (.int .i64 (sO o).length)),[],[],True):=fun lv o=>dJ (by simp)
 have lp6:∀ (lv:Key→LB) (o:Option (List (List DV))),fc Tryz.prog 25 lv (D8 o)=some (.c (.d (.int .i64 (sO o).length)),[],[],True):=fun lv o=>dJ (by simp)
 refine aa.en Tryz.func16 rfl fun _=>aab ?_;refine aaa fun K hK=>aaa fun K1 hK1=>?_
 by_cases h0:100<(sO p.f).length
 ·have i0:(100:Int)<((sO p.f).length:Int):=by omega
  refine aau lp0 i0 (hK1 _ _ ?_);refine aaj (aab ?_);exact aae (aq.rt rfl 2 (by simp [nL,h0]))
 have i0:¬ (100:Int)<((sO p.f).length:Int):=by omega
 by_cases h2:100<(sO p.ins).length
 ·have i2:(100:Int)<((sO p.ins).length:Int):=by omega
  refine aaB lp0 lp2 i0 i2 (hK1 _ _ ?_);refine aaj (aab ?_);exact aae (aq.rt rfl 2 (by simp [nL,h2]))
 have i2:¬ (100:Int)<((sO p.ins).length:Int):=by omega
 by_cases h3:100<(sO p.nodes).length
 ·have i3:(100:Int)<((sO p.nodes).length:Int):=by omega
  refine aad ?_;simp [lp0,lp2,lp3,i0,i2,i3];apply hK1;clear hK1 K1;refine aaj (aab ?_);exact aae (aq.rt rfl 2 (by simp [nL,h3]))
 have i3:¬ (100:Int)<((sO p.nodes).length:Int):=by omega
 by_cases h6:100<(sO p.states).length
 ·have i6:(100:Int)<((sO p.states).length:Int):=by omega
  refine aad ?_;simp [lp0,lp2,lp3,lp6,i0,i2,i3,i6];apply hK1;clear hK1 K1;refine aaj (aab ?_);exact aae (aq.rt rfl 2 (by simp [nL,h6]))
 have i6:¬ (100:Int)<((sO p.states).length:Int):=by omega
 refine aad ?_;simp [lp0,lp2,lp3,lp6,i0,i2,i3,i6];apply hK1;clear hK1 K1;refine aak (aac (hK _ _ (aab ?_)));refine aaa fun K hK=>aab ?_;refine aaf ?_
 refine aao (fun (q:Nat × Int)=>⟨bh [(1,.c (.ptr 0 0)),(3,.c (.d (.int .i64 q.2))),(4,.c (.d (.int .i64 q.1)))],aG (fun _=>.hole) 0 (.cells true false 27 p.cs)⟩) 1
  (fun q=>q.1≤(sO p.ins).length∧q.2=PC (sO p.ins) q.1) (fun q=>(sO p.ins).length - q.1) (0,0) (Le.mk' _ (by simp) (by simp) (by simp)) ⟨by simp,rfl⟩ ?_
 rintro⟨i,n⟩ ⟨hi,hn⟩;simp only at hi hn;refine aaa fun K3 hK3=>aan lp2 ?_
 by_cases hi2:i<(sO p.ins).length
 ·refine aah (by simp [hi2] <;> omega) (aac (hK3 _ _ ?_));obtain⟨a,s,t,he⟩:=hp.ins _ (List.getElem_mem hi2)
  have hx:∀ lv:Key→LB,ak Tryz.prog 23 lv (D8 p.ins) (.c (.d (.int .i64 (i:Int))))=some (.c (.d (.ptr [.int .i64 a,.str s,.str t])),[],[],True):=fun lv=>by
   rw [wN (sz:=3) (by simp) hi2 (by rw [he];rfl),he]
  refine aaa fun K5 hK5=>aaf ?_;refine aaw mixed (by kernel_rfl) rfl rfl ?_;simp [hx];apply hK5;clear hK5 K5;have e3:=bM (n:=(i:Int)+1) (by omega) (by omega);refine aad ?_;simp [e3];refine⟨i+1,IntKind.i64.wrap (IntKind.i64.wrap (n+s.length)+t.length),Le.mk' _ (by simp) (by simp) (by simp),⟨by omega,?_⟩,by omega⟩;exact IU hn hi2 he
 ·refine aag (by simp [hi2] <;> omega) (aam (hK _ _ ?_));have hii:i=(sO p.ins).length:=by omega
  subst hii;refine aaa fun K hK=>aab ?_;refine aaf ?_
  refine aao (fun (q:Nat × Int)=>⟨bh [(1,.c (.ptr 0 0)),(3,.c (.d (.int .i64 q.2))),(5,.c (.d (.int .i64 q.1)))],aG (fun _=>.hole) 0 (.cells true false 27 p.cs)⟩) 1
   (fun q=>q.1≤(sO p.nodes).length∧q.2=O5 n (sO p.nodes) q.1) (fun q=>(sO p.nodes).length - q.1) (0,n) (Le.mk' _ (by simp) (by simp) (by simp)) ⟨by simp,rfl⟩ ?_
  rintro⟨i,n'⟩ ⟨hi,hn'⟩;simp only at hi hn';refine aaa fun K3 hK3=>aan lp3 ?_
  by_cases hi3:i<(sO p.nodes).length
  ·refine aah (by simp [hi3] <;> omega) (aac (hK3 _ _ ?_));obtain⟨a1,a2,a3,a4,a5,a6,s,he⟩:=hp.nodes _ (List.getElem_mem hi3)
   have hx:∀ lv:Key→LB,ak Tryz.prog 24 lv (D8 p.nodes) (.c (.d (.int .i64 (i:Int))))=some (.c (.d (.ptr [.int .i64 a1,.int .i64 a2,.int .i64 a3,.int .i64 a4,.int .i64 a5,.int .i64 a6,.str s])),[],[],True):=fun lv=>by
    rw [wN (sz:=7) (by simp) hi3 (by rw [he];rfl),he]
   refine aaa fun K5 hK5=>aaf (aat hx (hK5 _ _ ?_))
   have e3:=bM (n:=(i:Int)+1) (by omega) (by omega);refine aad ?_;simp [e3];refine⟨i+1,IntKind.i64.wrap (n'+s.length),Le.mk' _ (by simp) (by simp) (by simp),⟨by omega,?_⟩,by omega⟩;exact Jx hn' hi3 he
  ·refine aag (by simp [hi3] <;> omega) (aam (hK _ _ ?_));have hii:i=(sO p.nodes).length:=by omega
   subst hii;refine aab ?_
   have hb:nL p=decide (2000<n'):=by
    simp [nL,h0,h2,h3,h6,hn',hn]
   exact aae (aq.rt rfl 2 (by simp [hb]))
end Go.Am
