/- Helpers: an abstract machine for Go functions, and walks of functions of the program. -/
import Derived.Test.YtfkfimmphlpllaaGreatDoorHn13

set_option linter.all false
set_option maxHeartbeats 8000000
set_option maxRecDepth 100000
namespace Go.Am
open N
variable {t:Nat}{c:CS}{p:PD}
def seg (q:PD)(a k:Nat):List Nd:=(List.range k).map fun j=>q.nd (a+j)
theorem om (q:PD)(a k:Nat):seg q a (k+1)=seg q a k++[q.nd (a+k)]:=by simp [seg,abI]
theorem wE (q:PD)(a k:Nat):(seg q a k).length=k:=by simp [seg]
theorem A3 {q:PD}{a k:Nat}{x:Nd}:x∈seg q a k↔∃ j,j<k∧x=q.nd (a+j):=by
 unfold seg;rw [Zo];exact⟨fun⟨j,h1,h2⟩=>⟨j,List.mem_range.1 h1,h2.symm⟩,fun⟨j,h1,h2⟩=>⟨j,List.mem_range.2 h1,h2.symm⟩⟩
theorem BI (q:PD)(a k:Nat):∀ l,seg q a k++seg q (a+k) l=seg q a (k+l)
 | 0=>by simp [seg]
 | l+1=>by rw [om,← YZ,BI q a k l,← ZC,om,ZC]
theorem NU (q:PD):seg q 0 q.nn=q.N:=by
 refine aa3 (by rw [wE,PD.DX]) fun i h1 h2=>?_;rw [PD.S2];simp [seg]
def ET (q:PD)(t:Nat):Nat:=if t=0 then q.ni else q.ns
def MY (q:PD)(t j:Nat):Nd:=if t=0 then jq q j else iP q j j
structure Self (q:PD) (W:NS):Prop where
 good:q.good
 Sq:mm q W
 lf:∀ a,a<q.ns→(aN W.2 0).getD a 0=a
 need:∀ k,k<q.nn→(q.nd k).op≠1→(q.nd k).op≠2→cP W.1 k
 ne:∀ k i,k<i→i<q.nn→q.nd k=q.nd i→fu q k≠0∧fu q k≠fu q i
 MG:∀ t,t<3→∀ j,j<ET q t→ak q t+j<ak q (t+1)∧q.nd (ak q t+j)=MY q t j
 XV:∀ t,t<3→∀ k,ET q t≤k→ak q t+k<ak q (t+1)→(q.nd (ak q t+k)).op≠1∧(q.nd (ak q t+k)).op≠2
variable {q:PD}{W:NS}
theorem Self.bb (S:Self q W)(ht:t<3):ak q t≤ak q (t+1)∧ak q (t+1)≤q.nn∧ET q t≤ak q (t+1) - ak q t:=by
 obtain⟨b0,b1,b2,b3,b4⟩:=uj S.good
 have h:ak q t≤ak q (t+1)∧ak q (t+1)≤q.nn:=by
  obtain rfl|rfl|rfl:t=0∨t=1∨t=2:=by omega
  all_goals (simp only [Nat.reduceAdd];omega)
 refine⟨h.1,h.2,?_⟩
 by_cases z:ET q t=0
 ·omega
 ·have:=(S.MG t ht (ET q t - 1) (by omega)).1;omega
theorem Self.begin (S:Self q W)(ht:t<3)(he:c.emp t) (hA:1≤t→c.A0=seg q 0 (ak q 1)) (h0:t=0→c=⟨[],[],[]⟩):eO q (aN W.2 0) t c=c.fH t (seg q (ak q t) (ET q t)):=by
 have hl:=dI W.2;have hlb:W.2.length=q.ns:=S.Sq.len.2
 by_cases z:t=0
 ·subst z;rw [h0 rfl]
  have e:∀ j,j≤q.ni→EO q j=seg q 0 j:=fun j=>by
   induction j with
   | zero=>intro _;rfl
   | succ j ih=>
    intro hj;rw [EO,ih (by omega),om];have:=(S.MG 0 (by omega) j (by show j<q.ni;omega)).2;rw [show ak q 0=0 from rfl] at this;rw [this];rfl
  show oq q ⟨[],[],[]⟩ q.ni=_;rw [wR,e q.ni (aW _)];rfl
 ·have e:∀ j,j≤q.ns→vX q (aN W.2 0) j=seg q (ak q t) j:=fun j=>by
   induction j with
   | zero=>intro _;rfl
   | succ j ih=>
    intro hj;have h1:=S.lf j (by omega);have h2:=(S.MG t ht j (by unfold ET;rw [if_neg z];omega)).2;show (if 0≤(aN W.2 0).getD j 0 then vX q (aN W.2 0) j++[iP q j ((aN W.2 0).getD j 0)] else vX q (aN W.2 0) j)=_;rw [h1,if_pos (by omega),ih (by omega),om,h2];unfold MY;rw [if_neg z]
  have h2:∀ x∈c.A0,x.op≠2:=fun x hx=>by
   rw [hA (by omega)] at hx;obtain⟨j,hj,rfl⟩:=A3.1 hx;rw [Y5]
   by_cases hji:j<q.ni
   ·have:=(S.MG 0 (by omega) j hji).2;rw [show ak q 0=0 from rfl,Y5] at this;rw [this];show (jq q j).op≠2;simp [jq]
   ·have:=(S.XV 0 (by omega) j (by show q.ni≤j;omega) (by rw [show ak q 0=0 from rfl];simp only [Nat.reduceAdd];omega)).2;rw [show ak q 0=0 from rfl,Y5] at this;exact this
  unfold eO;rw [if_neg z,hl.len,hlb,AY hl (by omega) (CS.jy he) (CS.oR ht he) h2 q.ns (by omega),e q.ns (aW _)];unfold ET;rw [if_neg z]
theorem Self.sec (S:Self q W)(ht:t<3)(he:c.emp t) (hL:c.L.length=ak q t) (hA:1≤t→c.A0=seg q 0 (ak q 1)):∀ k,ak q t+k≤ak q (t+1) →
 fD q W (aN W.2 0) (ak q t) t (c.fH t (seg q (ak q t) (ET q t)),qU q.nn (ak q t)) (ak q t) k=(c.fH t (seg q (ak q t) (max (ET q t) k)),qU q.nn (ak q t+k))
 | 0,_=>by rw [Nat.max_eq_left (Y4 _)];rfl
 | k+1,hk=>by
  obtain⟨b1,b2,b3⟩:=S.bb ht;have hn:ak q t+k<q.nn:=by omega
  have key:kL q W (aN W.2 0) (ak q t) t (c.fH t (seg q (ak q t) (max (ET q t) k))) (qU q.nn (ak q t+k)) (ak q t+k)=(((ak q t+k:Nat):Int),c.fH t (seg q (ak q t) (max (ET q t) (k+1)))):=by
   unfold kL
   by_cases hkb:k<ET q t
   ·rw [Nat.max_eq_left (by omega),Nat.max_eq_left (by omega),(S.MG t ht k hkb).2];unfold MY
    by_cases z:t=0
    ·subst z;rw [if_pos rfl,if_pos (show (jq q k).op=1 from rfl)];show ((k:Int),_)=_;rw [show ak q 0=0 from rfl,Y5]
    ·rw [if_neg z,if_neg (show ¬ (iP q k k).op=1 by simp [iP]),if_pos (show (iP q k k).op=2 from rfl)];have hks:k<q.ns:=by unfold ET at hkb;rw [if_neg z] at hkb;exact hkb
     have e:(aN W.2 0).getD (iP q k k).a.toNat 0=k:=by
      show (aN W.2 0).getD ((k:Int)).toNat 0=k;rw [Y1];exact S.lf k hks
     rw [e,if_neg (by omega)];congr 1
   ·obtain⟨o1,o2⟩:=S.XV t ht k (by omega) (by omega);have hin:=S.need _ hn o1 o2;obtain⟨hop,-,hkd⟩:=ic S.good hn;rw [Nat.max_eq_right (by omega),Nat.max_eq_right (by omega),if_neg o1,if_neg o2,if_neg (by unfold cP at hin;rw [hin];decide)]
    rw [Ld hop fun x hx=>by
     have:=hkd x hx;rw [wC (by omega) (by omega)];omega]
    have hs:=rB S.good (i:=ak q t+k) ht (by omega) (by omega)
    have no1:q.nd (ak q t+k) ∉ seg q (ak q t) k:=fun hx=>by
     obtain⟨j,hj,e⟩:=A3.1 hx;have:=(S.ne (ak q t+j) (ak q t+k) (by omega) hn e.symm).2;rw [hs,rB S.good (i:=ak q t+j) ht (by omega) (by omega)] at this;exact this rfl
    have hno:q.nd (ak q t+k) ∉ (c.fH t (seg q (ak q t) k)).sec t∧q.nd (ak q t+k) ∉ (c.fH t (seg q (ak q t) k)).A0:=by
     rw [CS.Dw,CS.oR ht he,Zt];refine⟨no1,?_⟩
     by_cases z:t=0
     ·subst z;have e0:c.A0=[]:=CS.oR ht he;show q.nd (ak q 0+k) ∉ c.A0++seg q (ak q 0) k;rw [e0,Zt];exact no1
     ·rw [CS.HC c (by omega),hA (by omega)];intro hx;obtain⟨j,hj,e⟩:=A3.1 hx;rw [Y5] at e;obtain⟨b0,d1,d2,d3,d4⟩:=uj S.good
      have hjt:ak q 1≤ak q t:=by
       obtain rfl|rfl:t=1∨t=2:=by omega
       ·exact aW _
       ·exact d2
      refine (S.ne j (ak q t+k) (by omega) hn e.symm).1 (rB S.good (t:=0) (by omega) ?_ ?_)
      ·rw [b0];exact Y4 _
      ·exact hj
    rw [CS.sW hno,← CS.add_eq,CS.DE,om,(CS.pG ht (CS.jy he) _).2.1,YY,wE,hL]
  rw [fD,S.sec ht he hL hA k (by omega)];simp only;rw [key];simp only;rw [Nh hn,ZC]
theorem Self.step (S:Self q W)(ht:t<3)(h:aS q W (aN W.2 0) t=(c,qU q.nn (ak q t))) (he:c.emp t) (hL:c.L.length=ak q t) (hA:1≤t→c.A0=seg q 0 (ak q 1)) (h0:t=0→c=⟨[],[],[]⟩) :
 aS q W (aN W.2 0) (t+1)=(c.fH t (seg q (ak q t) (ak q (t+1) - ak q t)),qU q.nn (ak q (t+1))):=by
 obtain⟨b1,b2,b3⟩:=S.bb ht;have e:=S.sec ht he hL hA (ak q (t+1) - ak q t) (by omega);rw [Nat.max_eq_right b3,show ak q t+(ak q (t+1) - ak q t)=ak q (t+1) by omega] at e;show fD q W (aN W.2 0) (aS q W (aN W.2 0) t).1.L.length t (eO q (aN W.2 0) t (aS q W (aN W.2 0) t).1,(aS q W (aN W.2 0) t).2) (ak q t) (ak q (t+1) - ak q t)=_;rw [h];simp only;rw [hL,S.begin ht he hA h0];exact e
theorem Self.can (S:Self q W):(bJ q W).L=q.N∧jG q W=qU q.nn q.nn∧(aS q W (aN W.2 0) 1).1.L.length=ak q 1∧(aS q W (aN W.2 0) 2).1.L.length=ak q 2:=by
 obtain⟨b0,b1,b2,b3,b4⟩:=uj S.good;obtain⟨⟨a1,a2,a3,a4⟩,-,⟨c1,c2,c3⟩,-⟩:=fE.1 S.good.gen;have hlb:W.2.length=q.ns:=S.Sq.len.2;have hE:=fun t ht=>(sS q a3 (by omega) (by omega) a2 W (aN W.2 0) (by rw [jf];omega) t ht).1
 have s1:=S.step (t:=0) (by omega) (c:=⟨[],[],[]⟩) (by rw [b0,Kp];rfl) ⟨fun _=>rfl,fun _=>rfl,fun _=>rfl⟩ (by rw [b0];rfl) (fun h=>by omega) fun _=>rfl
 have s1:aS q W (aN W.2 0) 1=(⟨seg q 0 (ak q 1),[],[]⟩,qU q.nn (ak q 1)):=by rw [s1];rfl
 have e1:=hE 1 (by omega);rw [s1] at e1;have l1:(⟨seg q 0 (ak q 1),[],[]⟩:CS).L.length=ak q 1:=by simp [CS.L,wE]
 have s2:=S.step (t:=1) (by omega) s1 e1 l1 (fun _=>rfl) fun h=>by omega
 have s2:aS q W (aN W.2 0) 2=(⟨seg q 0 (ak q 1),seg q (ak q 1) (ak q 2 - ak q 1),[]⟩,qU q.nn (ak q 2)):=by rw [s2];rfl
 have e2:=hE 2 (by omega);rw [s2] at e2;have l2:(⟨seg q 0 (ak q 1),seg q (ak q 1) (ak q 2 - ak q 1),[]⟩:CS).L.length=ak q 2:=by simp [CS.L,wE];omega
 have s3:=S.step (t:=2) (by omega) s2 e2 l2 (fun _=>rfl) fun h=>by omega
 have s3:aS q W (aN W.2 0) 3=(⟨seg q 0 (ak q 1),seg q (ak q 1) (ak q 2 - ak q 1),seg q (ak q 2) (q.nn - ak q 2)⟩,qU q.nn q.nn):=by rw [s3];rfl
 refine⟨?_,?_,by rw [s1];exact l1,by rw [s2];exact l2⟩
 ·show (aS q W (aN W.2 0) 3).1.L=_;rw [s3,← NU];show seg q 0 (ak q 1)++(seg q (ak q 1) (ak q 2 - ak q 1)++seg q (ak q 2) (q.nn - ak q 2))=_;have x1:=BI q (ak q 1) (ak q 2 - ak q 1) (q.nn - ak q 2);rw [show ak q 1+(ak q 2 - ak q 1)=ak q 2 by omega] at x1;have x2:=BI q 0 (ak q 1) (ak q 2 - ak q 1+(q.nn - ak q 2));rw [Y5] at x2;rw [x1,x2];congr 1;omega
 ·show (aS q W (aN W.2 0) 3).2=_;rw [s3]
theorem Self.cnt (S:Self q W):W.2.count true=q.ns:=by
 have hlb:W.2.length=q.ns:=S.Sq.len.2
 have:W.2.count true=W.2.length:=List.count_eq_length.2 fun b hb=>by
  obtain⟨a,ha,rfl⟩:=List.mem_iff_getElem.1 hb;have h:=((dI W.2).iff ha).1 (by rw [S.lf a (by omega)];omega);unfold cP at h;rw [hJ,cn ha] at h;exact h.symm
 omega
theorem Self.Yt (S:Self q W):sN q W=(sO q.states).map r5:=by
 have hV:=S.can.2.1
 have e:∀ j,j≤q.ns→CE (fun j=>((jG q W).getD (q.st j).1.toNat 0,(jG q W).getD (q.st j).2.toNat 0)) (aN W.2 0) j=((sO q.states).map r5).take j:=fun j=>by
  induction j with
  | zero=>intro _;rfl
  | succ j ih=>
   intro hj;have h1:=S.lf j (by omega);obtain⟨s1,s2,s3,s4⟩:=xE S.good (i:=j) (by omega);obtain⟨-,-,⟨c1,c2,c3⟩,-⟩:=fE.1 S.good.gen;rw [CE,h1,if_pos (by omega),ih (by omega),hV,wC (by omega) (aW _),wC (by omega) (aW _)];have hjl:j<((sO q.states).map r5).length:=by rw [YX];exact hj
   rw [abj,cn hjl];congr 1
   have e2:q.st j=((sO q.states).map r5)[j]:=by
    unfold PD.st;rw [hJ,cn (by simpa using hjl),sr];rfl
   show [_]=[_]
   rw [← e2];congr 1;refine Prod.ext ?_ ?_
   ·simp only;omega
   ·simp only;omega
 show CE _ _ q.ns=_;rw [e q.ns (aW _),ZH (by rw [YX];exact aW _)]
theorem Self.eq (S:Self q W)(hs:q.states=if (sO q.states).map r5=[] then none else some (((sO q.states).map r5).map zj)):bt q W=q:=by
 obtain⟨h1,h2,h3,h4⟩:=S.can;obtain⟨-,⟨_,d2,_⟩,⟨c1,c2,c3⟩,d⟩:=fE.1 S.good.gen;have hc:=S.cnt;obtain⟨es,hes⟩:=M8 S.good.gen
 have hN:q.N≠[]:=fun e=>by
  have:=PD.DX q;rw [e] at this;exact d2 this.symm
 have e1:(bt q W).nodes=q.nodes:=by
  show (if (bJ q W).L=[] then none else some ((bJ q W).L.map Nd.e))=_;rw [h1,if_neg hN,PD.Ya S.good.ok,hes];rfl
 have e2:(bt q W).states=q.states:=by rw [l8 S.Sq,S.Yt];exact hs.symm
 have e3:(bt q W).head=q.head:=by
  show (if W.2.count true=0 then ((bJ q W).L.length:Int) else ((aS q W (aN W.2 0) 1).1.L.length:Int))=_;rw [h1,h3,PD.DX,hc];split
  ·rename_i z;exact (d z).symm
  ·simp only [ak];omega
 have e4:(bt q W).tail=q.tail:=by
  show (if W.2.count true=0 then ((bJ q W).L.length:Int) else ((aS q W (aN W.2 0) 2).1.L.length:Int))=_;rw [h1,h4,PD.DX,hc];split
  ·rename_i z;have:=d z;omega
  ·simp only [ak];omega
 have e5:(bt q W).res=q.res:=by
  show (jG q W).getD q.res.toNat 0=_;have:=S.good.res;rw [h2,wC (by omega) (aW _)];omega
 have e6:bt q W=⟨q.f,q.mode,q.ins,(bt q W).nodes,(bt q W).head,(bt q W).tail,(bt q W).states,(bt q W).res⟩:=rfl;rw [e6,e1,e2,e3,e4,e5]
theorem KE{V:NS}(hg:p.good) (hV:mm p V) (hb:(bJ p V).L.length≤64) {W:NS}(hW:mm (bt p V) W):Self (bt p V) W:=by
 have hq:=GP hg hV hb;have h:=vb hg hV;have hnn:=yy p V;have hns:=Mz hV;have hhd:=Bk hg hV;have htl:=BT hg hV;have hof:=CS.Fu (bJ p V);have Ji:W.2.length=(bt p V).ns:=hW.len.2;have hni:(bt p V).ni=p.ni:=rfl;have hb1:ak (bt p V) 1=(bt p V).head.toNat:=rfl;have hb2:ak (bt p V) 2=(bt p V).tail.toNat:=rfl;have hb3:ak (bt p V) 3=(bt p V).nn:=rfl;have hb0:ak (bt p V) 0=0:=rfl
 have hcnt:∀ a,a≤W.2.length→(W.2.take a).count true=a:=fun a ha=>by
  have:(W.2.take a).count true=(W.2.take a).length:=List.count_eq_length.2 fun b hb=>by
   obtain⟨i,hi,rfl⟩:=List.mem_iff_getElem.1 (Z6 hb);have h:=A8 hg hV hW (j:=i) (by omega);unfold cP at h;rw [hJ,cn hi] at h;exact h.symm
  rw [this,Zc];omega
 refine⟨hq,hW,fun a ha=>?_,fun k hk h1 h2=>Nc hg hV hW hk h1 h2,fun k i hk hi he=>OS hg hV hk hi he,fun t ht j hj=>?_,fun t ht k hk hkb=>?_⟩
 ·rw [(dI W.2).get a (by omega),if_pos (A8 hg hV hW (by omega)),hcnt a (by omega)]
 ·by_cases z:t=0
  ·subst z;have hj:j<p.ni:=hj;obtain⟨e1,e2⟩:=h.Bg j hj;have hjl:=(List.getElem?_eq_some_iff.1 e1).1;have hsc:=CS.jE (bJ p V) j;rw [hb0,Y5];refine⟨?_,?_⟩
   ·show j<(bt p V).head.toNat;rw [hhd];split
    ·omega
    ·rw [e2] at hsc;split at hsc
     ·omega
     ·split at hsc <;> omega
   ·rw [p8 p V e1];rfl
  ·have hj:j<V.2.count true:=by unfold ET at hj;rw [if_neg z] at hj;omega
   have hM:¬ V.2.count true=0:=by omega
   rw [if_neg hM] at hhd htl;obtain⟨a,f1,f2,f3⟩:=Gb hV hj;obtain⟨e1,e2⟩:=h.UB t (by omega) (by omega) a f1 (by omega);rw [f2,Y1] at e1 e2;have hjl:=(List.getElem?_eq_some_iff.1 e1).1
   have hbt:ak (bt p V) t=(bJ p V).off t:=by
    obtain rfl|rfl:t=1∨t=2:=by omega
    ·rw [hb1,hhd];exact Y1 _
    ·rw [hb2,htl];exact Y1 _
   have hsc:=CS.jE (bJ p V) ((bJ p V).off t+j);rw [hbt];refine⟨?_,?_⟩
   ·obtain rfl|rfl:t=1∨t=2:=by omega
    ·rw [hb2,htl,Y1];rw [e2] at hsc;split at hsc
     ·omega
     ·split at hsc <;> omega
    ·rw [hb3,hnn];exact hjl
   ·rw [p8 p V e1];unfold MY;rw [if_neg z];have hst:=Jo hV f1 (by omega);rw [f2,Y1] at hst;obtain⟨-,i1,i2⟩:=hV.st hg f3;obtain⟨s1,s2,s3,s4⟩:=xE hg f1;obtain⟨-,-,⟨c1,c2,c3⟩,-⟩:=fE.1 hg.gen;obtain⟨k1,m1,x1,x2,x3,x4,-⟩:=h.ats (p.st a).1.toNat (by omega) (.inl i1);unfold iP;rw [hst];simp only;rw [x1,Y1,p8 p V x2,x4]
 ·have hx:ak (bt p V) t+k<(bJ p V).L.length:=by
   obtain⟨b0,b1,b2,b3,b4⟩:=uj hq;rw [← hnn];obtain rfl|rfl|rfl:t=0∨t=1∨t=2:=by omega
   all_goals (simp only [Nat.reduceAdd] at hkb;omega)
  obtain⟨m,hm⟩:∃ m,(bJ p V).L[ak (bt p V) t+k]?=some m:=⟨_,cn hx⟩
  have hs:=rB hq (i:=ak (bt p V) t+k) ht (by omega) hkb;rw [tW hg hV hx] at hs;rw [p8 p V hm];rcases h.pos _ m hm with ⟨g1,rfl,g3⟩|⟨a,g1,g2,rfl,g4,g5⟩|⟨i,g1,g2,g3,g4,g5,rfl,g7,g8⟩
  ·exfalso
   have z:t=0:=by
    by_cases hM:V.2.count true=0
    ·rw [if_pos hM] at hs;omega
    ·rw [if_neg hM] at hs;omega
   subst z;rw [hb0] at g1;have hk:p.ni≤k:=hk;omega
  ·exfalso;have hlt:=OY hV g1 g2;have hM:¬ V.2.count true=0:=by omega
   rw [if_neg hM] at hs hhd htl;have ht':(bJ p V).sc (ak (bt p V) t+k)=t:=by omega
   have hk:(bt p V).ns≤k:=by unfold ET at hk;rw [if_neg (by omega)] at hk;exact hk
   rw [ht'] at g5
   have hbt:ak (bt p V) t=(bJ p V).off t:=by
    obtain rfl|rfl:t=1∨t=2:=by omega
    ·rw [hb1,hhd];exact Y1 _
    ·rw [hb2,htl];exact Y1 _
   omega
  ·exact⟨g3,g4⟩
theorem settle(hg:p.good) (hb:(bJ p (bA p)).L.length≤64) :
 Self (bt p (bA p)) (bA (bt p (bA p)))∧bt (bt p (bA p)) (bA (bt p (bA p)))=bt p (bA p):=by
 have hV:=rH (oW hg);have hq:=GP hg hV hb;have S:=KE hg hV hb (rH (oW hq));refine⟨S,S.eq ?_⟩;rw [l8 hV]
 have e:∀ l:List (Int × Int),(l.map zj).map r5=l:=fun l=>by
  rw [Y7];exact (Zj fun x _=>rfl).trans (aaM l)
 by_cases z:sN p (bA p)=[]
 ·rw [if_pos z];rfl
 ·rw [if_neg z];show some _=if ((sN p (bA p)).map zj).map r5=[] then none else some ((((sN p (bA p)).map zj).map r5).map zj)
  rw [e,if_neg z]
end Go.Am
namespace Go.Am
open Go.Am.Ty Go.Proofs N
theorem eb {T:TypeId}{x y:AV}{b:Bool}(hg:Tryz.prog.eqGuardType Tryz.prog.depth T=false) (hx:∃ cs,x=.agg cs) (h:zl Tryz.prog 20 T x y=some b):aJ Tryz.prog .eql T x y=some (.c (.d (.bool b)),[],[],True):=by
 obtain⟨cs,rfl⟩:=hx;unfold aJ;simp [hg,m8,h]
theorem Sj (n m:Nd):qW n.e m.e=decide (n=m):=by
 obtain⟨a1,a2,a3,a4,a5,a6,v⟩:=n;obtain⟨b1,b2,b3,b4,b5,b6,w⟩:=m;rw [Bool.eq_iff_iff];simp [qW,RQ,Nd.e]
theorem QN {n i:Nat}(h:i<n):(qU n n)[i]'(by rw [wI];exact h)=(i:Int):=by simp [qU,h]
theorem xq (m:Int)(p:PD)(hp:p.ok):aa Tryz.prog (GG m) 13 [p.A] (.c (.d (.bool true))):=by
 have hgr:=Lq (GG m) p hp;have hsh:=Mp m
 cases hgb:nN p with
 | true=>
  rw [hgb] at hgr;refine aa.en Tryz.func13 rfl fun _=>aab ?_;refine aaa fun K hK=>aas 1 hgr ?_;refine aak (aas 1 hsh ?_);exact aad (aH.rt (t:=2) rfl 9 (by simp))
 | false=>
 rw [hgb] at hgr
 have hbad:∀ e:Int,e≠0→aa Tryz.prog (GG m) 18 [p.A] (.tup [tA.A,.c (.d .nilsl),.c (.d (.int .i64 e))])→aa Tryz.prog (GG m) 13 [p.A] (.c (.d (.bool true))):=by
  intro e he hu;refine aa.en Tryz.func13 rfl fun _=>aab ?_;refine aaa fun K hK=>aas 1 hgr ?_;refine aaj (aac (hK _ _ (aaA 1 hu @aj.eq_1 ?_)));refine aaa fun K hK=>aab ?_;refine aaf (by simp [he] <;> omega) (aas 2 hsh ?_);exact aad (aH.rt (t:=2) rfl 9 (by simp))
 by_cases h0:(fL p).2.2=0
 rotate_left
 ·exact hbad _ h0 (Jg m p hp h0)
 have hc:=EI m p hp h0;have hg:=rL hp h0
 by_cases hbig:64<(aS p (bA p) (aN (bA p).2 0) 3).1.L.length
 ·rw [show Lg p (bA p)=.tup [tA.A,.c (.d .nilsl),.c (.d (.int .i64 3))] from if_pos hbig] at hc;exact hbad 3 (by decide) hc
 rw [show Lg p (bA p)=.tup [(bt p (bA p)).A,.c (zC (some (jG p (bA p)))),.c (.d (.int .i64 0))] from if_neg hbig] at hc;have hV:=rH (oW hg);have hcnt:=MN hg hV (dI _);have hb:(bJ p (bA p)).L.length≤64:=by unfold bJ;omega
 obtain⟨S,hself⟩:=settle hg hb;have hq:=S.good;have hnn:=yy p (bA p);have hns:=Mz hV;have hni:(bt p (bA p)).ni=p.ni:=rfl;have hne:=fun k i=>OS hg hV (k:=k) (i:=i)
 have hav:(jG p (bA p)).length=p.nn:=(vb hg hV).len;have hc2:=EI m _ hq.ok (by rw [CX hq]);obtain⟨sL,sV,-,-⟩:=S.can
 have hcA:Lg (bt p (bA p)) (bA (bt p (bA p)))=.tup [(bt (bt p (bA p)) (bA (bt p (bA p)))).A,.c (zC (some (jG (bt p (bA p)) (bA (bt p (bA p)))))),.c (.d (.int .i64 0))]:=
  if_neg (show ¬ 64<(bJ (bt p (bA p)) (bA (bt p (bA p)))).L.length by rw [sL,PD.DX,hnn];omega)
 rw [hcA,hself,sV] at hc2;have hnd:=Fb m _ hq.ok;rw [if_pos (by rw [CX hq])] at hnd;have hsm:=Oh (GG m) _ _ hq.ok hq.ok;rw [FL hq.ok] at hsm;have hW:=S.Sq;have hWs:∀ j,j<(bt p (bA p)).ns→cP (bA (bt p (bA p))).2 j:=fun j hj=>A8 hg hV hW (by omega)
 have hWn:=S.need;obtain⟨b1,b2,b3,-⟩:=gx hg.gen;obtain⟨⟨g1,g2,g3,g4⟩,-,⟨g5,g6,g7⟩,-⟩:=fE.1 hq.gen;have hpn:p.nn≤64:=(fE.1 hg.gen).1.2.2.1
 have hsz:(bt p (bA p)).nn≤p.nn+(bt p (bA p)).ni+2*(bt p (bA p)).ns:=by
  rw [hnn,hns,hni];exact hcnt
 clear hself sL sV hnn hns hni hcnt;have Ji:=hW.len;clear hW S;generalize bA (bt p (bA p))=W at *
 generalize bt p (bA p)=q at *
 generalize jG p (bA p)=av at *
 have hqo:=hq.ok;have lw1:(bL (some W.1)).length=q.nn:=Ji.1;have lw2:(bL (some W.2)).length=q.ns:=Ji.2;have e30:=fun lv=>S7 (T:=30) (by simp) lv (some av)
 have e30':=fun lv=>S7 (T:=30) (by simp) lv (some (qU q.nn q.nn))
 rw [show (zL (some av)).length=p.nn from hav] at e30;rw [show (zL (some (qU q.nn q.nn))).length=q.nn from wI _ _] at e30';have e44:=fun lv=>VY (T:=44) (by simp) lv (some W.1)
 have e44':=fun lv=>VY (T:=44) (by simp) lv (some W.2)
 rw [lw1] at e44;rw [lw2] at e44'
 have ix1:∀ i,i<q.nn→∀ lv:Key→LB,aq Tryz.prog 30 lv (.c (zC (some (qU q.nn q.nn)))) (.c (.d (.int .i64 (i:Int))))=some (.c (.d (.ptr [.int .i64 (i:Int)])),[],[],True):=fun i hi lv=>by
  have:=W8 (T:=30) (by simp) lv (some (qU q.nn q.nn)) (i:=i) (by show i<(qU q.nn q.nn).length;rw [wI];exact hi);exact this.trans (congrArg (fun x:Int=>some (AV.c (CV.d (DV.ptr [DV.int IntKind.i64 x])),([]:List (Key × LB)),([]:List Key),True)) (QN hi))
 have ix2:∀ i (hi:i<W.1.length),∀ lv:Key→LB,aq Tryz.prog 44 lv (.c (bC (some W.1))) (.c (.d (.int .i64 (i:Int))))=some (.c (.d (.ptr [.bool W.1[i]])),[],[],True):=fun i hi lv=>VB (o:=some W.1) (by simp) lv hi
 have ix3:∀ i (hi:i<W.2.length),∀ lv:Key→LB,aq Tryz.prog 44 lv (.c (bC (some W.2))) (.c (.d (.int .i64 (i:Int))))=some (.c (.d (.ptr [.bool true])),[],[],True):=fun i hi lv=>by
  have h1:=VB (T:=44) (o:=some W.2) (by simp) lv hi;have h2:=hWs i (by rw [← Ji.2];exact hi);unfold cP at h2;rw [hJ,cn hi,aaL] at h2;rw [h1];show some (AV.c (.d (.ptr [.bool W.2[i]])),_,_,_)=_;rw [h2]
 have f1:=C6 (some W.1);have f2:=C6 (some W.2);have p1:=GJ (some W.1);have p2:=GJ (some W.2);have f3:=yx (some (qU q.nn q.nn));have f4:=yx (some av);have p3:=Bq (some (qU q.nn q.nn));have p4:=Bq (some av);generalize zC (some (qU q.nn q.nn))=z3 at *
 generalize zC (some av)=z4 at *
 generalize bC (some W.1)=z1 at *
 generalize bC (some W.2)=z2 at *
 have a1:=dF (n:=(p.nn:Int)+(q.ni:Int)) (by omega) (by omega);have a2:=dF (n:=2*(q.ns:Int)) (by omega) (by omega);have a3:=dF (n:=(p.nn:Int)+(q.ni:Int)+2*(q.ns:Int)) (by omega) (by omega);have hsz':¬ (p.nn:Int)+(q.ni:Int)+2*(q.ns:Int)<(q.nn:Int):=by omega
 refine aa.V6 Tryz.func13 rfl fun _=>aab ?_;refine aaa fun K hK=>aas 1 hgr ?_;refine aaj (aac (hK _ _ (aai fun K hK=>?_)));simp;refine ag.pure 1 9 hc (by simp;exact p4) (by simp) (by first|rfl|simp) ?_;simp [aj]
 repeat refine ah ?_
 apply hK;refine aaa fun K hK=>aab ?_;refine aaj (aac (hK _ _ (aai fun K hK=>?_)));simp;refine ag.pure 2 9 hc2 (by simp;exact p3) (by simp) (by first|rfl|simp) ?_;simp [aj]
 repeat refine ah ?_
 apply hK;refine aai fun K hK=>?_;simp;refine ag.pure 3 9 hnd (by simp;exact⟨p1,p2⟩) (by simp) (by first|rfl|simp) ?_;simp
 repeat refine ah ?_
 apply hK;refine aaa fun K hK=>aai fun K1 hK1=>?_;simp;refine ag.pure 3 9 hsm (by simp) (by simp) (by first|rfl|simp) ?_;simp [e30,e30',e44,e44',xB,QO]
 repeat refine ah ?_
 apply hK1;refine aaj (aac (hK _ _ (aaa fun K hK=>AW.f6 @xB @So @QO a1 a2 a3 ?_)));refine aah (by simp [hsz'] <;> omega) (aac (hK _ _ (aaa fun K hK=>aab ?_)));refine aag ?_
 refine aap (fun (i:Nat)=>⟨bq [(1,.c (.ptr 0 0)),(3,.c (.ptr 1 0)),(7,.c z3),(8,.c z1),(9,.c z2),(11,.c (.d (.int .i64 i)))],aD (aD (aD (fun _=>.hole) 0 (.cells true false 27 p.cs)) 1 (.cells true false 27 q.cs)) 2 (.cells true false 27 q.cs)⟩) 3
  (fun i=>i≤q.nn) (fun i=>q.nn - i) 0 (Le.tG _ (by simp) (by simp [f1,f2,f3])) (Y4 _) ?_
 rintro i hi
 try simp only at hi
 refine aaa fun K3 hK3=>aal @xB ?_
 by_cases hlt:i<q.nn
 ·have hlt':(i:Int)<(q.nn:Int):=by omega
  have f12:=dF (n:=(i:Int)+1) (by omega) (by omega);have hxi:=fun lv=>IM q lv hqo i hlt
  have x1:=ix1 i hlt;have hi1:i<W.1.length:=by rw [Ji.1];exact hlt
  have x2:=ix2 i hi1
  have hor:W.1[i]=true∨(q.nd i).op=1∨(q.nd i).op=2:=by
   by_cases c1:(q.nd i).op=1
   ·exact .inr (.inl c1)
   by_cases c2:(q.nd i).op=2
   ·exact .inr (.inr c2)
   have:=hWn i hlt c1 c2;unfold cP at this;rw [hJ,cn hi1] at this;exact .inl this
  generalize W.1[i]=b at *
  obtain⟨ei,hei⟩:∃ e,e=(q.nd i).e:=⟨_,rfl⟩
  have hei7:I2 ei:=by rw [hei];exact Me _
  have hxj:=hxi;rw [← hei] at hxj;have lei:=tj hei7;have ldi:List.take 7 (List.map CV.d ei)=List.map CV.d ei:=ZH (by rw [YX];omega);refine aaf (by simp [hlt'] <;> omega) (aac (hK3 _ _ (aaa fun K5 hK5=>aag (aal hxi ?_))));refine aaa fun K6 hK6=>?_
  have main:∀ (fr:Nat→AV) (κ:Nat),fr 1=.c (.ptr 0 0)→fr 3=.c (.ptr 1 0)→fr 7=.c z3→fr 8=.c z1→fr 9=.c z2→fr 11=.c (.d (.int .i64 i)) →
   K6 ⟨fr,aD (aD (aD (fun _=>.hole) 0 (.cells true false 27 p.cs)) 1 (.cells true false 27 q.cs)) 2 (.cells true false 27 q.cs)⟩ κ:=by
   intro fr κ y1 y3 y7 y8 y9 y11
   repeat refine ah ?_
   apply hK6;refine aab ?_;refine aag ?_
   refine aap (fun (k:Nat)=>⟨bq [(1,.c (.ptr 0 0)),(3,.c (.ptr 1 0)),(7,.c z3),(8,.c z1),(9,.c z2),(11,.c (.d (.int .i64 i))),(13,.c (.d (.int .i64 k)))],aD (aD (aD (fun _=>.hole) 0 (.cells true false 27 p.cs)) 1 (.cells true false 27 q.cs)) 2 (.cells true false 27 q.cs)⟩) 3
    (fun k=>k≤i) (fun k=>i - k) 0 (Le.tG _ (by simp) (by simp [y1,y3,y7,y8,y9,y11,f1,f2,f3])) (Y4 _) ?_
   rintro k hk
   try simp only at hk
   refine aaa fun K7 hK7=>aab ?_
   by_cases hkt:k<i
   ·have hkt':(k:Int)<(i:Int):=by omega
    have f13:=dF (n:=(k:Int)+1) (by omega) (by omega);have hxk:=fun lv=>IM q lv hqo k (by omega)
    obtain⟨ek,hek⟩:∃ e,e=(q.nd k).e:=⟨_,rfl⟩
    have hek7:I2 ek:=by rw [hek];exact Me _
    rw [← hek] at hxk;have lek:=tj hek7;have ldk:List.take 7 (List.map CV.d ek)=List.map CV.d ek:=ZH (by rw [YX];omega);have he:=eb (T:=55) (by kernel_rfl) ⟨_,rfl⟩ (Pg hek7 hei7);rw [show qW ek ei=decide (q.nd k=q.nd i) by rw [hek,hei];exact Sj _ _] at he;refine aaf (by simp [hkt'] <;> omega) (aac (hK7 _ _ (aaa fun K9 hK9=>aag (aaa fun K7 hK7=>?_))))
    by_cases hqe:q.nd k=q.nd i
    ·obtain⟨s1,s2⟩:=hne k i hkt hlt hqe
     have q1:¬ (k:Int)<q.head∧¬ q.tail≤(k:Int)∧¬ (i:Int)<q.tail:=by
      unfold fu at s1 s2;have d0:¬ (k:Int)<q.head:=fun d=>s1 (if_pos d)
      refine⟨d0,fun d=>?_,fun d=>?_⟩
      ·exact s2 (by rw [if_neg d0,if_neg (show ¬ (k:Int)<q.tail by omega),if_neg (show ¬ (i:Int)<q.head by omega),if_neg (show ¬ (i:Int)<q.tail by omega)])
      ·exact s2 (by rw [if_neg d0,if_pos (show (k:Int)<q.tail by omega),if_neg (show ¬ (i:Int)<q.head by omega),if_pos d])
     obtain⟨q1,q2,q3⟩:=q1;rw [decide_eq_true hqe] at he;refine aau mixed (by kernel_rfl) rfl rfl ?_;simp [hxk,hxj,lek,lei,ldk,ldi,he,q1,q2,q3]
     repeat refine ah ?_
     apply hK7;refine aaj (aac (hK9 _ _ (aae ?_)));simp [f13];exact⟨k+1,Le.tG _ (by simp) (by simp [f1,f2,f3]),by omega,by omega⟩
    ·rw [decide_eq_false hqe] at he;refine aau mixed (by kernel_rfl) rfl rfl ?_;simp [hxk,hxj,lek,lei,ldk,ldi,he]
     repeat refine ah ?_
     apply hK7;refine aaj (aac (hK9 _ _ (aae ?_)));simp [f13];exact⟨k+1,Le.tG _ (by simp) (by simp [f1,f2,f3]),by omega,by omega⟩
   ·have hke:k=i:=by omega
    subst hke;refine aaj (aan (hK5 _ _ (aae ?_)));simp [f12];exact⟨k+1,Le.tG _ (by simp) (by simp [f1,f2,f3]),by omega,by omega⟩
  refine aaa fun K7 hK7=>?_;rcases hor with hb|ho|ho
  ·refine aav x1 x2 hb (hK7 _ _ ?_);refine aaj (aac ?_);simp;exact main _ _ (by simp) (by simp) (by simp) (by simp) (by simp) (by simp)
  ·cases b
   ·refine aav x1 x2 ho (hK7 _ _ ?_);refine aaj (aac ?_);simp;exact main _ _ (by simp) (by simp) (by simp) (by simp) (by simp) (by simp)
   ·refine aav x1 x2 ho (hK7 _ _ ?_);refine aaj (aac ?_);simp;exact main _ _ (by simp) (by simp) (by simp) (by simp) (by simp) (by simp)
  ·cases b
   ·refine aav x1 x2 ho (hK7 _ _ ?_);refine aaj (aac ?_);simp;exact main _ _ (by simp) (by simp) (by simp) (by simp) (by simp) (by simp)
   ·refine aav x1 x2 ho (hK7 _ _ ?_);refine aaj (aac ?_);simp;exact main _ _ (by simp) (by simp) (by simp) (by simp) (by simp) (by simp)
 have hlt':¬ (i:Int)<(q.nn:Int):=by omega
 refine aah (by simp [hlt'] <;> omega) (aan (hK _ _ (aaa fun K3 hK3=>aab ?_)));refine aag ?_
 refine aap (fun (j:Nat)=>⟨bq [(9,.c z2),(14,.c (.d (.int .i64 j)))],aD (aD (aD (fun _=>.hole) 0 (.cells true false 27 p.cs)) 1 (.cells true false 27 q.cs)) 2 (.cells true false 27 q.cs)⟩) 3
  (fun j=>j≤q.ns) (fun j=>q.ns - j) 0 (Le.tG _ (by simp) (by simp [f2])) (Y4 _) ?_
 rintro j hj
 try simp only at hj
 refine aaa fun K5 hK5=>aal e44' ?_
 by_cases hjt:j<q.ns
 ·have hjt':(j:Int)<(q.ns:Int):=by omega
  have f12:=dF (n:=(j:Int)+1) (by omega) (by omega);have x3:=ix3 j (by rw [Ji.2];exact hjt);refine aaf (by simp [hjt'] <;> omega) (aac (hK5 _ _ (aaa fun K7 hK7=>aag (aal x3 ?_))));refine aaj (aac (hK7 _ _ (aae ?_)));simp [f12];exact⟨j+1,Le.tG _ (by simp) (by simp [f2]),by omega,by omega⟩
 have hjt':¬ (j:Int)<(q.ns:Int):=by omega
 refine aah (by simp [hjt'] <;> omega) (aan (hK3 _ _ (aas 4 hsh ?_)));exact aad (aH.rt (t:=2) rfl 9 (by simp))
end Go.Am
