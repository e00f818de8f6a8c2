/- Helpers: an abstract machine for Go functions, and walks of functions of the program. -/
import Derived.Test.YtfkfimmphlpllaaGreatDoorFn13

set_option linter.all false
set_option maxHeartbeats 8000000
set_option maxRecDepth 100000
namespace Go.Am
open Go.Am.Ty Go.Proofs N
variable {p q:PD}{lv lf:Key→LB}{k a b c d:Key}{n i t u:Nat}{T E:TypeId}{e:List DV}{o:Option (List (List DV))}{f:FuncId}{K:AV→List (Key × LB)→List Key→Nat→Prop}{x:AV}{P:Program}{G es:List (List DV)}{w:World}{F W:Nat→Prop}{fn:Func}{s:aB}
theorem lX (m:Int)(p:PD)(hp:p.ok):aa Tryz.prog (GG m) 51 [p.A] (.c (.d (.int .i64 (bK p).2.2))):=by
 have h:=C3 m p hp;generalize bK p=v at *
 refine aa.en Tryz.func51 rfl fun _=>aab ?_;refine aaq 1 h ?_;refine aab ?_;exact aad (aq.rt rfl 2 (by simp))
def Wh (p:PD)(n:Int):Int × Int:=if (bK p).2.2≠0 then (0,(bK p).2.2) else if 0≤n∧n<p.nn then (iQ p n,0) else (0,7)
abbrev Wj (v:Int × Int):AV:=.tup [.c (.d (.int .i64 v.1)),.c (.d (.int .i64 v.2))]
theorem JE (G:List (List DV))(p:PD)(hp:p.ok)(ht:p.nh):aa Tryz.prog G 104 [p.A] p.nz.A:=
 aa.Jc (AP G p hp ht) (Ap (PD.F9 hp) (PD.ND ht) (by rw [jg];simp) (by rw [jg];simp) (by rw [jg];simp) (by rw [jg];simp))
def uF (r:PD × Int):PD × Int:=(if r.2=0 then r.1.nz else r.1,r.2)
theorem HQ (m:Int)(p:PD)(hp:p.ok)(n:Int):aa Tryz.prog (GG m) 40 [p.A,.c (.d (.int .i64 n))] (.tup [(uF (lH p n)).1.A,.c (.d (.int .i64 (uF (lH p n)).2))]):=by
 have h:=lX m p hp
 by_cases h0:(bK p).2.2=0
 rotate_left
 ·have e:uF (lH p n)=(iD,(bK p).2.2):=by
   have:lH p n=(iD,(bK p).2.2):=if_pos h0;rw [this];unfold uF;rw [if_neg h0]
  rw [e];generalize (bK p).2.2=e at *
  refine aa.enc Tryz.func40 rfl (fun lv=>de lv _ _) fun _=>aab ?_;refine aav 2 h h0 ?_;refine aaa fun K hK=>aal h0 ?_;refine aag (aac (hK _ _ (aaa fun K hK=>aab ?_)));refine aai (by simp [h0] <;> omega) (aal @zv ?_);exact aad (kW rfl rfl 1)
 have ht:=lD h0;have hcl:=JE (GG m) p hp ht;have hwi:=jH (GG m) n p.nn;have hse:=o5 (GG m) p n;rw [h0] at h;have e0:lH p n=if 0≤n∧n<p.nn∧iQ p n≠1 then (p.oy n,0) else (iD,7):=if_neg (not_not_intro h0)
 have bad:¬ (0≤n∧n<p.nn∧iQ p n≠1)→uF (lH p n)=(iD,7):=fun h=>by rw [e0,if_neg h];rfl
 by_cases h1:0≤n∧n<p.nn
 rotate_left
 ·have hd:decide (0≤n∧n<(p.nn:Int))=false:=decide_eq_false h1;rw [hd] at hwi;rw [bad (fun h=>h1 ⟨h.1,h.2.1⟩)];refine aa.enc Tryz.func40 rfl (fun lv=>de lv _ _) fun _=>aab ?_;refine aaq 2 h ?_;refine aaa fun K hK=>aav 2 hwi @fC ?_;refine aah (aaA (hK _ _ ?_));refine aaa fun K hK=>aab ?_;refine aah (aal @zv ?_);exact aad (kW rfl rfl 1)
 have hd:decide (0≤n∧n<(p.nn:Int))=true:=decide_eq_true h1;rw [hd] at hwi
 by_cases h2:iQ p n=1
 ·rw [bad (fun h=>h.2.2 h2)];rw [h2] at hse;refine aa.enc Tryz.func40 rfl (fun lv=>de lv _ _) fun _=>aab ?_;refine aaq 2 h ?_;refine aaa fun K hK=>aak fun K1 hK1=>?_;simp [fC];refine ag.p 2 9 hwi ?_;simp;refine ag.p 2 9 hse ?_;simp;apply hK1;refine aah (aaA (hK _ _ ?_));refine aaa fun K hK=>aab ?_;refine aah (aal @zv ?_);exact aad (kW rfl rfl 1)
 have e:uF (lH p n)=((p.oy n).nz,0):=by rw [e0,if_pos ⟨h1.1,h1.2,h2⟩];rfl
 rw [e];generalize iQ p n=sc at *
 refine aa.enc Tryz.func40 rfl (fun lv=>de lv _ _) fun _=>aab ?_;refine aaq 2 h ?_;refine aaa fun K hK=>aak fun K1 hK1=>?_;simp [fC];refine ag.p 2 9 hwi ?_;simp [h2];refine ag.p 2 9 hse ?_;simp [h2];apply hK1;refine aag (aac (hK _ _ (aaa fun K hK=>aab ?_)));refine aag (aac (hK _ _ (aaq 2 hcl ?_)));refine aal @aj.eq_1 ?_;refine aal @aj.eq_1 ?_;exact aad (kW (q:=(p.oy n).nz) rfl rfl 1 (by simp) (by simp [aj];exact⟨rfl,rfl,rfl,rfl,rfl,rfl,rfl,rfl⟩))
def kE (lv:Key→LB)(k:Key)(E:TypeId)(o:Option (List (List DV))):Prop:=match o with
 | none=>lv k=.nils
 | some es=>∃ own fz,lv k=.cells own fz E (es.flatten.map CV.d)
theorem oX{sz:Nat}(h:kE lv k E o) (hs:∀ e∈sO o,e.length=sz) (hl:(sO o).length≤1000) :
 cU lv (n+1) (.aR k 0 (sO o).length sz)=some (sD o,if o.isSome then [k] else []):=by
 cases o with
 | none=>exact lJ (E:=E) h hs hl
 | some es=>
  obtain⟨own,fz,h⟩:=h
  have e:cU lv (n+1) (.aR k 0 (sO (some es)).length sz)=cU (aC lv k (.cells true false E (es.flatten.map CV.d))) (n+1) (.aR k 0 (sO (some es)).length sz):=by
   simp only [cU,h,aA];rw [jn (f:=cU lv n) (g:=cU (aC lv k (.cells true false E (es.flatten.map CV.d))) n)];intro x hx;have hx:=X3 (X9 hx);obtain⟨d,_,rfl⟩:=List.mem_map.1 hx
   cases n <;> rfl
  rw [e];exact lJ (E:=E) (aA _ _ _) hs hl
theorem zg(hp:p.ok) (ht:p.nh) (h1:kE lv a 81 p.f) (h2:kE lv b 67 p.ins) (h3:kE lv c 55 p.nodes) (h4:kE lv d 69 p.states) :
 eC lv (.agg (lP p a b c d))=some (p.A,(if p.f.isSome then [a] else [])++((if p.ins.isSome then [b] else [])++((if p.nodes.isSome then [c] else [])++(if p.states.isSome then [d] else [])))):=by
 have e1:=oX (n:=7) h1 (fun e he=>gQ (hp.f e he)) ht.f;have e2:=oX (n:=7) h2 (fun e he=>oY (hp.ins e he)) ht.i;have e3:=oX (n:=7) h3 (fun e he=>o8 (hp.nodes e he)) ht.n;have e4:=oX (n:=7) h4 (fun e he=>gQ (hp.states e he)) ht.s;have f1:∀ n:Int,cU lv 8 (.d (.int .i64 n))=some (.int .i64 n,[]):=fun n=>rfl
 simp only [eC,PD.nf,PD.ni,PD.nn,PD.ns,fU,e1,e2,e3,e4,f1,W4,XD,X5];show some (AV.agg (p.Gx.map CV.d),_)=_;rw [FP]
def zS (k:Key)(E:TypeId):Option (List (List DV))→List (Key × TypeId × List CV)
 | none=>[]
 | some es=>[(k,E,es.flatten.map CV.d)]
theorem Ma (k:Key)(E:TypeId)(o:Option (List (List DV))):(zS k E o).map (·.1)=if o.isSome then [k] else []:=by cases o <;> rfl
theorem rE{Z:List (Key × TypeId × List CV)}(h:lv k=c6 E o) (hn:(Z.map (·.1)).Nodup) (hz:∀ z∈zS k E o,z∈Z) (hk:o=none→k ∉ Z.map (·.1)):kE (aS lv (dJ Z)) k E o:=by
 cases o with
 | none=>
  show aS lv (dJ Z) k=.nils;rw [bX (by rw [gm];exact hk rfl)];exact h
 | some es=>
  have hm:=hz (k,E,es.flatten.map CV.d) (by simp [zS]);refine⟨true,true,?_⟩;exact js (by rw [gm];exact hn) (by simp only [dJ,Xp];exact⟨_,hm,rfl⟩)
theorem Kt(h1:kE lv a 81 p.f) (h2:kE lv b 67 p.ins) (h3:kE lv c 55 p.nodes) (h4:kE lv d 69 p.states)(hk:k∈pE lv (.agg (lP p a b c d))):k=a∨k=b∨k=c∨k=d:=by
 have key:∀ {k':Key}{E:TypeId}{o:Option (List (List DV))}{n sz:Nat},kE lv k' E o→k∈lY lv 8 (.aR k' 0 n sz)→k=k':=by
  intro k' E o n sz h hm;simp only [lY,WM] at hm;rcases hm with hm|hm
  ·exact hm
  ·exfalso
   cases o with
   | none=>rw [show lv k'=.nils from h] at hm;cases hm
   | some es=>
    obtain⟨own,fz,h⟩:=h;rw [h] at hm;simp only [XQ,Xp] at hm;obtain⟨x,⟨y,_,rfl⟩,hx⟩:=hm
    cases hx
 simp only [pE,XQ,WM,Xh,or_false] at hk;obtain⟨x,hx,hk⟩:=hk;rcases hx with rfl|rfl|rfl|rfl|rfl|rfl|rfl|rfl
 ·exact .inl (key h1 hk)
 ·cases hk
 ·exact .inr (.inl (key h2 hk))
 ·exact .inr (.inr (.inl (key h3 hk)))
 ·cases hk
 ·cases hk
 ·exact .inr (.inr (.inr (key h4 hk)))
 ·cases hk
theorem ag.prog' {c:Ctx}(κ' kh a b d e:Key) (p:PD) (hp:p.ok) (ht:p.nh)(hc:aa c.P c.G f [p.A] x) (hx:x.pure=true)
 (h1:lv a=c6 81 p.f) (h2:lv b=c6 67 p.ins) (h3:lv d=c6 55 p.nodes) (h4:lv e=c6 69 p.states) (hn:[a,b,d,e].Nodup) (hh:lv kh=.hole)
 (hK:∀ us,(∀ k,k≠a→k≠b→k≠d→k≠e→aS lv us k=lv k)→kE (aS lv us) a 81 p.f→kE (aS lv us) b 67 p.ins→kE (aS lv us) d 55 p.nodes→kE (aS lv us) e 69 p.states→K x us [kh,a,b,d,e] κ'):ag c f [.agg (lP p a b d e)] lv K:=by
 obtain⟨Z,hZ⟩:∃ Z,Z=zS a 81 p.f++(zS b 67 p.ins++(zS d 55 p.nodes++zS e 69 p.states)):=⟨_,rfl⟩
 have hZk:Z.map (·.1)=(if p.f.isSome then [a] else [])++((if p.ins.isSome then [b] else [])++((if p.nodes.isSome then [d] else [])++(if p.states.isSome then [e] else []))):=by
  rw [hZ];simp only [YH,Ma]
 simp only [List.nodup_cons,WM,Xh,or_false,not_or,List.nodup_nil,and_true,not_false_eq_true] at hn;obtain⟨⟨n1,n2,n3⟩,⟨n4,n5⟩,n6⟩:=hn
 have hsub:∀ k,k∈Z.map (·.1)→k=a∨k=b∨k=d∨k=e:=by
  intro k hk;rw [hZk] at hk;simp only [XF] at hk;rcases hk with h|h|h|h <;> split at h <;> simp_all
 have hZn:(Z.map (·.1)).Nodup:=by
  rw [hZk]
  (repeat' split) <;> simp_all
 have hmem:∀ z∈Z,lv z.1=.cells true false z.2.1 z.2.2:=by
  have g:∀ {k E o},lv k=c6 E o→∀ z∈zS k E o,lv z.1=.cells true false z.2.1 z.2.2:=by
   intro k E o h z hz
   cases o with
   | none=>cases hz
   | some es=>simp only [zS,Xx] at hz;subst hz;exact h
  intro z hz;rw [hZ] at hz;simp only [XF] at hz;rcases hz with h|h|h|h
  ·exact g h1 z h
  ·exact g h2 z h
  ·exact g h3 z h
  ·exact g h4 z h
 have q1:kE (aS lv (dJ Z)) a 81 p.f:=rE h1 hZn (fun z hz=>by rw [hZ];simp [hz]) (fun h=>by rw [hZk,h];intro hk;simp only [XF] at hk;(rcases hk with h|h|h|h <;> split at h <;> simp_all));have q2:kE (aS lv (dJ Z)) b 67 p.ins:=rE h2 hZn (fun z hz=>by rw [hZ];simp [hz]) (fun h=>by rw [hZk,h];intro hk;simp only [XF] at hk;(rcases hk with h|h|h|h <;> split at h <;> simp_all));have q3:kE (aS lv (dJ Z)) d 55 p.nodes:=rE h3 hZn (fun z hz=>by rw [hZ];simp [hz]) (fun h=>by rw [hZk,h];intro hk;simp only [XF] at hk;(rcases hk with h|h|h|h <;> split at h <;> simp_all));have q4:kE (aS lv (dJ Z)) e 69 p.states:=rE h4 hZn (fun z hz=>by rw [hZ];simp [hz]) (fun h=>by rw [hZk,h];intro hk;simp only [XF] at hk;(rcases hk with h|h|h|h <;> split at h <;> simp_all));refine ag.Ra (us:=[p.A]) κ' kh Z [kh,a,b,d,e] hc hx hmem hZn hh rfl (fun i p' q'=>?_) (fun x hx k hk=>?_) (by simp) (hK _ (fun k k1 k2 k3 k4=>?_) q1 q2 q3 q4)
 ·have hi:i=0:=by simp at p';omega
  subst hi;right;exact⟨_,zg hp ht q1 q2 q3 q4,fun k hk=>by rw [hZk];exact hk⟩
 ·simp only [Xx] at hx;subst hx;left;rcases Kt q1 q2 q3 q4 hk with h|h|h|h <;> simp [h]
 ·refine bX ?_;rw [gm];intro hk;rcases hsub k hk with h|h|h|h
  ·exact k1 h
  ·exact k2 h
  ·exact k3 h
  ·exact k4 h
theorem ag.prog {c:Ctx}(κ' kh a b d e:Key) (p:PD) (hp:p.ok) (ht:p.nh)(hc:aa c.P c.G f [p.A] x) (hx:x.pure=true)
 (h1:lv a=c6 81 p.f) (h2:lv b=c6 67 p.ins) (h3:lv d=c6 55 p.nodes) (h4:lv e=c6 69 p.states) (hn:[a,b,d,e].Nodup) (hh:lv kh=.hole)
 (hK:∀ us,(∀ k,k≠a→k≠b→k≠d→k≠e→aS lv us k=lv k)→K x us [kh,a,b,d,e] κ'):ag c f [.agg (lP p a b d e)] lv K:=
 ag.prog' κ' kh a b d e p hp ht hc hx h1 h2 h3 h4 hn hh fun us h _ _ _ _=>hK us h
def cA (l:List Nd)(fs:List Int):Nat→List Nd
 | 0=>l
 | i+1=>(cA l fs i).set i ((l.getD i default).OY (fs.getD i 0))
theorem lG (l:List Nd)(fs:List Int):∀ i,(cA l fs i).length=l.length
 | 0=>rfl
 | i+1=>by simp only [cA,List.length_set,lG l fs i]
theorem Da (l:List Nd)(fs:List Int):∀ (i j:Nat),i≤j→(cA l fs i)[j]?=l[j]?
 | 0,j,_=>rfl
 | i+1,j,h=>by
  simp only [cA];rw [List.getElem?_set_ne (by omega),Da l fs i j (by omega)]
theorem xm (l:List Nd)(fs:List Int)(hi:i<l.length) (hf:i<fs.length):aj (yb (cA l fs i)) (i*7+5) [CV.d (.int .i64 fs[i])]=yb (cA l fs (i+1)):=by
 have h1:(cA l fs i)[i]?=some (l.getD i default):=by
  rw [Da l fs i i (bg _),WO,rP hi];rfl
 rw [G5 _ _ _ _ h1];simp only [cA];rw [show fs.getD i 0=fs[i] by rw [WO,rP hf];rfl]
def dm (l:List In)(lo hi:List (List UInt8)):Nat→List In
 | 0=>l
 | i+1=>(dm l lo hi i).set i ((l.getD i default).OU (lo.getD i []) (hi.getD i []))
theorem iT (l:List In)(lo hi:List (List UInt8)):∀ i,(dm l lo hi i).length=l.length
 | 0=>rfl
 | i+1=>by simp only [dm,List.length_set,iT l lo hi i]
theorem DI (l:List In)(lo hi:List (List UInt8)):∀ (i j:Nat),i≤j→(dm l lo hi i)[j]?=l[j]?
 | 0,j,_=>rfl
 | i+1,j,h=>by
  simp only [dm];rw [List.getElem?_set_ne (by omega),DI l lo hi i j (by omega)]
theorem wO (l:List In)(lo hi:List (List UInt8))(hi':i<l.length) (hf:i<lo.length) (hg:i<hi.length) :
 aj (aj (vD (dm l lo hi i)) (i*3+1) [CV.d (.str lo[i])]) (i*3+2) [CV.d (.str hi[i])]=vD (dm l lo hi (i+1)):=by
 have h1:(dm l lo hi i)[i]?=some (l.getD i default):=by
  rw [DI l lo hi i i (bg _),WO,rP hi'];rfl
 rw [F5 _ _ _ _ _ h1];simp only [dm];rw [show lo.getD i []=lo[i] by rw [WO,rP hf];rfl,show hi.getD i []=hi[i] by rw [WO,rP hg];rfl]
def PD.ja (p:PD)(l:List Nd):PD:=⟨p.f,p.mode,p.ins,some (l.map Nd.e),p.head,p.tail,p.states,p.res⟩
def PD.mz (p:PD)(l:List In):PD:=⟨p.f,p.mode,if p.ins.isSome then some (l.map In.e) else none,p.nodes,p.head,p.tail,p.states,p.res⟩
theorem PD.AO(hp:p.ok) (l:List Nd):(p.ja l).ok:=
 ⟨hp.f,hp.ins,fun e he=>by simp only [PD.ja,sO,Yt,Xp] at he;obtain⟨n,_,rfl⟩:=he;exact QO n,hp.states⟩
theorem PD.FX (p:PD)(l:List Nd):(p.ja l).nn=l.length:=by simp [PD.ja,PD.nn,sO]
@[simp] theorem LB.QA {own fz b:Bool}{cs:List CV}:(LB.cells own fz T cs).fix b=.cells (own || b) fz T cs:=rfl
@[simp] theorem Tu (l:List Nd)(g:Key→Key):(yb l).map (CV.bU g)=yb l:=by
 unfold yb;rw [Xc];rfl
@[simp] theorem SX (l:List In)(g:Key→Key):(vD l).map (CV.bU g)=vD l:=by
 unfold vD;rw [Xc];rfl
def eD (p:PD)(fs:List Int):PD × Int:=
 if (bK p).2.2≠0 then (iD,(bK p).2.2)
 else if fs.length≠p.nn then (iD,2)
 else if fs.all (fun f=>decide (0≤f∧f<(p.nf:Int)))=true then (nj (p.ja (cA p.N fs p.nn)),(bK (p.ja (cA p.N fs p.nn))).2.2)
 else (iD,7)
theorem Nr(h:dH p=0):∃ es,p.nodes=some es:=by
 have h1:p.nn≠0:=by
  intro h0;unfold dH at h;unfold PD.nn at h0;rw [h0] at h;split at h
  ·cases h
  ·simp at h
 cases e:p.nodes with
 | none=>exact absurd (by simp [PD.nn,e,sO]) h1
 | some es=>exact⟨es,rfl⟩
theorem nX(h:ic lv) (k:Key):ic (aC lv k .nils):=by
 intro k' own es h';unfold aC at h';split at h'
 ·cases h'
 ·exact h _ _ _ h'
@[simp] theorem zJ(h:ic lv) (k:Key) (E:TypeId) (o:Option (List (List DV))):ic (aC lv k (c6 E o)):=by
 cases o with
 | none=>intro k' own es h';simp only [c6,aC] at h';split at h';cases h';exact h _ _ _ h'
 | some es=>exact tF h k true false E (es.flatten.map CV.d)
theorem J3 (m:Int)(p:PD)(hp:p.ok)(o:Option (List Int))(hol:(zL o).length≤1000):aa Tryz.prog (GG m) 41 [p.A,.c (zC o)] (.tup [(eD p (zL o)).1.A,.c (.d (.int .i64 (eD p (zL o)).2))]):=by
 have h:=sG m p hp;have lpz:=fun lv=>Ql (T:=30) (by simp) lv o
 by_cases h0:(bK p).2.2=0
 rotate_left
 ·have e:eD p (zL o)=(iD,(bK p).2.2):=if_pos h0;rw [e];refine aa.enc Tryz.func41 rfl (fun lv=>de lv _ _) fun _=>aab ?_;refine aaa fun K hK=>aav 2 h h0 ?_;refine aab ?_;refine aai (by simp [h0] <;> omega) (aal @zv ?_);exact aad (kW rfl rfl 1)
 have ht:=lD h0;have hg:=AR h0;have hcl:=s8 (GG m) p hp ht;rw [h0] at h
 by_cases h1:(zL o).length=p.nn
 rotate_left
 ·have e:eD p (zL o)=(iD,2):=by unfold eD;rw [if_neg (not_not_intro h0),if_pos h1]
  have h1':¬ ((zL o).length:Int)=(p.nn:Int):=by omega
  rw [e];refine aa.enc Tryz.func41 rfl (fun lv=>de lv _ _) fun _=>aab ?_;refine aaa fun K hK=>aaq 2 h ?_;refine aab ?_;refine aag (aac (hK _ _ (aaa fun K hK=>aay @fC lpz h1' ?_)));refine aah (aal @zv ?_);exact aad (kW rfl rfl 1)
 obtain⟨es,hes⟩:=Nr hg
 have hbn:c6 55 p.nodes=.cells true false 55 (yb p.N):=by
  rw [← PD.So hp,hes];rfl
 have e0:eD p (zL o)=if (zL o).all (fun f=>decide (0≤f∧f<(p.nf:Int)))=true then (nj (p.ja (cA p.N (zL o) p.nn)),(bK (p.ja (cA p.N (zL o) p.nn))).2.2) else (iD,7):=by
  unfold eD;rw [if_neg (not_not_intro h0),if_neg (not_not_intro h1)]
 have hdr:∀ lv,fR lv (.tup [(eD p (zL o)).1.A,.c (.d (.int .i64 (eD p (zL o)).2))])=some (.tup [(eD p (zL o)).1.A,.c (.d (.int .i64 (eD p (zL o)).2))],[]):=fun lv=>de lv _ _
 refine aa.enc Tryz.func41 rfl hdr fun _=>aab ?_;refine aaa fun K hK=>aaq 2 h ?_;refine aab ?_;refine aag (aac (hK _ _ (aaa fun K hK=>aay @fC lpz h1 ?_)));refine aag (aac (hK _ _ (aak fun K hK=>?_)));simp;refine ag.A4 6 19 [2,3,4,5] [c6 81 p.f,c6 67 p.ins,c6 55 p.nodes,c6 69 p.states] hcl (by simp) (by simp) (by simp) rfl (by simp) (by simp) (by simp [mj]) ?_;simp [cj,aJ,aS,hbn,aj];apply hK;refine aaa fun K hK=>aal lpz ?_;refine aaf ?_
 refine aao (fun (i:Nat)=>⟨bf [(2,.c (.ptr 0 0)),(4,.c (.ptr 1 0)),(7,.c (.ptr 6 0)),(25,.c (zC o)),(26,.c (.d (.int .i64 (zL o).length))),(27,.c (.d (.int .i64 i)))],
  aC (aC (aC (aC (aC (aC (aC (fun _=>.hole) 0 (.cells true false 27 p.cs)) 1 (.cells true false 27 iD.cs)) 2 (c6 81 p.f)) 3 (c6 67 p.ins)) 4 (.cells true false 55 (yb (cA p.N (zL o) i)))) 5 (c6 69 p.states)) 6 (.cells true false 27 (lP p 2 3 4 5))⟩) 7
  (fun i=>i≤(zL o).length∧∀ j (hj:j<i) (h:j<(zL o).length),0≤(zL o)[j]∧(zL o)[j]<(p.nf:Int)) (fun i=>(zL o).length - i) 0 (Le.mW _ (by simp [cA,iD,dL])) ⟨W2 _,fun j hj=>absurd hj (Xf j)⟩ ?_
 rintro i ⟨hi,hall⟩
 try simp only at hi hall
 refine aab ?_;refine aaa fun K2 hK2=>?_
 by_cases hlt:i<(zL o).length
 ·have hlt':(i:Int)<((zL o).length:Int):=by omega
  have hxz:=fun lv=>SB (T:=30) (by simp) lv o hlt
  have hwi:=gy (GG m) (zL o)[i] p.nf;refine aai (by simp [hlt'] <;> omega) (aac (hK2 _ _ (aaa fun K3 hK3=>aaf (aal hxz ?_))));refine aaa fun K4 hK4=>aaa fun K5 hK5=>?_
  by_cases h2:0≤(zL o)[i]∧(zL o)[i]<(p.nf:Int)
  ·have hd:decide (0≤(zL o)[i]∧(zL o)[i]<(p.nf:Int))=true:=decide_eq_true h2;rw [hd] at hwi;have hst:=xm p.N (zL o) (i:=i) (by rw [PD.Af];omega) hlt;have hle:i*7+5+1≤(yb (cA p.N (zL o) i)).length:=by rw [GY,lG,PD.Af];omega
   have hin:i<p.nn:=by omega
   refine aax 7 hwi @qM (hK5 _ _ ?_);refine aag (aac (hK4 _ _ (aaB hst hle hin (hK3 _ _ ?_))));have f12:=bG (n:=(i:Int)+1) (by omega) (by omega);refine aae ?_;simp [f12];refine⟨i+1,Le.mW _ (by rw [gF _ _ _ (by decide:(6:Nat)≠4),gF _ _ _ (by decide:(5:Nat)≠4),mJ]),⟨by omega,fun j hj h=>?_⟩,by omega⟩
   by_cases hji:j=i
   ·subst hji;exact h2
   ·exact hall j (by omega) h
  ·have hd:decide (0≤(zL o)[i]∧(zL o)[i]<(p.nf:Int))=false:=decide_eq_false h2;rw [hd] at hwi
   have e:eD p (zL o)=(iD,7):=by
    rw [e0,if_neg];intro ha;rw [E5] at ha;exact h2 (of_decide_eq_true (ha _ (aW hlt)))
   refine aax 7 hwi @qM (hK5 _ _ ?_);refine aah (aal @zv ?_);rw [e];exact aad (kW rfl rfl 1)
 ·have hlt':¬ (i:Int)<((zL o).length:Int):=by omega
  have hie:i=p.nn:=by omega
  have e:eD p (zL o)=(nj (p.ja (cA p.N (zL o) p.nn)),(bK (p.ja (cA p.N (zL o) p.nn))).2.2):=by
   rw [e0,if_pos];rw [E5];intro x hx;obtain⟨j,hj,rfl⟩:=List.mem_iff_getElem.1 hx;exact decide_eq_true (hall j (by omega) hj)
  have hq:=PD.AO hp (cA p.N (zL o) p.nn);have hqn:(p.ja (cA p.N (zL o) p.nn)).nn=p.nn:=by rw [PD.FX,lG,PD.Af]
  have hch:=xC m _ hq
  have hfl:c6 55 (p.ja (cA p.N (zL o) p.nn)).nodes=.cells true false 55 (yb (cA p.N (zL o) p.nn)):=by
   simp only [PD.ja,c6];rw [yb,YS]
  subst hie;refine aaj (by simp [hlt'] <;> omega) (aan (hK _ _ ?_))
  have hlp:AV.agg (lP p 2 3 4 5)=AV.agg (lP (p.ja (cA p.N (zL o) p.nn)) 2 3 4 5):=by
   simp only [lP,hqn];rfl
  have hqt:(p.ja (cA p.N (zL o) p.nn)).nh:=⟨ht.f,ht.i,by rw [hqn];exact ht.n,ht.s⟩
  have hrw:∀ lv,fR lv (.tup [(nj (p.ja (cA p.N (zL o) p.nn))).A,.c (.d (.int .i64 (bK (p.ja (cA p.N (zL o) p.nn))).2.2))])=some (.tup [(nj (p.ja (cA p.N (zL o) p.nn))).A,.c (.d (.int .i64 (bK (p.ja (cA p.N (zL o) p.nn))).2.2))],[]):=fun lv=>de lv _ _
  refine aak fun K3 hK3=>?_;simp;rw [hlp];refine ag.prog 7 19 2 3 4 5 (p.ja (cA p.N (zL o) p.nn)) hq hqt hch (by simp) rfl rfl hfl.symm rfl (by decide) rfl ?_;intro us hus;generalize aS _ us=lv2 at hus ⊢;have e1:lv2 1=.cells true false 27 iD.cs:=by rw [hus 1 (by decide) (by decide) (by decide) (by decide)];rfl
  generalize nj (p.ja (cA p.N (zL o) p.nn))=r1 at *
  generalize (bK (p.ja (cA p.N (zL o) p.nn))).2.2=r2 at *
  simp [e1,aj];apply hK3;rw [e];refine aam ?_;refine bD.hO (κ:=0) (T:=27) (t:=4) (u:=5) (k:=1) (off:=0) (own:=true) (fz:=false) (U:=27) (cs:=r1.cs) rfl ?_ ?_ ?_ ?_ rfl rfl
  ·simp
  ·simp [iD,dL]
  ·rw [fQ];exact qJ ..
  ·simp
theorem qg{b:Key→Nat}{e:Int}(hP:P=Tryz.prog) (hr:fn.results=#[.cell t 27,.tmp u]) (k:Key) (ht:s.fr t=.c (.ptr k 0):=by simp) (hk:s.lv k=.cells true false 27 q.cs:=by simp [aj]) (hu:s.fr u=.c (.d (.int .i64 e)):=by simp) :
 jr ⟨P,G,w,F,W,n,lf,b⟩ fn (.tup [q.A,.c (.d (.int .i64 e))]) .ret s 0:=by
 subst hP;refine jr.hO (κ:=0) (T:=27) (k:=k) (off:=0) (own:=true) (fz:=false) (U:=27) (cs:=q.cs) (X:=q.A) (ks:=[]) hr ht hk ?_ hu rfl rfl (de _ _ _);rw [fQ];exact qJ ..
theorem JJ{β:Key→Nat}{e:Int}(hq:q.ok) (ht:q.nh) (hP:P=Tryz.prog) (hr:fn.results=#[.cell t 27,.tmp u]) (k:Key)
 (h1:kE s.lv a 81 q.f) (h2:kE s.lv b 67 q.ins) (h3:kE s.lv c 55 q.nodes) (h4:kE s.lv d 69 q.states) (hk:s.lv k=.cells true false 27 (lP q a b c d)) (hf:s.fr t=.c (.ptr k 0):=by simp) (hu:s.fr u=.c (.d (.int .i64 e)):=by simp) :
 jr ⟨P,G,w,F,W,n,lf,β⟩ fn (.tup [q.A,.c (.d (.int .i64 e))]) .ret s 0:=by
 subst hP;obtain⟨ks,hd⟩:∃ ks,eC s.lv (.agg (lP q a b c d))=some (q.A,ks):=⟨_,zg hq ht h1 h2 h3 h4⟩
 refine jr.hO (κ:=0) (T:=27) (k:=k) (off:=0) (own:=true) (fz:=false) (U:=27) (cs:=lP q a b c d) (X:=.agg (lP q a b c d)) (ks:=ks++([]++[])) hr hf hk ?_ hu rfl rfl ?_
 ·rw [fQ];exact qJ ..
 ·show (jo s.lv [.agg (lP q a b c d),.c (.d (.int .i64 e))]).map _=_;have e1:eC s.lv (.c (.d (.int .i64 e)))=some (.c (.d (.int .i64 e)),[]):=rfl;simp only [jo,hd,e1,W4]
theorem Ej (m:Int)(p:PD)(hp:p.ok)(o:Option (List Int))(hol:(zL o).length≤1000):aa Tryz.prog (GG m) 42 [p.A,.c (zC o)] (.tup [(uF (eD p (zL o))).1.A,.c (.d (.int .i64 (uF (eD p (zL o))).2))]):=by
 have h:=lX m p hp;have lpz:=fun lv=>Ql (T:=30) (by simp) lv o
 have hbad:∀ e:Int,e≠0→eD p (zL o)=(iD,e)→uF (eD p (zL o))=(iD,e):=fun e h0 h=>by rw [h];unfold uF;rw [if_neg h0]
 have fz:=Du o;have ixo:=fun lv (i:Nat) (hi:i<(zL o).length)=>SB (T:=30) (by simp) lv o hi
 generalize hzc:zC o=z at *
 generalize hzl:zL o=l at *
 obtain⟨R,hR⟩:∃ R,uF (eD p l)=R:=⟨_,rfl⟩
 rw [hR];refine aa.ed Tryz.func42 rfl fun _=>aab ?_;refine aaq 2 h ?_;refine aaa fun K hK=>?_
 have bad:∀ (e:Int) (fr:Nat→AV) (κ:Nat),e≠0→R=(iD,e)→fr 1=.c z→fr 2=.c (.ptr 0 0)→fr 4=.c (.ptr 1 0)→fr 6=.c (.d (.int .i64 e))→K ⟨fr,aC (aC (fun _=>.hole) 0 (.cells true false 27 p.cs)) 1 (.cells true false 27 iD.cs)⟩ κ:=by
  intro e fr κ he hRe z1 z2 z4 z6;subst hRe;apply hK;refine aaa fun K2 hK2=>aaD z1 z2 z4 z6 ?_;refine aaf ?_
  refine aao (fun (_:Unit)=>⟨bf [(1,.c z),(2,.c (.ptr 0 0)),(4,.c (.ptr 1 0)),(6,.c (.d (.int .i64 e))),(7,.c (.d (.int .i64 0)))],aC (aC (fun _=>.hole) 0 (.cells true false 27 p.cs)) 1 (.cells true false 27 iD.cs)⟩) 2
   (fun _=>True) (fun _=>0) () (Le.mW _ rfl (by simp [z1,z2,z4,z6,fz])) trivial ?_
  rintro⟨⟩ _;refine aaa fun K4 hK4=>aaa fun K5 hK5=>?_
  by_cases hz:l.length=0
  ·refine aaB lpz hz he (hK5 _ _ ?_);refine aag (aan (hK2 _ _ (aaa fun K6 hK6=>aal he ?_)));refine aah (aal @zv ?_);exact aad (qg rfl rfl 1)
  ·have hz':0<l.length:=by omega
   refine aaB lpz hz' he (hK5 _ _ ?_);refine aag (aan (hK2 _ _ (aaa fun K6 hK6=>aal he ?_)));refine aah (aal @zv ?_);exact aad (qg rfl rfl 1)
 by_cases h0:(bK p).2.2=0
 rotate_left
 ·have e:R=(iD,(bK p).2.2):=by rw [← hR];exact hbad _ h0 (if_pos h0)
  generalize (bK p).2.2=er at *
  refine aal h0 ?_;refine aag (aac ?_);simp;exact bad er _ _ h0 e (by simp) (by simp) (by simp) (by simp)
 rw [h0]
 by_cases h1:l.length=p.nn
 rotate_left
 ·have e:R=(iD,2):=by rw [← hR];exact hbad _ (by decide) (by unfold eD;rw [if_neg (not_not_intro h0),if_pos h1])
  have h1':¬ (l.length:Int)=(p.nn:Int):=by omega
  refine aay @fC lpz h1' ?_;refine aah (aae ?_);simp;exact bad 2 _ _ (by decide) e (by simp) (by simp) (by simp) (by simp)
 have ht:=lD h0;have hcl:=AP (GG m) p hp ht
 have hbn:c6 55 p.nz.nodes=.cells true false 55 (yb p.N):=by
  show LB.cells true false 55 ((sO p.nodes).flatten.map CV.d)=_;rw [PD.So hp]
 have e0:eD p l=if l.all (fun f=>decide (0≤f∧f<(p.nf:Int)))=true then (nj (p.ja (cA p.N l p.nn)),(bK (p.ja (cA p.N l p.nn))).2.2) else (iD,7):=by
  unfold eD;rw [if_neg (not_not_intro h0),if_neg (not_not_intro h1)]
 refine aay @fC lpz h1 ?_;refine aag (aac (hK _ _ (aaa fun K2 hK2=>aab ?_)));refine aaf ?_
 refine aao (fun (a:Nat × Int)=>⟨bf [(1,.c z),(2,.c (.ptr 0 0)),(4,.c (.ptr 1 0)),(6,.c (.d (.int .i64 a.2))),(7,.c (.d (.int .i64 a.1)))],aC (aC (fun _=>.hole) 0 (.cells true false 27 p.cs)) 1 (.cells true false 27 iD.cs)⟩) 2
  (fun a=>a.1≤l.length∧((a.2=7∧∃ j,∃ h:j<l.length,¬ (0≤l[j]∧l[j]<(p.nf:Int)))∨(a.2=0∧∀ j,j<a.1→(h:j<l.length)→0≤l[j]∧l[j]<(p.nf:Int)))) (fun a=>l.length - a.1) (0,0) (Le.mW _ rfl (by simp [fz])) (by exact⟨W2 _,.inr ⟨rfl,fun j hj=>absurd hj (Xf j)⟩⟩) ?_
 rintro⟨i,b⟩ ⟨hi,hb⟩;simp only at hi hb;refine aaa fun K4 hK4=>aaa fun K5 hK5=>?_;rcases hb with ⟨rfl,j,hj,hno⟩|⟨rfl,hb2⟩
 ·have e:R=(iD,7):=by
   rw [← hR];refine hbad _ (by decide) ?_;rw [e0,if_neg];intro ha;rw [E5] at ha;exact hno (of_decide_eq_true (ha _ (aW hj)))
  subst e
  by_cases hlt:i<l.length
  ·refine aau lpz hlt (hK5 _ _ ?_);refine aag (aan (hK2 _ _ (aaa fun K6 hK6=>aab ?_)));refine aah (aal @zv ?_);exact aad (qg rfl rfl 1)
  ·refine aau lpz hlt (hK5 _ _ ?_);refine aag (aan (hK2 _ _ (aaa fun K6 hK6=>aab ?_)));refine aah (aal @zv ?_);exact aad (qg rfl rfl 1)
 by_cases hlt:i<l.length
 ·have hxz:=fun lv=>ixo lv i hlt
  have hwi:=jH (GG m) l[i] p.nf;have f12:=bG (n:=(i:Int)+1) (by omega) (by omega);refine aau lpz hlt (hK5 _ _ ?_);refine aah (aac (hK4 _ _ (aaa fun K6 hK6=>aaf (aaa fun K7 hK7=>?_))))
  by_cases h2:0≤l[i]∧l[i]<(p.nf:Int)
  ·rw [decide_eq_true h2] at hwi;refine aap mixed (by kernel_rfl) rfl ?_;simp [hxz,qM];refine ag.p 2 9 hwi ?_;simp;refine⟨by kernel_rfl,?_⟩;apply hK7;refine aag (aac (hK6 _ _ (aae ?_)));simp [f12];refine⟨i+1,0,Le.mW _ rfl (by simp [fz]),⟨by omega,.inr ⟨rfl,fun j hj h=>?_⟩⟩,by omega⟩
   by_cases hji:j=i
   ·subst hji;exact h2
   ·exact hb2 j (by omega) h
  ·rw [decide_eq_false h2] at hwi;refine aap mixed (by kernel_rfl) rfl ?_;simp [hxz,qM];refine ag.p 2 9 hwi ?_;simp;refine⟨by kernel_rfl,?_⟩;apply hK7;refine aah (aaA (hK6 _ _ ?_));refine aae ?_;simp [f12];exact⟨i+1,7,Le.mW _ rfl (by simp [fz]),⟨by omega,.inl ⟨rfl,i,hlt,fun h=>by omega⟩⟩,by omega⟩
 have hie:i=p.nn:=by omega
 obtain⟨q,hqd⟩:∃ q,p.nz.ja (cA p.N l p.nn)=q:=⟨_,rfl⟩
 have e:R=(if (bK q).2.2=0 then q else iD,(bK q).2.2):=by
  rw [← hR,e0,if_pos]
  ·have hc:bK (p.ja (cA p.N l p.nn))=bK q:=by rw [← hqd];rfl
   unfold uF nj;rw [hc]
   by_cases hz:(bK q).2.2=0
   ·simp only [if_pos hz];rw [← hqd];rfl
   ·simp only [if_neg hz]
  ·rw [E5];intro x hx;obtain⟨j,hj,rfl⟩:=List.mem_iff_getElem.1 hx;exact decide_eq_true (hb2 j (by omega) hj)
 subst e;have hq:q.ok:=by rw [← hqd];exact PD.AO (PD.F9 hp) _
 have hqn:q.nn=p.nn:=by rw [← hqd,PD.FX,lG,PD.Af]
 have hqt:q.nh:=by rw [← hqd];exact⟨ht.f,ht.i,by rw [hqd,hqn];exact ht.n,ht.s⟩
 have hgd:=lX m q hq
 have hfl:c6 55 q.nodes=.cells true false 55 (yb (cA p.N l p.nn)):=by
  rw [← hqd];simp only [PD.ja,c6];rw [yb,YS]
 have hlp:AV.agg (lP p 2 3 4 5)=AV.agg (lP q 2 3 4 5):=by
  rw [← hqd];simp only [lP];rw [hqd,hqn,← hqd];rfl
 refine aau lpz hlt (hK5 _ _ ?_);refine aag (aan (hK2 _ _ (aaa fun K6 hK6=>aab ?_)));refine aag (aac (hK6 _ _ (aak fun K6 hK6=>?_)));simp;refine ag.A4 6 19 [2,3,4,5] [c6 81 p.nz.f,c6 67 p.nz.ins,c6 55 p.nz.nodes,c6 69 p.nz.states] hcl (by simp) (by simp) (by simp) rfl (by simp) (by simp) (by simp [mj]) ?_;simp [cj,aJ,aS,hbn,aj];apply hK6;refine aaa fun K6 hK6=>aab ?_;refine aaf ?_
 refine aao (fun (i:Nat)=>⟨bf [(1,.c z),(2,.c (.ptr 0 0)),(4,.c (.ptr 1 0)),(8,.c (.ptr 6 0)),(9,.c (.d (.int .i64 i)))],
  aC (aC (aC (aC (aC (aC (aC (fun _=>.hole) 0 (.cells true false 27 p.cs)) 1 (.cells true false 27 iD.cs)) 2 (c6 81 p.nz.f)) 3 (c6 67 p.nz.ins)) 4 (.cells true false 55 (yb (cA p.N l i)))) 5 (c6 69 p.nz.states)) 6 (.cells true false 27 (lP p 2 3 4 5))⟩) 7
  (fun i=>i≤l.length) (fun i=>l.length - i) 0 (Le.mW _ (by simp [cA,iD,dL]) (by simp [fz])) (W2 _) ?_
 rintro k hk
 try simp only at hk
 refine aaa fun K3 hK3=>aal lpz ?_
 by_cases hkt:k<l.length
 ·have hkt':(k:Int)<(l.length:Int):=by omega
  have hxz:=fun lv=>ixo lv k hkt
  have hst:=xm p.N l (i:=k) (by rw [PD.Af];omega) hkt;have hle:k*7+5+1≤(yb (cA p.N l k)).length:=by rw [GY,lG,PD.Af];omega
  have hin:k<p.nn:=by omega
  have f12:=bG (n:=(k:Int)+1) (by omega) (by omega);refine aai (by simp [hkt'] <;> omega) (aac (hK3 _ _ (aaa fun K5 hK5=>aaf (AW.WI mixed hxz hst hle hin (hK5 _ _ ?_)))));refine aae ?_;simp [f12];exact⟨k+1,Le.mW _ (by rw [gF _ _ _ (by decide:(6:Nat)≠4),gF _ _ _ (by decide:(5:Nat)≠4),mJ]) (by simp [fz]),by omega,by omega⟩
 have hkt':¬ (k:Int)<(l.length:Int):=by omega
 have hke:k=p.nn:=by omega
 subst hke;refine aaj (by simp [hkt'] <;> omega) (aan (hK6 _ _ (aak fun K6 hK6=>?_)));simp;rw [hlp];refine ag.prog' 7 19 2 3 4 5 q hq hqt hgd (by simp) (by rw [← hqd];rfl) (by rw [← hqd];rfl) hfl.symm (by rw [← hqd];rfl) (by decide) rfl ?_;intro us hus g1 g2 g3 g4;generalize aS _ us=lv2 at hus g1 g2 g3 g4 ⊢;have e0:lv2 0=.cells true false 27 p.cs:=by rw [hus 0 (by decide) (by decide) (by decide) (by decide)];rfl
 have e1:lv2 1=.cells true false 27 iD.cs:=by rw [hus 1 (by decide) (by decide) (by decide) (by decide)];rfl
 have e6:lv2 6=.cells true false 27 (lP p 2 3 4 5):=by rw [hus 6 (by decide) (by decide) (by decide) (by decide)];rfl
 generalize (bK q).2.2=er at *
 simp;apply hK6;refine aaa fun K6 hK6=>aaa fun K7 hK7=>?_
 by_cases hz:er=0
 ·subst hz;refine aaA (hK7 _ _ ?_);refine aag (aac (hK6 _ _ (aay e6 e1 @aj.eq_1 ?_)));rw [if_pos rfl];exact aad (JJ hq hqt rfl rfl 1 (a:=2) (b:=3) (c:=4) (d:=5) (by simp;exact g1) (by simp;exact g2) (by simp;exact g3) (by simp;exact g4) (by injection hlp with hlp;rw [← hlp];simp))
 ·refine aat hz (hK7 _ _ ?_);refine aai (by simp [hz] <;> omega) (aay @zv e1 @aj.eq_1 ?_);rw [if_neg hz];exact aad (qg rfl rfl 1)
def tD (l:List (List UInt8)):List (List DV):=l.map fun s=>[DV.str s]
def tC:Option (List (List UInt8))→CV
 | none=>.d .nilsl
 | some l=>.d (.sl (tD l))
def tL (o:Option (List (List UInt8))):List (List UInt8):=o.getD []
theorem LL (o:Option (List (List UInt8))):tC o=dL (o.map tD):=by cases o <;> rfl
@[simp] theorem SQ (o:Option (List (List UInt8))):(AV.c (tC o)).pure=true:=by cases o <;> rfl
@[simp] theorem xA (o:Option (List (List UInt8))):(AV.c (tC o)).bY=true:=by cases o <;> rfl
@[simp] theorem UQ (o:Option (List (List UInt8)))(g:Key→Key):(tC o).bU g=tC o:=by cases o <;> rfl
theorem QJ(h:(eP Tryz.prog T).isSome=true) (lv:Key→LB) (o:Option (List (List UInt8))):eA Tryz.prog T lv (.c (tC o))=some (.c (.d (.int .i64 (tL o).length)),[],[],True):=by
 rw [LL];rw [cE h]
 cases o <;> simp [sO,tL,tD]
theorem RW(h:(eP Tryz.prog T).map (·.2)=some 1) (lv:Key→LB) (o:Option (List (List UInt8)))(hi:i<(tL o).length):ak Tryz.prog T lv (.c (tC o)) (.c (.d (.int .i64 (i:Int))))=some (.c (.d (.ptr [.str (tL o)[i]])),[],[],True):=by
 cases o with
 | none=>cases hi
 | some l=>
  rw [LL];have hi0:i<l.length:=hi;have hi':i<(sO (Option.map tD (some l))).length:=by show i<(tD l).length;unfold tD;rw [W6];exact hi0
  have e:(sO (Option.map tD (some l)))[i]=[.str (tL (some l))[i]]:=by simp [sO,tD,tL]
  rw [jf h hi' (by rw [e];rfl),e];rfl
theorem zX(h:p.ins=none) (l:List In):p.mz l=p:=by
 obtain⟨f,a,i,n,b,c,s,d⟩:=p;simp only at h;subst h;rfl
theorem PD.rO(h:p.ins=some es) (l:List In):(p.mz l).ins=some (l.map In.e):=by
 unfold PD.mz;rw [h];rfl
theorem PD.Bj(hp:p.ok) (l:List In):(p.mz l).ok:=by
 refine⟨hp.f,fun e he=>?_,hp.nodes,hp.states⟩
 cases h:p.ins with
 | none=>rw [zX h,h] at he;cases he
 | some es=>
  rw [PD.rO h] at he;simp only [sO,Yt,Xp] at he;obtain⟨n,_,rfl⟩:=he;exact Sv n
theorem PD.GB(h:p.ins=some es) (l:List In):(p.mz l).ni=l.length:=by
 unfold PD.ni;rw [PD.rO h];simp [sO]
def kG (p:PD)(lo hi:List (List UInt8)):PD × Int:=
 if (bK p).2.2≠0 then (iD,(bK p).2.2)
 else if lo.length≠p.ni∨hi.length≠p.ni then (iD,2)
 else (nj (p.mz (dm p.I lo hi p.ni)),(bK (p.mz (dm p.I lo hi p.ni))).2.2)
theorem wJ {α:Type}{cs xs:List α}{o:Nat}(h:o+xs.length≤cs.length):(aj cs o xs).length=cs.length:=by
 simp [aj];omega
theorem OE (m:Int)(p:PD)(hp:p.ok)(o o':Option (List (List UInt8)))(hol:(tL o).length≤1000)(hol':(tL o').length≤1000) :
 aa Tryz.prog (GG m) 43 [p.A,.c (tC o),.c (tC o')] (.tup [(kG p (tL o) (tL o')).1.A,.c (.d (.int .i64 (kG p (tL o) (tL o')).2))]):=by
 have h:=sG m p hp;have lpz:=fun lv=>QJ (T:=59) (by simp) lv o
 have lpz':=fun lv=>QJ (T:=59) (by simp) lv o'
 by_cases h0:(bK p).2.2=0
 rotate_left
 ·have e:kG p (tL o) (tL o')=(iD,(bK p).2.2):=if_pos h0;rw [e];refine aa.enc Tryz.func43 rfl (fun lv=>de lv _ _) fun _=>aab ?_;refine aaa fun K hK=>aav 2 h h0 ?_;refine aab ?_;refine aai (by simp [h0] <;> omega) (aal @zv ?_);exact aad (kW rfl rfl 1)
 have ht:=lD h0;have hg:=AR h0;have hcl:=s8 (GG m) p hp ht;rw [h0] at h
 have bad:¬ ((tL o).length=p.ni∧(tL o').length=p.ni)→kG p (tL o) (tL o')=(iD,2):=by
  intro hb;unfold kG;rw [if_neg (not_not_intro h0),if_pos];omega
 by_cases h1:(tL o).length=p.ni
 rotate_left
 ·have e:=bad (fun h=>h1 h.1);have h1':¬ ((tL o).length:Int)=(p.ni:Int):=by omega
  rw [e];refine aa.enc Tryz.func43 rfl (fun lv=>de lv _ _) fun _=>aab ?_;refine aaa fun K hK=>aaq 2 h ?_;refine aab ?_;refine aag (aac (hK _ _ (aaa fun K hK=>aay @sX lpz h1' ?_)));refine aah (aal @zv ?_);exact aad (kW rfl rfl 1)
 by_cases h2:(tL o').length=p.ni
 rotate_left
 ·have e:=bad (fun h=>h2 h.2);have h2':¬ ((tL o').length:Int)=(p.ni:Int):=by omega
  rw [e];refine aa.enc Tryz.func43 rfl (fun lv=>de lv _ _) fun _=>aab ?_;refine aaa fun K hK=>aaq 2 h ?_;refine aab ?_;refine aag (aac (hK _ _ (aaa fun K hK=>AW.f5 @sX lpz lpz' h1 h2' ?_)));refine aah (aal @zv ?_);exact aad (kW rfl rfl 1)
 have e:kG p (tL o) (tL o')=(nj (p.mz (dm p.I (tL o) (tL o') p.ni)),(bK (p.mz (dm p.I (tL o) (tL o') p.ni))).2.2):=by
  unfold kG;rw [if_neg (not_not_intro h0),if_neg (by omega)]
 have hq:=PD.Bj hp (dm p.I (tL o) (tL o') p.ni);have hch:=xC m _ hq;rw [e];obtain⟨q,hQ⟩:∃ q,p.mz (dm p.I (tL o) (tL o') p.ni)=q:=⟨_,rfl⟩
 rw [hQ] at hq hch ⊢;refine aa.enc Tryz.func43 rfl (fun lv=>de lv _ _) fun _=>aab ?_;refine aaa fun K hK=>aaq 2 h ?_;refine aab ?_;refine aag (aac (hK _ _ (aaa fun K hK=>AW.f5 @sX lpz lpz' h1 h2 ?_)));refine aag (aac (hK _ _ (aak fun K hK=>?_)));simp;refine ag.A4 6 19 [2,3,4,5] [c6 81 p.f,c6 67 p.ins,c6 55 p.nodes,c6 69 p.states] hcl (by simp) (by simp) (by simp) rfl (by simp) (by simp) (by simp [mj]) ?_;simp [cj,aJ,aS,aj];apply hK;refine aaa fun K hK=>aaa fun K1 hK1=>?_
 have fin:∀ (fr:Nat→AV) (κ:Nat) (lv:Key→LB),fr 6=.c (.ptr 1 0)→fr 9=.c (.ptr 6 0)→lv 1=.cells true false 27 iD.cs→lv 2=c6 81 q.f→lv 3=c6 67 q.ins→lv 4=c6 55 q.nodes→lv 5=c6 69 q.states→lv 6=.cells true false 27 (lP q 2 3 4 5)→lv 19=.hole→q.nh→K ⟨fr,lv⟩ κ:=by
  intro fr κ lv z6 z9 l1 l2 l3 l4 l5 l6 l19 hqt;apply hK;refine aak fun K3 hK3=>?_;simp [z6,z9,l6];refine ag.prog κ 19 2 3 4 5 q hq hqt hch (by simp) l2 l3 l4 l5 (by decide) l19 ?_;intro us hus;generalize aS _ us=lv2 at hus ⊢;have e1:lv2 1=.cells true false 27 iD.cs:=by rw [hus 1 (by decide) (by decide) (by decide) (by decide)];exact l1
  generalize nj q=r1 at *
  generalize (bK q).2.2=r2 at *
  simp [z6,e1,aj];apply hK3;refine aam ?_;refine bD.hO (κ:=0) (T:=27) (t:=6) (u:=7) (k:=1) (off:=0) (own:=true) (fz:=false) (U:=27) (cs:=r1.cs) rfl ?_ ?_ ?_ ?_ rfl rfl
  ·simp [z6]
  ·simp [iD,dL]
  ·rw [fQ];exact qJ ..
  ·simp
 cases hins:p.ins with
 | none=>
  have hqp:q=p:=by rw [← hQ];exact zX hins _
  have hni:p.ni=0:=by unfold PD.ni;rw [hins];rfl
  have hb:c6 67 (none:Option (List (List DV)))=.nils:=rfl;refine aau hb hni (hK1 _ _ ?_);refine aaf ?_
  refine aao (fun (_:Unit)=>⟨bf [(6,.c (.ptr 1 0)),(9,.c (.ptr 6 0)),(36,.c (.d (.int .i64 0))),(37,.c (.d (.int .i64 0)))],_⟩) 7
   (fun _=>True) (fun _=>0) () (Le.mW _) trivial ?_
  rintro⟨⟩ _;refine aab ?_;refine aaa fun K3 hK3=>aag (aan ?_)
  simp;refine fin _ _ _ (by simp) (by simp) rfl ?_ ?_ ?_ ?_ ?_ rfl (by rw [hqp];exact ht)
  ·rw [hqp];rfl
  ·rw [hqp,hins];rfl
  ·rw [hqp];rfl
  ·rw [hqp];rfl
  ·rw [hqp];simp only [lP,hni];rfl
 | some es=>
  have hbi:c6 67 (some es)=.cells true false 67 (vD p.I):=by
   rw [← PD.Rn hp,hins];rfl
  have hni:p.ni≤9223372036854775807:=by have:=ht.i;omega
  refine aau hbi hni (hK1 _ _ ?_);refine aaf ?_
  refine aao (fun (i:Nat)=>⟨bf [(1,.c (tC o)),(2,.c (tC o')),(6,.c (.ptr 1 0)),(9,.c (.ptr 6 0)),(36,.c (.d (.int .i64 p.ni))),(37,.c (.d (.int .i64 i)))],
   aC (aC (aC (aC (aC (aC (aC (fun _=>.hole) 0 (.cells true false 27 p.cs)) 1 (.cells true false 27 iD.cs)) 2 (c6 81 p.f)) 3 (.cells true false 67 (vD (dm p.I (tL o) (tL o') i)))) 4 (c6 55 p.nodes)) 5 (c6 69 p.states)) 6 (.cells true false 27 (lP p 2 3 4 5))⟩) 7
   (fun i=>i≤p.ni) (fun i=>p.ni - i) 0 (Le.mW _ (by simp [iD,dL,hbi,dm,hins])) (W2 _) ?_
  rintro i hi
  try simp only at hi
  refine aab ?_;refine aaa fun K2 hK2=>?_
  by_cases hlt:i<p.ni
  ·have hlt':(i:Int)<(p.ni:Int):=by omega
   have hx1:=fun lv=>RW (T:=59) (by simp) lv o (i:=i) (by omega)
   have hx2:=fun lv=>RW (T:=59) (by simp) lv o' (i:=i) (by omega)
   have hst:=wO p.I (tL o) (tL o') (i:=i) (by rw [PD.uq];exact hlt) (by omega) (by omega);have hle:i*3+1+1≤(vD (dm p.I (tL o) (tL o') i)).length:=by rw [vQ,iT,PD.uq];omega
   have hle2:i*3+2+1≤(aj (vD (dm p.I (tL o) (tL o') i)) (i*3+1) [CV.d (.str ((tL o)[i]'(by omega)))]).length:=by
    rw [wJ (by simpa using hle),vQ,iT,PD.uq];omega
   refine aai (by simp [hlt'] <;> omega) (aac (hK2 _ _ (aaa fun K3 hK3=>aaf (aab ?_))));refine aap mixed (by kernel_rfl) rfl ?_;simp [hx1,hx2,hlt',hst,hle,hle2];refine⟨by kernel_rfl,?_⟩;apply hK3;have f12:=bG (n:=(i:Int)+1) (by omega) (by omega);refine aae ?_;simp [f12];exact⟨i+1,Le.mW _ (by rw [gF _ _ _ (by decide:(6:Nat)≠3),gF _ _ _ (by decide:(5:Nat)≠3),gF _ _ _ (by decide:(4:Nat)≠3),mJ]),by omega,by omega⟩
  ·have hlt':¬ (i:Int)<(p.ni:Int):=by omega
   have hie:i=p.ni:=by omega
   subst hie;refine aaj (by simp [hlt'] <;> omega) (aan ?_);simp;have hqi:q.ins=some ((dm p.I (tL o) (tL o') p.ni).map In.e):=by rw [← hQ];exact PD.rO hins _
   have hqn:q.ni=p.ni:=by rw [← hQ,PD.GB hins,iT,PD.uq]
   have hqt:q.nh:=⟨by rw [← hQ];exact ht.f,by rw [hqn];exact ht.i,by rw [← hQ];exact ht.n,by rw [← hQ];exact ht.s⟩
   have hlp:lP p 2 3 4 5=lP q 2 3 4 5:=by
    simp only [lP,hqn];rw [← hQ];rfl
   have hfl:LB.cells true false 67 (vD (dm p.I (tL o) (tL o') p.ni))=c6 67 q.ins:=by
    rw [hqi];simp only [c6];rw [vD,YS]
   refine fin _ _ _ (by simp) (by simp) (by simp) ?_ ?_ ?_ ?_ ?_ (by simp) hqt
   ·rw [← hQ];rfl
   ·rw [← hfl];rfl
   ·rw [← hQ];rfl
   ·rw [← hQ];rfl
   ·rw [← hlp];rfl
theorem Gd(l:List In) (hl:l.length=p.ni):(p.mz l).nz=p.nz.mz l:=by
 unfold PD.mz PD.nz
 cases h:p.ins with
 | some es=>simp [sO]
 | none=>
  have:p.ni=0:=by unfold PD.ni;rw [h];rfl
  have hl0:l=[]:=Yd (by omega);subst hl0;simp [sO]
theorem Lf(l:List In) (hl:l.length=p.ni):bK (p.mz l)=bK (p.nz.mz l):=by rw [← Gd l hl,Pr]
theorem Hl (m:Int)(p:PD)(hp:p.ok)(o o':Option (List (List UInt8)))(hol:(tL o).length≤1000)(hol':(tL o').length≤1000) :
 aa Tryz.prog (GG m) 44 [p.A,.c (tC o),.c (tC o')] (.tup [(uF (kG p (tL o) (tL o'))).1.A,.c (.d (.int .i64 (uF (kG p (tL o) (tL o'))).2))]):=by
 have h:=lX m p hp;have lpz:=fun lv=>QJ (T:=59) (by simp) lv o
 have lpz':=fun lv=>QJ (T:=59) (by simp) lv o'
 have hbad:∀ e:Int,e≠0→kG p (tL o) (tL o')=(iD,e)→uF (kG p (tL o) (tL o'))=(iD,e):=fun e h0 h=>by rw [h];unfold uF;rw [if_neg h0]
 have fz:=xA o;have fz':=xA o';have ixo:=fun lv (i:Nat) (hi:i<(tL o).length)=>RW (T:=59) (by simp) lv o hi
 have ixo':=fun lv (i:Nat) (hi:i<(tL o').length)=>RW (T:=59) (by simp) lv o' hi
 generalize hzc:tC o=z at *
 generalize hzl:tL o=l at *
 generalize hzc':tC o'=z' at *
 generalize hzl':tL o'=l' at *
 obtain⟨R,hR⟩:∃ R,uF (kG p l l')=R:=⟨_,rfl⟩
 rw [hR];refine aa.ed Tryz.func44 rfl fun _=>aab ?_;refine aaq 2 h ?_;refine aaa fun K hK=>?_
 have bad:∀ (e:Int) (fr:Nat→AV) (κ:Nat),e≠0→R=(iD,e)→fr 6=.c (.ptr 1 0)→fr 8=.c (.d (.int .i64 e))→K ⟨fr,aC (aC (fun _=>.hole) 0 (.cells true false 27 p.cs)) 1 (.cells true false 27 iD.cs)⟩ κ:=by
  intro e fr κ he hRe z6 z8;subst hRe;apply hK;refine aaa fun K2 hK2=>aas z8 he ?_;refine aai (by simp [he] <;> omega) (aaD @zv z6 z8 @aj.eq_1 ?_);exact aad (qg rfl rfl 1 (by simp [z6]))
 by_cases h0:(bK p).2.2=0
 rotate_left
 ·have e:R=(iD,(bK p).2.2):=by rw [← hR];exact hbad _ h0 (if_pos h0)
  generalize (bK p).2.2=er at *
  refine aal h0 ?_;refine aag (aac ?_);simp;exact bad er _ _ h0 e (by simp) (by simp)
 rw [h0]
 by_cases h1:l.length=p.ni
 rotate_left
 ·have e:R=(iD,2):=by rw [← hR];exact hbad _ (by decide) (by unfold kG;rw [if_neg (not_not_intro h0),if_pos (.inl h1)])
  have h1':¬ (l.length:Int)=(p.ni:Int):=by omega
  refine aay @sX lpz h1' ?_;refine aah (aae ?_);simp;exact bad 2 _ _ (by decide) e (by simp) (by simp)
 by_cases h2:l'.length=p.ni
 rotate_left
 ·have e:R=(iD,2):=by rw [← hR];exact hbad _ (by decide) (by unfold kG;rw [if_neg (not_not_intro h0),if_pos (.inr h2)])
  have h2':¬ (l'.length:Int)=(p.ni:Int):=by omega
  refine AW.f5 @sX lpz lpz' h1 h2' ?_;refine aah (aae ?_);simp;exact bad 2 _ _ (by decide) e (by simp) (by simp)
 have ht:=lD h0;have hcl:=AP (GG m) p hp ht
 have hbi:c6 67 p.nz.ins=.cells true false 67 (vD p.I):=by
  show LB.cells true false 67 ((sO p.ins).flatten.map CV.d)=_;rw [PD.Rn hp]
 obtain⟨q,hqd⟩:∃ q,p.nz.mz (dm p.I l l' p.ni)=q:=⟨_,rfl⟩
 have hbl:(dm p.I l l' p.ni).length=p.ni:=by rw [iT,PD.uq]
 have hinz:p.nz.ins=some (sO p.ins):=rfl
 have e:R=(if (bK q).2.2=0 then q else iD,(bK q).2.2):=by
  rw [← hR]
  have e0:kG p l l'=(nj (p.mz (dm p.I l l' p.ni)),(bK (p.mz (dm p.I l l' p.ni))).2.2):=by
   unfold kG;rw [if_neg (not_not_intro h0),if_neg (by omega)]
  have hc:bK (p.mz (dm p.I l l' p.ni))=bK q:=by rw [← hqd];exact Lf _ hbl
  rw [e0];unfold uF nj;rw [hc]
  by_cases hz:(bK q).2.2=0
  ·simp only [if_pos hz];rw [Gd _ hbl,hqd]
  ·simp only [if_neg hz]
 subst e;have hq:q.ok:=by rw [← hqd];exact PD.Bj (PD.F9 hp) _
 have hqi:q.ins=some ((dm p.I l l' p.ni).map In.e):=by rw [← hqd];exact PD.rO hinz _
 have hqn:q.ni=p.ni:=by rw [← hqd,PD.GB hinz,hbl]
 have hqt:q.nh:=⟨by rw [← hqd];exact ht.f,by rw [hqn];exact ht.i,by rw [← hqd];exact ht.n,by rw [← hqd];exact ht.s⟩
 have hgd:=lX m q hq
 have hfl:c6 67 q.ins=.cells true false 67 (vD (dm p.I l l' p.ni)):=by
  rw [hqi];simp only [c6];rw [vD,YS]
 have hlp0:lP p 2 3 4 5=lP q 2 3 4 5:=by
  simp only [lP,hqn];rw [← hqd];rfl
 have hlp:AV.agg (lP p 2 3 4 5)=AV.agg (lP q 2 3 4 5):=congrArg AV.agg hlp0;refine AW.f5 @sX lpz lpz' h1 h2 ?_;refine aag (aac (hK _ _ (aaa fun K6 hK6=>aab ?_)));refine aag (aac (hK6 _ _ (aak fun K6 hK6=>?_)));simp;refine ag.A4 6 19 [2,3,4,5] [c6 81 p.nz.f,c6 67 p.nz.ins,c6 55 p.nz.nodes,c6 69 p.nz.states] hcl (by simp) (by simp) (by simp) rfl (by simp) (by simp) (by simp [mj]) ?_;simp [cj,aJ,aS,hbi,aj];apply hK6;refine aaa fun K6 hK6=>aab ?_;refine aaf ?_
 refine aao (fun (i:Nat)=>⟨bf [(1,.c z),(2,.c z'),(3,.c (.ptr 0 0)),(6,.c (.ptr 1 0)),(9,.c (.ptr 6 0)),(10,.c (.d (.int .i64 i)))],
  aC (aC (aC (aC (aC (aC (aC (fun _=>.hole) 0 (.cells true false 27 p.cs)) 1 (.cells true false 27 iD.cs)) 2 (c6 81 p.nz.f)) 3 (.cells true false 67 (vD (dm p.I l l' i)))) 4 (c6 55 p.nz.nodes)) 5 (c6 69 p.nz.states)) 6 (.cells true false 27 (lP p 2 3 4 5))⟩) 7
  (fun i=>i≤l.length) (fun i=>l.length - i) 0 (Le.mW _ (by simp [dm,iD,dL]) (by simp [fz,fz'])) (W2 _) ?_
 rintro k hk
 try simp only at hk
 refine aaa fun K3 hK3=>aal lpz ?_
 by_cases hkt:k<l.length
 ·have hkt':(k:Int)<(l.length:Int):=by omega
  have hx1:=fun lv=>ixo lv k hkt
  have hx2:=fun lv=>ixo' lv k (by omega)
  have hst:=wO p.I l l' (i:=k) (by rw [PD.uq];omega) hkt (by omega);have hle:k*3+1+1≤(vD (dm p.I l l' k)).length:=by rw [vQ,iT,PD.uq];omega
  have hle2:k*3+2+1≤(aj (vD (dm p.I l l' k)) (k*3+1) [CV.d (.str l[k])]).length:=by
   rw [wJ (by simpa using hle),vQ,iT,PD.uq];omega
  have hin:k<p.ni:=by omega
  have f12:=bG (n:=(k:Int)+1) (by omega) (by omega);refine aai (by simp [hkt'] <;> omega) (aac (hK3 _ _ (aaa fun K5 hK5=>aaf ?_)));refine aap mixed (by kernel_rfl) rfl ?_;simp [hx1,hx2,hst,hle,hle2,hin];refine⟨by kernel_rfl,?_⟩;apply hK5;refine aae ?_;simp [f12];exact⟨k+1,Le.mW _ (by rw [gF _ _ _ (by decide:(6:Nat)≠3),gF _ _ _ (by decide:(5:Nat)≠3),gF _ _ _ (by decide:(4:Nat)≠3),mJ]) (by simp [fz,fz']),by omega,by omega⟩
 have hkt':¬ (k:Int)<(l.length:Int):=by omega
 have hke:k=p.ni:=by omega
 subst hke;refine aaj (by simp [hkt'] <;> omega) (aan (hK6 _ _ (aak fun K6 hK6=>?_)));simp;rw [hlp];refine ag.prog' 7 19 2 3 4 5 q hq hqt hgd (by simp) (by rw [← hqd];rfl) hfl.symm (by rw [← hqd];rfl) (by rw [← hqd];rfl) (by decide) rfl ?_;intro us hus g1 g2 g3 g4;generalize aS _ us=lv2 at hus g1 g2 g3 g4 ⊢;have e1:lv2 1=.cells true false 27 iD.cs:=by rw [hus 1 (by decide) (by decide) (by decide) (by decide)];rfl
 have e6:lv2 6=.cells true false 27 (lP q 2 3 4 5):=by rw [hus 6 (by decide) (by decide) (by decide) (by decide),← hlp0];rfl
 generalize (bK q).2.2=er at *
 simp;apply hK6;refine aaa fun K6 hK6=>aaa fun K7 hK7=>?_
 by_cases hz:er=0
 ·subst hz;refine aaA (hK7 _ _ ?_);refine aag (aac (hK6 _ _ (aay e6 e1 @aj.eq_1 ?_)));rw [if_pos rfl];exact aad (JJ hq hqt rfl rfl 1 (a:=2) (b:=3) (c:=4) (d:=5) (by simp;exact g1) (by simp;exact g2) (by simp;exact g3) (by simp;exact g4) (by simp))
 ·refine aat hz (hK7 _ _ ?_);refine aai (by simp [hz] <;> omega) (aay @zv e1 @aj.eq_1 ?_);rw [if_neg hz];exact aad (qg rfl rfl 1)
def iP (p q:PD):Bool:=decide (p.mode=q.mode) && decide (p.head=q.head) && decide (p.tail=q.tail) && decide (p.res=q.res) &&
 Eb (sO p.f) (sO q.f) && Eb (sO p.ins) (sO q.ins) && Eb (sO p.nodes) (sO q.nodes) && Eb (sO p.states) (sO q.states)
theorem zV(h:IN e):tg e e=true:=by obtain⟨a,b,rfl⟩:=h;simp [tg,S6]
theorem Ib(h:MI e):tg e e=true:=by obtain⟨a,b,c,rfl⟩:=h;simp [tg,S6]
theorem HV(h:MT e):tg e e=true:=by obtain⟨a1,a2,a3,a4,a5,a6,s,rfl⟩:=h;simp [tg,S6]
theorem nE:∀ {l:List (List DV)},(∀ e∈l,tg e e=true)→Eb l l=true
 | [],_=>rfl
 | a::l,h=>by simp only [Eb,cn];exact⟨h a (XP ..),nE fun e he=>h e (XO _ he)⟩
theorem xG(h:p.ok):iP p p=true:=by
 simp [iP,nE (fun e he=>zV (h.f e he)),nE (fun e he=>Ib (h.ins e he)),nE (fun e he=>HV (h.nodes e he)),nE (fun e he=>zV (h.states e he))]
theorem wD (G:List (List DV))(p q:PD)(hp:p.ok)(hq:q.ok):aa Tryz.prog G 20 [p.A,q.A] (.c (.d (.bool (iP p q)))):=by
 refine aF.jq 0 (by simp) (fun V v h=>PD.RH h) fun hr=>?_;obtain⟨hr0,hr2,hr3,hr6⟩:=hr;have lp0:∀ (lv:Key→LB) (o:Option (List (List DV))),eA Tryz.prog 22 lv (nt o)=some (.c (.d (.int .i64 (sO o).length)),[],[],True):=fun lv o=>cE (by simp)
 have lp2:∀ (lv:Key→LB) (o:Option (List (List DV))),eA Tryz.prog 23 lv (nt o)=some (.c (.d (.int .i64 (sO o).length)),[],[],True):=fun lv o=>cE (by simp)
 have lp3:∀ (lv:Key→LB) (o:Option (List (List DV))),eA Tryz.prog 24 lv (nt o)=some (.c (.d (.int .i64 (sO o).length)),[],[],True):=fun lv o=>cE (by simp)
 have lp6:∀ (lv:Key→LB) (o:Option (List (List DV))),eA Tryz.prog 25 lv (nt o)=some (.c (.d (.int .i64 (sO o).length)),[],[],True):=fun lv o=>cE (by simp)
 refine aa.en Tryz.func20 rfl fun _=>aab ?_;refine aaa fun K hK=>aaa fun K1 hK1=>?_
 by_cases h1:p.mode=q.mode
 rotate_left
 ·refine aat h1 (hK1 _ _ ?_);refine aah (aab ?_);exact aad (aq.rt rfl 4 (by simp [iP,h1]))
 by_cases h2:p.head=q.head
 rotate_left
 ·refine aau h1 h2 (hK1 _ _ ?_);refine aah (aab ?_);exact aad (aq.rt rfl 4 (by simp [iP,h2]))
 by_cases h3:p.tail=q.tail
 rotate_left
 ·refine aaB h1 h2 h3 (hK1 _ _ ?_);refine aah (aab ?_);exact aad (aq.rt rfl 4 (by simp [iP,h3]))
 by_cases h4:p.res=q.res
 rotate_left
 ·refine aaE h1 h2 h3 h4 (hK1 _ _ ?_);refine aah (aab ?_);exact aad (aq.rt rfl 4 (by simp [iP,h4]))
 refine aaE h1 h2 h3 h4 (hK1 _ _ ?_);refine aag (aac (hK _ _ (aaa fun K hK=>aaa fun K1 hK1=>?_)))
 by_cases l1:(sO p.f).length=(sO q.f).length
 rotate_left
 ·have L1:¬ ((sO p.f).length:Int)=((sO q.f).length:Int):=by omega
  refine aae ?_;simp [lp0,lp2,lp3,lp6,l1,L1];apply hK1;refine aah (aab ?_);have:=mB l1;exact aad (aq.rt rfl 4 (by simp [iP,this]))
 by_cases l2:(sO p.ins).length=(sO q.ins).length
 rotate_left
 ·have L2:¬ ((sO p.ins).length:Int)=((sO q.ins).length:Int):=by omega
  refine aae ?_;simp [lp0,lp2,lp3,lp6,l1,l2,L2];apply hK1;refine aah (aab ?_);have:=mB l2;exact aad (aq.rt rfl 4 (by simp [iP,this]))
 by_cases l3:(sO p.nodes).length=(sO q.nodes).length
 rotate_left
 ·have L3:¬ ((sO p.nodes).length:Int)=((sO q.nodes).length:Int):=by omega
  refine aae ?_;simp [lp0,lp2,lp3,lp6,l1,l2,l3,L3];apply hK1;refine aah (aab ?_);have:=mB l3;exact aad (aq.rt rfl 4 (by simp [iP,this]))
 by_cases l4:(sO p.states).length=(sO q.states).length
 rotate_left
 ·have L4:¬ ((sO p.states).length:Int)=((sO q.states).length:Int):=by omega
  refine aae ?_;simp [lp0,lp2,lp3,lp6,l1,l2,l3,l4,L4];apply hK1;refine aah (aab ?_);have:=mB l4;exact aad (aq.rt rfl 4 (by simp [iP,this]))
 refine aae ?_;simp [lp0,lp2,lp3,lp6,l1,l2,l3,l4];apply hK1;refine aag (aac (hK _ _ (aaa fun K hK=>aab ?_)));refine aaf ?_
 refine aao (fun (i:Nat)=>⟨bf [(2,.c (.ptr 0 0)),(3,.c (.ptr 1 0)),(5,.c (.d (.int .i64 i)))],aC (aC (fun _=>.hole) 0 (.cells true false 27 p.cs)) 1 (.cells true false 27 q.cs)⟩) 2
  (fun i=>i≤(sO p.f).length∧∀ j (hj:j<i) (h1:j<(sO p.f).length) (h2:j<(sO q.f).length),tg (sO p.f)[j] (sO q.f)[j]=true)
  (fun i=>(sO p.f).length - i) 0 (Le.mk' _ (by simp [h1,h2,h3,h4]) (by simp) (by simp)) (by simp) ?_
 rintro i ⟨hi,hall⟩;refine aaa fun K3 hK3=>aal lp0 ?_
 by_cases hi2:i<(sO p.f).length
 ·have hi3:i<(sO q.f).length:=by omega
  have he:=hp.f _ (aW hi2);have he':=hq.f _ (aW hi3);have hx:∀ lv:Key→LB,ak Tryz.prog 22 lv (nt p.f) (.c (.d (.int .i64 (i:Int))))=some (.c (.d (.ptr (sO p.f)[i])),[],[],True):=fun lv=>jf (sz:=2) (by simp) hi2 (gQ he)
  have hy:∀ lv:Key→LB,ak Tryz.prog 22 lv (nt q.f) (.c (.d (.int .i64 (i:Int))))=some (.c (.d (.ptr (sO q.f)[i])),[],[],True):=fun lv=>jf (sz:=2) (by simp) hi3 (gQ he')
  have l1:∀ lv:Key→LB,aZ Tryz.prog 81 lv (.c (.d (.ptr (sO p.f)[i])))=some (.agg ((sO p.f)[i].map .d),[],[],True):=fun lv=>Sj he
  have l2:∀ lv:Key→LB,aZ Tryz.prog 81 lv (.c (.d (.ptr (sO q.f)[i])))=some (.agg ((sO q.f)[i].map .d),[],[],True):=fun lv=>Sj he'
  have b1:aZ Tryz.prog 22 (aC (aC (fun _=>.hole) 0 (.cells true false 27 p.cs)) 1 (.cells true false 27 q.cs)) (.c (.ptr 0 0))=some (nt p.f,[],[0],True):=by simp
  have b2:aZ Tryz.prog 22 (aC (aC (fun _=>.hole) 0 (.cells true false 27 p.cs)) 1 (.cells true false 27 q.cs)) (.c (.ptr 1 0))=some (nt q.f,[],[1],True):=by simp
  have hnb:=nb (T:=81) (by kernel_rfl) ⟨_,rfl⟩ (QM he he');simp only [PD.cs] at b1 b2;refine aai (by simp [hi2] <;> omega) (aac (hK3 _ _ (aaa fun K5 hK5=>aaf (aaa fun K6 hK6=>?_))));refine aaw mixed (by kernel_rfl) rfl rfl ?_;simp [hx,hy,l1,l2,b1,b2,hnb,-aZ];apply hK6
  by_cases hq:tg (sO p.f)[i] (sO q.f)[i]=true
  ·refine aaj (by simp [hq] <;> omega) (aac (hK5 _ _ ?_));have e3:=bG (n:=(i:Int)+1) (by omega) (by omega);refine aae ?_;simp [e3];refine⟨i+1,Le.mk' _ (by simp) (by simp) (by simp),⟨by omega,?_⟩,by omega⟩;intro j hj h1 h2
   by_cases hji:j=i
   ·subst hji;exact hq
   ·exact hall j (by omega) h1 h2
  ·have hq':tg (sO p.f)[i] (sO q.f)[i]=false:=by simpa using hq
   refine aai (by simp [hq'] <;> omega) (aab ?_);have:=pe hi2 hi3 hq';exact aad (aq.rt rfl 4 (by simp [iP,this]))
 refine aaj (by simp [hi2] <;> omega) (aan (hK _ _ ?_));have f1:=mK.2 ⟨l1,fun j hj=>hall j (by omega) hj (by omega)⟩;clear hall hi2 hi;refine aaa fun K hK=>aab ?_;refine aaf ?_
 refine aao (fun (i:Nat)=>⟨bf [(2,.c (.ptr 0 0)),(3,.c (.ptr 1 0)),(6,.c (.d (.int .i64 i)))],aC (aC (fun _=>.hole) 0 (.cells true false 27 p.cs)) 1 (.cells true false 27 q.cs)⟩) 2
  (fun i=>i≤(sO p.ins).length∧∀ j (hj:j<i) (h1:j<(sO p.ins).length) (h2:j<(sO q.ins).length),tg (sO p.ins)[j] (sO q.ins)[j]=true)
  (fun i=>(sO p.ins).length - i) 0 (Le.mk' _ (by simp [h1,h2,h3,h4]) (by simp) (by simp)) (by simp) ?_
 rintro i ⟨hi,hall⟩;refine aaa fun K3 hK3=>aal lp2 ?_
 by_cases hi2:i<(sO p.ins).length
 ·have hi3:i<(sO q.ins).length:=by omega
  have he:=hp.ins _ (aW hi2);have he':=hq.ins _ (aW hi3);have hx:∀ lv:Key→LB,ak Tryz.prog 23 lv (nt p.ins) (.c (.d (.int .i64 (i:Int))))=some (.c (.d (.ptr (sO p.ins)[i])),[],[],True):=fun lv=>jf (sz:=3) (by simp) hi2 (oY he)
  have hy:∀ lv:Key→LB,ak Tryz.prog 23 lv (nt q.ins) (.c (.d (.int .i64 (i:Int))))=some (.c (.d (.ptr (sO q.ins)[i])),[],[],True):=fun lv=>jf (sz:=3) (by simp) hi3 (oY he')
  have l1:∀ lv:Key→LB,aZ Tryz.prog 67 lv (.c (.d (.ptr (sO p.ins)[i])))=some (.agg ((sO p.ins)[i].map .d),[],[],True):=fun lv=>RV he
  have l2:∀ lv:Key→LB,aZ Tryz.prog 67 lv (.c (.d (.ptr (sO q.ins)[i])))=some (.agg ((sO q.ins)[i].map .d),[],[],True):=fun lv=>RV he'
  have b1:aZ Tryz.prog 23 (aC (aC (fun _=>.hole) 0 (.cells true false 27 p.cs)) 1 (.cells true false 27 q.cs)) (.c (.ptr 0 2))=some (nt p.ins,[],[0],True):=by simp
  have b2:aZ Tryz.prog 23 (aC (aC (fun _=>.hole) 0 (.cells true false 27 p.cs)) 1 (.cells true false 27 q.cs)) (.c (.ptr 1 2))=some (nt q.ins,[],[1],True):=by simp
  have hnb:=nb (T:=67) (by kernel_rfl) ⟨_,rfl⟩ (QX he he');simp only [PD.cs] at b1 b2;refine aai (by simp [hi2] <;> omega) (aac (hK3 _ _ (aaa fun K5 hK5=>aaf (aaa fun K6 hK6=>?_))));refine aaw mixed (by kernel_rfl) rfl rfl ?_;simp [hx,hy,l1,l2,b1,b2,hnb,-aZ];apply hK6
  by_cases hq:tg (sO p.ins)[i] (sO q.ins)[i]=true
  ·refine aaj (by simp [hq] <;> omega) (aac (hK5 _ _ ?_));have e3:=bG (n:=(i:Int)+1) (by omega) (by omega);refine aae ?_;simp [e3];refine⟨i+1,Le.mk' _ (by simp) (by simp) (by simp),⟨by omega,?_⟩,by omega⟩;intro j hj h1 h2
   by_cases hji:j=i
   ·subst hji;exact hq
   ·exact hall j (by omega) h1 h2
  ·have hq':tg (sO p.ins)[i] (sO q.ins)[i]=false:=by simpa using hq
   refine aai (by simp [hq'] <;> omega) (aab ?_);have:=pe hi2 hi3 hq';exact aad (aq.rt rfl 4 (by simp [iP,this]))
 refine aaj (by simp [hi2] <;> omega) (aan (hK _ _ ?_));have f2:=mK.2 ⟨l2,fun j hj=>hall j (by omega) hj (by omega)⟩;clear hall hi2 hi;refine aaa fun K hK=>aab ?_;refine aaf ?_
 refine aao (fun (i:Nat)=>⟨bf [(2,.c (.ptr 0 0)),(3,.c (.ptr 1 0)),(7,.c (.d (.int .i64 i)))],aC (aC (fun _=>.hole) 0 (.cells true false 27 p.cs)) 1 (.cells true false 27 q.cs)⟩) 2
  (fun i=>i≤(sO p.nodes).length∧∀ j (hj:j<i) (h1:j<(sO p.nodes).length) (h2:j<(sO q.nodes).length),tg (sO p.nodes)[j] (sO q.nodes)[j]=true)
  (fun i=>(sO p.nodes).length - i) 0 (Le.mk' _ (by simp [h1,h2,h3,h4]) (by simp) (by simp)) (by simp) ?_
 rintro i ⟨hi,hall⟩;refine aaa fun K3 hK3=>aal lp3 ?_
 by_cases hi2:i<(sO p.nodes).length
 ·have hi3:i<(sO q.nodes).length:=by omega
  have he:=hp.nodes _ (aW hi2);have he':=hq.nodes _ (aW hi3);have hx:∀ lv:Key→LB,ak Tryz.prog 24 lv (nt p.nodes) (.c (.d (.int .i64 (i:Int))))=some (.c (.d (.ptr (sO p.nodes)[i])),[],[],True):=fun lv=>jf (sz:=7) (by simp) hi2 (o8 he)
  have hy:∀ lv:Key→LB,ak Tryz.prog 24 lv (nt q.nodes) (.c (.d (.int .i64 (i:Int))))=some (.c (.d (.ptr (sO q.nodes)[i])),[],[],True):=fun lv=>jf (sz:=7) (by simp) hi3 (o8 he')
  have l1:∀ lv:Key→LB,aZ Tryz.prog 55 lv (.c (.d (.ptr (sO p.nodes)[i])))=some (.agg ((sO p.nodes)[i].map .d),[],[],True):=fun lv=>Sb he
  have l2:∀ lv:Key→LB,aZ Tryz.prog 55 lv (.c (.d (.ptr (sO q.nodes)[i])))=some (.agg ((sO q.nodes)[i].map .d),[],[],True):=fun lv=>Sb he'
  have b1:aZ Tryz.prog 24 (aC (aC (fun _=>.hole) 0 (.cells true false 27 p.cs)) 1 (.cells true false 27 q.cs)) (.c (.ptr 0 3))=some (nt p.nodes,[],[0],True):=by simp
  have b2:aZ Tryz.prog 24 (aC (aC (fun _=>.hole) 0 (.cells true false 27 p.cs)) 1 (.cells true false 27 q.cs)) (.c (.ptr 1 3))=some (nt q.nodes,[],[1],True):=by simp
  have hnb:=nb (T:=55) (by kernel_rfl) ⟨_,rfl⟩ (Ru he he');simp only [PD.cs] at b1 b2;refine aai (by simp [hi2] <;> omega) (aac (hK3 _ _ (aaa fun K5 hK5=>aaf (aaa fun K6 hK6=>?_))));refine aaw mixed (by kernel_rfl) rfl rfl ?_;simp [hx,hy,l1,l2,b1,b2,hnb,-aZ];apply hK6
  by_cases hq:tg (sO p.nodes)[i] (sO q.nodes)[i]=true
  ·refine aaj (by simp [hq] <;> omega) (aac (hK5 _ _ ?_));have e3:=bG (n:=(i:Int)+1) (by omega) (by omega);refine aae ?_;simp [e3];refine⟨i+1,Le.mk' _ (by simp) (by simp) (by simp),⟨by omega,?_⟩,by omega⟩;intro j hj h1 h2
   by_cases hji:j=i
   ·subst hji;exact hq
   ·exact hall j (by omega) h1 h2
  ·have hq':tg (sO p.nodes)[i] (sO q.nodes)[i]=false:=by simpa using hq
   refine aai (by simp [hq'] <;> omega) (aab ?_);have:=pe hi2 hi3 hq';exact aad (aq.rt rfl 4 (by simp [iP,this]))
 refine aaj (by simp [hi2] <;> omega) (aan (hK _ _ ?_));have f3:=mK.2 ⟨l3,fun j hj=>hall j (by omega) hj (by omega)⟩;clear hall hi2 hi;refine aaa fun K hK=>aab ?_;refine aaf ?_
 refine aao (fun (i:Nat)=>⟨bf [(2,.c (.ptr 0 0)),(3,.c (.ptr 1 0)),(8,.c (.d (.int .i64 i)))],aC (aC (fun _=>.hole) 0 (.cells true false 27 p.cs)) 1 (.cells true false 27 q.cs)⟩) 2
  (fun i=>i≤(sO p.states).length∧∀ j (hj:j<i) (h1:j<(sO p.states).length) (h2:j<(sO q.states).length),tg (sO p.states)[j] (sO q.states)[j]=true)
  (fun i=>(sO p.states).length - i) 0 (Le.mk' _ (by simp [h1,h2,h3,h4]) (by simp) (by simp)) (by simp) ?_
 rintro i ⟨hi,hall⟩;refine aaa fun K3 hK3=>aal lp6 ?_
 by_cases hi2:i<(sO p.states).length
 ·have hi3:i<(sO q.states).length:=by omega
  have he:=hp.states _ (aW hi2);have he':=hq.states _ (aW hi3);have hx:∀ lv:Key→LB,ak Tryz.prog 25 lv (nt p.states) (.c (.d (.int .i64 (i:Int))))=some (.c (.d (.ptr (sO p.states)[i])),[],[],True):=fun lv=>jf (sz:=2) (by simp) hi2 (gQ he)
  have hy:∀ lv:Key→LB,ak Tryz.prog 25 lv (nt q.states) (.c (.d (.int .i64 (i:Int))))=some (.c (.d (.ptr (sO q.states)[i])),[],[],True):=fun lv=>jf (sz:=2) (by simp) hi3 (gQ he')
  have l1:∀ lv:Key→LB,aZ Tryz.prog 69 lv (.c (.d (.ptr (sO p.states)[i])))=some (.agg ((sO p.states)[i].map .d),[],[],True):=fun lv=>Sw he
  have l2:∀ lv:Key→LB,aZ Tryz.prog 69 lv (.c (.d (.ptr (sO q.states)[i])))=some (.agg ((sO q.states)[i].map .d),[],[],True):=fun lv=>Sw he'
  have b1:aZ Tryz.prog 25 (aC (aC (fun _=>.hole) 0 (.cells true false 27 p.cs)) 1 (.cells true false 27 q.cs)) (.c (.ptr 0 6))=some (nt p.states,[],[0],True):=by simp
  have b2:aZ Tryz.prog 25 (aC (aC (fun _=>.hole) 0 (.cells true false 27 p.cs)) 1 (.cells true false 27 q.cs)) (.c (.ptr 1 6))=some (nt q.states,[],[1],True):=by simp
  have hnb:=nb (T:=69) (by kernel_rfl) ⟨_,rfl⟩ (Rx he he');simp only [PD.cs] at b1 b2;refine aai (by simp [hi2] <;> omega) (aac (hK3 _ _ (aaa fun K5 hK5=>aaf (aaa fun K6 hK6=>?_))));refine aaw mixed (by kernel_rfl) rfl rfl ?_;simp [hx,hy,l1,l2,b1,b2,hnb,-aZ];apply hK6
  by_cases hq:tg (sO p.states)[i] (sO q.states)[i]=true
  ·refine aaj (by simp [hq] <;> omega) (aac (hK5 _ _ ?_));have e3:=bG (n:=(i:Int)+1) (by omega) (by omega);refine aae ?_;simp [e3];refine⟨i+1,Le.mk' _ (by simp) (by simp) (by simp),⟨by omega,?_⟩,by omega⟩;intro j hj h1 h2
   by_cases hji:j=i
   ·subst hji;exact hq
   ·exact hall j (by omega) h1 h2
  ·have hq':tg (sO p.states)[i] (sO q.states)[i]=false:=by simpa using hq
   refine aai (by simp [hq'] <;> omega) (aab ?_);have:=pe hi2 hi3 hq';exact aad (aq.rt rfl 4 (by simp [iP,this]))
 refine aaj (by simp [hi2] <;> omega) (aan (hK _ _ ?_));have f4:=mK.2 ⟨l4,fun j hj=>hall j (by omega) hj (by omega)⟩;clear hall hi2 hi;refine aab ?_;exact aad (aq.rt rfl 4 (by simp [iP,h1,h2,h3,h4,f1,f2,f3,f4]))
def MJ (l:List (List UInt8)):Bool:=decide (l.length≤20) && l.all fun s=>decide (s.length≤300)
theorem Di (G:List (List DV))(o:Option (List (List UInt8))):aa Tryz.prog G 38 [.c (tC o)] (.c (.d (.bool (MJ (tL o))))):=by
 have lpz:=fun lv=>QJ (T:=59) (by simp) lv o
 have ixo:=fun lv (i:Nat) (hi:i<(tL o).length)=>RW (T:=59) (by simp) lv o hi
 have fz:=xA o;generalize tC o=z at *
 generalize tL o=l at *
 obtain⟨b,hb⟩:∃ b,MJ l=b:=⟨_,rfl⟩
 rw [hb];refine aa.en Tryz.func38 rfl fun _=>aab ?_;refine aaa fun K hK=>aab ?_;refine aaf ?_
 refine aao (fun (i:Nat)=>⟨bf [(0,.c z),(3,.c (.d (.int .i64 i)))],fun _=>.hole⟩) 0
  (fun i=>i≤l.length∧∀ j,j<i→(h:j<l.length)→l[j].length≤300) (fun i=>l.length - i) 0 (Le.mk' _ rfl aX (by simp [fz])) ⟨W2 _,fun j hj=>absurd hj (Xf j)⟩ ?_
 rintro i ⟨hi,hall⟩
 try simp only at hi hall
 refine aaa fun K3 hK3=>aaa fun K4 hK4=>?_
 by_cases hlt:i<l.length
 ·by_cases h20:l.length≤20
  ·have h20':(l.length:Int)≤20:=by omega
   have hxi:=fun lv=>ixo lv i hlt
   have f12:=bG (n:=(i:Int)+1) (by omega) (by omega);refine aaB lpz hlt h20' (hK4 _ _ ?_);refine aai (by simp [h20'] <;> omega) (aac (hK3 _ _ (aaa fun K5 hK5=>aaf (aaa fun K6 hK6=>?_))))
   by_cases hs:l[i].length≤300
   ·have hs':¬ 300<l[i].length:=by omega
    refine aau hxi hs' (hK6 _ _ ?_);refine aaj (by simp [hs'] <;> omega) (aac (hK5 _ _ (aae ?_)));simp [f12];refine⟨i+1,Le.mk' _ rfl aX (by simp [fz]),⟨by omega,fun j hj h=>?_⟩,by omega⟩
    by_cases hji:j=i
    ·subst hji;exact hs
    ·exact hall j (by omega) h
   ·have hs':300<l[i].length:=by omega
    have hb2:b=false:=by
     rw [← hb];unfold MJ
     have:(l.all fun s=>decide (s.length≤300))=false:=by
      rw [Zb];exact⟨l[i],aW hlt,by simpa using hs'⟩
     rw [this,Bool.and_false]
    refine aau hxi hs' (hK6 _ _ ?_);refine aai (by simp [hs'] <;> omega) (aab ?_);exact aad (aq.rt (t:=2) rfl 9 (by simp [hb2]))
  ·have hb2:b=false:=by rw [← hb];unfold MJ;rw [decide_eq_false h20];rfl
   have h20':¬ (l.length:Int)≤20:=by omega
   refine aaB lpz hlt h20' (hK4 _ _ ?_);refine aaj (by simp [h20'] <;> omega) (aan (hK _ _ (aas lpz h20' ?_)));exact aad (aq.rt (t:=2) rfl 9 (by simp [hb2]))
 ·have hb2:b=decide ((l.length:Int)≤20):=by
   rw [← hb];unfold MJ;rw [show decide ((l.length:Int)≤20)=decide (l.length≤20) from decide_eq_decide.2 (by omega)]
   have:(l.all fun s=>decide (s.length≤300))=true:=by
    rw [E5];intro x hx;obtain⟨j,hj,rfl⟩:=List.mem_iff_getElem.1 hx;exact decide_eq_true (hall j (by omega) hj)
   rw [this,YN]
  refine aau lpz hlt (hK4 _ _ ?_);refine aag (aan (hK _ _ (aal lpz ?_)));exact aad (aq.rt (t:=2) rfl 9 (by simp [hb2]))
theorem n8:iD.ok:=⟨fun _ h=>(by cases h),fun _ h=>(by cases h),fun _ h=>(by cases h),fun _ h=>(by cases h)⟩
theorem Gz(hp:p.ok):(nj p).ok:=by unfold nj;split;exact hp;exact n8
theorem Mg(hp:p.ok) (n:Int):(lH p n).1.ok:=by
 unfold lH;split
 ·exact n8
 ·split
  ·exact⟨hp.f,hp.ins,hp.nodes,hp.states⟩
  ·exact n8
theorem Jk(hp:p.ok) (l:List Int):(eD p l).1.ok:=by
 unfold eD;split
 ·exact n8
 split
 ·exact n8
 split
 ·exact Gz (PD.AO hp _)
 ·exact n8
theorem M7(hp:p.ok) (l l':List (List UInt8)):(kG p l l').1.ok:=by
 unfold kG;split
 ·exact n8
 split
 ·exact n8
 ·exact Gz (PD.Bj hp _)
theorem wF (m:Int){r:PD × Int}(h:r.1.ok):aa Tryz.prog (GG m) 20 [r.1.A,(uF r).1.A] (.c (.d (.bool true))):=by
 have e:(uF r).1=if r.2=0 then r.1.nz else r.1:=rfl
 by_cases h0:r.2=0
 ·rw [e,if_pos h0];have:=wD (GG m) r.1 r.1.nz h (PD.F9 h);rw [show iP r.1 r.1.nz=iP r.1 r.1 from rfl,xG h] at this;exact this
 ·rw [e,if_neg h0];have:=wD (GG m) r.1 r.1 h h;rw [xG h] at this;exact this
structure Ch where
 p:PD
 n:Int
 o:Option (List Int)
 lo:Option (List (List UInt8))
 hi:Option (List (List UInt8))
abbrev Ch.A (x:Ch):AV:=.agg [dL x.p.f,.d (.int .i64 x.p.mode),dL x.p.ins,dL x.p.nodes,.d (.int .i64 x.p.head),.d (.int .i64 x.p.tail),dL x.p.states,.d (.int .i64 x.p.res),.d (.int .i64 x.n),zC x.o,tC x.lo,tC x.hi]
theorem yp (m:Int)(x:Ch)(hp:x.p.ok):aa Tryz.prog (GG m) 14 [x.A] (.c (.d (.bool true))):=by
 obtain⟨p,n,o,lo,hi⟩:=x;have hgr:=Kp (GG m) p hp;have hsh:=Jy m;have hs1:=Di (GG m) lo;have hs2:=Di (GG m) hi;have lpz:=fun lv=>Ql (T:=30) (by simp) lv o
 have a1:=PI m p hp n;have a2:=HQ m p hp n;have a3:=wF m (Mg hp n);have a4:(uF (lH p n)).2=(lH p n).2:=rfl;have b1:=J3 m p hp o;have b2:=Ej m p hp o;have b3:=wF m (Jk hp (zL o));have b4:(uF (eD p (zL o))).2=(eD p (zL o)).2:=rfl;have c1:=OE m p hp lo hi;have c2:=Hl m p hp lo hi;have c3:=wF m (M7 hp (tL lo) (tL hi));have c4:(uF (kG p (tL lo) (tL hi))).2=(kG p (tL lo) (tL hi)).2:=rfl;rw [a4] at a2;rw [b4] at b2;rw [c4] at c2;generalize (uF (lH p n)).1=ra at *
 generalize lH p n=rb at *
 generalize (uF (eD p (zL o))).1=rc at *
 generalize eD p (zL o)=rd at *
 generalize (uF (kG p (tL lo) (tL hi))).1=re at *
 generalize kG p (tL lo) (tL hi)=rf at *
 obtain⟨rb,ea⟩:=rb;obtain⟨rd,eb⟩:=rd;obtain⟨rf,ec⟩:=rf;simp only at a1 a2 a3 b1 b2 b3 c1 c2 c3
 have sh20:∀ l,MJ l=true→l.length≤1000:=fun l h=>by
  unfold MJ at h;rw [cn] at h;have:=of_decide_eq_true h.1;omega
 show aa Tryz.prog (GG m) 14 [.agg [dL p.f,.d (.int .i64 p.mode),dL p.ins,dL p.nodes,.d (.int .i64 p.head),.d (.int .i64 p.tail),dL p.states,.d (.int .i64 p.res),.d (.int .i64 n),zC o,tC lo,tC hi]] _;refine aa.en Tryz.func14 rfl fun _=>aab ?_;refine aaa fun K hK=>aaa fun K1 hK1=>?_
 have tail:∀ (fr:Nat→AV) (κ:Nat) (lv:Key→LB),fr 27=.c (.d (.bool true))→lv 9=.hole→K1 ⟨fr,lv⟩ κ:=by
  intro fr κ lv z l9;apply hK1;refine aai (by simp [z] <;> omega) (aak fun K2 hK2=>?_);simp;refine ag.p 5 9 hsh ?_ (hh:=l9);simp;apply hK2;exact aad (aq.rt (t:=2) rfl 9 (by simp) (hh:=l9))
 cases hgb:nZ p with
 | true=>
  rw [hgb] at hgr;refine aae ?_;simp;refine ag.p 2 9 hgr ?_;simp;exact tail _ _ _ (by simp) rfl
 | false=>
 rw [hgb] at hgr
 by_cases hF:(100:Int)<((zL o).length:Int)
 ·refine aae ?_;simp;refine ag.p 2 9 hgr ?_;simp [lpz,hF];exact tail _ _ _ (by simp) rfl
 have hF':(zL o).length≤100:=by omega
 have b1:=b1 (by omega);have b2:=b2 (by omega);have h61:∀ a b c d e f g h i j k l:CV,eN Tryz.prog 27 [a,b,c,d,e,f,g,h,i,j,k,l]=some (.agg [a,b,c,d,e,f,g,h]):=by intros;kernel_rfl
 cases hl1:MJ (tL lo) with
 | false=>
  rw [hl1] at hs1;refine aae ?_;simp;refine ag.p 2 9 hgr ?_;simp [lpz,hF];refine ag.p 2 9 hs1 ?_;simp;exact tail _ _ _ (by simp) rfl
 | true=>
 rw [hl1] at hs1
 cases hl2:MJ (tL hi) with
 | false=>
  rw [hl2] at hs2;refine aae ?_;simp;refine ag.p 2 9 hgr ?_;simp [lpz,hF];refine ag.p 2 9 hs1 ?_;simp;refine ag.p 2 9 hs2 ?_;simp;exact tail _ _ _ (by simp) rfl
 | true=>
 rw [hl2] at hs2;have c1:=c1 (sh20 _ hl1) (sh20 _ hl2);have c2:=c2 (sh20 _ hl1) (sh20 _ hl2);refine aae ?_;simp;refine ag.p 2 9 hgr ?_;simp [lpz,hF];refine ag.p 2 9 hs1 ?_;simp;refine ag.p 2 9 hs2 ?_;simp;apply hK1;refine aag (aac (hK _ _ (aav 3 a1 @aj.eq_1 ?_)));refine aav 5 a2 @aj.eq_1 ?_;refine aaa fun K hK=>aaq 6 a3 ?_;refine aag (aac (hK _ _ (aav 7 b1 @aj.eq_1 ?_)));refine aav 8 b2 @aj.eq_1 ?_;refine aaa fun K hK=>aaq 9 b3 ?_;refine aag (aac (hK _ _ (aav 10 c1 @aj.eq_1 ?_)));refine aav 11 c2 @aj.eq_1 ?_;refine aak fun K hK=>?_;simp;refine ag.p 12 9 c3 ?_;simp;refine ag.p 13 9 hsh ?_;simp;apply hK;exact aad (aq.rt (t:=2) rfl 9 (by simp))
end Go.Am
