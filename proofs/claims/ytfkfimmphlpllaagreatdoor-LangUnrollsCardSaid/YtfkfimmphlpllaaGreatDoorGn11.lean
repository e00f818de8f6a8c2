/- Helpers. -/
import Derived.Test.YtfkfimmphlpllaaGreatDoorGn10

set_option linter.all false
set_option maxHeartbeats 8000000
set_option maxRecDepth 100000
open Go.Proofs.Tryz
namespace Go.Am
open Go.Am.Ty Go.Proofs N
variable {p:PD}{i k:Nat}{n:Nd}{l av now:List Int}{M:Int}{c:Ctx}{L:List Nd}{fr:Nat->AV}{lv:Key->LB}
def x9(hg:p.good)(hi:i<p.ns):0<=(p.st i).1/\(p.st i).1<p.head/\0<=(p.st i).2/\(p.st i).2<p.tail:=by
 have h:=hg.states i hi;unfold xA at h
 by_cases h1:0<=(p.st i).1/\(p.st i).1<p.head
 ·rw[if_neg (not_not_intro h1)]at h
  by_cases h2:0<=(p.st i).2/\(p.st i).2<p.tail
  ·exact⟨h1.1,h1.2,h2.1,h2.2⟩
  ·rw[if_pos h2]at h;cases h
 ·rw[if_pos h1]at h;cases h
def gw:dB p=0↔(p.nf<=6/\p.ni<=6/\p.nn<=64/\p.ns<=4)/\(p.nf≠0/\p.nn≠0/\0<=p.mode/\p.mode<=4)/\(0<=p.head/\p.head<=p.tail/\p.tail<=p.nn)/\(p.ns=0->p.head=p.nn):=by
 unfold dB PD.nf PD.ni PD.nn PD.ns;constructor
 ·intro h
  (repeat' split at h)<;>first|(cases h;done)|exact⟨⟨by omega,by omega,by omega,by omega⟩,⟨by omega,by omega,by omega,by omega⟩,⟨by omega,by omega,by omega⟩,λh0=>by omega⟩
 ·rintro⟨⟨a1,a2,a3,a4⟩,⟨b1,b2,b3,b4⟩,⟨c1,c2,c3⟩,d⟩;rw[if_neg (by omega),if_neg (by omega),if_neg (by omega),if_neg];rintro⟨h0,h1⟩;exact h1 (d h0)
theorem C3(hg:p.good):1<=p.head:=by
 obtain⟨_,⟨_,b,_⟩,_,d⟩:=gw.1 hg.gen
 by_cases h0:p.ns=0
 ·have:=d h0;omega
 ·have:=x9 hg (i:=0) (by omega);omega
def CE{i:Int}:kB p i n=0↔(1<=n.op/\n.op<=15)/\iW n=true/\(0<=n.f/\n.f<p.nf)/\(n.op=1->0<=n.a/\n.a<p.ni)/\(n.op=1->(p.AR n.a.toNat).f=n.f)/\(n.op=2->¬i<p.head/\0<=n.a/\n.a<p.ns)/\(n.op=3->eE n.v=0)/\(n.op≠3->(bf n).all (de p i)=true):=by
 unfold kB
 by_cases c1:1<=n.op/\n.op<=15
 rotate_left
 ·rw[if_pos c1];exact⟨λh=>(by cases h),λh=>absurd h.1 c1⟩
 rw[if_neg (not_not_intro c1)]
 by_cases c2:iW n=false
 ·rw[if_pos c2];exact⟨λh=>(by cases h),λh=>(by rw[h.2.1]at c2;cases c2)⟩
 rw[if_neg c2];have c2':iW n=true:=by simpa using c2
 by_cases c3:0<=n.f/\n.f<p.nf
 rotate_left
 ·rw[if_pos c3];exact⟨λh=>(by cases h),λh=>absurd h.2.2.1 c3⟩
 rw[if_neg (not_not_intro c3)]
 by_cases c4:n.op=1/\¬(0<=n.a/\n.a<p.ni)
 ·rw[if_pos c4];exact⟨λh=>(by cases h),λh=>absurd (h.2.2.2.1 c4.1) c4.2⟩
 rw[if_neg c4]
 by_cases c5:n.op=1/\(p.AR n.a.toNat).f≠n.f
 ·rw[if_pos c5];exact⟨λh=>(by cases h),λh=>absurd (h.2.2.2.2.1 c5.1) c5.2⟩
 rw[if_neg c5]
 by_cases c6:n.op=2/\(i<p.head\/¬(0<=n.a/\n.a<p.ns))
 ·rw[if_pos c6];refine⟨λh=>(by cases h),λh=>?_⟩;have:=h.2.2.2.2.2.1 c6.1;rcases c6.2 with q|q
  ·exact absurd q this.1
  ·exact absurd this.2 q
 rw[if_neg c6];have d4:n.op=1->0<=n.a/\n.a<p.ni:=λh=>ZG λq=>c4 ⟨h,q⟩
 have d5:n.op=1->(p.AR n.a.toNat).f=n.f:=λh=>ZG λq=>c5 ⟨h,q⟩
 have d6:n.op=2->¬i<p.head/\0<=n.a/\n.a<p.ns:=λh=>⟨λq=>c6 ⟨h,.inl q⟩,ZG λq=>c6 ⟨h,.inr q⟩⟩
 by_cases c7:n.op=3
 ·rw[if_pos c7];exact⟨λh=>⟨c1,c2',c3,d4,d5,d6,λ_=>h,λq=>absurd c7 q⟩,λh=>h.2.2.2.2.2.2.1 c7⟩
 rw[if_neg c7]
 cases hk:(bf n).all (de p i)with
 |true=>exact⟨λ_=>⟨c1,c2',c3,d4,d5,d6,λq=>absurd q c7,λ_=>rfl⟩,λ_=>(by simp)⟩
 |false=>exact⟨λh=>(by simp at h),λh=>(by have:=h.2.2.2.2.2.2.2 c7;cases this)⟩
structure Vy(p:PD)(j:Int)(n:Nd):Prop where
 op:1<=n.op/\n.op<=15
 ne:n.op≠2
 idle:iW n=true
 fm:0<=n.f/\n.f<p.nf
 AR:n.op=1->0<=n.a/\n.a<p.ni
 inf:n.op=1->(p.AR n.a.toNat).f=n.f
 qA:n.op=3->eE n.v=0
 kids:∀x∈bf n,0<=x/\x<j
theorem Md(hg:p.good)(hi:i<p.nn)(h2:(p.nd i).op≠2):Vy p i (p.nd i):=by
 obtain⟨a,b,c,d,e,_,f,_⟩:=CE.1 (hg.nodes i hi);exact⟨a,h2,b,c,d,e,f,(mg hg hi).2.2⟩
def Ej(hg:p.good)(hi:i<p.nn)(hh:(i:Int)<p.head):(p.nd i).op≠2:=by
 intro h2;obtain⟨_,_,_,_,_,f,_⟩:=CE.1 (hg.nodes i hi);exact(f h2).1 hh
theorem DU(l:List Int)(h:1<=n.op/\n.op<=15):bf (n.gZ l)=(bf n).map λx=>l.getD x.toNat 0:=by
 have e1:bf n=n.l4.take (bS n.op):=if_pos h;have e2:bf (n.gZ l)=[nv l (bS n.op) 4 0 n.a,nv l (bS n.op) 4 1 n.b,nv l (bS n.op) 4 2 n.c,nv l (bS n.op) 4 3 n.d].take (bS n.op):=if_pos h;rw[e1,e2];have hk:=jW n.op;generalize bS n.op=kk at*
 unfold Nd.l4;have:kk=0\/kk=1\/kk=2\/kk=3\/kk=4:=by omega
 rcases this with rfl|rfl|rfl|rfl|rfl<;>simp[nv]
def KF(op:Int):bS op<=fk op:=by
 unfold fk;split
 ·rename_i h
  rcases h with rfl|rfl<;>simp[bS]
 ·exact aY _
theorem Ge(n:Nd)(l:List Int):iW (n.gZ l)=iW n:=by
 have e:(n.gZ l).l4.drop (fk n.op)=n.l4.drop (fk n.op):=by
  show [nv l (bS n.op) 4 0 n.a,nv l (bS n.op) 4 1 n.b,nv l (bS n.op) 4 2 n.c,nv l (bS n.op) 4 3 n.d].drop (fk n.op)=[n.a,n.b,n.c,n.d].drop (fk n.op);have h1:=KF n.op;have h2:=xX n.op;generalize bS n.op=kk at*
  generalize fk n.op=uu at*
  have hu:uu=0\/uu=1\/uu=2\/uu=3\/uu=4:=by omega
  have nvi:∀(j:Nat) (x:Int),kk<=j->nv l kk 4 j x=x:=λj x hj=>by unfold nv;rw[if_neg (by omega)]
  rcases hu with rfl|rfl|rfl|rfl|rfl
  ·simp[nvi 0 n.a (by omega),nvi 1 n.b (by omega),nvi 2 n.c (by omega),nvi 3 n.d (by omega)]
  ·simp[nvi 1 n.b (by omega),nvi 2 n.c (by omega),nvi 3 n.d (by omega)]
  ·simp[nvi 2 n.c (by omega),nvi 3 n.d (by omega)]
  ·simp[nvi 3 n.d (by omega)]
  ·simp
 show(((n.gZ l).l4.drop (fk n.op)).all _&&_)=_;rw[e];rfl
theorem Ko(hop:1<=n.op/\n.op<=15)(h:∀x∈bf n,l.getD x.toNat 0=x):n.gZ l=n:=by
 have e1:bf n=n.l4.take (bS n.op):=if_pos hop;rw[e1]at h;obtain⟨op,a,b,c,d,f,v⟩:=n;show(⟨op,nv l (bS op) 4 0 a,nv l (bS op) 4 1 b,nv l (bS op) 4 2 c,nv l (bS op) 4 3 d,f,v⟩:Nd)=⟨op,a,b,c,d,f,v⟩
 have h:∀x∈[a,b,c,d].take (bS op),l.getD x.toNat 0=x:=h;have hk:=jW op;generalize bS op=kk at*
 have ha:nv l kk 4 0 a=a:=by
  unfold nv;split
  ·exact h a (by have:0<kk:=by omega
                 obtain⟨k,rfl⟩:∃k,kk=k+1:=⟨kk-1,by omega⟩
                 simp)
  ·rfl
 have hb:nv l kk 4 1 b=b:=by
  unfold nv;split
  ·exact h b (by obtain⟨k,rfl⟩:∃ k,kk=k+2:=⟨kk - 2,by omega⟩
                 simp)
  ·rfl
 have hc:nv l kk 4 2 c=c:=by
  unfold nv;split
  ·exact h c (by obtain⟨k,rfl⟩:∃ k,kk=k+3:=⟨kk - 3,by omega⟩
                 simp)
  ·rfl
 have hd:nv l kk 4 3 d=d:=by
  unfold nv;split
  ·exact h d (by obtain⟨k,rfl⟩:∃ k,kk=k+4:=⟨kk - 4,by omega⟩
                 simp)
  ·rfl
 rw[ha,hb,hc,hd]
def J7{i j:Int}(h:Vy p i n)(hk:∀x∈bf n,0<=l.getD x.toNat 0/\l.getD x.toNat 0<j):Vy p j (n.gZ l):=by
 refine⟨h.op,h.ne,by rw[Ge];exact h.idle,h.fm,λh1=>?_,λh1=>?_,h.qA,λx hx=>?_⟩
 ·have e:(n.gZ l).a=n.a:=by
   have h1':n.op=1:=h1;show nv l (bS n.op) 4 0 n.a=n.a;rw[h1'];rfl
  rw[e];exact h.AR h1
 ·have e:(n.gZ l).a=n.a:=by
   have h1':n.op=1:=h1;show nv l (bS n.op) 4 0 n.a=n.a;rw[h1'];rfl
  rw[e];exact h.inf h1
 ·rw[DU l h.op]at hx;obtain⟨y,hy,rfl⟩:=List.mem_map.1 hx;exact hk y hy
def Il(n k:Nat):List Int:=(List.range n).map λj=>if j<k then(j:Int)else 0
def P6(n k:Nat):(Il n k).length=n:=by simp[Il]
def Mv(n:Nat):Il n 0=List.replicate n 0:=by
 refine abU (by simp[Il]) λi h1 h2=>?_;simp[Il]
theorem P4{n:Nat}(h:k<n):(Il n k).set k (k:Int)=Il n (k+1):=by
 refine abU (by simp[Il]) λi h1 h2=>?_;simp only[Il,List.getElem_set,Za,ab9]
 by_cases e:k=i
 ·subst e;rw[if_pos rfl,if_pos (by omega)]
 ·rw[if_neg e]
  by_cases q:i<k
  ·rw[if_pos q,if_pos (by omega)]
  ·rw[if_neg q,if_neg (by omega)]
def Im{n x:Nat}(h:x<k)(hk:k<=n):(Il n k).getD x 0=x:=by
 rw[Y8,cy (by rw[P6];omega)];simp[Il,h]
def P0{n:Nat}(h:0<k):∀x∈Il n k,0<=x/\x<k:=by
 intro x hx;obtain⟨j,_,rfl⟩:=List.mem_map.1 hx;split<;>omega
def OZ(hi:i<p.nn):p.N.take (i+1)=p.N.take i++[p.nd i]:=by
 have h:i<p.N.length:=by rw[PD.El];exact hi
 rw[abr,cy h,PD.QC];rfl
def yh{p:PD}(hg:p.good)(now:List Int):∀k,k<=p.head.toNat->cZ p now (List.replicate p.nn 0,[]) 0 k=(Il p.nn k,p.N.take k)
 |0,_=>by rw[Mv];rfl
 |k+1,h=>by
  have ih:=yh hg now k (by omega);obtain⟨_,_,⟨c1,c2,c3⟩,_⟩:=gw.1 hg.gen;have hkn:k<p.nn:=by omega
  have hne:=Ej hg hkn (by omega);have hl:(p.N.take k).length=k:=by rw[Ze,PD.El];omega
  rw[fO,ih,Zw];unfold iC;rw[if_neg hne];simp only[hl];rw[P4 hkn,OZ hkn,Ko (mg hg hkn).1 λx hx=>?_];have:=(mg hg hkn).2.2 x hx;rw[Im (by omega) (by omega)];omega
def xN(hg:p.good):mD p=(Il p.nn p.head.toNat,p.N.take p.head.toNat):=yh hg _ _ (by omega)
def Nr(hg:p.good)(h:cZ p (List.replicate p.ns 0) (List.replicate p.nn 0,[]) 0 (p.head.toNat-0)=(av,L)):1<=L.length:=by
 have h1:=xN hg;have h2:=C3 hg;obtain⟨_,_,⟨c1,c2,c3⟩,_⟩:=gw.1 hg.gen;unfold mD at h1;rw[h]at h1;have e:L=p.N.take p.head.toNat:=congrArg Prod.snd h1;rw[e,Ze,PD.El];omega
structure OE(p:PD)(av:List Int)(L:List Nd):Prop where
 at':∀x∈av,0<=x/\x<L.length
 nd:∀j (h:j<L.length),Vy p j L[j]
 pos:0<L.length
def tI(h:∀x∈l,0<=x/\x<M)(hM:0<M)(i:Nat):0<=l.getD i 0/\l.getD i 0<M:=by
 by_cases hi:i<l.length
 ·rw[Y8,cy hi];exact h _ (bh hi)
 ·rw[Y8,aa3 (by omega)];exact⟨Int.le_refl _,hM⟩
def Ns(hg:p.good)(h:OE p av L)(hn:∀x∈now,0<=x/\x<L.length)(hi:i<p.nn):OE p (iC p now (av,L) i).1 (iC p now (av,L) i).2:=by
 have hp:=h.pos;unfold iC
 by_cases h2:(p.nd i).op=2
 ·rw[if_pos h2];refine⟨λx hx=>?_,h.nd,h.pos⟩;rcases aci hx with hx|rfl
  ·exact h.at' x hx
  ·exact tI hn (by omega) _
 ·rw[if_neg h2];refine⟨λx hx=>?_,λj hj=>?_,by simp⟩
  ·simp only[Zg,ZA,aaG];rcases aci hx with hx|rfl
   ·have:=h.at' x hx;omega
   ·simp only;omega
  ·simp only[Zg,ZA,aaG]at hj
   by_cases hjl:j<L.length
   ·simp only[ZN hjl];exact h.nd j hjl
   ·obtain rfl:j=L.length:=by omega
    simp only[Z3 (aY _),aa2,ZJ];refine J7 (Md hg hi h2) λx hx=>?_;have hx2:=(mg hg hi).2.2 x hx
    have e:(av.set i (L.length:Int)).getD x.toNat 0=av.getD x.toNat 0:=by
     rw[Y8,Y8,List.getElem?_set_ne (by omega)]
    rw[e];exact tI h.at' (by omega) _
def Ki{N:Int}(h:∀x∈l,0<=x/\x<M)(hM:M<=N):∀x∈l,0<=x/\x<N:=λx hx=>by have:=h x hx;omega
def B9{p:PD}(hg:p.good){now av:List Int}{L:List Nd}(h:OE p av L)(hn:∀x∈now,0<=x/\x<L.length)(i:Nat):∀k,i+k<=p.nn->OE p (cZ p now (av,L) i k).1 (cZ p now (av,L) i k).2
 |0,_=>h
 |k+1,hk=>by
  have ih:=B9 hg h hn i k (by omega);have hl:=jP p now (av,L) i k;rw[fO];exact Ns hg ih (Ki (N:=(cZ p now (av,L) i k).2.length) hn (by simp only at hl;omega)) (by omega)
def CR{p:PD}{av l:List Int}{M:Int}{sel:Int×Int->Int}(ha:∀x∈av,0<=x/\x<M)(hl:∀x∈l,0<=x/\x<M)(hM:0<M):∀j,∀x∈od p av sel j l,0<=x/\x<M
 |0=>hl
 |j+1=>λx hx=>by
  rw[od]at hx;rcases aci hx with hx|rfl
  ·exact CR ha hl hM j x hx
  ·exact tI ha hM _
def Io(hM:0<M)(n:Nat):∀x∈List.replicate n (0:Int),0<=x/\x<M:=λx hx=>by
 rw[List.eq_of_mem_replicate hx];omega
def KH{p:PD}(hg:p.good){s:List Int×List Int×List Nd}(h:OE p s.2.1 s.2.2)(hn:∀x∈s.1,0<=x/\x<s.2.2.length):∀j,OE p (nY p s j).2.1 (nY p s j).2.2/\∀x∈(nY p s j).1,0<=x/\x<(nY p s j).2.2.length
 |0=>⟨h,hn⟩
 |j+1=>by
  obtain⟨h1,h2⟩:=KH hg h hn j;obtain⟨_,_,⟨c1,c2,c3⟩,_⟩:=gw.1 hg.gen;have h3:=B9 hg h1 h2 p.head.toNat (p.tail.toNat-p.head.toNat) (by omega);exact⟨h3,CR h3.at' (Io (by have:=h3.pos;omega) _) (by have:=h3.pos;omega) _⟩
def OD(hg:p.good):OE p (mD p).1 (mD p).2:=by
 have h2:=C3 hg;obtain⟨_,_,⟨c1,c2,c3⟩,_⟩:=gw.1 hg.gen;rw[xN hg];have hl:(p.N.take p.head.toNat).length=p.head.toNat:=by rw[Ze,PD.El];omega
 refine⟨λx hx=>?_,λj hj=>?_,by simp only;omega⟩
 ·simp only[hl];exact P0 (by omega) x hx
 ·simp only[hl]at hj;simp only[aaN,PD.QC];exact Md hg (by omega) (Ej hg (by omega) (by omega))
def PT(hg:p.good)(n:Nat):OE p (jE p n).2.1 (jE p n).2.2/\∀x∈(jE p n).1,0<=x/\x<(jE p n).2.2.length:=by
 have h:=OD hg;exact KH hg (s:=(od p (mD p).1 Prod.fst p.ns (List.replicate p.ns 0),(mD p).1,(mD p).2)) h (CR h.at' (Io (by have:=h.pos;omega) _) (by have:=h.pos;omega) _) n
def Pj(hg:p.good)(n:Nat):OE p (hU p n).1 (hU p n).2:=by
 obtain⟨h1,h2⟩:=PT hg n;obtain⟨_,_,⟨c1,c2,c3⟩,_⟩:=gw.1 hg.gen;exact B9 hg h1 h2 _ _ (by omega)
def yq(p:PD)(now:List Int)(s:List Int×List Nd)(i:Nat):∀k,(cZ p now s i k).2.length+pZ p i k=s.2.length+k
 |0=>rfl
 |k+1=>by
  have ih:=yq p now s i k;rw[fO,mJ];unfold iC
  by_cases h2:(p.nd (i+k)).op=2
  ·rw[if_pos h2,if_pos h2];simp only;omega
  ·rw[if_neg h2,if_neg h2];simp only[Zg,ZA,aaG];omega
def yV{p:PD}(hg:p.good):∀n:Nat,((jE p n).2.2.length:Int)=p.head+n*jh p
 |0=>by
  obtain⟨_,_,⟨c1,c2,c3⟩,_⟩:=gw.1 hg.gen;show(((mD p).2.length:Nat):Int)=_;rw[xN hg];simp only[Ze,PD.El];rw[abK,Int.zero_mul];omega
 |n+1=>by
  have ih:=yV hg n;obtain⟨_,_,⟨c1,c2,c3⟩,_⟩:=gw.1 hg.gen;have h:=yq p (jE p n).1 ((jE p n).2.1,(jE p n).2.2) p.head.toNat (p.tail.toNat-p.head.toNat);show(((cZ p (jE p n).1 ((jE p n).2.1,(jE p n).2.2) p.head.toNat (p.tail.toNat-p.head.toNat)).2.length:Nat):Int)=_;simp only at h;rw[Int.natCast_add,Int.add_mul,Int.natCast_one,Int.one_mul];have hx:jh p=p.tail-p.head-pZ p p.head.toNat (p.tail.toNat-p.head.toNat):=rfl;generalize (n:Int)*jh p=nx at*
  generalize jh p=ux at*
  omega
def HJ(hg:p.good){s:Int}(hs:0<=s):((hU p s.toNat).2.length:Int)=yp p s:=by
 have h1:=yV hg s.toNat;obtain⟨_,_,⟨c1,c2,c3⟩,_⟩:=gw.1 hg.gen;have h:=yq p (jE p s.toNat).1 ((jE p s.toNat).2.1,(jE p s.toNat).2.2) p.tail.toNat (p.nn-p.tail.toNat);show(((cZ p (jE p s.toNat).1 ((jE p s.toNat).2.1,(jE p s.toNat).2.2) p.tail.toNat (p.nn-p.tail.toNat)).2.length:Nat):Int)=_;simp only at h;rw[Int.toNat_of_nonneg hs]at h1;unfold yp;omega
def O6(p:PD)(n:Nat):(jy p n).nn=(hU p n).2.length:=by simp[PD.nn,jy,sO]
def Ox(p:PD)(n:Nat)(hi:i<(hU p n).2.length):(jy p n).nd i=(hU p n).2[i]:=by
 show Py ((((hU p n).2.map Nd.e)).getD i [])=_;rw[Y8,aba,cy hi];rfl
theorem LJ(hg:p.good)(n:Nat)(hb:(hU p n).2.length<=64):(jy p n).good:=by
 have h:=Pj hg n;have hp:=h.pos;obtain⟨⟨a1,a2,a3,a4⟩,⟨b1,b2,b3,b4⟩,⟨c1,c2,c3⟩,d⟩:=gw.1 hg.gen;have hnn:=O6 p n;have hhd:(jy p n).head=(hU p n).2.length:=rfl;have htl:(jy p n).tail=(hU p n).2.length:=rfl;have hns:(jy p n).ns=0:=rfl;have hnf:(jy p n).nf=p.nf:=rfl;have hni:(jy p n).ni=p.ni:=rfl;have hmd:(jy p n).mode=p.mode:=rfl;have hres:(jy p n).res=(hU p n).1.getD p.res.toNat 0:=rfl;have hr:=tI h.at' (by omega) p.res.toNat;refine⟨⟨hg.ok.f,hg.ok.ins,λe he=>?_,λe he=>by cases he⟩,gw.2 ⟨⟨by omega,by omega,by omega,by omega⟩,⟨by omega,by omega,by omega,by omega⟩,⟨by omega,by omega,by omega⟩,λ_=>by omega⟩,hg.XL,hg.ins,λi hi=>?_,λi hi=>by omega,?_⟩
 ·obtain⟨x,_,rfl⟩:=List.mem_map.1 (show e∈(hU p n).2.map Nd.e from he);exact Um x
 ·rw[hnn]at hi;rw[Ox p n hi];have hd:=h.nd i hi;refine CE.2 ⟨hd.op,hd.idle,hd.fm,hd.AR,hd.inf,λh2=>absurd h2 hd.ne,hd.qA,λ_=>?_⟩;rw[Zb];intro x hx;have:=hd.kids x hx;have e:jZ (jy p n) x=0:=by unfold jZ;rw[if_pos (by omega)]
  unfold de;rw[e,decide_eq_true this];rfl
 ·rw[hres,hnn];refine⟨hr.1,hr.2,?_⟩;unfold jZ;rw[if_pos (by omega)];decide
theorem Ma(G:List (List DV))(p:PD)(hp:p.ok)(ht:p.Cx):aa prog G 53 [p.A] (.agg (qD p (.d .nilsl))):=by
 have e1:=jY (n:=7) (lv:=bq [] [j7 81 p.nz.f,j7 67 p.nz.ins]) (k:=1000) (o:=p.nz.f) (E:=81) (sz:=2) (by rw[B8];simp) (λe he=>iI (hp.f e he)) ht.f;have e2:=jY (n:=7) (lv:=bq [] [j7 81 p.nz.f,j7 67 p.nz.ins]) (k:=1001) (o:=p.nz.ins) (E:=67) (sz:=3) (by rw[B8];simp) (λe he=>mW (hp.ins e he)) ht.i;refine aa.L7 (PV G p hp ht) (ks:=[1000,1001]) ?_;have f1:∀(lv:Key->LB) (x:DV),cR lv 8 (.d x)=some (x,[]):=λlv x=>rfl
 have e3:=vz ⟨p.nz.f,p.mode,p.nz.ins,none,0,0,none,0⟩;change cR _ 8 (.aD 1000 0 p.nf 2)=_ at e1;change cR _ 8 (.aD 1001 0 p.ni 3)=_ at e2;simp only[fF,eP,fN,e1,e2,f1,Zs,ZL,aaS];exact congrArg (λl=>some (AV.agg l,[1000,1001])) e3
def gS(L:List Nd):CV:=if L=[]then .d .nilsl else .aD 5 0 L.length 7
def gV(L0 L:List Nd):CV:=if L.length=L0.length then gS L else .aD 6 0 L.length 7
abbrev JA(p:PD)(now at':List Int)(v:CV)(b5 b6 b7:LB):Key->LB:=
 az (az (az (az (az (az (az (az (λ_=>.hole) 0 (.cells true false 27 p.cs)) 1 (.cells true false 27 iU.cs)) 2 (.cells true false 27 (qD p v))) 3 (.cells true false 3 (zK at'))) 4 (.cells true false 3 (zK now))) 5 b5) 6 b6) 7 b7
abbrev gM(p:PD)(now at':List Int)(v:CV)(b5 b7:LB)(k3 k4 k5 k7:Key):List (Key×Key×LB):=[(0,0,.cells true false 27 p.cs),(1,1,.cells true false 27 iU.cs),(2,2,.cells true false 27 (qD p v)),(3,k3,.cells true false 3 (zK at')),(4,k4,.cells true false 3 (zK now)),(5,k5,b5),(7,k7,b7)]
theorem NM(hc:c.iV=λ_=>.hole)(L:List Nd)(k3 k4 k5 k7:Key)(b7:LB)(l:List (Nat×AV))(hn:([0,1,2,k3,k4,k5,k7]:List Key).Nodup)
 (h0:lv 0=.cells true false 27 p.cs) (h1:lv 1=.cells true false 27 iU.cs) (h2:lv 2=.cells true false 27 (qD p (if L=[]then .d .nilsl else .aD k5 0 L.length 7))) (h3:lv k3=.cells true false 3 (zK av)) (h4:lv k4=.cells true false 3 (zK now)) (h5:∀g,(lv k5).like (uB L) g) (h7:∀g,(lv k7).like b7 g) (h9:lv 19=.hole)
 (hl:∀x∈l,x.2.bC=true/\fr x.1=x.2.bM (bP (gM p now av (gS L) (uB L) b7 k3 k4 k5 k7) 19)):Le c ⟨fr,lv⟩ ⟨aU l,JA p now av (gS L) (uB L) .hole b7⟩:=by
 refine Le.keys (gM p now av (gS L) (uB L) b7 k3 k4 k5 k7) 19 l ?_ hc (by simp) hn h9 ?_ hl
 ·exact congrArg (λf=>az f 7 b7) (iq (k:=6) rfl)
 ·intro x hx;simp only[rP,Zd,or_false]at hx;rcases hx with rfl|rfl|rfl|rfl|rfl|rfl|rfl
  ·exact⟨true,p.cs,h0,(fR p _).symm,id⟩
  ·exact⟨true,iU.cs,h1,(fR iU _).symm,id⟩
  ·refine⟨true,_,h2,?_,id⟩
   have:(gS L).bM (bP (gM p now av (gS L) (uB L) b7 k3 k4 k5 k7) 19)=if L=[]then .d .nilsl else .aD k5 0 L.length 7:=by
    unfold gS;split<;>rfl
   simp[qD,this]
  ·exact⟨true,_,h3,(bp _ _).symm,id⟩
  ·exact⟨true,_,h4,(bp _ _).symm,id⟩
  ·exact h5 _
  ·exact h7 _
def KU(hc:c.iV=λ_=>.hole)(v:CV)(L0 L:List Nd)(hLL:L0.length<=L.length)(l:List (Nat×AV))(hlv:lv=az (JA p now av v (u7 L0 L) (u8 L0 L) .hole) 2 (.cells true false 27 (qD p (gV L0 L))))
 (hl:∀k5,∀x∈l,x.2.bC=true/\fr x.1=x.2.bM (bP (gM p now av (gS L) (uB L) .hole 3 4 k5 7) 19)):Le c ⟨fr,lv⟩ ⟨aU l,JA p now av (gS L) (uB L) .hole .hole⟩:=by
 by_cases h:L.length=L0.length
 ·subst hlv;refine NM hc L 3 4 5 7 .hole l (by decide) rfl rfl ?_ rfl rfl (λg=>?_) (λg=>rfl) rfl (hl 5)
  ·show LB.cells true false 27 (qD p (gV L0 L))=_;rw[show gV L0 L=gS L from if_pos h];rfl
  ·show(u7 L0 L).like (uB L) g;rw[show u7 L0 L=uB L from if_pos h];exact ga L g
 ·have hne:L≠[]:=λe=>h (by rw[e]at hLL⊢;simp only[aaG]at hLL⊢;omega)
  subst hlv;refine NM hc L 3 4 6 7 .hole l (by decide) rfl rfl ?_ rfl rfl (λg=>?_) (λg=>rfl) rfl (hl 6)
  ·rw[if_neg hne];show LB.cells true false 27 (qD p (gV L0 L))=_;rw[show gV L0 L=.aD 6 0 L.length 7 from if_neg h]
  ·show(u8 L0 L).like (uB L) g;rw[show u8 L0 L=.cells true false 55 (gm L) from if_neg h,<-show uB L=.cells true false 55 (gm L) from if_neg hne];exact ga L g
theorem ag.sec{K:AV->List (Key×LB)->List Key->Nat->Prop}(κ':Nat)(p:PD)(now dm av:List Int)(L0 L:List Nd){a b:CV}(ha:(AV.c a).pure=true)(hb:(AV.c b).pure=true)(hL:L.length=L0.length->L=L0){n1 n2:Nat}(hn1:dm.length=n1)(hn2:now.length=n2)
 (hc:aA c.P c.G 81 [.agg (qD p (qS 2 L0)),p.A,.c a,.c b,.c (.aD 0 0 n1 1),.c (.aD 1 0 n2 1)] (sS dm now (oB L0 (qB L0))) (.ret (.agg (qD p (NS L0 L))) (sS av now (oB L0 (r6 L0 L))) (rN L0 L)))
 (hK:∀Fj rds,aQ (JA p now dm (gS L0) (uB L0) .hole .hole) Fj=JA p now av (gS L0) (u7 L0 L) (u8 L0 L) .hole->K (.agg (qD p (gV L0 L))) Fj rds κ') :
 ag c 81 [.agg (qD p (gS L0)),p.A,.c a,.c b,.c (.aD 3 0 n1 1),.c (.aD 4 0 n2 1)] (JA p now dm (gS L0) (uB L0) .hole .hole) K:=by
 subst hn1 hn2
 by_cases h0:L0=[]<;>by_cases h1:L.length=L0.length
 ·obtain rfl:L0=L:=(hL h1).symm;have f1:sS dm now (oB L0 (qB L0))=[bZ dm,bZ now]:=by simp[sS,oB,qB,h0]
  have f2:sS av now (oB L0 (r6 L0 L0))=[bZ av,bZ now]:=by simp[sS,oB,qB,r6,h0]
  have f3:rN L0 L0=[]:=by simp[rN]
  rw[f1,f2,f3]at hc;have g0:gS L0=CV.d .nilsl:=if_pos h0;have g1:qS 2 L0=CV.d .nilsl:=if_pos h0;have b0:uB L0=.hole:=if_pos h0;rw[g1]at hc;rw[g0,b0]at hK⊢;refine ag.wh κ' 8 true [3,4] [] _ _ _ [0,1,2,3,4,5,6,7,8] hc (by simp) (by simp) rfl rfl rfl (by simp) ?_ (by simp) rfl (by simp[LB.pass]) (by simp) (by simp[LB.qh]) rfl ?_ ?_ (by simp) ?_
  ·intro i q1 q2;rcases i with _|_|_|i
   ·exact⟨true,_,rfl,(bp _ _).symm,λ_=>rfl⟩
   ·exact⟨true,_,rfl,(bp _ _).symm,λ_=>rfl⟩
   ·simp at q1
   ·simp at q1;omega
  ·intro i q1 q2;rcases i with _|_|_|_|_|_|i
   ·refine⟨by simp[AV.bC],?_⟩;simp[qD,aG]
   ·exact⟨by simp[AV.bC],by simp[PD.A]⟩
   ·exact⟨AV.bx ha,(AV.aT ha _).symm⟩
   ·exact⟨AV.bx hb,(AV.aT hb _).symm⟩
   ·exact⟨rfl,rfl⟩
   ·exact⟨rfl,rfl⟩
   ·simp at q1;omega
  ·intro x hx k hk;simp only[rP,Zd,or_false]at hx;rcases hx with rfl|rfl|rfl|rfl|rfl|rfl
   ·simp[hO,fK,cB,dg,dN,dQ,qD]at hk<;>simp[hk]
   ·simp[hO,fK,cB,dg,dN,dQ]at hk<;>simp[hk]
   ·rw[cj ha]at hk;cases hk
   ·rw[cj hb]at hk;cases hk
   ·simp[hO,fK,cB,dg,dN,dQ]at hk;simp[hk]
   ·simp[hO,fK,cB,dg,dN,dQ]at hk;simp[hk]
  ·refine(congrArg (λX=>K X _ _ κ') ?_).mp (hK _ _ ?_)
   ·simp[qD,NS,gV,gS,qS,h0,aG]
   funext k
   by_cases q0:k=0
   ·subst q0;rfl
   by_cases q1:k=1
   ·subst q1;rfl
   by_cases q2:k=2
   ·subst q2;rfl
   by_cases q3:k=3
   ·subst q3;exact congrArg (LB.cells true false 3) (bp av _)
   by_cases q4:k=4
   ·subst q4;exact congrArg (LB.cells true false 3) (bp now _)
   by_cases q5:k=5
   ·subst q5;simp[u7,uB,h0,aQ,bD,az,ct,LB.bM]
   by_cases q6:k=6
   ·subst q6;simp[u8,h0,aQ,bD,az,ct,LB.bM]
   simp[aQ,bD,az,q0,q1,q2,q3,q4,q5,q6]
 ·have hne:L≠[]:=λh=>h1 (by rw[h,h0])
  have f1:sS dm now (oB L0 (qB L0))=[bZ dm,bZ now]:=by simp[sS,oB,qB,h0]
  have f2:sS av now (oB L0 (r6 L0 L))=[bZ av,bZ now]:=by simp[sS,oB,qB,r6,h0,h1,hne]
  have f3:rN L0 L=[.cells false false 55 (gm L)]:=by simp[rN,h1]
  rw[f1,f2,f3]at hc;have g0:gS L0=CV.d .nilsl:=if_pos h0;have g1:qS 2 L0=CV.d .nilsl:=if_pos h0;have b0:uB L0=.hole:=if_pos h0;rw[g1]at hc;rw[g0,b0]at hK⊢;refine ag.wh κ' 8 true [3,4] [6] _ _ _ [0,1,2,3,4,5,6,7,8] hc (by simp) (by simp) rfl rfl rfl (by simp) ?_ (by simp) rfl (by simp[LB.pass]) (by simp) (by simp[LB.qh]) rfl ?_ ?_ (by simp) ?_
  ·intro i q1 q2;rcases i with _|_|_|i
   ·exact⟨true,_,rfl,(bp _ _).symm,λ_=>rfl⟩
   ·exact⟨true,_,rfl,(bp _ _).symm,λ_=>rfl⟩
   ·simp at q1
   ·simp at q1;omega
  ·intro i q1 q2;rcases i with _|_|_|_|_|_|i
   ·refine⟨by simp[AV.bC],?_⟩;simp[qD,aG]
   ·exact⟨by simp[AV.bC],by simp[PD.A]⟩
   ·exact⟨AV.bx ha,(AV.aT ha _).symm⟩
   ·exact⟨AV.bx hb,(AV.aT hb _).symm⟩
   ·exact⟨rfl,rfl⟩
   ·exact⟨rfl,rfl⟩
   ·simp at q1;omega
  ·intro x hx k hk;simp only[rP,Zd,or_false]at hx;rcases hx with rfl|rfl|rfl|rfl|rfl|rfl
   ·simp[hO,fK,cB,dg,dN,dQ,qD]at hk<;>simp[hk]
   ·simp[hO,fK,cB,dg,dN,dQ]at hk<;>simp[hk]
   ·rw[cj ha]at hk;cases hk
   ·rw[cj hb]at hk;cases hk
   ·simp[hO,fK,cB,dg,dN,dQ]at hk;simp[hk]
   ·simp[hO,fK,cB,dg,dN,dQ]at hk;simp[hk]
  ·refine(congrArg (λX=>K X _ _ κ') ?_).mp (hK _ _ ?_)
   ·simp[qD,NS,gV,gS,qS,h0,h1,hne,aG]
   funext k
   by_cases q0:k=0
   ·subst q0;rfl
   by_cases q1:k=1
   ·subst q1;rfl
   by_cases q2:k=2
   ·subst q2;rfl
   by_cases q3:k=3
   ·subst q3;exact congrArg (LB.cells true false 3) (bp av _)
   by_cases q4:k=4
   ·subst q4;exact congrArg (LB.cells true false 3) (bp now _)
   by_cases q5:k=5
   ·subst q5;simp[u7,uB,h0,h1,hne,aQ,bD,az,ct,LB.bM]
   by_cases q6:k=6
   ·subst q6;simp[u8,h0,h1,hne,aQ,bD,az,ct,LB.bM]
   simp[aQ,bD,az,q0,q1,q2,q3,q4,q5,q6]
 ·obtain rfl:L0=L:=(hL h1).symm;have f1:sS dm now (oB L0 (qB L0))=[bZ dm,bZ now,.cells false false 55 (gm L0)]:=by simp[sS,oB,qB,h0]
  have f2:sS av now (oB L0 (r6 L0 L0))=[bZ av,bZ now,.cells false false 55 (gm L0)]:=by simp[sS,oB,qB,r6,h0]
  have f3:rN L0 L0=[]:=by simp[rN]
  rw[f1,f2,f3]at hc;have g0:gS L0=.aD 5 0 L0.length 7:=if_neg h0;have g1:qS 2 L0=.aD 2 0 L0.length 7:=if_neg h0;have b0:uB L0=.cells true false 55 (gm L0):=if_neg h0;rw[g1]at hc;rw[g0,b0]at hK⊢;refine ag.wh κ' 8 true [3,4,5] [] _ _ _ [0,1,2,3,4,5,6,7,8] hc (by simp) (by simp) rfl rfl rfl (by simp) ?_ (by simp) rfl (by simp[LB.pass]) (by simp) (by simp[LB.qh]) rfl ?_ ?_ (by simp) ?_
  ·intro i q1 q2;rcases i with _|_|_|i
   ·exact⟨true,_,rfl,(bp _ _).symm,λ_=>rfl⟩
   ·exact⟨true,_,rfl,(bp _ _).symm,λ_=>rfl⟩
   ·exact⟨true,_,rfl,(ct L0 _).symm,λ_=>rfl⟩
   ·simp at q1;try omega
  ·intro i q1 q2;rcases i with _|_|_|_|_|_|i
   ·refine⟨by simp[AV.bC],?_⟩;simp[qD,aG]
   ·exact⟨by simp[AV.bC],by simp[PD.A]⟩
   ·exact⟨AV.bx ha,(AV.aT ha _).symm⟩
   ·exact⟨AV.bx hb,(AV.aT hb _).symm⟩
   ·exact⟨rfl,rfl⟩
   ·exact⟨rfl,rfl⟩
   ·simp at q1;omega
  ·intro x hx k hk;simp only[rP,Zd,or_false]at hx;rcases hx with rfl|rfl|rfl|rfl|rfl|rfl
   ·simp[hO,fK,cB,dg,dN,dQ,qD]at hk<;>simp[hk]
   ·simp[hO,fK,cB,dg,dN,dQ]at hk<;>simp[hk]
   ·rw[cj ha]at hk;cases hk
   ·rw[cj hb]at hk;cases hk
   ·simp[hO,fK,cB,dg,dN,dQ]at hk;simp[hk]
   ·simp[hO,fK,cB,dg,dN,dQ]at hk;simp[hk]
  ·refine(congrArg (λX=>K X _ _ κ') ?_).mp (hK _ _ ?_)
   ·simp[qD,NS,gV,gS,qS,h0,aG]
   funext k
   by_cases q0:k=0
   ·subst q0;rfl
   by_cases q1:k=1
   ·subst q1;rfl
   by_cases q2:k=2
   ·subst q2;rfl
   by_cases q3:k=3
   ·subst q3;exact congrArg (LB.cells true false 3) (bp av _)
   by_cases q4:k=4
   ·subst q4;exact congrArg (LB.cells true false 3) (bp now _)
   by_cases q5:k=5
   ·subst q5;simp[u7,uB,h0,aQ,bD,az,ct,LB.bM]
   by_cases q6:k=6
   ·subst q6;simp[u8,h0,aQ,bD,az,ct,LB.bM]
   simp[aQ,bD,az,q0,q1,q2,q3,q4,q5,q6]
 ·have hh:True:=trivial;have f1:sS dm now (oB L0 (qB L0))=[bZ dm,bZ now,.cells false false 55 (gm L0)]:=by simp[sS,oB,qB,h0]
  have f2:sS av now (oB L0 (r6 L0 L))=[bZ av,bZ now,.dead]:=by simp[sS,oB,qB,r6,h0,h1]
  have f3:rN L0 L=[.cells false false 55 (gm L)]:=by simp[rN,h1]
  rw[f1,f2,f3]at hc;have g0:gS L0=.aD 5 0 L0.length 7:=if_neg h0;have g1:qS 2 L0=.aD 2 0 L0.length 7:=if_neg h0;have b0:uB L0=.cells true false 55 (gm L0):=if_neg h0;rw[g1]at hc;rw[g0,b0]at hK⊢;refine ag.wh κ' 8 true [3,4,5] [6] _ _ _ [0,1,2,3,4,5,6,7,8] hc (by simp) (by simp) rfl rfl rfl (by simp) ?_ (by simp) rfl (by simp[LB.pass]) (by simp) (by simp[LB.qh]) rfl ?_ ?_ (by simp) ?_
  ·intro i q1 q2;rcases i with _|_|_|i
   ·exact⟨true,_,rfl,(bp _ _).symm,λ_=>rfl⟩
   ·exact⟨true,_,rfl,(bp _ _).symm,λ_=>rfl⟩
   ·exact⟨true,_,rfl,(ct L0 _).symm,λ_=>rfl⟩
   ·simp at q1;try omega
  ·intro i q1 q2;rcases i with _|_|_|_|_|_|i
   ·refine⟨by simp[AV.bC],?_⟩;simp[qD,aG]
   ·exact⟨by simp[AV.bC],by simp[PD.A]⟩
   ·exact⟨AV.bx ha,(AV.aT ha _).symm⟩
   ·exact⟨AV.bx hb,(AV.aT hb _).symm⟩
   ·exact⟨rfl,rfl⟩
   ·exact⟨rfl,rfl⟩
   ·simp at q1;omega
  ·intro x hx k hk;simp only[rP,Zd,or_false]at hx;rcases hx with rfl|rfl|rfl|rfl|rfl|rfl
   ·simp[hO,fK,cB,dg,dN,dQ,qD]at hk<;>simp[hk]
   ·simp[hO,fK,cB,dg,dN,dQ]at hk<;>simp[hk]
   ·rw[cj ha]at hk;cases hk
   ·rw[cj hb]at hk;cases hk
   ·simp[hO,fK,cB,dg,dN,dQ]at hk;simp[hk]
   ·simp[hO,fK,cB,dg,dN,dQ]at hk;simp[hk]
  ·refine(congrArg (λX=>K X _ _ κ') ?_).mp (hK _ _ ?_)
   ·simp[qD,NS,gV,gS,qS,h0,h1,aG]
   funext k
   by_cases q0:k=0
   ·subst q0;rfl
   by_cases q1:k=1
   ·subst q1;rfl
   by_cases q2:k=2
   ·subst q2;rfl
   by_cases q3:k=3
   ·subst q3;exact congrArg (LB.cells true false 3) (bp av _)
   by_cases q4:k=4
   ·subst q4;exact congrArg (LB.cells true false 3) (bp now _)
   by_cases q5:k=5
   ·subst q5;simp[u7,uB,h0,h1,aQ,bD,az,ct,LB.bM,LB.fix]
   by_cases q6:k=6
   ·subst q6;simp[u8,h0,h1,aQ,bD,az,ct,LB.bM]
   simp[aQ,bD,az,q0,q1,q2,q3,q4,q5,q6]
def PM{op:Int}(h1:1<=op)(h2:op<=15):(fk op:Int)=if op=1\/op=2 then 1 else eM op:=by
 unfold fk eM;rw[if_pos (⟨h1,h2⟩:1<=op/\op<=15)];split<;>rfl
theorem By(G:List (List DV))(n:Nd)(h1:1<=n.op)(h2:n.op<=15):aa prog G 170 [n.A] (.c (.d (.bool (!iW n)))):=by
 have hf:=vG G n;have ha:=mS G n.op;have hle:=xX n.op;have hu:=PM h1 h2;have hib:iW n=((n.l4.drop (fk n.op)).all (λx=>decide (x=0))&&(decide (n.v=[]) ||decide (n.op=3))):=rfl;generalize fk n.op=u at*
 refine aa.en func170 rfl λ_=>aab ?_;refine aar 1 ha ?_;refine aaa λK hK=>?_
 have tail:∀(fr:Nat->AV) (κ:Nat),fr 1=.c (.ptr 0 0)->fr 3=.c (.d (.int .i64 u))->K ⟨fr,az (λ_=>.hole) 0 (bN n)⟩ κ:=by
  intro fr κ z1 z3;apply hK;refine aaz 1 ?_;refine aak λK2 hK2=>?_;simp[z1,z3,aj];refine ag.p 1 9 hf ?_;simp;simp[aj];apply hK2;refine aaa λK2 hK2=>aap z1 z3 ?_;refine aaf ?_
  refine aao (λ(i:Nat)=>⟨aU [(1,.c (.ptr 0 0)),(4,.c (.ptr 1 0)),(5,.c (.d (.int .i64 i)))],az (az (λ_=>.hole) 0 (bN n)) 1 (.cells true false 85 (zK n.l4))⟩) 10
   (λi=>u<=i/\i<=4/\∀j (hj:u<=j) (hj2:j<i) (h:j<n.l4.length),n.l4[j]=0) (λi=>4-i) u (Le.mX _ rfl (by simp[z1])) ⟨aY _,hle,λj a b=>absurd b (by omega)⟩ ?_
  rintro i ⟨hi0,hi,hall⟩
  try simp only at hi0 hi hall
  refine aaa λK3 hK3=>aab ?_
  by_cases hlt:i<4
  ·have h4:i<n.l4.length:=hlt;have hld:=ez (P:=prog) (T:=3) (by simp) h4;have f12:=bF (n:=(i:Int)+1) (by omega) (by omega);refine aag (by simp[hlt]<;>omega) (aad (hK3 _ _ (aaa λK5 hK5=>aaf (aaC hld hlt @Je ?_))))
   by_cases h0:n.l4[i]=0
   ·refine aaj (by simp[h0]<;>omega) (aad (hK5 _ _ (aac ?_)));simp[f12];refine⟨i+1,Le.mX _,⟨by omega,by omega,λj a b h=>?_⟩,by omega⟩
    by_cases hji:j=i
    ·subst hji;exact h0
    ·exact hall j a (by omega) h
   ·have hb:iW n=false:=by
     rw[hib]
     have:(n.l4.drop u).all (λx=>decide (x=0))=false:=by
      rw[acw];refine⟨n.l4[i],?_,by simpa using h0⟩;rw[List.mem_iff_getElem];exact⟨i-u,by rw[aaM,Nd.fI];omega,by simp[show u+(i-u)=i by omega]⟩
     rw[this];rfl
    refine aag (by simp[h0]<;>omega) (aab ?_);exact aae (au.rt rfl 2 (by simp[hb]))
  ·have hall2:(n.l4.drop u).all (λx=>decide (x=0))=true:=by
    rw[Zb];intro x hx;obtain⟨j,hj,rfl⟩:=List.mem_iff_getElem.1 hx;rw[aaM,Nd.fI]at hj;have:=hall (u+j) (by omega) (by omega) (by rw[Nd.fI];omega);simpa using this
   have hi2:iW n=(decide (n.v=[]) ||decide (n.op=3)):=by rw[hib,hall2];rfl
   refine aaj (by simp[hlt]<;>omega) (aan (hK2 _ _ (aaa λK5 hK5=>?_)))
   by_cases h3:n.op=3
   ·have t3:(n.op=3)=True:=eq_true h3;refine aas t3 (hK5 _ _ ?_);exact aae (au.rt rfl 2 (by simp[hi2,t3]))
   ·refine aau h3 @CL (hK5 _ _ ?_);exact aae (au.rt rfl 2 (by simp[hi2,h3]))
 refine aaa λK1 hK1=>?_
 by_cases c1:n.op=1
 ·have hu1:u=1:=by rw[if_pos (.inl c1)]at hu;omega
  have t1:(n.op=1)=True:=eq_true c1;refine aas t1 (hK1 _ _ ?_);refine aai (aac ?_);simp;exact tail _ _ (by simp) (by simp[hu1])
 by_cases c2:n.op=2
 ·have hu1:u=1:=by rw[if_pos (.inr c2)]at hu;omega
  have t1:(n.op=2)=True:=eq_true c2;refine aau c1 t1 (hK1 _ _ ?_);refine aai (aac ?_);simp;exact tail _ _ (by simp) (by simp[hu1])
 rw[if_neg (by omega)]at hu;refine aau c1 c2 (hK1 _ _ ?_);refine aah (aad ?_);simp;exact tail _ _ (by simp) (by simp[hu])
theorem FV(G:List (List DV))(p:PD):aa prog G 89 [p.A] (.c (.d (.int .i64 (dB p)))):=by
 refine aa.en func89 rfl λ_=>aab ?_;refine aam @iN ?_;have r0:dB p=if 6<p.nf\/6<p.ni\/64<p.nn\/4<p.ns then 3 else if p.nf=0\/p.nn=0\/p.mode<0\/4<p.mode then 2 else if p.head<0\/p.tail<p.head\/(p.nn:Int)<p.tail then 2 else if p.ns=0/\p.head≠p.nn then 2 else 0:=rfl
 refine aaa λK hK=>aaa λK1 hK1=>?_
 by_cases e00:6<p.nf
 ·have e00':(6:Int)<(p.nf:Int):=by omega
  have hr:dB p=3:=by rw[r0];exact if_pos (.inl e00)
  refine aac ?_;simp[vZ,zV,iN,rZ,e00,e00'];apply hK1;refine aai (aab ?_);exact aae (au.rt rfl 2 (by simp[hr]))
 have e00':¬(6:Int)<(p.nf:Int):=by omega
 by_cases e01:6<p.ni
 ·have e01':(6:Int)<(p.ni:Int):=by omega
  have hr:dB p=3:=by rw[r0];exact if_pos (.inr (.inl e01))
  refine aac ?_;simp[vZ,zV,iN,rZ,e00,e01,e00',e01'];apply hK1;refine aai (aab ?_);exact aae (au.rt rfl 2 (by simp[hr]))
 have e01':¬(6:Int)<(p.ni:Int):=by omega
 by_cases e02:64<p.nn
 ·have e02':(64:Int)<(p.nn:Int):=by omega
  have hr:dB p=3:=by rw[r0];exact if_pos (.inr (.inr (.inl e02)))
  refine aac ?_;simp[vZ,zV,iN,rZ,e00,e01,e02,e00',e01',e02'];apply hK1;refine aai (aab ?_);exact aae (au.rt rfl 2 (by simp[hr]))
 have e02':¬(64:Int)<(p.nn:Int):=by omega
 by_cases e03:4<p.ns
 ·have e03':(4:Int)<(p.ns:Int):=by omega
  have hr:dB p=3:=by rw[r0];exact if_pos (.inr (.inr (.inr (e03))))
  refine aac ?_;simp[vZ,zV,iN,rZ,e00,e01,e02,e03,e00',e01',e02',e03'];apply hK1;refine aai (aab ?_);exact aae (au.rt rfl 2 (by simp[hr]))
 have e03':¬(4:Int)<(p.ns:Int):=by omega
 have r1:=r0;rw[if_neg (by omega)]at r1;refine aac ?_;simp[vZ,zV,iN,rZ,e00,e01,e02,e03,e00',e01',e02',e03'];apply hK1;refine aah (aad (hK _ _ (aaa λK hK=>aaa λK1 hK1=>?_)))
 by_cases e10:p.nf=0
 ·have e10':(p.nf:Int)=0:=by omega
  have hr:dB p=2:=by rw[r1];exact if_pos (.inl e10)
  refine aac ?_;simp[vZ,zV,iN,rZ,e10,e10'];apply hK1;refine aai (aab ?_);exact aae (au.rt rfl 2 (by simp[hr]))
 have e10':¬(p.nf:Int)=0:=by omega
 by_cases e11:p.nn=0
 ·have e11':(p.nn:Int)=0:=by omega
  have hr:dB p=2:=by rw[r1];exact if_pos (.inr (.inl e11))
  refine aac ?_;simp[vZ,zV,iN,rZ,e10,e11,e10',e11'];apply hK1;refine aai (aab ?_);exact aae (au.rt rfl 2 (by simp[hr]))
 have e11':¬(p.nn:Int)=0:=by omega
 by_cases e12:p.mode<0
 ·have e12':p.mode<0:=by omega
  have hr:dB p=2:=by rw[r1];exact if_pos (.inr (.inr (.inl e12)))
  refine aac ?_;simp[vZ,zV,iN,rZ,e10,e11,e12,e10',e11',e12'];apply hK1;refine aai (aab ?_);exact aae (au.rt rfl 2 (by simp[hr]))
 have e12':¬p.mode<0:=by omega
 by_cases e13:4<p.mode
 ·have e13':4<p.mode:=by omega
  have hr:dB p=2:=by rw[r1];exact if_pos (.inr (.inr (.inr (e13))))
  refine aac ?_;simp[vZ,zV,iN,rZ,e10,e11,e12,e13,e10',e11',e12',e13'];apply hK1;refine aai (aab ?_);exact aae (au.rt rfl 2 (by simp[hr]))
 have e13':¬4<p.mode:=by omega
 have r2:=r1;rw[if_neg (by omega)]at r2;refine aac ?_;simp[vZ,zV,iN,rZ,e10,e11,e12,e13,e10',e11',e12',e13'];apply hK1;refine aah (aad (hK _ _ (aaa λK hK=>aaa λK1 hK1=>?_)))
 by_cases e20:p.head<0
 ·have e20':p.head<0:=by omega
  have hr:dB p=2:=by rw[r2];exact if_pos (.inl e20)
  refine aac ?_;simp[vZ,zV,iN,rZ,e20,e20'];apply hK1;refine aai (aab ?_);exact aae (au.rt rfl 2 (by simp[hr]))
 have e20':¬p.head<0:=by omega
 by_cases e21:p.tail<p.head
 ·have e21':p.tail<p.head:=by omega
  have hr:dB p=2:=by rw[r2];exact if_pos (.inr (.inl e21))
  refine aac ?_;simp[vZ,zV,iN,rZ,e20,e21,e20',e21'];apply hK1;refine aai (aab ?_);exact aae (au.rt rfl 2 (by simp[hr]))
 have e21':¬p.tail<p.head:=by omega
 by_cases e22:(p.nn:Int)<p.tail
 ·have e22':(p.nn:Int)<p.tail:=by omega
  have hr:dB p=2:=by rw[r2];exact if_pos (.inr (.inr (e22)))
  refine aac ?_;simp[vZ,zV,iN,rZ,e20,e21,e22,e20',e21',e22'];apply hK1;refine aai (aab ?_);exact aae (au.rt rfl 2 (by simp[hr]))
 have e22':¬(p.nn:Int)<p.tail:=by omega
 have r3:=r2;rw[if_neg (by omega)]at r3
 have fin0:dB p=0->∀(fr:Nat->AV) (κ:Nat) (lv:Key->LB),lv 9=.hole->K ⟨fr,lv⟩ κ:=by
  intro hg fr κ lv h9;apply hK;refine aab ?_;exact aal (κ:=0) (au.tmp (κ:=0) rfl 9 (by simp[hg]) rfl (by simp[h9]) rfl)
 by_cases e3:p.ns=0
 ·have e3':(p.ns:Int)=0:=by omega
  by_cases e4:p.head<p.nn
  ·have hr:dB p=2:=by rw[r3,if_pos ⟨e3,by omega⟩]
   refine aac ?_;simp[vZ,zV,iN,rZ,e20,e21,e22,e20',e21',e22',e3,e3',e4];apply hK1;refine aai (aab ?_);exact aae (au.rt rfl 2 (by simp[hr]))
  ·have hr:dB p=0:=by rw[r3,if_neg (λh=>h.2 (by omega))]
   refine aac ?_;simp[vZ,zV,iN,rZ,e20,e21,e22,e20',e21',e22',e3,e3',e4];apply hK1;refine aah (aad ?_);simp;exact fin0 hr _ _ _ (by simp)
 ·have e3':¬(p.ns:Int)=0:=by omega
  have hr:dB p=0:=by rw[r3,if_neg (λh=>e3 h.1)]
  refine aac ?_;simp[vZ,zV,iN,rZ,e20,e21,e22,e20',e21',e22',e3,e3'];apply hK1;refine aah (aad ?_);simp;exact fin0 hr _ _ _ (by simp)
abbrev In.A(x:In):AV:=.agg [.d (.int .i64 x.f),.d (.str x.lo),.d (.str x.hi)]
abbrev Y1(x:Rat):List CV:=[.d (.int .i64 (eV x)),rC (jV x),rC (mA x)]
theorem GN(m:Int)(p:PD)(hp:p.ok)(x:In):aa prog (GG m) 91 [p.A,In.A x] (.c (.d (.int .i64 (vu p x)))):=by
 have hwf:=nN (GG m) x.f p.nf;have hP1:=rG (GG m) x.lo;have hP2:=rG (GG m) x.hi;have z1:=xk x.lo;have z2:=xk x.hi
 by_cases h1:0<=x.f/\x.f<p.nf
 rotate_left
 ·have hd:decide (0<=x.f/\x.f<(p.nf:Int))=false:=decide_eq_false h1;have hr:vu p x=7:=by unfold vu;rw[if_pos h1]
  rw[hd]at hwf;refine aa.en func91 rfl λ_=>aab ?_;refine aaa λK hK=>aaw 2 hwf @vZ ?_;refine aai (aab ?_);exact aae (au.rt (t:=4) rfl 9 (by simp[hr]))
 have hd:decide (0<=x.f/\x.f<(p.nf:Int))=true:=decide_eq_true h1;rw[hd]at hwf
 have r1:vu p x=if eE x.lo≠0 then eE x.lo else if eE x.hi≠0 then eE x.hi else if hasB (p.fm x.f.toNat).1 (p.fm x.f.toNat).2 (fL x.lo)=false then 7
  else if hasB (p.fm x.f.toNat).1 (p.fm x.f.toNat).2 (fL x.hi)=false then 7 else if 0<iS (fL x.lo) (fL x.hi)then 7 else 0:=by
  unfold vu;rw[if_neg (not_not_intro h1)]
 have hxf:=λlv=>UW hp lv x.f h1.1 h1.2
 generalize p.fm x.f.toNat=fe at*
 have hb1:=DL m fe.1 fe.2 (fL x.lo) z1;have hb2:=DL m fe.1 fe.2 (fL x.hi) z2;have hcm:=si (GG m) (fL x.lo) (fL x.hi) (bY z1 (by omega)) (bY z2 (by omega));generalize fL x.lo=a at*
 generalize fL x.hi=b at*
 generalize eE x.lo=ea at*
 generalize eE x.hi=eb at*
 refine aa.en func91 rfl λ_=>aab ?_;refine aaa λK hK=>aaw 2 hwf @vZ ?_;refine aah (aad (hK _ _ (aaw 2 hP1 @aj.eq_1 ?_)));refine aaa λK hK=>aab ?_
 by_cases q1:ea=0
 rotate_left
 ·have hr:vu p x=ea:=by rw[r1,if_pos q1]
  refine aag (by simp[q1]<;>omega) (aab ?_);exact aae (au.rt (t:=4) rfl 9 (by simp[hr]))
 refine aaj (by simp[q1]<;>omega) (aad (hK _ _ (aaw 3 hP2 @aj.eq_1 ?_)));refine aaa λK hK=>aab ?_
 by_cases q2:eb=0
 rotate_left
 ·have hr:vu p x=eb:=by rw[r1,if_neg (not_not_intro q1),if_pos q2]
  refine aag (by simp[q2]<;>omega) (aab ?_);exact aae (au.rt (t:=4) rfl 9 (by simp[hr]))
 have r2:vu p x=if hasB fe.1 fe.2 a=false then 7 else if hasB fe.1 fe.2 b=false then 7 else if 0<iS a b then 7 else 0:=by
  rw[r1,if_neg (not_not_intro q1),if_neg (not_not_intro q2)]
 refine aaj (by simp[q2]<;>omega) (aad (hK _ _ (aap hxf @aj.eq_1 ?_)));refine aaa λK hK=>aaa λK4 hK4=>?_
 cases g1:hasB fe.1 fe.2 a with
 |false=>
  have hr:vu p x=7:=by rw[r2,if_pos g1]
  rw[g1]at hb1;refine aax 5 hb1 @js (hK4 _ _ ?_);refine aai (aab ?_);exact aae (au.rt (t:=4) rfl 9 (by simp[hr]))
 |true=>
 rw[g1]at hb1
 cases g2:hasB fe.1 fe.2 b with
 |false=>
  have hr:vu p x=7:=by rw[r2,g1,if_neg (by decide),if_pos g2]
  rw[g2]at hb2;refine aac ?_;simp[js];refine ag.p 5 9 hb1 ?_;simp[js];refine ag.p 5 9 hb2 ?_;simp;apply hK4;refine aai (aab ?_);exact aae (au.rt (t:=4) rfl 9 (by simp[hr]))
 |true=>
 rw[g2]at hb2
 by_cases g3:0<iS a b
 ·have hr:vu p x=7:=by rw[r2,g1,if_neg (by decide),g2,if_neg (by decide),if_pos g3]
  refine aac ?_;simp[js];refine ag.p 5 9 hb1 ?_;simp[js];refine ag.p 5 9 hb2 ?_;simp[js];refine ag.p 5 9 hcm ?_;simp;apply hK4;refine aag (by simp[g3]<;>omega) (aab ?_);exact aae (au.rt (t:=4) rfl 9 (by simp[hr]))
 ·have hr:vu p x=0:=by rw[r2,g1,if_neg (by decide),g2,if_neg (by decide),if_neg g3]
  refine aac ?_;simp[js];refine ag.p 5 9 hb1 ?_;simp[js];refine ag.p 5 9 hb2 ?_;simp[js];refine ag.p 5 9 hcm ?_;simp;apply hK4;refine aaj (by simp[g3]<;>omega) (aad (hK _ _ (aab ?_)));exact aae (au.rt (t:=4) rfl 9 (by simp[hr]))
theorem IF(m:Int)(p:PD)(hp:p.ok)(i:Nat)(hi:i<p.nn)(hn2:p.nn<=1000):aa prog (GG m) 92 [p.A,.c (.d (.int .i64 i))] (.c (.d (.int .i64 (kB p i (p.nd i))))):=by
 have hx:=λlv=>J4 p lv hp i hi
 obtain⟨n,hn⟩:∃n,p.nd i=n:=⟨_,rfl⟩
 simp only[hn]at hx⊢;have har:=mS (GG m) n.op;have hwf:=nN (GG m) n.f p.nf;have hwa:=nN (GG m) n.a p.ni;have hws:=nN (GG m) n.a p.ns;have hsee:=λk=>JX (GG m) p i k
 have hck:=Db (GG m) n.v;have hkd:=JR (GG m) n
 by_cases h1:1<=n.op/\n.op<=15
 rotate_left
 ·have hr:kB p i n=2:=by unfold kB;rw[if_pos h1]
  have ha:eM n.op = -1:=if_neg h1;rw[ha]at har;refine aa.en func92 rfl λ_=>aab ?_;refine aap hx @aj.eq_1 ?_;refine aaa λK hK=>aar 2 har ?_;refine aai (aab ?_);exact aae (au.rt rfl 4 (by simp[hr]))
 have ha0:¬eM n.op<0:=by
  have:eM n.op=bS n.op:=if_pos h1;omega
 have hid:=By (GG m) n h1.1 h1.2;generalize eM n.op=ar at*
 cases hib:iW n with
 |false=>
  have hr:kB p i n=2:=by unfold kB;rw[if_neg (not_not_intro h1),if_pos hib]
  rw[hib]at hid;refine aa.en func92 rfl λ_=>aab ?_;refine aap hx @aj.eq_1 ?_;refine aaa λK hK=>aak λK1 hK1=>?_;simp;refine ag.p 2 9 har ?_;simp[ha0];refine ag.p 2 9 hid ?_;simp[ha0];apply hK1;refine aai (aab ?_);exact aae (au.rt rfl 4 (by simp[hr]))
 |true=>
 rw[hib]at hid;have ib:¬iW n=false:=by rw[hib];decide
 refine aa.en func92 rfl λ_=>aab ?_;refine aap hx @aj.eq_1 ?_;refine aaa λK hK=>aak λK1 hK1=>?_;simp;refine ag.p 2 9 har ?_;simp[ha0];refine ag.p 2 9 hid ?_;simp[ha0];apply hK1;refine aah (aad (hK _ _ (aaa λK hK=>aaa λK1 hK1=>?_)))
 by_cases h2:0<=n.f/\n.f<p.nf
 rotate_left
 ·have hd2:decide (0<=n.f/\n.f<(p.nf:Int))=false:=decide_eq_false h2;have hr:kB p i n=7:=by unfold kB;rw[if_neg (not_not_intro h1),if_neg ib,if_pos h2]
  rw[hd2]at hwf;refine aax 2 hwf @vZ (hK1 _ _ ?_);refine aai (aab ?_);exact aae (au.rt rfl 4 (by simp[hr]))
 have hd2:decide (0<=n.f/\n.f<(p.nf:Int))=true:=decide_eq_true h2;rw[hd2]at hwf
 have r2:kB p i n=if n.op=1/\¬(0<=n.a/\n.a<p.ni)then 7 else if n.op=1/\(p.AR n.a.toNat).f≠n.f then 143 else if n.op=2/\((i:Int)<p.head\/¬(0<=n.a/\n.a<p.ns))then 7 else if n.op=3 then eE n.v else if (bf n).all (de p i)then 0 else 7:=by
  unfold kB;rw[if_neg (not_not_intro h1),if_neg ib,if_neg (not_not_intro h2)]
 refine aax 2 hwf @vZ (hK1 _ _ ?_);refine aah (aad (hK _ _ (aaa λK hK=>?_)))
 have tail:∀(fr:Nat->AV) (κ:Nat),fr 1=.c (.d (.int .i64 i))->fr 2=.c (.ptr 0 0)->fr 5=.c (.ptr 1 0)->(kB p i n=if (bf n).all (de p i)then 0 else 7) ->
  K ⟨fr,az (az (λ_=>.hole) 0 (.cells true false 27 p.cs)) 1 (bN n)⟩ κ:=by
  intro fr κ z1 z2 z5 hr;have hkl:=vk n;have lpk:=λlv=>Xr (T:=30) (by simp) lv (zN (bf n))
  have ixk:∀lv (j:Nat) (hj:j<(bf n).length),aq prog 30 lv (.c (zC (zN (bf n)))) (.c (.d (.int .i64 (j:Int))))=some (.c (.d (.ptr [.int .i64 (bf n)[j]])),[],[],True):=by
   intro lv j hj;have:=Yh (T:=30) (by simp) lv (zN (bf n)) (i:=j) (by rw[MD];exact hj);simp only[MD]at this;exact this
  rw[MD]at lpk;have hkz:(AV.c (zC (zN (bf n)))).pure=true:=OA _;have hkf:(AV.c (zC (zN (bf n)))).bC=true:=Mj _;generalize zC (zN (bf n))=kz at*
  generalize bf n=kl at*
  apply hK;refine aak λK2 hK2=>?_;simp[z1,z2,z5];refine ag.pure 2 9 hkd hkz (by simp) (by first|rfl|simp) ?_;simp[z1,z2,z5];apply hK2;refine aaa λK2 hK2=>aaC z1 z2 z5 ?_;refine aaf ?_
  refine aao (λ(j:Nat)=>⟨aU [(1,.c (.d (.int .i64 i))),(2,.c (.ptr 0 0)),(6,.c kz),(7,.c (.d (.int .i64 j)))],az (az (λ_=>.hole) 0 (.cells true false 27 p.cs)) 1 (bN n)⟩) 10
   (λj=>j<=kl.length/\∀q,q<j->(h:q<kl.length)->de p i kl[q]=true) (λj=>kl.length-j) 0 (Le.mX _ rfl (by simp[z1,z2,hkf])) ⟨Zi _,λq hq=>absurd hq (by omega)⟩ ?_
  rintro j ⟨hj,hall⟩
  try simp only at hj hall
  refine aaa λK5 hK5=>aam lpk ?_
  by_cases hlt:j<kl.length
  ·have hlt':(j:Int)<(kl.length:Int):=by omega
   have hxk:=λlv=>ixk lv j hlt
   have hse:=hsee kl[j];have f12:=bF (n:=(j:Int)+1) (by omega) (by omega);refine aag (by simp[hlt']<;>omega) (aad (hK5 _ _ (aaa λK7 hK7=>aaf (aaa λK8 hK8=>?_))))
   cases hs:de p i kl[j]with
   |true=>
    rw[hs]at hse;refine aaq mixed (by kernel_rfl) rfl ?_;simp[hxk];refine ag.p 11 9 hse ?_;simp;refine⟨by kernel_rfl,?_⟩;apply hK8;refine aah (aad (hK7 _ _ (aac ?_)));simp[f12];refine⟨j+1,Le.mX _,⟨by omega,λq hq h=>?_⟩,by omega⟩
    by_cases hji:q=j
    ·subst hji;exact hs
    ·exact hall q (by omega) h
   |false=>
    rw[hs]at hse
    have hb:kB p i n=7:=by
     rw[hr,if_neg];rw[Bool.not_eq_true,acw];exact⟨kl[j],bh hlt,by rw[hs];decide⟩
    refine aaq mixed (by kernel_rfl) rfl ?_;simp[hxk];refine ag.p 11 9 hse ?_;simp;refine⟨by kernel_rfl,?_⟩;apply hK8;refine aai (aab ?_);exact aae (au.rt rfl 4 (by simp[hb]))
  ·have hlt':¬(j:Int)<(kl.length:Int):=by omega
   have hb:kB p i n=0:=by
    rw[hr,if_pos];rw[Zb];intro x hx;obtain⟨q,hq,rfl⟩:=List.mem_iff_getElem.1 hx;exact hall q (by omega) hq
   refine aaj (by simp[hlt']<;>omega) (aan (hK2 _ _ (aab ?_)));exact aae (au.rt rfl 4 (by simp[hb]))
 refine aab ?_;refine aaf ?_
 by_cases h3:n.op=1
 ·have n2:¬n.op=2:=by omega
  have n3:¬n.op=3:=by omega
  have t3:(n.op=1)=True:=eq_true h3;refine aam t3 ?_;refine aai (aaa λK2 hK2=>aaa λK3 hK3=>?_)
  by_cases h4:0<=n.a/\n.a<p.ni
  rotate_left
  ·have hd4:decide (0<=n.a/\n.a<(p.ni:Int))=false:=decide_eq_false h4;have hr:kB p i n=7:=by rw[r2,if_pos ⟨h3,h4⟩]
   rw[hd4]at hwa;refine aax 2 hwa @zV (hK3 _ _ ?_);refine aai (aab ?_);exact aae (au.rt rfl 4 (by simp[hr]))
  have hd4:decide (0<=n.a/\n.a<(p.ni:Int))=true:=decide_eq_true h4;rw[hd4]at hwa;have hxi:=λlv=>Vf hp lv n.a h4.1 h4.2
  refine aax 2 hwa @zV (hK3 _ _ ?_);refine aah (aad (hK2 _ _ (aaa λK2 hK2=>?_)))
  by_cases h5:(p.AR n.a.toNat).f=n.f
  ·have hr:kB p i n=if (bf n).all (de p i)then 0 else 7:=by
    rw[r2,if_neg (λh=>h.2 h4),if_neg (λh=>h.2 h5),if_neg (λh=>n2 h.1),if_neg n3]
   refine AW.UC mixed hxi h5 (hK2 _ _ ?_);refine aah (aad ?_);simp;exact tail _ _ (by simp) (by simp) (by simp) hr
  ·have hr:kB p i n=143:=by rw[r2,if_neg (λh=>h.2 h4),if_pos ⟨h3,h5⟩]
   refine AW.UC mixed hxi h5 (hK2 _ _ ?_);refine aai (aab ?_);exact aae (au.rt rfl 4 (by simp[hr]))
 have r3:kB p i n=if n.op=2/\((i:Int)<p.head\/¬(0<=n.a/\n.a<p.ns))then 7 else if n.op=3 then eE n.v else if (bf n).all (de p i)then 0 else 7:=by
  rw[r2,if_neg (λh=>h3 h.1),if_neg (λh=>h3 h.1)]
 refine aam h3 ?_;refine aah (aaa λK2 hK2=>?_)
 by_cases h6:n.op=2
 ·have n3:¬n.op=3:=by omega
  have t6:(n.op=2)=True:=eq_true h6;refine aas t6 (hK2 _ _ ?_);refine aai (aaa λK2 hK2=>?_)
  by_cases h7:(i:Int)<p.head
  ·have hr:kB p i n=7:=by rw[r3,if_pos ⟨h6,.inl h7⟩]
   refine aas h7 (hK2 _ _ ?_);refine aai (aab ?_);exact aae (au.rt rfl 4 (by simp[hr]))
  by_cases h8:0<=n.a/\n.a<p.ns
  ·have hd8:decide (0<=n.a/\n.a<(p.ns:Int))=true:=decide_eq_true h8;rw[hd8]at hws
   have hr:kB p i n=if (bf n).all (de p i)then 0 else 7:=by
    rw[r3,if_neg (λh=>h.2.elim h7 (λh=>h h8)),if_neg n3]
   refine AW.m2 2 hws h7 @rZ (hK2 _ _ ?_);refine aah (aad ?_);simp;exact tail _ _ (by simp) (by simp) (by simp) hr
  ·have hd8:decide (0<=n.a/\n.a<(p.ns:Int))=false:=decide_eq_false h8;rw[hd8]at hws;have hr:kB p i n=7:=by rw[r3,if_pos ⟨h6,.inr h8⟩]
   refine AW.m2 2 hws h7 @rZ (hK2 _ _ ?_);refine aai (aab ?_);exact aae (au.rt rfl 4 (by simp[hr]))
 have r4:kB p i n=if n.op=3 then eE n.v else if (bf n).all (de p i)then 0 else 7:=by
  rw[r3,if_neg (λh=>h6 h.1)]
 refine aas h6 (hK2 _ _ ?_);refine aah (aaa λK2 hK2=>?_)
 by_cases h9:n.op=3
 ·have hr:kB p i n=eE n.v:=by rw[r4,if_pos h9]
  have t9:(n.op=3)=True:=eq_true h9;rw[<-hr]at hck;refine aas t9 (hK2 _ _ ?_);refine aai (aar 2 hck ?_);exact aae (au.rt rfl 4 (by simp))
 ·have hr:kB p i n=if (bf n).all (de p i)then 0 else 7:=by rw[r4,if_neg h9]
  refine aas h9 (hK2 _ _ ?_);refine aah (aad ?_);simp;exact tail _ _ (by simp) (by simp) (by simp) hr
theorem GQ(m:Int)(p:PD)(hp:p.ok)(hg:dB p=0)(i:Nat)(hi:i<p.ns):aa prog (GG m) 93 [p.A,.c (.d (.int .i64 i))] (.c (.d (.int .i64 (xA p i (p.st i))))):=by
 obtain⟨g1,g2,g3,_,_,g4,_⟩:=kC hg;have hx:=λlv=>W8 hp lv (i:Int) (by omega) (by omega)
 simp only[Zp]at hx;generalize p.st i=s at*
 have hw1:=nN (GG m) s.1 p.head;have hw2:=nN (GG m) s.2 p.tail
 by_cases h1:0<=s.1/\s.1<p.head
 rotate_left
 ·have hd:decide (0<=s.1/\s.1<p.head)=false:=decide_eq_false h1;have hr:xA p i s=7:=by unfold xA;rw[if_pos h1]
  rw[hd]at hw1;refine aa.en func93 rfl λ_=>aab ?_;refine aap hx @aj.eq_1 ?_;refine aaa λK hK=>aar 2 hw1 ?_;refine aai (aab ?_);exact aae (au.rt rfl 4 (by simp[hr]))
 have hd:decide (0<=s.1/\s.1<p.head)=true:=decide_eq_true h1;rw[hd]at hw1
 by_cases h2:0<=s.2/\s.2<p.tail
 rotate_left
 ·have hd2:decide (0<=s.2/\s.2<p.tail)=false:=decide_eq_false h2;have hr:xA p i s=7:=by unfold xA;rw[if_neg (not_not_intro h1),if_pos h2]
  rw[hd2]at hw2;refine aa.en func93 rfl λ_=>aab ?_;refine aap hx @aj.eq_1 ?_;refine aaa λK hK=>aak λK1 hK1=>?_;simp;refine ag.p 2 9 hw1 ?_;simp;refine ag.p 2 9 hw2 ?_;simp;apply hK1;refine aai (aab ?_);exact aae (au.rt rfl 4 (by simp[hr]))
 have hd2:decide (0<=s.2/\s.2<p.tail)=true:=decide_eq_true h2;rw[hd2]at hw2;have x1:=λlv=>S3 hp lv s.1 h1.1 (by omega)
 have x2:=λlv=>S3 hp lv s.2 h2.1 (by omega)
 have hr:xA p i s=if (p.nd s.2.toNat).f≠(p.nd s.1.toNat).f then 143 else if (List.range p.nn).any (λj=>iZ i (p.nd s.1.toNat).f (p.nd j))then 143 else 0:=by
  unfold xA;rw[if_neg (not_not_intro h1),if_neg (not_not_intro h2)]
 generalize p.nd s.1.toNat=n1 at*
 generalize p.nd s.2.toNat=n2 at*
 refine aa.Qh func93 rfl λ_=>aab ?_;refine aap hx @aj.eq_1 ?_;refine aaa λK hK=>aak λK1 hK1=>?_;simp;refine ag.p 2 9 hw1 ?_;simp;refine ag.p 2 9 hw2 ?_;simp;apply hK1;refine aah (aad (hK _ _ (aam x1 ?_)));refine aaa λK hK=>aaa λK1 hK1=>?_
 by_cases h3:n2.f=n1.f
 rotate_left
 ·have hr2:xA p i s=143:=by rw[hr,if_pos h3]
  refine aau x2 h3 (hK1 _ _ ?_);refine aai (aab ?_);exact aae (au.rt (t:=4) rfl 9 (by simp[hr2]))
 refine aau x2 h3 (hK1 _ _ ?_);refine aah (aad (hK _ _ (aaa λK hK=>aab ?_)));refine aaf ?_
 refine aao (λ(j:Nat)=>⟨aU [(1,.c (.d (.int .i64 i))),(2,.c (.ptr 0 0)),(6,.c (.d (.int .i64 n1.f))),(7,.c (.d (.int .i64 j)))],az (az (λ_=>.hole) 0 (.cells true false 27 p.cs)) 1 (.cells true false 69 [.d (.int .i64 s.1),.d (.int .i64 s.2)])⟩) 2
  (λj=>j<=p.nn/\∀q,q<j->iZ i n1.f (p.nd q)=false) (λj=>p.nn-j) 0 (Le.mX _) ⟨by omega,λq hq=>absurd hq (ZH q)⟩ ?_
 rintro j ⟨hj,hall⟩
 try simp only at hj hall
 refine aaa λK3 hK3=>aam @iN ?_
 by_cases hlt:j<p.nn
 ·have hlt':(j:Int)<(p.nn:Int):=by omega
  have hxn:=λlv=>J4 p lv hp j hlt
  have f12:=bF (n:=(j:Int)+1) (by omega) (by omega);refine aag (by simp[hlt']<;>omega) (aad (hK3 _ _ (aaa λK5 hK5=>aaf (aap hxn @aj.eq_1 ?_))));refine aaa λK6 hK6=>?_;obtain⟨n,hn⟩:∃n,p.nd j=n:=⟨_,rfl⟩
  rw[hn]
  by_cases a1:n.op=2
  rotate_left
  ·have hs:iZ i n1.f (p.nd j)=false:=by rw[hn];simp[iZ,a1]
   refine aas a1 (hK6 _ _ ?_);refine aah (aad (hK5 _ _ (aac ?_)));simp[f12];refine⟨j+1,(Le.l5 [2] 9),⟨by omega,λq hq=>?_⟩,by omega⟩
   by_cases hji:q=j
   ·subst hji;exact hs
   ·exact hall q (by omega)
  by_cases a2:n.a=(i:Int)
  rotate_left
  ·have hs:iZ i n1.f (p.nd j)=false:=by rw[hn];simp[iZ,a1,a2]
   refine aau a1 a2 (hK6 _ _ ?_);refine aah (aad (hK5 _ _ (aac ?_)));simp[f12];refine⟨j+1,(Le.l5 [2] 9),⟨by omega,λq hq=>?_⟩,by omega⟩
   by_cases hji:q=j
   ·subst hji;exact hs
   ·exact hall q (by omega)
  by_cases a3:n.f=n1.f
  ·have hs:iZ i n1.f (p.nd j)=false:=by rw[hn];simp[iZ,a1,a2,a3]
   refine aaA a1 a2 a3 (hK6 _ _ ?_);refine aah (aad (hK5 _ _ (aac ?_)));simp[f12];refine⟨j+1,(Le.l5 [2] 9),⟨by omega,λq hq=>?_⟩,by omega⟩
   by_cases hji:q=j
   ·subst hji;exact hs
   ·exact hall q (by omega)
  have hs:iZ i n1.f (p.nd j)=true:=by rw[hn];simp[iZ,a1,a2,a3]
  have hr2:xA p i s=143:=by
   rw[hr,if_neg (not_not_intro h3),if_pos];exact List.any_eq_true.2 ⟨j,List.mem_range.2 hlt,hs⟩
  refine aaA a1 a2 a3 (hK6 _ _ ?_);refine aai (aab ?_);exact aae (au.rt (t:=4) rfl 9 (by simp[hr2]))
 ·have hlt':¬(j:Int)<(p.nn:Int):=by omega
  have hs:(List.range p.nn).any (λj=>iZ i n1.f (p.nd j))=false:=by
   rw[ach];intro q hq;rw[hall q (by have:=List.mem_range.1 hq;omega)];decide
  have hr2:xA p i s=0:=by rw[hr,if_neg (not_not_intro h3),hs,if_neg (by decide)]
  refine aaj (by simp[hlt']<;>omega) (aan (hK _ _ (aab ?_)));exact aae (au.rt (t:=4) rfl 9 (by simp[hr2]))
def pU(n:Nat)(hi:i<jo p k)(h0:cz p k i≠0)(h1:∀j,j<i->cz p k j=0):dx p (n+1) k=((k:Int)+1,(i:Int),cz p k i):=by
 show(match jB (cz p k) (jo p k)with|some i=>((k:Int)+1,(i:Int),cz p k i)|none=>dx p n (k+1))=_;rw[vH hi h0 h1]
theorem nQ(n:Nat)(h1:∀j,j<jo p k->cz p k j=0):dx p (n+1) k=dx p n (k+1):=by
 show(match jB (cz p k) (jo p k)with|some i=>((k:Int)+1,(i:Int),cz p k i)|none=>dx p n (k+1))=_;rw[vI h1]
abbrev Xv(v:Int×Int×Int):AV:=.tup [.c (.d (.int .i64 v.1)),.c (.d (.int .i64 v.2.1)),.c (.d (.int .i64 v.2.2))]
theorem DO(m:Int)(p:PD)(hp:p.ok):aa prog (GG m) 32 [p.A] (Xv (dA p)):=by
 have hge:=FV (GG m) p
 by_cases hg:dB p=0
 rotate_left
 ·have hr:dA p=(0,0,dB p):=by unfold dA;rw[if_pos hg]
  rw[hr];refine aa.en func32 rfl λ_=>aab ?_;refine aar 1 hge ?_;refine aaa λK hK=>aab ?_;refine aag (by simp[hg]<;>omega) (aab ?_);exact aae (au.t3 rfl 9 (by simp) (by simp) (by simp))
 have v0:dA p=dx p 4 0:=by unfold dA;rw[if_neg (not_not_intro hg)]
 rw[hg]at hge;have hrg:=kC hg;have hwi:=nN (GG m) p.res p.nn;have hse:=vf (GG m) p p.res;have q0:=λi=>vY (GG m) (p.fm i).1 (p.fm i).2
 have q1:=λi=>GN m p hp (p.AR i)
 have q2:=λi hi=>IF m p hp i hi (by omega)
 have q3:=λi hi=>GQ m p hp hg i hi
 have x0:∀lv (i:Nat),i<p.nf->aq prog 22 lv (.c (dc p.f)) (.c (.d (.int .i64 (i:Int))))=some (.c (.d (.ptr (US (p.fm i)))),[],[],True):=by
  intro lv i hi;have:=UW hp lv (i:Int) (by omega) (by omega)
  rwa[Zp]at this
 have x1:=λlv i hi=>Wu p lv hp i hi
 refine aa.Qh func32 rfl λ_=>aab ?_;refine aar 1 hge ?_;refine aaa λK hK=>aab ?_;refine aah (aad (hK _ _ (aaa λKa0 hKa0=>aab ?_)));refine aaf ?_
 refine aao (λ(i:Nat)=>⟨aU [(1,.c (.ptr 0 0)),(6,.c (.d (.int .i64 i)))],az (λ_=>.hole) 0 (.cells true false 27 p.cs)⟩) 2
  (λi=>i<=p.nf/\∀j,j<i->cz p 0 j=0) (λi=>p.nf-i) 0 (Le.mX _) ⟨by omega,λj hj=>absurd hj (ZH j)⟩ ?_
 rintro i ⟨hi,hall⟩
 try simp only at hi hall
 refine aaa λK3 hK3=>aam @vZ ?_
 by_cases hlt:i<p.nf
 ·have hlt':(i:Int)<(p.nf:Int):=by omega
  have f12:=bF (n:=(i:Int)+1) (by omega) (by omega);have hxn:=λlv=>x0 lv i hlt
  have hcc:=q0 i;have hE:fT (p.fm i).1 (p.fm i).2=cz p 0 i:=rfl;rw[hE]at hcc;refine aag (by simp[hlt']<;>omega) (aad (hK3 _ _ (aaa λK5 hK5=>aaf (aaw 3 hcc hxn ?_))));refine aab ?_
  by_cases h0:cz p 0 i=0
  ·refine aaj (by simp[h0]<;>omega) (aad (hK5 _ _ (aac ?_)));simp[f12];refine⟨i+1,Le.mX _,⟨by omega,λj hj=>?_⟩,by omega⟩
   by_cases hji:j=i
   ·subst hji;exact h0
   ·exact hall j (by omega)
  ·have hres:=v0.trans (pU 3 (k:=0) (i:=i) hlt h0 hall);refine aag (by simp[h0]<;>omega) (aab ?_);exact aae (au.t3 rfl 9 (by simp[hres]) (by simp[hres]) (by simp[hres]))
 have hlt':¬(i:Int)<(p.nf:Int):=by omega
 have v1:=v0.trans (nQ 3 (k:=0) (λj (hj:j<p.nf)=>hall j (by omega)));refine aaj (by simp[hlt']<;>omega) (aan ?_);simp;clear hall hlt hlt';apply hKa0;refine aaa λKa1 hKa1=>aab ?_;refine aaf ?_
 refine aao (λ(i:Nat)=>⟨aU [(1,.c (.ptr 0 0)),(8,.c (.d (.int .i64 i)))],az (λ_=>.hole) 0 (.cells true false 27 p.cs)⟩) 2
  (λi=>i<=p.ni/\∀j,j<i->cz p 1 j=0) (λi=>p.ni-i) 0 (Le.mX _) ⟨by omega,λj hj=>absurd hj (ZH j)⟩ ?_
 rintro i ⟨hi,hall⟩
 try simp only at hi hall
 refine aaa λK3 hK3=>aam @zV ?_
 by_cases hlt:i<p.ni
 ·have hlt':(i:Int)<(p.ni:Int):=by omega
  have f12:=bF (n:=(i:Int)+1) (by omega) (by omega);have hxn:=λlv=>x1 lv i hlt
  have hcc:=q1 i;have hE:vu p (p.AR i)=cz p 1 i:=rfl;rw[hE]at hcc;refine aag (by simp[hlt']<;>omega) (aad (hK3 _ _ (aaa λK5 hK5=>aaf (aaa λK6 hK6=>?_))));refine aaq mixed (by kernel_rfl) rfl ?_;simp[hxn];refine ag.p 3 9 hcc ?_;simp;refine⟨by kernel_rfl,?_⟩;apply hK6;refine aab ?_
  by_cases h0:cz p 1 i=0
  ·refine aaj (by simp[h0]<;>omega) (aad (hK5 _ _ (aac ?_)));simp[f12];refine⟨i+1,Le.mX _,⟨by omega,λj hj=>?_⟩,by omega⟩
   by_cases hji:j=i
   ·subst hji;exact h0
   ·exact hall j (by omega)
  ·have hres:=v1.trans (pU 2 (k:=1) (i:=i) hlt h0 hall);refine aag (by simp[h0]<;>omega) (aab ?_);exact aae (au.t3 rfl 9 (by simp[hres]) (by simp[hres]) (by simp[hres]))
 have hlt':¬(i:Int)<(p.ni:Int):=by omega
 have v2:=v1.trans (nQ 2 (k:=1) (λj (hj:j<p.ni)=>hall j (by omega)));refine aaj (by simp[hlt']<;>omega) (aan ?_);simp;clear hall hlt hlt';apply hKa1;refine aaa λKa2 hKa2=>aab ?_;refine aaf ?_
 refine aao (λ(i:Nat)=>⟨aU [(1,.c (.ptr 0 0)),(10,.c (.d (.int .i64 i)))],az (λ_=>.hole) 0 (.cells true false 27 p.cs)⟩) 2
  (λi=>i<=p.nn/\∀j,j<i->cz p 2 j=0) (λi=>p.nn-i) 0 (Le.mX _) ⟨by omega,λj hj=>absurd hj (ZH j)⟩ ?_
 rintro i ⟨hi,hall⟩
 try simp only at hi hall
 refine aaa λK3 hK3=>aam @iN ?_
 by_cases hlt:i<p.nn
 ·have hlt':(i:Int)<(p.nn:Int):=by omega
  have f12:=bF (n:=(i:Int)+1) (by omega) (by omega);have hxn:=True.intro;have hcc:=q2 i hlt;have hE:kB p i (p.nd i)=cz p 2 i:=rfl;rw[hE]at hcc;refine aag (by simp[hlt']<;>omega) (aad (hK3 _ _ (aaa λK5 hK5=>aaf (aar 3 hcc ?_))));refine aab ?_
  by_cases h0:cz p 2 i=0
  ·refine aaj (by simp[h0]<;>omega) (aad (hK5 _ _ (aac ?_)));simp[f12];refine⟨i+1,Le.mX _,⟨by omega,λj hj=>?_⟩,by omega⟩
   by_cases hji:j=i
   ·subst hji;exact h0
   ·exact hall j (by omega)
  ·have hres:=v2.trans (pU 1 (k:=2) (i:=i) hlt h0 hall);refine aag (by simp[h0]<;>omega) (aab ?_);exact aae (au.t3 rfl 9 (by simp[hres]) (by simp[hres]) (by simp[hres]))
 have hlt':¬(i:Int)<(p.nn:Int):=by omega
 have v3:=v2.trans (nQ 1 (k:=2) (λj (hj:j<p.nn)=>hall j (by omega)));refine aaj (by simp[hlt']<;>omega) (aan ?_);simp;clear hall hlt hlt';apply hKa2;refine aaa λKa3 hKa3=>aab ?_;refine aaf ?_
 refine aao (λ(i:Nat)=>⟨aU [(1,.c (.ptr 0 0)),(12,.c (.d (.int .i64 i)))],az (λ_=>.hole) 0 (.cells true false 27 p.cs)⟩) 2
  (λi=>i<=p.ns/\∀j,j<i->cz p 3 j=0) (λi=>p.ns-i) 0 (Le.mX _) ⟨by omega,λj hj=>absurd hj (ZH j)⟩ ?_
 rintro i ⟨hi,hall⟩
 try simp only at hi hall
 refine aaa λK3 hK3=>aam @rZ ?_
 by_cases hlt:i<p.ns
 ·have hlt':(i:Int)<(p.ns:Int):=by omega
  have f12:=bF (n:=(i:Int)+1) (by omega) (by omega);have hxn:=True.intro;have hcc:=q3 i hlt;have hE:xA p i (p.st i)=cz p 3 i:=rfl;rw[hE]at hcc;refine aag (by simp[hlt']<;>omega) (aad (hK3 _ _ (aaa λK5 hK5=>aaf (aar 3 hcc ?_))));refine aab ?_
  by_cases h0:cz p 3 i=0
  ·refine aaj (by simp[h0]<;>omega) (aad (hK5 _ _ (aac ?_)));simp[f12];refine⟨i+1,Le.mX _,⟨by omega,λj hj=>?_⟩,by omega⟩
   by_cases hji:j=i
   ·subst hji;exact h0
   ·exact hall j (by omega)
  ·have hres:=v3.trans (pU 0 (k:=3) (i:=i) hlt h0 hall);refine aag (by simp[h0]<;>omega) (aab ?_);exact aae (au.t3 rfl 9 (by simp[hres]) (by simp[hres]) (by simp[hres]))
 have hlt':¬(i:Int)<(p.ns:Int):=by omega
 have v4:=v3.trans (nQ 0 (k:=3) (λj (hj:j<p.ns)=>hall j (by omega)));refine aaj (by simp[hlt']<;>omega) (aan ?_);simp;clear hall hlt hlt';apply hKa3;have hfin:dA p=if 0<=p.res/\p.res<p.nn/\jZ p p.res≠1 then(0,0,0)else(5,0,7):=v4
 refine aaa λK hK=>aaa λK1 hK1=>?_
 by_cases h1:0<=p.res/\p.res<p.nn
 rotate_left
 ·have hd:decide (0<=p.res/\p.res<(p.nn:Int))=false:=decide_eq_false h1;have hres:dA p=(5,0,7):=by rw[hfin,if_neg (λh=>h1 ⟨h.1,h.2.1⟩)]
  rw[hd]at hwi;refine aax 3 hwi @iN (hK1 _ _ ?_);refine aai (aab ?_);exact aae (au.t3 rfl 9 (by simp[hres]) (by simp[hres]) (by simp[hres]))
 have hd:decide (0<=p.res/\p.res<(p.nn:Int))=true:=decide_eq_true h1;rw[hd]at hwi
 by_cases h2:jZ p p.res=1
 ·have hres:dA p=(5,0,7):=by rw[hfin,if_neg (λh=>h.2.2 h2)]
  rw[h2]at hse;refine aac ?_;simp[iN];refine ag.p 3 9 hwi ?_;simp;refine ag.p 3 9 hse ?_;simp;apply hK1;refine aai (aab ?_);exact aae (au.t3 rfl 9 (by simp[hres]) (by simp[hres]) (by simp[hres]))
 ·have hres:dA p=(0,0,0):=by rw[hfin,if_pos ⟨h1.1,h1.2,h2⟩]
  refine aac ?_;simp[iN];refine ag.p 3 9 hwi ?_;simp;refine ag.p 3 9 hse ?_;simp[h2];apply hK1;refine aaj (by simp[h2]<;>omega) (aad (hK _ _ (aab ?_)));exact aae (au.t3 rfl 9 (by simp[hres]) (by simp[hres]) (by simp[hres]))
end Go.Am
