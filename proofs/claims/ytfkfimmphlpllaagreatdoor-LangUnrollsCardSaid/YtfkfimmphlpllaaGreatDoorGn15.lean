/- Helpers. -/
import Derived.Test.YtfkfimmphlpllaaGreatDoorGn14

set_option linter.all false
set_option maxHeartbeats 8000000
set_option maxRecDepth 100000
open Go.Proofs.Tryz
namespace Go.Am
open Go.Am.Ty Go.Proofs N
def vi(m:Int)(p:PD)(hp:p.ok):aa prog (GG m) 51 [p.A] (.c (.d (.int .i64 (dA p).2.2))):=by
 have h:=DO m p hp;generalize dA p=v at*
 refine aa.en func51 rfl λ_=>aab ?_;refine aar 1 h ?_;refine aab ?_;exact aae (au.rt rfl 2 (by simp))
def YN(p:PD)(n:Int):Int×Int:=if (dA p).2.2≠0 then(0,(dA p).2.2)else if 0<=n/\n<p.nn then(jZ p n,0)else(0,7)
abbrev Y0(v:Int×Int):AV:=.tup [.c (.d (.int .i64 v.1)),.c (.d (.int .i64 v.2))]
def Y7(r:PD×Int):PD×Int:=(if r.2=0 then r.1.nz else r.1,r.2)
def Q5{P:Program}{G:List (List DV)}{w:World}{F W:Nat->Prop}{n:Nat}{iV:Key->LB}{b:Key->Nat}{fn:Func}{q:PD}{e:Int}{t u:Nat}{s:aE}(hP:P=prog)(hr:fn.results=#[.cell t 27,.tmp u])(k:Key)(ht:s.fr t=.c (.ptr k 0):=by simp)(hk:s.lv k=.cells true false 27 q.cs:=by simp[aj])(hu:s.fr u=.c (.d (.int .i64 e)):=by simp):
 jU ⟨P,G,w,F,W,n,iV,b⟩ fn (.tup [q.A,.c (.d (.int .i64 e))]) .ret s 0:=by
 subst hP;refine jU.jQ (κ:=0) (T:=27) (k:=k) (off:=0) (own:=true) (fz:=false) (U:=27) (cs:=q.cs) (X:=q.A) (ks:=[]) hr ht hk ?_ hu rfl rfl (nR _ _ _);rw[Y9];exact yN ..
def Bv(p:PD)(now:List Int)(s:List Int×List Nd)(i:Nat):∀k,cZ p.nz now s i k=cZ p now s i k
 |0=>rfl
 |k+1=>by rw[fO,fO,Bv p now s i k];rfl
def FE(p:PD)(av:List Int)(sel:Int×Int->Int)(l:List Int):∀j,od p.nz av sel j l=od p av sel j l
 |0=>rfl
 |j+1=>congrArg (λl=>List.set l j (av.getD (sel (p.st j)).toNat 0)) (FE p av sel l j)
def Nw(p:PD)(s:List Int×List Int×List Nd):∀j,nY p.nz s j=nY p s j
 |0=>rfl
 |j+1=>by
  show oF p.nz (nY p.nz s j)=oF p (nY p s j);rw[Nw p s j];unfold oF;simp only[Bv,FE];rfl
def Ik(p:PD)(n:Nat):hU p.nz n=hU p n:=by
 unfold hU jE mD;simp only[Bv,Nw,FE];rfl
def JS(p:PD)(s:Int):PD×Int:=if 64<yp p s then(iU,3)else(jy p.nz s.toNat,0)
def Af(m:Int)(p:PD)(hp:p.ok)(s:Int)(h0:(dA p).2.2=0)(hs:0<=s/\s<=200):aa prog (GG m) 27 [p.A,.c (.d (.int .i64 s))] (.tup [(JS p s).1.A,.c (.d (.int .i64 (JS p s).2))]):=by
 have h:=vi m p hp;have hg:=ou hp h0;rw[h0]at h;have hcd:=Ma (GG m) p hp (E3 h0);have s1:¬s<0:=by omega
 have s2:¬200<s:=by omega
 obtain⟨es,hes⟩:=CI hg.gen;obtain⟨g1,g2,g3,g4,g5⟩:=FZ hg.gen;have hb:p.tail.toNat<=p.nn:=by omega
 refine aa.ed func27 rfl λ_=>aab ?_;refine aar 2 h ?_;refine aaa λK hK=>aap s1 s2 ?_;refine aah (aad (hK _ _ (aaa λK hK=>aab ?_)));refine aah (aad (hK _ _ (aar 2 hcd ?_)));refine aap @iN @aj.eq_1 ?_;refine aap @rZ @aj.eq_1 ?_;have hz0:gS []=.d .nilsl:=if_pos rfl;have hN4:p.ns<=4:=(kC hg.gen).2.2.2.2.2.2;have hno:∀i,i<p.nn->1<=(p.nd i).op/\(p.nd i).op<=15:=λi hi=>(mg hg hi).1
 have hnk:∀i,i<p.nn->∀x∈bf (p.nd i),0<=x/\x<p.nn:=λi hi x hx=>by have:=(mg hg hi).2.2 x hx;omega
 have hns:∀l:List Int,l.length=p.ns->∀i,i<p.nn->(p.nd i).op=2->0<=(p.nd i).a/\(p.nd i).a<l.length:=λl hl i hi h2=>by have:=(mg hg hi).2.1 h2;omega
 refine aaF (s2:=⟨aU [(1,.c (.d (.int .i64 s))),(2,.c (.ptr 0 0)),(4,.c (.ptr 1 0)),(7,.c (.ptr 2 0)),(8,.c (.aD 3 0 p.nn 1)),(9,.c (.aD 4 0 p.ns 1))],JA p (List.replicate p.ns 0) (List.replicate p.nn 0) (gS []) (uB []) .hole .hole⟩) (κ2:=8) (NM rfl [] 4 5 6 7 .hole _ (by decide) (by simp) (by simp[iU,dc]) (by simp[qD]) (by simp[uI]) (by simp[uI]) (λg=>rfl) (λg=>rfl) (by simp) (by simp[bP])) ?_;obtain⟨⟨av1,L1⟩,hr1⟩:∃r,cZ p (List.replicate p.ns 0) (List.replicate p.nn 0,[]) 0 (p.head.toNat-0)=r:=⟨_,rfl⟩
 have hA:mD p=(av1,L1):=hr1;have hc1:=Gv m p hp (List.replicate p.ns 0) (List.replicate p.nn 0) [] 0 p.head.toNat (by omega) (by omega) (by omega) (by simp) (by simp) hno (hns _ (by simp)) hnk av1 L1 hr1;rw[show((p.head.toNat:Nat):Int)=p.head by omega]at hc1;have hl1:=je p (List.replicate p.ns 0) (List.replicate p.nn 0,[]) 0 (p.head.toNat-0);have hL1:=jP p (List.replicate p.ns 0) (List.replicate p.nn 0,[]) 0 (p.head.toNat-0);rw[hr1]at hl1 hL1;simp only[aaY,aaG]at hl1 hL1;rw[aaY,aaY]at hc1;refine aak λK hK=>?_;simp;refine ag.sec 8 p (List.replicate p.ns 0) (List.replicate p.nn 0) av1 [] L1 (by rfl) (by rfl) (λh=>Z4 h) (by simp) (by simp) hc1 ?_;intro Fj rds he;simp[he,aj];apply hK;refine aaF (κ2:=8) (KU rfl (gS []) [] L1 (Zi _) [(1,.c (.d (.int .i64 s))),(2,.c (.ptr 0 0)),(4,.c (.ptr 1 0)),(7,.c (.ptr 2 0)),(8,.c (.aD 3 0 p.nn 1)),(9,.c (.aD 4 0 p.ns 1))] rfl (by intro k5;simp[bP])) ?_;refine aaa λK hK=>aam @rZ ?_;refine aaf ?_
 refine aao (λ(j:Nat)=>⟨aU [(1,.c (.d (.int .i64 s))),(2,.c (.ptr 0 0)),(4,.c (.ptr 1 0)),(7,.c (.ptr 2 0)),(8,.c (.aD 3 0 p.nn 1)),(9,.c (.aD 4 0 p.ns 1)),(10,.c (.d (.int .i64 j)))],JA p (od p av1 Prod.fst j (List.replicate p.ns 0)) av1 (gS L1) (uB L1) .hole .hole⟩) 8
  (λj=>j<=p.ns) (λj=>p.ns-j) 0 (NM rfl L1 3 4 5 7 .hole _ (by decide) (by simp) (by simp) (by simp[gS]) (by simp) (by simp[od]) (λg=>by simpa using ga L1 g) (λg=>rfl) (by simp) (by simp[bP])) (Zi _) ?_
 rintro j hj
 try simp only at hj
 have el:=pW p av1 Prod.fst (List.replicate p.ns 0) j;rw[aaY]at el;have es:od p av1 Prod.fst (j+1) (List.replicate p.ns 0)=(od p av1 Prod.fst j (List.replicate p.ns 0)).set j (av1.getD (p.st j).1.toNat 0):=rfl;obtain⟨nw,hnw⟩:∃nw,od p av1 Prod.fst j (List.replicate p.ns 0)=nw:=⟨_,rfl⟩
 rw[hnw]at el es;simp only[hnw];refine aaa λK3 hK3=>aam @rZ ?_
 by_cases hlt:j<p.ns
 ·have hlt':(j:Int)<(p.ns:Int):=by omega
  have hx:=λlv=>Iu hp lv j hlt
  have hw:=bF (n:=(j:Int)+1) (by omega) (by omega);obtain⟨x0,hx0⟩:∃x0,(p.st j).1=x0:=⟨_,rfl⟩
  have hle1:j+1<=nw.length:=by omega
  have hzs:=l7 nw j x0 (by omega);refine aag (by simp[hlt']<;>omega) (aad (hK3 _ _ (aaa λK5 hK5=>aaf ?_)));have hst0:=x9 hg hlt
  have hid:av1.getD (p.st j).1.toNat 0=x0:=by
   have e:=congrArg Prod.fst (hA.symm.trans (xN hg));simp only at e;rw[e,Im (by omega) (by omega)];omega
  rw[hid]at es;refine aay hx hx0 hlt' hle1 (hK5 _ _ ?_);refine aac ?_;simp[hw];refine⟨j+1,?_,by omega,by omega⟩;simp only[es];exact NM rfl L1 3 4 5 7 .hole _ (by decide) (by simp) (by simp) (by simp[gS]) (by simp) (by simp[hzs]) (λg=>by simpa using ga L1 g) (λg=>rfl) (by simp) (by simp[bP])
 have hje:j=p.ns:=by omega
 subst hje;refine aah (aan (hK _ _ ?_))
 have hB0:jE p 0=(nw,av1,L1):=by
  show(od p (mD p).1 Prod.fst p.ns (List.replicate p.ns 0),(mD p).1,(mD p).2)=_;rw[hA,hnw]
 have hBl:=λn=>Cm p (nw,av1,L1) (by omega) n
 have hBe:∀n,jE p n=nY p (nw,av1,L1) n:=λn=>by rw[<-hB0];rfl
 refine aaa λK hK=>aab ?_;refine aaf ?_
 refine aao (λ(j:Nat)=>⟨aU [(1,.c (.d (.int .i64 s))),(2,.c (.ptr 0 0)),(4,.c (.ptr 1 0)),(7,.c (.ptr 2 0)),(8,.c (.aD 3 0 p.nn 1)),(9,.c (.aD 4 0 p.ns 1)),(11,.c (.d (.int .i64 j)))],JA p (nY p (nw,av1,L1) j).1 (nY p (nw,av1,L1) j).2.1 (gS (nY p (nw,av1,L1) j).2.2) (uB (nY p (nw,av1,L1) j).2.2) .hole .hole⟩) 9
  (λj=>j<=s.toNat) (λj=>s.toNat-j) 0 (NM rfl L1 3 4 5 7 .hole _ (by decide) (by simp) (by simp) (by simp[gS]) (by simp[nY]) (by simp[nY]) (λg=>by simpa[nY]using ga L1 g) (λg=>rfl) (by simp) (by simp[bP])) (Zi _) ?_
 rintro j hj
 try simp only at hj
 have hlen:=hBl j;have hsx:nY p (nw,av1,L1) (j+1)=oF p (nY p (nw,av1,L1) j):=rfl;obtain⟨⟨now,av,L⟩,hS⟩:∃S,nY p (nw,av1,L1) j=S:=⟨_,rfl⟩
 rw[hS]at hlen hsx;simp only at hlen;simp only[hS];obtain⟨hln,hla,hLg,hLl⟩:=hlen;have hne:L≠[]:=λe=>by have h1:=Nr hg hr1;rw[e,aaG]at hLg;omega
 have hgS:gS L=.aD 5 0 L.length 7:=if_neg hne;have huB:uB L=.cells true false 55 (gm L):=if_neg hne
 have lpq:eJ prog 24 (JA p now av (gS L) (uB L) .hole .hole) (.c (gS L))=some (.c (.d (.int .i64 L.length)),[],[5],(L.length:Int)<=9223372036854775807):=by
  rw[hgS,huB];simp[gN]
 have hLb:(L.length:Int)<=9223372036854775807:=by omega
 have fin:(j=s.toNat\/64<L.length)->∀fr,fr 1=.c (.d (.int .i64 s))->fr 2=.c (.ptr 0 0)->fr 4=.c (.ptr 1 0)->fr 7=.c (.ptr 2 0)->fr 8=.c (.aD 3 0 p.nn 1)->fr 9=.c (.aD 4 0 p.ns 1)->K ⟨fr,JA p now av (gS L) (uB L) .hole .hole⟩ 9:=by
  intro hor fr z1 z2 z4 z7 z8 z9;apply hK;refine aaF (κ2:=9) (s2:=⟨aU [(1,.c (.d (.int .i64 s))),(2,.c (.ptr 0 0)),(4,.c (.ptr 1 0)),(7,.c (.ptr 2 0)),(8,.c (.aD 3 0 p.nn 1)),(9,.c (.aD 4 0 p.ns 1))],JA p now av (gS L) (uB L) .hole .hole⟩) (NM rfl L 3 4 5 7 .hole _ (by decide) (by simp) (by simp) (by simp[gS]) (by simp) (by simp) (λg=>by simpa using ga L g) (λg=>rfl) (by simp) (by simp[bP,z1,z2,z4,z7,z8,z9])) ?_;obtain⟨⟨av3,L3⟩,hr3⟩:∃r,cZ p now (av,L) p.tail.toNat (p.nn-p.tail.toNat)=r:=⟨_,rfl⟩
  have hBs:jE p j=(now,av,L):=(hBe _).trans hS;have hC:hU p j=(av3,L3):=by unfold hU;rw[hBs];exact hr3
  have hc3:=Gv m p hp now av L p.tail.toNat p.nn (by omega) (by omega) (by omega) (by omega) (by omega) hno (hns _ (by omega)) hnk av3 L3 hr3;rw[show((p.tail.toNat:Nat):Int)=p.tail by omega,show av.length=p.nn by omega,show now.length=p.ns by omega]at hc3;have hl3:=je p now (av,L) p.tail.toNat (p.nn-p.tail.toNat);have hL3:=jP p now (av,L) p.tail.toNat (p.nn-p.tail.toNat);have hq3:=xp (p:=p) (now:=now) (s:=(av,L)) (i:=p.tail.toNat) (k:=p.nn-p.tail.toNat);rw[hr3]at hl3 hL3 hq3;simp only at hl3 hL3 hq3;have hne3:L3≠[]:=λe=>by rw[e,aaG]at hL3;exact hne (Z4 (by omega))
  have hgS3:gS L3=.aD 5 0 L3.length 7:=if_neg hne3;have huB3:uB L3=.cells true false 55 (gm L3):=if_neg hne3;have hLb3:(L3.length:Int)<=9223372036854775807:=by omega
  have hres:(64<L3.length↔64<yp p s)/\(¬64<L3.length->hU p s.toNat=(av3,L3)):=by
   rcases hor with rfl|hor
   ·have:=HJ hg hs.1;rw[hC]at this;simp only at this;exact⟨by omega,λ_=>hC⟩
   ·have c1:=yV hg j;rw[hBs]at c1;have hX:0<=jh p:=by unfold jh;have:=oN p p.head.toNat (p.tail.toNat-p.head.toNat);omega
    have c2:(j:Int)*jh p<=s*jh p:=Int.mul_le_mul_of_nonneg_right (by omega) hX;have c3:=oN p p.tail.toNat (p.nn-p.tail.toNat);have c4:64<yp p s:=by unfold yp;simp only at c1;omega
    exact⟨⟨λ_=>c4,λ_=>by omega⟩,λh=>absurd h (by omega)⟩
  refine aak λK hK=>?_;simp[iN];refine ag.sec 10 p now av av3 L L3 (by rfl) (by rfl) hq3 (by omega) (by omega) hc3 ?_;intro Fj rds he;simp[he,aj];apply hK;refine aaF (κ2:=9) (KU rfl (gS L) L L3 hL3.1 [(1,.c (.d (.int .i64 s))),(2,.c (.ptr 0 0)),(4,.c (.ptr 1 0)),(7,.c (.ptr 2 0)),(8,.c (.aD 3 0 p.nn 1)),(9,.c (.aD 4 0 p.ns 1))] rfl (by intro k5;simp[bP])) ?_;rw[hgS3,huB3];refine aaa λK hK=>aap @gN hLb3 ?_
  by_cases hbig:64<L3.length
  ·have hbig':(64:Int)<(L3.length:Int):=by omega
   have e:JS p s=(iU,3):=if_pos (hres.1.1 hbig);refine aag (by simp[hbig']<;>omega) (aam @Q7 ?_);rw[e];exact aae (Q5 rfl rfl 1)
  have hbig':¬(64:Int)<(L3.length:Int):=by omega
  have e:JS p s=(jy p.nz s.toNat,0):=if_neg (λh=>hbig (hres.1.2 h))
  have hV:jy p.nz s.toNat=⟨p.nz.f,p.mode,p.nz.ins,some (L3.map Nd.e),L3.length,L3.length,none,av3.getD p.res.toNat 0⟩:=by
   show(⟨p.nz.f,p.mode,p.nz.ins,some ((hU p.nz s.toNat).2.map Nd.e),(hU p.nz s.toNat).2.length,(hU p.nz s.toNat).2.length,none,(hU p.nz s.toNat).1.getD p.res.toNat 0⟩:PD)=_;rw[Ik,hres.2 hbig]
  refine aaj (by simp[hbig']<;>omega) (aad (hK _ _ (aaC @aj.eq_1 @gN hLb3 ?_)));have hresr:=hg.res;obtain⟨q,hq⟩:∃q:Nat,p.res=q:=⟨p.res.toNat,by omega⟩
  have hql:q<av3.length:=by omega
  have hql':(q:Int)<(p.nn:Int):=by omega
  have hle3:q+1<=av3.length:=by omega
  have hld:=ez (P:=prog) (T:=3) (by simp) hql;refine AW.f5 hq hql' hld @aj.eq_1 hle3 ?_;refine aam @aj.eq_1 ?_;rw[e,hV,hq,Zp,Y8,cy hql];refine aal ?_;refine jU.jQ (X:=.agg [dc p.nz.f,.d (.int .i64 p.mode),dc p.nz.ins,.aD 5 0 L3.length 7,.d (.int .i64 L3.length),.d (.int .i64 L3.length),.d .nilsl,.d (.int .i64 av3[q])]) (y:=.c (.d (.int .i64 0))) (κ:=0) (T:=27) (t:=4) (u:=5) (k:=1) (off:=0) (own:=true) (fz:=false) (U:=27) (cs:=[dc p.nz.f,.d (.int .i64 p.mode),dc p.nz.ins,.aD 5 0 L3.length 7,.d (.int .i64 L3.length),.d (.int .i64 L3.length),.d .nilsl,.d (.int .i64 av3[q])]) (ks:=[5]) rfl ?_ ?_ ?_ ?_ rfl rfl ?_
  ·simp
  ·simp[aj]
  ·rw[Y9];exact yN ..
  ·simp
  ·exact Ed (p:=p.nz) (own:=true) (fz:=false) (by omega) (by simp)
 refine aaa λK3 hK3=>aaa λK4 hK4=>?_
 by_cases hlt:j<s.toNat
 rotate_left
 ·have hje:j=s.toNat:=by omega
  have hlt':¬(j:Int)<s:=by omega
  refine aas hlt' (hK4 _ _ ?_);refine aah (aan ?_);simp;exact fin (.inl hje) _ (by simp) (by simp) (by simp) (by simp) (by simp) (by simp)
 have hlt':(j:Int)<s:=by omega
 have hw:=bF (n:=(j:Int)+1) (by omega) (by omega);refine aaA lpq hlt' hLb (hK4 _ _ ?_)
 by_cases hle:(L.length:Int)<=64
 rotate_left
 ·refine aaj (by simp[hle]<;>omega) (aan ?_);simp;exact fin (.inr (by omega)) _ (by simp) (by simp) (by simp) (by simp) (by simp) (by simp)
 obtain⟨⟨av2,L2⟩,hr2⟩:∃r,cZ p now (av,L) p.head.toNat (p.tail.toNat-p.head.toNat)=r:=⟨_,rfl⟩
 have hc2:=Gv m p hp now av L p.head.toNat p.tail.toNat (by omega) (by omega) (by omega) (by omega) (by omega) hno (hns _ (by omega)) hnk av2 L2 hr2;rw[show((p.head.toNat:Nat):Int)=p.head by omega,show((p.tail.toNat:Nat):Int)=p.tail by omega,show av.length=p.nn by omega,show now.length=p.ns by omega]at hc2;have hl2:=je p now (av,L) p.head.toNat (p.tail.toNat-p.head.toNat);have hL2:=jP p now (av,L) p.head.toNat (p.tail.toNat-p.head.toNat);have hq2:=xp (p:=p) (now:=now) (s:=(av,L)) (i:=p.head.toNat) (k:=p.tail.toNat-p.head.toNat);rw[hr2]at hl2 hL2 hq2;simp only at hl2 hL2 hq2
 have hus:oF p (now,av,L)=(od p av2 Prod.snd p.ns (List.replicate now.length 0),av2,L2):=by
  unfold oF;simp only[hr2]
 rw[show now.length=p.ns by omega]at hus;refine aag (by simp[hle]<;>omega) (aad (hK3 _ _ (aaa λK5 hK5=>aaf (aak λK6 hK6=>?_))));simp;refine ag.sec 10 p now av av2 L L2 (by rfl) (by rfl) hq2 (by omega) (by omega) hc2 ?_;intro Fj rds he;simp[he,aj];apply hK6;refine aaF (κ2:=9) (KU rfl (gS L) L L2 hL2.1 [(1,.c (.d (.int .i64 s))),(2,.c (.ptr 0 0)),(4,.c (.ptr 1 0)),(7,.c (.ptr 2 0)),(8,.c (.aD 3 0 p.nn 1)),(9,.c (.aD 4 0 p.ns 1)),(11,.c (.d (.int .i64 j)))] rfl (by intro k5;simp[bP])) ?_;refine aap @rZ @aj.eq_1 ?_;refine aaa λK6 hK6=>aab ?_;refine aaf ?_
 refine aao (λ(i:Nat)=>⟨aU [(1,.c (.d (.int .i64 s))),(2,.c (.ptr 0 0)),(4,.c (.ptr 1 0)),(7,.c (.ptr 2 0)),(8,.c (.aD 3 0 p.nn 1)),(9,.c (.aD 4 0 p.ns 1)),(11,.c (.d (.int .i64 j))),(12,.c (.aD 7 0 p.ns 1)),(13,.c (.d (.int .i64 i)))],JA p now av2 (gS L2) (uB L2) .hole (.cells true false 3 (zK (od p av2 Prod.snd i (List.replicate p.ns 0))))⟩) 10
  (λi=>i<=p.ns) (λi=>p.ns-i) 0 (NM rfl L2 3 4 5 9 (.cells true false 3 (zK (od p av2 Prod.snd 0 (List.replicate p.ns 0)))) _ (by decide) (by simp) (by simp) (by simp[gS]) (by simp) (by simp) (λg=>by simpa using ga L2 g) (λg=>⟨true,_,by simp[od,uI],(bp _ _).symm,id⟩) (by simp) (by simp[bP])) (Zi _) ?_
 rintro i hi
 try simp only at hi
 have UC:=pW p av2 Prod.snd (List.replicate p.ns 0) i;rw[aaY]at UC;have es2:od p av2 Prod.snd (i+1) (List.replicate p.ns 0)=(od p av2 Prod.snd i (List.replicate p.ns 0)).set i (av2.getD (p.st i).2.toNat 0):=rfl;obtain⟨nx,hnx⟩:∃nx,od p av2 Prod.snd i (List.replicate p.ns 0)=nx:=⟨_,rfl⟩
 rw[hnx]at UC es2;simp only[hnx];refine aaa λK7 hK7=>aam @rZ ?_
 by_cases hli:i<p.ns
 ·have hli':(i:Int)<(p.ns:Int):=by omega
  have hx:=λlv=>Iu hp lv i hli
  have hwi:=bF (n:=(i:Int)+1) (by omega) (by omega);have hst0:=x9 hg hli;obtain⟨q,hq⟩:∃q:Nat,(p.st i).2=q:=⟨(p.st i).2.toNat,by omega⟩
  have hql:q<av2.length:=by omega
  have hql':(q:Int)<(p.nn:Int):=by omega
  have hle1:i+1<=nx.length:=by omega
  have hle2:q+1<=av2.length:=by omega
  have hld:=ez (P:=prog) (T:=3) (by simp) hql;have hzs:=l7 nx i av2[q] (by omega)
  have es3:od p av2 Prod.snd (i+1) (List.replicate p.ns 0)=nx.set i av2[q]:=by
   rw[es2,hq,Zp,Y8,cy hql];rfl
  refine aag (by simp[hli']<;>omega) (aad (hK7 _ _ (aaa λK9 hK9=>aaf (aac ?_))));simp[hx,hq,hli',hql',hld,hle1,hle2];apply hK9;refine aac ?_;simp[hwi];refine⟨i+1,?_,by omega,by omega⟩;simp only[es3];exact NM rfl L2 3 4 5 7 _ _ (by decide) (by simp) (by simp) (by simp[gS]) (by simp) (by simp) (λg=>by simpa using ga L2 g) (λg=>⟨true,_,by simp[hzs],(bp _ _).symm,id⟩) (by simp) (by simp[bP])
 have hie:i=p.ns:=by omega
 subst hie;refine aah (aan (hK6 _ _ (aaD (hK5 _ _ ?_))));refine aac ?_;simp[hw];refine⟨j+1,?_,by omega,by omega⟩;rw[hus,hnx]at hsx;simp only[hsx];exact NM rfl L2 3 7 5 6 .hole _ (by decide) (by simp) (by simp) (by simp[gS]) (by simp) (by simp) (λg=>by simpa using ga L2 g) (λg=>rfl) (by simp) (by simp[bP])
def Rb(m:Int)(p:PD)(hp:p.ok)(s:Int)(h0:(dA p).2.2=0)(hs:0<=s/\s<=200)(hbig:¬64<yp p s):aa prog (GG m) 26 [p.A,.c (.d (.int .i64 s))] (.tup [(jy p s.toNat).A,.c (.d (.int .i64 0))]):=by
 have h:=so m p hp;have hg:=ou hp h0;rw[h0]at h;have s1:¬s<0:=by omega
 have s2:¬200<s:=by omega
 obtain⟨es,hes⟩:=CI hg.gen;obtain⟨g1,g2,g3,g4,g5⟩:=FZ hg.gen;have hb:p.tail.toNat<=p.nn:=by omega
 have hsn:=oN p p.head.toNat (p.tail.toNat-p.head.toNat);have hX:0<=jh p/\jh p<=64:=by unfold jh;omega
 have hX1:0<=s*jh p:=Int.mul_nonneg hs.1 hX.1;have hX2:s*jh p<=200*64:=Int.mul_le_mul hs.2 hX.2 hX.1 (by omega);obtain⟨M0,hM0⟩:∃M0,M0=p.head+s*jh p:=⟨_,rfl⟩
 have k1:=bF (n:=p.tail-p.head) (by omega) (by omega);have k2:IntKind.i64.wrap (p.tail-p.head-(pZ p p.head.toNat (p.tail.toNat-p.head.toNat):Int))=jh p:=bF (n:=jh p) (by omega) (by omega);have k3:=bF (n:=s*jh p) (by omega) (by omega);have k4:=bF (n:=p.head+s*jh p) (by omega) (by omega);have hsl1:=λlv=>UN lv hp hes (a:=p.tail) (by omega) g3
 have hln1:=λlv=>BO (p:=p) lv (a:=p.tail.toNat) (aY p.nn)
 have hsl:=λlv=>Yy lv hp hes g1 g2 g3
 have hln:=λlv=>BO (p:=p) lv (a:=p.head.toNat) hb
 refine aa.ed func26 rfl λ_=>aab ?_;refine aaa λK hK=>aar 2 h ?_;refine aab ?_;refine aah (aad (hK _ _ (aaa λK hK=>aap s1 s2 ?_)));refine aah (aad (hK _ _ (aab ?_)));refine aaa λK hK=>aap hsl hln ?_;refine aaf ?_
 refine aao (λ(j:Nat)=>⟨aU [(1,.c (.d (.int .i64 s))),(2,.c (.ptr 0 0)),(4,.c (.ptr 1 0)),(7,.c (.d (.int .i64 (pZ p p.head.toNat j)))),(41,.c (dc (th p p.head.toNat p.tail.toNat))),(42,.c (.d (.int .i64 ((p.tail.toNat-p.head.toNat:Nat):Int)))),(43,.c (.d (.int .i64 j)))],
  az (az (λ_=>.hole) 0 (.cells true false 27 p.cs)) 1 (.cells true false 27 iU.cs)⟩) 2
  (λj=>j<=p.tail.toNat-p.head.toNat) (λj=>p.tail.toNat-p.head.toNat-j) 0 (Le.mX _ (by simp[iU,dc]) (by simp[pZ])) (Zi _) ?_
 rintro j hj
 try simp only at hj
 refine aab ?_;refine aaa λK2 hK2=>?_
 by_cases hlt:j<p.tail.toNat-p.head.toNat
 ·have hlt':(j:Int)<((p.tail.toNat-p.head.toNat:Nat):Int):=by omega
  have hx:=λlv=>Ie hp lv hlt hb
  have f12:=bF (n:=(j:Int)+1) (by omega) (by omega);have hsle:=oN p p.head.toNat j;have hss:=mJ p p.head.toNat j;have f13:=bF (n:=(pZ p p.head.toNat j:Int)+1) (by omega) (by omega);refine aag (by simp[hlt']<;>omega) (aad (hK2 _ _ (aaa λK3 hK3=>aaf (aap hx @aj.eq_1 ?_))));refine aab ?_
  by_cases h2:(p.nd (p.head.toNat+j)).op=2
  ·have h2':((p.nd (p.head.toNat+j)).op=2)=True:=by simp[h2]
   refine aag (by simp[h2']<;>omega) (aas f13 (hK3 _ _ ?_));refine aac ?_;simp[f12];rw[if_pos h2]at hss;refine⟨j+1,?_,by omega,by omega⟩;simp only[hss];exact(Le.l5 [2] 9)
  ·have h2':((p.nd (p.head.toNat+j)).op=2)=False:=by simp[h2]
   refine aaj (by simp[h2']<;>omega) (aad (hK3 _ _ (aac ?_)));simp[f12];rw[if_neg h2]at hss;refine⟨j+1,?_,by omega,by omega⟩;simp only[hss];exact(Le.l5 [2] 9)
 have hje:j=p.tail.toNat-p.head.toNat:=by omega
 subst hje;refine aah (aan (hK _ _ (AW.f5 k1 k2 k3 k4 hM0 ?_)));refine aaa λK9 hK9=>aap hsl1 hln1 ?_;refine aaf ?_
 refine aao (λ(j:Nat)=>⟨aU [(1,.c (.d (.int .i64 s))),(2,.c (.ptr 0 0)),(4,.c (.ptr 1 0)),(10,.c (.d (.int .i64 (M0+((j:Int)-pZ p p.tail.toNat j))))),(69,.c (dc (th p p.tail.toNat p.nn))),(70,.c (.d (.int .i64 ((p.nn-p.tail.toNat:Nat):Int)))),(71,.c (.d (.int .i64 j)))],
  az (az (λ_=>.hole) 0 (.cells true false 27 p.cs)) 1 (.cells true false 27 iU.cs)⟩) 2
  (λj=>j<=p.nn-p.tail.toNat) (λj=>p.nn-p.tail.toNat-j) 0 (Le.mX _ (by simp[iU,dc]) (by simp[pZ,hM0])) (Zi _) ?_
 rintro j hj
 try simp only at hj
 refine aab ?_;refine aaa λK2 hK2=>?_
 by_cases hlt:j<p.nn-p.tail.toNat
 ·have hlt':(j:Int)<((p.nn-p.tail.toNat:Nat):Int):=by omega
  have hx:=λlv=>Ie hp lv hlt (aY p.nn)
  have f12:=bF (n:=(j:Int)+1) (by omega) (by omega);have hsle:=oN p p.tail.toNat j;have hss:=mJ p p.tail.toNat j;have f13:=bF (n:=M0+((j:Int)-pZ p p.tail.toNat j)+1) (by omega) (by omega);refine aag (by simp[hlt']<;>omega) (aad (hK2 _ _ (aaa λK3 hK3=>aaf (aap hx @aj.eq_1 ?_))));refine aab ?_
  by_cases h2:(p.nd (p.tail.toNat+j)).op=2
  ·have h2':((p.nd (p.tail.toNat+j)).op=2)=True:=by simp[h2]
   refine aaj (by simp[h2']<;>omega) (aad (hK3 _ _ (aac ?_)));simp[f12];rw[if_pos h2]at hss;refine⟨j+1,?_,by omega,by omega⟩;have hv:M0+(((j+1:Nat):Int)-((pZ p p.tail.toNat (j+1):Nat):Int))=M0+((j:Int)-pZ p p.tail.toNat j):=by rw[hss];omega
   simp only[hv];exact(Le.l5 [2] 9)
  ·have h2':((p.nd (p.tail.toNat+j)).op=2)=False:=by simp[h2]
   refine aag (by simp[h2']<;>omega) (aas f13 (hK3 _ _ ?_));refine aac ?_;simp[f12];rw[if_neg h2]at hss;refine⟨j+1,?_,by omega,by omega⟩;have hv:M0+(((j+1:Nat):Int)-((pZ p p.tail.toNat (j+1):Nat):Int))=M0+((j:Int)-pZ p p.tail.toNat j)+1:=by rw[hss];omega
   simp only[hv];exact(Le.l5 [2] 9)
 have hje:j=p.nn-p.tail.toNat:=by omega
 subst hje;refine aah (aan (hK9 _ _ ?_));have hmm:M0+(((p.nn-p.tail.toNat:Nat):Int)-pZ p p.tail.toNat (p.nn-p.tail.toNat))=yp p s:=by rw[hM0];rfl
 generalize M0+(((p.nn-p.tail.toNat:Nat):Int)-pZ p p.tail.toNat (p.nn-p.tail.toNat))=mm at*
 subst hmm;refine aaa λK4 hK4=>aam hbig ?_;refine aah (aad (hK4 _ _ ?_));have hcd:=II (GG m) p hp (E3 h0);have hz:∀g,(LB.cells true false 27 iU.cs).like (LB.cells true false 27 iU.cs) g:=λg=>Nc 27 iU g
 refine aar 2 hcd ?_;refine aam @aj.eq_1 ?_;refine aap @iN @aj.eq_1 ?_;refine aap @rZ @aj.eq_1 ?_;refine aak λK4 hK4=>?_;simp[G9,rz,xd,zH,iB];apply hK4;refine aaF (s2:=⟨aU [(1,.c (.d (.int .i64 s))),(2,.c (.ptr 0 0)),(4,.c (.ptr 1 0)),(13,.c (.ptr 2 0)),(14,.c (.ptr 4 0)),(15,.c (.ptr 6 0)),(16,.c (.func (.func 79) [] [.ptr 0 0,.ptr 6 0,.ptr 4 0,.ptr 2 0]))],sI p (.cells true false 27 iU.cs) (List.replicate p.ns 0) (List.replicate p.nn 0) (uS []) (uB []) .hole⟩) (κ2:=9) (Le.keys [(0,0,.cells true false 27 p.cs),(1,1,.cells true false 27 iU.cs),(2,2,.cells true false 27 (qC p (uS []))),(3,6,.cells true false 3 (zK (List.replicate p.nn 0))),(4,7,.cells true false 30 [.aD 3 0 (List.replicate p.nn (0:Int)).length 1]),(5,9,.cells true false 3 (zK (List.replicate p.ns 0))),(6,10,.cells true false 30 [.aD 5 0 (List.replicate p.ns (0:Int)).length 1])] 19 _ ?_ rfl (by simp) (by simp) rfl ?_ ?_) ?_
 ·refine Eq.trans (iq (k:=8) rfl) ?_;refine Eq.trans (iq (k:=7) rfl) ?_;rfl
 ·intro x hx;simp only[rP,Zd,or_false]at hx;rcases hx with rfl|rfl|rfl|rfl|rfl|rfl|rfl
  ·exact⟨true,p.cs,rfl,(fR p _).symm,id⟩
  ·exact⟨true,_,rfl,(fR iU _).symm,id⟩
  ·exact⟨true,_,rfl,by simp[qC,uS],id⟩
  ·exact⟨true,zK (List.replicate p.nn 0),by simp[uI],(bp _ _).symm,id⟩
  ·exact⟨true,[.aD 6 0 p.nn 1],by simp,by simp[bP],id⟩
  ·exact⟨true,zK (List.replicate p.ns 0),by simp[uI],(bp _ _).symm,id⟩
  ·exact⟨true,[.aD 9 0 p.ns 1],by simp,by simp[bP],id⟩
 ·simp[bP];rfl
 have hno:∀i,i<p.nn->1<=(p.nd i).op/\(p.nd i).op<=15:=λi hi=>(mg hg hi).1
 have hnk:∀i,i<p.nn->∀x∈bf (p.nd i),0<=x/\x<p.nn:=λi hi x hx=>by have:=(mg hg hi).2.2 x hx;omega
 have hns:∀l:List Int,l.length=p.ns->∀i,i<p.nn->(p.nd i).op=2->0<=(p.nd i).a/\(p.nd i).a<l.length:=λl hl i hi h2=>by have:=(mg hg hi).2.1 h2;omega
 have hN4:p.ns<=4:=(kC hg.gen).2.2.2.2.2.2;obtain⟨⟨av1,L1⟩,hr1⟩:∃r,cZ p (List.replicate p.ns 0) (List.replicate p.nn 0,[]) 0 (p.head.toNat-0)=r:=⟨_,rfl⟩
 have hA:mD p=(av1,L1):=hr1;have hc1:=GR m p hp (List.replicate p.ns 0) (List.replicate p.nn 0) [] 0 p.head.toNat (by omega) (by omega) (by omega) (by simp) (by simp) (by simp;omega) hno (hns _ (by simp)) hnk av1 L1 hr1;rw[show((p.head.toNat:Nat):Int)=p.head by omega]at hc1;have hl1:=je p (List.replicate p.ns 0) (List.replicate p.nn 0,[]) 0 (p.head.toNat-0);have hL1:=jP p (List.replicate p.ns 0) (List.replicate p.nn 0,[]) 0 (p.head.toNat-0);rw[hr1]at hl1 hL1;simp only[aaY,aaG]at hl1 hL1;refine aak λK4 hK4=>?_;simp[pN,mH,nW];refine ag.run 9 p (.cells true false 27 iU.cs) (List.replicate p.ns 0) (List.replicate p.nn 0) av1 [] L1 (by rfl) (by rfl) (by simpa using hl1) (λh=>Z4 h) hc1 ?_;intro Fj rds he;simp;apply hK4;refine aaF (κ2:=9) (Mc rfl (Zi _) [(1,.c (.d (.int .i64 s))),(2,.c (.ptr 0 0)),(4,.c (.ptr 1 0)),(13,.c (.ptr 2 0)),(14,.c (.ptr 4 0)),(15,.c (.ptr 6 0)),(16,.c (.func (.func 79) [] [.ptr 0 0,.ptr 6 0,.ptr 4 0,.ptr 2 0]))] hz he (by intro k7;simp[g8];try rfl)) ?_;refine aaa λK4 hK4=>aam @rZ ?_;refine aaf ?_
 refine aao (λ(j:Nat)=>⟨aU [(1,.c (.d (.int .i64 s))),(2,.c (.ptr 0 0)),(4,.c (.ptr 1 0)),(13,.c (.ptr 2 0)),(14,.c (.ptr 4 0)),(15,.c (.ptr 6 0)),(16,.c (.func (.func 79) [] [.ptr 0 0,.ptr 6 0,.ptr 4 0,.ptr 2 0])),(102,.c (dc p.states)),(103,.c (.d (.int .i64 p.ns))),(104,.c (.d (.int .i64 j)))],
  sI p (.cells true false 27 iU.cs) (od p av1 Prod.fst j (List.replicate p.ns 0)) av1 (uS L1) (uB L1) .hole⟩) 9
  (λj=>j<=p.ns) (λj=>p.ns-j) 0 (Wr rfl _ hz rfl (by simp[g8];try rfl)) (Zi _) ?_
 rintro j hj
 try simp only at hj
 have el:=pW p av1 Prod.fst (List.replicate p.ns 0) j;rw[aaY]at el;have es:od p av1 Prod.fst (j+1) (List.replicate p.ns 0)=(od p av1 Prod.fst j (List.replicate p.ns 0)).set j (av1.getD (p.st j).1.toNat 0):=rfl;obtain⟨nw,hnw⟩:∃nw,od p av1 Prod.fst j (List.replicate p.ns 0)=nw:=⟨_,rfl⟩
 rw[hnw]at el es;simp only[hnw];refine aab ?_;refine aaa λK2 hK2=>?_
 by_cases hlt:j<p.ns
 ·have hlt':(j:Int)<(p.ns:Int):=by omega
  have hx:=λlv=>Iu hp lv j hlt
  have hw:=bF (n:=(j:Int)+1) (by omega) (by omega);have hst0:=x9 hg hlt;obtain⟨q,hq⟩:∃q:Nat,(p.st j).1=q:=⟨(p.st j).1.toNat,by omega⟩
  have hql:q<av1.length:=by omega
  have hql':(q:Int)<(av1.length:Int):=by omega
  have hia:(j:Int)<(nw.length:Int):=by omega
  have hld:=ez (P:=prog) (T:=3) (by simp) hql
  have es2:od p av1 Prod.fst (j+1) (List.replicate p.ns 0)=nw.set j av1[q]:=by
   rw[es,hq,Zp,Y8,cy hql];rfl
  have hzs:=l7 nw j av1[q] (by omega);refine aag (by simp[hlt']<;>omega) (aad (hK2 _ _ (aaa λK3 hK3=>aaf (aap hx @aj.eq_1 ?_))));refine aaq mixed (by kernel_rfl) rfl ?_;simp[hq,hql',hia,hld]
  repeat refine ah ?_
  refine⟨by kernel_rfl,?_⟩;apply hK3;refine aac ?_;simp[hw];refine⟨j+1,?_,by omega,by omega⟩;simp only[es2];exact UU rfl L1 5 7 19 _ (by decide) hz (by simp) (by simp) (by simp;try rfl) (by simp) (by simp) (by simp[hzs]) (by simp) (λg=>by simpa using ga L1 g) (by simp) (by simp[g8];try rfl)
 have hje:j=p.ns:=by omega
 subst hje;refine aah (aan (hK4 _ _ ?_))
 have hB0:jE p 0=(nw,av1,L1):=by
  show(od p (mD p).1 Prod.fst p.ns (List.replicate p.ns 0),(mD p).1,(mD p).2)=_;rw[hA,hnw]
 have hBl:=λn=>Cm p (nw,av1,L1) (by omega) n
 have hBe:∀n,jE p n=nY p (nw,av1,L1) n:=λn=>by rw[<-hB0];rfl
 refine aaa λK4 hK4=>aab ?_;refine aaf ?_
 refine aao (λ(j:Nat)=>⟨aU [(1,.c (.d (.int .i64 s))),(2,.c (.ptr 0 0)),(4,.c (.ptr 1 0)),(13,.c (.ptr 2 0)),(14,.c (.ptr 4 0)),(15,.c (.ptr 6 0)),(16,.c (.func (.func 79) [] [.ptr 0 0,.ptr 6 0,.ptr 4 0,.ptr 2 0])),(118,.c (.d (.int .i64 s))),(119,.c (.d (.int .i64 j)))],
  sI p (.cells true false 27 iU.cs) (nY p (nw,av1,L1) j).1 (nY p (nw,av1,L1) j).2.1 (uS (nY p (nw,av1,L1) j).2.2) (uB (nY p (nw,av1,L1) j).2.2) .hole⟩) 9
  (λj=>j<=s.toNat) (λj=>s.toNat-j) 0 (Wr rfl _ hz rfl (by simp[g8];try rfl)) (Zi _) ?_
 rintro j hj
 try simp only at hj
 have hlen:=hBl j;have hsx:nY p (nw,av1,L1) (j+1)=oF p (nY p (nw,av1,L1) j):=rfl;obtain⟨⟨now,av,L⟩,hS⟩:∃S,nY p (nw,av1,L1) j=S:=⟨_,rfl⟩
 rw[hS]at hlen hsx;simp only at hlen;simp only[hS];obtain⟨hln,hla,hLg,hLl⟩:=hlen;refine aab ?_;refine aaa λK2 hK2=>?_
 by_cases hlt:j<s.toNat
 ·have hlt':(j:Int)<s:=by omega
  have hw:=bF (n:=(j:Int)+1) (by omega) (by omega);obtain⟨⟨av2,L2⟩,hr2⟩:∃r,cZ p now (av,L) p.head.toNat (p.tail.toNat-p.head.toNat)=r:=⟨_,rfl⟩
  have hc2:=GR m p hp now av L p.head.toNat p.tail.toNat (by omega) (by omega) (by omega) (by omega) (by omega) (by omega) hno (hns _ (by omega)) hnk av2 L2 hr2;rw[show((p.head.toNat:Nat):Int)=p.head by omega,show((p.tail.toNat:Nat):Int)=p.tail by omega]at hc2;have hl2:=je p now (av,L) p.head.toNat (p.tail.toNat-p.head.toNat);have hL2:=jP p now (av,L) p.head.toNat (p.tail.toNat-p.head.toNat);have hq2:=xp (p:=p) (now:=now) (s:=(av,L)) (i:=p.head.toNat) (k:=p.tail.toNat-p.head.toNat);rw[hr2]at hl2 hL2 hq2;simp only at hl2 hL2 hq2
  have hus:oF p (now,av,L)=(od p av2 Prod.snd p.ns (List.replicate now.length 0),av2,L2):=by
   unfold oF;simp only[hr2]
  refine aag (by simp[hlt']<;>omega) (aad (hK2 _ _ (aaa λK3 hK3=>aaf (aak λK5 hK5=>?_))));simp[pN,mH,nW];refine ag.run 9 p (.cells true false 27 iU.cs) now av av2 L L2 (by rfl) (by rfl) hl2 hq2 hc2 ?_;intro Fj rds he;simp;apply hK5;refine aaF (κ2:=9) (Mc rfl hL2.1 [(1,.c (.d (.int .i64 s))),(2,.c (.ptr 0 0)),(4,.c (.ptr 1 0)),(13,.c (.ptr 2 0)),(14,.c (.ptr 4 0)),(15,.c (.ptr 6 0)),(16,.c (.func (.func 79) [] [.ptr 0 0,.ptr 6 0,.ptr 4 0,.ptr 2 0])),(118,.c (.d (.int .i64 s))),(119,.c (.d (.int .i64 j)))] hz he (by intro k7;simp[g8];try rfl)) ?_;refine aam @aj.eq_1 ?_;refine aaa λK5 hK5=>aam @rZ ?_;refine aaf ?_
  refine aao (λ(i:Nat)=>⟨aU [(1,.c (.d (.int .i64 s))),(2,.c (.ptr 0 0)),(4,.c (.ptr 1 0)),(13,.c (.ptr 2 0)),(14,.c (.ptr 4 0)),(15,.c (.ptr 6 0)),(16,.c (.func (.func 79) [] [.ptr 0 0,.ptr 6 0,.ptr 4 0,.ptr 2 0])),(118,.c (.d (.int .i64 s))),(119,.c (.d (.int .i64 j))),(19,.c (.aD 9 0 now.length 1)),(131,.c (dc p.states)),(132,.c (.d (.int .i64 p.ns))),(133,.c (.d (.int .i64 i)))],
   az (sI p (.cells true false 27 iU.cs) now av2 (uS L2) (uB L2) .hole) 9 (.cells true false 3 (zK (od p av2 Prod.snd i (List.replicate now.length 0))))⟩) 10
   (λi=>i<=p.ns) (λi=>p.ns-i) 0 (UI rfl L2 _ hz rfl rfl rfl rfl rfl rfl rfl rfl (by simp[od,uI]) rfl (by simp[g9,g8];try rfl)) (Zi _) ?_
  rintro i hi
  try simp only at hi
  have el:=pW p av2 Prod.snd (List.replicate now.length 0) i;rw[aaY]at el;have es:od p av2 Prod.snd (i+1) (List.replicate now.length 0)=(od p av2 Prod.snd i (List.replicate now.length 0)).set i (av2.getD (p.st i).2.toNat 0):=rfl;obtain⟨nx,hnx⟩:∃nx,od p av2 Prod.snd i (List.replicate now.length 0)=nx:=⟨_,rfl⟩
  rw[hnx]at el es;simp only[hnx];refine aab ?_;refine aaa λK6 hK6=>?_
  by_cases hli:i<p.ns
  ·have hli':(i:Int)<(p.ns:Int):=by omega
   have hx:=λlv=>Iu hp lv i hli
   have hwi:=bF (n:=(i:Int)+1) (by omega) (by omega);have hst0:=x9 hg hli;obtain⟨q,hq⟩:∃q:Nat,(p.st i).2=q:=⟨(p.st i).2.toNat,by omega⟩
   have hql:q<av2.length:=by omega
   have hql':(q:Int)<(av2.length:Int):=by omega
   have hia:(i:Int)<(now.length:Int):=by omega
   have hld:=ez (P:=prog) (T:=3) (by simp) hql
   have es2:od p av2 Prod.snd (i+1) (List.replicate now.length 0)=nx.set i av2[q]:=by
    rw[es,hq,Zp,Y8,cy hql];rfl
   have hzs:=l7 nx i av2[q] (by omega);refine aag (by simp[hli']<;>omega) (aad (hK6 _ _ (aaa λK7 hK7=>aaf (aap hx @aj.eq_1 ?_))));refine aay hq hql' hia hld (hK7 _ _ ?_);refine aac ?_;simp[hwi];refine⟨i+1,?_,by omega,by omega⟩;simp only[es2];exact UI rfl L2 _ hz (by simp) (by simp) (by simp) (by simp) (by simp) (by simp) (by simp) (by simp) (by simp[hzs]) (by simp) (by simp[g9,g8];try rfl)
  have hie:i=p.ns:=by omega
  subst hie;refine aah (aan (hK5 _ _ (aas @aj.eq_1 (hK3 _ _ ?_))));refine aac ?_;simp[hw];refine⟨j+1,?_,by omega,by omega⟩;rw[hus,hnx]at hsx;simp only[hsx];exact UU rfl L2 9 7 19 _ (by decide) hz (by simp) (by simp) (by simp;try rfl) (by simp) (by simp) (by simp) (by simp[el]) (λg=>by simpa using ga L2 g) (by simp) (by simp[g8];try rfl)
 have hje:j=s.toNat:=by omega
 subst hje;refine aah (aan (hK4 _ _ ?_));have hBs:jE p s.toNat=(now,av,L):=(hBe _).trans hS;obtain⟨⟨av3,L3⟩,hr3⟩:∃r,cZ p now (av,L) p.tail.toNat (p.nn-p.tail.toNat)=r:=⟨_,rfl⟩
 have hC:hU p s.toNat=(av3,L3):=by unfold hU;rw[hBs];exact hr3
 have hc3:=GR m p hp now av L p.tail.toNat p.nn (by omega) (by omega) (by omega) (by omega) (by omega) (by omega) hno (hns _ (by omega)) hnk av3 L3 hr3;rw[show((p.tail.toNat:Nat):Int)=p.tail by omega]at hc3;have hl3:=je p now (av,L) p.tail.toNat (p.nn-p.tail.toNat);have hL3:=jP p now (av,L) p.tail.toNat (p.nn-p.tail.toNat);have hq3:=xp (p:=p) (now:=now) (s:=(av,L)) (i:=p.tail.toNat) (k:=p.nn-p.tail.toNat);rw[hr3]at hl3 hL3 hq3;simp only at hl3 hL3 hq3;have hne:L3≠[]:=by have h1:=Nr hg hr1;have h3:=hL3.1;intro e;rw[e,aaG]at h3;omega
 have huS:uS L3=.aD 7 0 L3.length 7:=if_neg hne;have huB:uB L3=.cells true false 55 (gm L3):=if_neg hne;refine aak λK4 hK4=>?_;simp[pN,mH,nW,iN];refine ag.run 9 p (.cells true false 27 iU.cs) now av av3 L L3 (by rfl) (by rfl) hl3 hq3 hc3 ?_;intro Fj rds he;simp;apply hK4;refine aaF (κ2:=9) (Mc rfl hL3.1 [(1,.c (.d (.int .i64 s))),(2,.c (.ptr 0 0)),(4,.c (.ptr 1 0)),(13,.c (.ptr 2 0)),(14,.c (.ptr 4 0)),(15,.c (.ptr 6 0)),(16,.c (.func (.func 79) [] [.ptr 0 0,.ptr 6 0,.ptr 4 0,.ptr 2 0]))] hz he (by intro k7;simp[g8];try rfl)) ?_;rw[huS,huB];refine aap @aj.eq_1 @gN ?_;have hres:=hg.res;obtain⟨q,hq⟩:∃q:Nat,p.res=q:=⟨p.res.toNat,by omega⟩
 have hql:q<av3.length:=by omega
 have hql':(q:Int)<(av3.length:Int):=by omega
 have hld:=ez (P:=prog) (T:=3) (by simp) hql;refine aaE hq hql' hld @aj.eq_1 ?_;refine aam @aj.eq_1 ?_
 have hV:jy p s.toNat=⟨p.f,p.mode,p.ins,some (L3.map Nd.e),L3.length,L3.length,none,av3[q]⟩:=by
  unfold jy;rw[hC,hq,Zp,Y8,cy hql];rfl
 rw[hV];refine aal ?_;refine jU.jQ (X:=.agg [dc p.f,.d (.int .i64 p.mode),dc p.ins,.aD 7 0 L3.length 7,.d (.int .i64 L3.length),.d (.int .i64 L3.length),.d .nilsl,.d (.int .i64 av3[q])]) (y:=.c (.d (.int .i64 0))) (κ:=0) (T:=27) (t:=4) (u:=5) (k:=1) (off:=0) (own:=true) (fz:=false) (U:=27) (cs:=[dc p.f,.d (.int .i64 p.mode),dc p.ins,.aD 7 0 L3.length 7,.d (.int .i64 L3.length),.d (.int .i64 L3.length),.d .nilsl,.d (.int .i64 av3[q])]) (ks:=[7]) rfl ?_ ?_ ?_ ?_ rfl rfl ?_
 ·simp
 ·simp[aj]
 ·rw[Y9];exact yN ..
 ·simp
 ·exact Ed (own:=true) (fz:=false) (by omega) (by simp)
def Ok(m:Int)(p:PD)(hp:p.ok)(s:Int)(h0:(dA p).2.2≠0):aa prog (GG m) 26 [p.A,.c (.d (.int .i64 s))] (.tup [iU.A,.c (.d (.int .i64 (dA p).2.2))]):=by
 have h:=so m p hp;generalize (dA p).2.2=e at*
 refine aa.JY func26 rfl (λlv=>nR lv _ _) λ_=>aab ?_;refine aaa λK hK=>aaw 2 h h0 ?_;refine aab ?_;refine aag (by simp[h0]<;>omega) (aam @Q7 ?_);exact aae (A7 rfl rfl 1)
def zj(G:List (List DV))(p q:PD)(hp:p.ok)(hq:q.ok):aa prog G 20 [p.A,q.A] (.c (.d (.bool (jr p q)))):=by
 refine aA.jR 0 (by simp) (λV v h=>PD.TH h) λhr=>?_;obtain⟨hr0,hr2,hr3,hr6⟩:=hr;have lp0:∀(lv:Key->LB) (o:Option (List (List DV))),eJ prog 22 lv (oV o)=some (.c (.d (.int .i64 (sO o).length)),[],[],True):=λlv o=>cE (by simp)
 have lp2:∀(lv:Key->LB) (o:Option (List (List DV))),eJ prog 23 lv (oV o)=some (.c (.d (.int .i64 (sO o).length)),[],[],True):=λlv o=>cE (by simp)
 have lp3:∀(lv:Key->LB) (o:Option (List (List DV))),eJ prog 24 lv (oV o)=some (.c (.d (.int .i64 (sO o).length)),[],[],True):=λlv o=>cE (by simp)
 have lp6:∀(lv:Key->LB) (o:Option (List (List DV))),eJ prog 25 lv (oV o)=some (.c (.d (.int .i64 (sO o).length)),[],[],True):=λlv o=>cE (by simp)
 refine aa.en func20 rfl λ_=>aab ?_;refine aaa λK hK=>aaa λK1 hK1=>?_
 by_cases h1:p.mode=q.mode
 rotate_left
 ·refine aas h1 (hK1 _ _ ?_);refine aai (aab ?_);exact aae (au.rt rfl 4 (by simp[jr,h1]))
 by_cases h2:p.head=q.head
 rotate_left
 ·refine aau h1 h2 (hK1 _ _ ?_);refine aai (aab ?_);exact aae (au.rt rfl 4 (by simp[jr,h2]))
 by_cases h3:p.tail=q.tail
 rotate_left
 ·refine aaA h1 h2 h3 (hK1 _ _ ?_);refine aai (aab ?_);exact aae (au.rt rfl 4 (by simp[jr,h3]))
 by_cases h4:p.res=q.res
 rotate_left
 ·refine aay h1 h2 h3 h4 (hK1 _ _ ?_);refine aai (aab ?_);exact aae (au.rt rfl 4 (by simp[jr,h4]))
 refine aay h1 h2 h3 h4 (hK1 _ _ ?_);refine aah (aad (hK _ _ (aaa λK hK=>aaa λK1 hK1=>?_)))
 by_cases l1:(sO p.f).length=(sO q.f).length
 rotate_left
 ·have L1:¬((sO p.f).length:Int)=((sO q.f).length:Int):=by omega
  refine aac ?_;simp[lp0,lp2,lp3,lp6,l1,L1];apply hK1;refine aai (aab ?_);have:=ng l1;exact aae (au.rt rfl 4 (by simp[jr,this]))
 by_cases l2:(sO p.ins).length=(sO q.ins).length
 rotate_left
 ·have L2:¬((sO p.ins).length:Int)=((sO q.ins).length:Int):=by omega
  refine aac ?_;simp[lp0,lp2,lp3,lp6,l1,l2,L2];apply hK1;refine aai (aab ?_);have:=ng l2;exact aae (au.rt rfl 4 (by simp[jr,this]))
 by_cases l3:(sO p.nodes).length=(sO q.nodes).length
 rotate_left
 ·have L3:¬((sO p.nodes).length:Int)=((sO q.nodes).length:Int):=by omega
  refine aac ?_;simp[lp0,lp2,lp3,lp6,l1,l2,l3,L3];apply hK1;refine aai (aab ?_);have:=ng l3;exact aae (au.rt rfl 4 (by simp[jr,this]))
 by_cases l4:(sO p.states).length=(sO q.states).length
 rotate_left
 ·have L4:¬((sO p.states).length:Int)=((sO q.states).length:Int):=by omega
  refine aac ?_;simp[lp0,lp2,lp3,lp6,l1,l2,l3,l4,L4];apply hK1;refine aai (aab ?_);have:=ng l4;exact aae (au.rt rfl 4 (by simp[jr,this]))
 refine aac ?_;simp[lp0,lp2,lp3,lp6,l1,l2,l3,l4];apply hK1;refine aah (aad (hK _ _ (aaa λK hK=>aab ?_)));refine aaf ?_
 refine aao (λ(i:Nat)=>⟨aU [(2,.c (.ptr 0 0)),(3,.c (.ptr 1 0)),(5,.c (.d (.int .i64 i)))],az (az (λ_=>.hole) 0 (.cells true false 27 p.cs)) 1 (.cells true false 27 q.cs)⟩) 2
  (λi=>i<=(sO p.f).length/\∀j (hj:j<i) (h1:j<(sO p.f).length) (h2:j<(sO q.f).length),uq (sO p.f)[j] (sO q.f)[j]=true)
  (λi=>(sO p.f).length-i) 0 (Le.mk' _ (by simp[h1,h2,h3,h4]) (by simp) (by simp)) (by simp) ?_
 rintro i ⟨hi,hall⟩;refine aaa λK3 hK3=>aam lp0 ?_
 by_cases hi2:i<(sO p.f).length
 ·have hi3:i<(sO q.f).length:=by omega
  have he:=hp.f _ (bh hi2);have he':=hq.f _ (bh hi3);have hx:∀lv:Key->LB,aq prog 22 lv (oV p.f) (.c (.d (.int .i64 (i:Int))))=some (.c (.d (.ptr (sO p.f)[i])),[],[],True):=λlv=>j9 (sz:=2) (by simp) hi2 (iI he)
  have hy:∀lv:Key->LB,aq prog 22 lv (oV q.f) (.c (.d (.int .i64 (i:Int))))=some (.c (.d (.ptr (sO q.f)[i])),[],[],True):=λlv=>j9 (sz:=2) (by simp) hi3 (iI he')
  have l1:∀lv:Key->LB,bk prog 81 lv (.c (.d (.ptr (sO p.f)[i])))=some (.agg ((sO p.f)[i].map .d),[],[],True):=λlv=>To he
  have l2:∀lv:Key->LB,bk prog 81 lv (.c (.d (.ptr (sO q.f)[i])))=some (.agg ((sO q.f)[i].map .d),[],[],True):=λlv=>To he'
  have b1:bk prog 22 (az (az (λ_=>.hole) 0 (.cells true false 27 p.cs)) 1 (.cells true false 27 q.cs)) (.c (.ptr 0 0))=some (oV p.f,[],[0],True):=by simp
  have b2:bk prog 22 (az (az (λ_=>.hole) 0 (.cells true false 27 p.cs)) 1 (.cells true false 27 q.cs)) (.c (.ptr 1 0))=some (oV q.f,[],[1],True):=by simp
  have hnb:=nb (T:=81) (by kernel_rfl) ⟨_,rfl⟩ (UM he he');simp only[PD.cs]at b1 b2;refine aag (by simp[hi2]<;>omega) (aad (hK3 _ _ (aaa λK5 hK5=>aaf (aaa λK6 hK6=>?_))));refine aav mixed (by kernel_rfl) rfl rfl ?_;simp[hx,hy,l1,l2,b1,b2,hnb,-bk];apply hK6
  by_cases hq:uq (sO p.f)[i] (sO q.f)[i]=true
  ·refine aaj (by simp[hq]<;>omega) (aad (hK5 _ _ ?_));have e3:=bF (n:=(i:Int)+1) (by omega) (by omega);refine aac ?_;simp[e3];refine⟨i+1,Le.mk' _ (by simp) (by simp) (by simp),⟨by omega,?_⟩,by omega⟩;intro j hj h1 h2
   by_cases hji:j=i
   ·subst hji;exact hq
   ·exact hall j (by omega) h1 h2
  ·have hq':uq (sO p.f)[i] (sO q.f)[i]=false:=by simpa using hq
   refine aag (by simp[hq']<;>omega) (aab ?_);have:=p6 hi2 hi3 hq';exact aae (au.rt rfl 4 (by simp[jr,this]))
 refine aaj (by simp[hi2]<;>omega) (aan (hK _ _ ?_));have f1:=mM.2 ⟨l1,λj hj=>hall j (by omega) hj (by omega)⟩;clear hall hi2 hi;refine aaa λK hK=>aab ?_;refine aaf ?_
 refine aao (λ(i:Nat)=>⟨aU [(2,.c (.ptr 0 0)),(3,.c (.ptr 1 0)),(6,.c (.d (.int .i64 i)))],az (az (λ_=>.hole) 0 (.cells true false 27 p.cs)) 1 (.cells true false 27 q.cs)⟩) 2
  (λi=>i<=(sO p.ins).length/\∀j (hj:j<i) (h1:j<(sO p.ins).length) (h2:j<(sO q.ins).length),uq (sO p.ins)[j] (sO q.ins)[j]=true)
  (λi=>(sO p.ins).length-i) 0 (Le.mk' _ (by simp[h1,h2,h3,h4]) (by simp) (by simp)) (by simp) ?_
 rintro i ⟨hi,hall⟩;refine aaa λK3 hK3=>aam lp2 ?_
 by_cases hi2:i<(sO p.ins).length
 ·have hi3:i<(sO q.ins).length:=by omega
  have he:=hp.ins _ (bh hi2);have he':=hq.ins _ (bh hi3);have hx:∀lv:Key->LB,aq prog 23 lv (oV p.ins) (.c (.d (.int .i64 (i:Int))))=some (.c (.d (.ptr (sO p.ins)[i])),[],[],True):=λlv=>j9 (sz:=3) (by simp) hi2 (mW he)
  have hy:∀lv:Key->LB,aq prog 23 lv (oV q.ins) (.c (.d (.int .i64 (i:Int))))=some (.c (.d (.ptr (sO q.ins)[i])),[],[],True):=λlv=>j9 (sz:=3) (by simp) hi3 (mW he')
  have l1:∀lv:Key->LB,bk prog 67 lv (.c (.d (.ptr (sO p.ins)[i])))=some (.agg ((sO p.ins)[i].map .d),[],[],True):=λlv=>Uz he
  have l2:∀lv:Key->LB,bk prog 67 lv (.c (.d (.ptr (sO q.ins)[i])))=some (.agg ((sO q.ins)[i].map .d),[],[],True):=λlv=>Uz he'
  have b1:bk prog 23 (az (az (λ_=>.hole) 0 (.cells true false 27 p.cs)) 1 (.cells true false 27 q.cs)) (.c (.ptr 0 2))=some (oV p.ins,[],[0],True):=by simp
  have b2:bk prog 23 (az (az (λ_=>.hole) 0 (.cells true false 27 p.cs)) 1 (.cells true false 27 q.cs)) (.c (.ptr 1 2))=some (oV q.ins,[],[1],True):=by simp
  have hnb:=nb (T:=67) (by kernel_rfl) ⟨_,rfl⟩ (UB he he');simp only[PD.cs]at b1 b2;refine aag (by simp[hi2]<;>omega) (aad (hK3 _ _ (aaa λK5 hK5=>aaf (aaa λK6 hK6=>?_))));refine aav mixed (by kernel_rfl) rfl rfl ?_;simp[hx,hy,l1,l2,b1,b2,hnb,-bk];apply hK6
  by_cases hq:uq (sO p.ins)[i] (sO q.ins)[i]=true
  ·refine aaj (by simp[hq]<;>omega) (aad (hK5 _ _ ?_));have e3:=bF (n:=(i:Int)+1) (by omega) (by omega);refine aac ?_;simp[e3];refine⟨i+1,Le.mk' _ (by simp) (by simp) (by simp),⟨by omega,?_⟩,by omega⟩;intro j hj h1 h2
   by_cases hji:j=i
   ·subst hji;exact hq
   ·exact hall j (by omega) h1 h2
  ·have hq':uq (sO p.ins)[i] (sO q.ins)[i]=false:=by simpa using hq
   refine aag (by simp[hq']<;>omega) (aab ?_);have:=p6 hi2 hi3 hq';exact aae (au.rt rfl 4 (by simp[jr,this]))
 refine aaj (by simp[hi2]<;>omega) (aan (hK _ _ ?_));have f2:=mM.2 ⟨l2,λj hj=>hall j (by omega) hj (by omega)⟩;clear hall hi2 hi;refine aaa λK hK=>aab ?_;refine aaf ?_
 refine aao (λ(i:Nat)=>⟨aU [(2,.c (.ptr 0 0)),(3,.c (.ptr 1 0)),(7,.c (.d (.int .i64 i)))],az (az (λ_=>.hole) 0 (.cells true false 27 p.cs)) 1 (.cells true false 27 q.cs)⟩) 2
  (λi=>i<=(sO p.nodes).length/\∀j (hj:j<i) (h1:j<(sO p.nodes).length) (h2:j<(sO q.nodes).length),uq (sO p.nodes)[j] (sO q.nodes)[j]=true)
  (λi=>(sO p.nodes).length-i) 0 (Le.mk' _ (by simp[h1,h2,h3,h4]) (by simp) (by simp)) (by simp) ?_
 rintro i ⟨hi,hall⟩;refine aaa λK3 hK3=>aam lp3 ?_
 by_cases hi2:i<(sO p.nodes).length
 ·have hi3:i<(sO q.nodes).length:=by omega
  have he:=hp.nodes _ (bh hi2);have he':=hq.nodes _ (bh hi3);have hx:∀lv:Key->LB,aq prog 24 lv (oV p.nodes) (.c (.d (.int .i64 (i:Int))))=some (.c (.d (.ptr (sO p.nodes)[i])),[],[],True):=λlv=>j9 (sz:=7) (by simp) hi2 (mO he)
  have hy:∀lv:Key->LB,aq prog 24 lv (oV q.nodes) (.c (.d (.int .i64 (i:Int))))=some (.c (.d (.ptr (sO q.nodes)[i])),[],[],True):=λlv=>j9 (sz:=7) (by simp) hi3 (mO he')
  have l1:∀lv:Key->LB,bk prog 55 lv (.c (.d (.ptr (sO p.nodes)[i])))=some (.agg ((sO p.nodes)[i].map .d),[],[],True):=λlv=>TQ he
  have l2:∀lv:Key->LB,bk prog 55 lv (.c (.d (.ptr (sO q.nodes)[i])))=some (.agg ((sO q.nodes)[i].map .d),[],[],True):=λlv=>TQ he'
  have b1:bk prog 24 (az (az (λ_=>.hole) 0 (.cells true false 27 p.cs)) 1 (.cells true false 27 q.cs)) (.c (.ptr 0 3))=some (oV p.nodes,[],[0],True):=by simp
  have b2:bk prog 24 (az (az (λ_=>.hole) 0 (.cells true false 27 p.cs)) 1 (.cells true false 27 q.cs)) (.c (.ptr 1 3))=some (oV q.nodes,[],[1],True):=by simp
  have hnb:=nb (T:=55) (by kernel_rfl) ⟨_,rfl⟩ (S1 he he');simp only[PD.cs]at b1 b2;refine aag (by simp[hi2]<;>omega) (aad (hK3 _ _ (aaa λK5 hK5=>aaf (aaa λK6 hK6=>?_))));refine aav mixed (by kernel_rfl) rfl rfl ?_;simp[hx,hy,l1,l2,b1,b2,hnb,-bk];apply hK6
  by_cases hq:uq (sO p.nodes)[i] (sO q.nodes)[i]=true
  ·refine aaj (by simp[hq]<;>omega) (aad (hK5 _ _ ?_));have e3:=bF (n:=(i:Int)+1) (by omega) (by omega);refine aac ?_;simp[e3];refine⟨i+1,Le.mk' _ (by simp) (by simp) (by simp),⟨by omega,?_⟩,by omega⟩;intro j hj h1 h2
   by_cases hji:j=i
   ·subst hji;exact hq
   ·exact hall j (by omega) h1 h2
  ·have hq':uq (sO p.nodes)[i] (sO q.nodes)[i]=false:=by simpa using hq
   refine aag (by simp[hq']<;>omega) (aab ?_);have:=p6 hi2 hi3 hq';exact aae (au.rt rfl 4 (by simp[jr,this]))
 refine aaj (by simp[hi2]<;>omega) (aan (hK _ _ ?_));have f3:=mM.2 ⟨l3,λj hj=>hall j (by omega) hj (by omega)⟩;clear hall hi2 hi;refine aaa λK hK=>aab ?_;refine aaf ?_
 refine aao (λ(i:Nat)=>⟨aU [(2,.c (.ptr 0 0)),(3,.c (.ptr 1 0)),(8,.c (.d (.int .i64 i)))],az (az (λ_=>.hole) 0 (.cells true false 27 p.cs)) 1 (.cells true false 27 q.cs)⟩) 2
  (λi=>i<=(sO p.states).length/\∀j (hj:j<i) (h1:j<(sO p.states).length) (h2:j<(sO q.states).length),uq (sO p.states)[j] (sO q.states)[j]=true)
  (λi=>(sO p.states).length-i) 0 (Le.mk' _ (by simp[h1,h2,h3,h4]) (by simp) (by simp)) (by simp) ?_
 rintro i ⟨hi,hall⟩;refine aaa λK3 hK3=>aam lp6 ?_
 by_cases hi2:i<(sO p.states).length
 ·have hi3:i<(sO q.states).length:=by omega
  have he:=hp.states _ (bh hi2);have he':=hq.states _ (bh hi3);have hx:∀lv:Key->LB,aq prog 25 lv (oV p.states) (.c (.d (.int .i64 (i:Int))))=some (.c (.d (.ptr (sO p.states)[i])),[],[],True):=λlv=>j9 (sz:=2) (by simp) hi2 (iI he)
  have hy:∀lv:Key->LB,aq prog 25 lv (oV q.states) (.c (.d (.int .i64 (i:Int))))=some (.c (.d (.ptr (sO q.states)[i])),[],[],True):=λlv=>j9 (sz:=2) (by simp) hi3 (iI he')
  have l1:∀lv:Key->LB,bk prog 69 lv (.c (.d (.ptr (sO p.states)[i])))=some (.agg ((sO p.states)[i].map .d),[],[],True):=λlv=>S2 he
  have l2:∀lv:Key->LB,bk prog 69 lv (.c (.d (.ptr (sO q.states)[i])))=some (.agg ((sO q.states)[i].map .d),[],[],True):=λlv=>S2 he'
  have b1:bk prog 25 (az (az (λ_=>.hole) 0 (.cells true false 27 p.cs)) 1 (.cells true false 27 q.cs)) (.c (.ptr 0 6))=some (oV p.states,[],[0],True):=by simp
  have b2:bk prog 25 (az (az (λ_=>.hole) 0 (.cells true false 27 p.cs)) 1 (.cells true false 27 q.cs)) (.c (.ptr 1 6))=some (oV q.states,[],[1],True):=by simp
  have hnb:=nb (T:=69) (by kernel_rfl) ⟨_,rfl⟩ (TK he he');simp only[PD.cs]at b1 b2;refine aag (by simp[hi2]<;>omega) (aad (hK3 _ _ (aaa λK5 hK5=>aaf (aaa λK6 hK6=>?_))));refine aav mixed (by kernel_rfl) rfl rfl ?_;simp[hx,hy,l1,l2,b1,b2,hnb,-bk];apply hK6
  by_cases hq:uq (sO p.states)[i] (sO q.states)[i]=true
  ·refine aaj (by simp[hq]<;>omega) (aad (hK5 _ _ ?_));have e3:=bF (n:=(i:Int)+1) (by omega) (by omega);refine aac ?_;simp[e3];refine⟨i+1,Le.mk' _ (by simp) (by simp) (by simp),⟨by omega,?_⟩,by omega⟩;intro j hj h1 h2
   by_cases hji:j=i
   ·subst hji;exact hq
   ·exact hall j (by omega) h1 h2
  ·have hq':uq (sO p.states)[i] (sO q.states)[i]=false:=by simpa using hq
   refine aag (by simp[hq']<;>omega) (aab ?_);have:=p6 hi2 hi3 hq';exact aae (au.rt rfl 4 (by simp[jr,this]))
 refine aaj (by simp[hi2]<;>omega) (aan (hK _ _ ?_));have f4:=mM.2 ⟨l4,λj hj=>hall j (by omega) hj (by omega)⟩;clear hall hi2 hi;refine aab ?_;exact aae (au.rt rfl 4 (by simp[jr,h1,h2,h3,h4,f1,f2,f3,f4]))
def OW(m:Int)(p:PD)(hp:p.ok)(s:Int)(h0:(dA p).2.2=0)(hs:¬(0<=s/\s<=200)):aa prog (GG m) 26 [p.A,.c (.d (.int .i64 s))] (.tup [iU.A,.c (.d (.int .i64 7))]):=by
 have h:=so m p hp;rw[h0]at h
 by_cases h1:s<0
 ·refine aa.JY func26 rfl (λlv=>nR lv _ _) λ_=>aab ?_;refine aaa λK hK=>aar 2 h ?_;refine aab ?_;refine aah (aad (hK _ _ (aaa λK hK=>aam h1 ?_)));refine aai (aam @Q7 ?_);exact aae (A7 rfl rfl 1)
 have h2:200<s:=by omega
 refine aa.JY func26 rfl (λlv=>nR lv _ _) λ_=>aab ?_;refine aaa λK hK=>aar 2 h ?_;refine aab ?_;refine aah (aad (hK _ _ (aaa λK hK=>aap h1 h2 ?_)));refine aai (aam @Q7 ?_);exact aae (A7 rfl rfl 1)
def J0(m:Int)(p:PD)(hp:p.ok)(s:Int)(h0:(dA p).2.2≠0):aa prog (GG m) 27 [p.A,.c (.d (.int .i64 s))] (.tup [iU.A,.c (.d (.int .i64 (dA p).2.2))]):=by
 have h:=vi m p hp;generalize (dA p).2.2=e at*
 refine aa.JY func27 rfl (λlv=>nR lv _ _) λ_=>aab ?_;refine aaw 2 h h0 ?_;refine aaa λK hK=>aam h0 ?_;refine aah (aad (hK _ _ (aaa λK hK=>aab ?_)));refine aag (by simp[h0]<;>omega) (aam @Q7 ?_);exact aae (A7 rfl rfl 1)
def Jg(m:Int)(p:PD)(hp:p.ok)(s:Int)(h0:(dA p).2.2=0)(hs:¬(0<=s/\s<=200)):aa prog (GG m) 27 [p.A,.c (.d (.int .i64 s))] (.tup [iU.A,.c (.d (.int .i64 7))]):=by
 have h:=vi m p hp;rw[h0]at h;refine aa.JY func27 rfl (λlv=>nR lv _ _) λ_=>aab ?_;refine aar 2 h ?_;refine aaa λK hK=>aaa λK1 hK1=>?_
 have bad:∀(fr:Nat->AV) (κ:Nat),fr 2=.c (.ptr 0 0)->fr 4=.c (.ptr 1 0)->fr 6=.c (.d (.int .i64 7))->K ⟨fr,az (az (λ_=>.hole) 0 (.cells true false 27 p.cs)) 1 (.cells true false 27 iU.cs)⟩ κ:=by
  intro fr κ z2 z4 z6;apply hK;refine aaa λK2 hK2=>aam z6 ?_;refine aai (aaC @Q7 z4 z6 ?_);exact aae (A7 rfl rfl 1 (by simp[z4]))
 by_cases h1:s<0
 ·refine aas h1 (hK1 _ _ ?_);refine aai (aac ?_);simp;exact bad _ _ (by simp) (by simp) (by simp)
 have h2:200<s:=by omega
 refine aau h1 h2 (hK1 _ _ ?_);refine aai (aac ?_);simp;exact bad _ _ (by simp) (by simp) (by simp)
def LD:iU.ok:=⟨λ_ h=>(by cases h),λ_ h=>(by cases h),λ_ h=>(by cases h),λ_ h=>(by cases h)⟩
def JV{p:PD}(hg:p.good)(n:Nat)(hb:(hU p n).2.length<=64)(m:Int):aa prog (GG m) 20 [(jy p n).A,(jy p.nz n).A] (.c (.d (.bool true))):=by
 have ho:=(LJ hg n hb).ok
 have e:jy p.nz n=⟨p.nz.f,p.mode,p.nz.ins,some ((hU p n).2.map Nd.e),(hU p n).2.length,(hU p n).2.length,none,(hU p n).1.getD p.res.toNat 0⟩:=by
  rw[<-Ik];rfl
 have h2:(jy p.nz n).ok:=by rw[e];exact⟨ho.f,ho.ins,ho.nodes,ho.states⟩
 have:=zj (GG m) _ _ ho h2;rw[show jr (jy p n) (jy p.nz n)=jr (jy p n) (jy p n) by rw[e];rfl,y8 ho]at this;exact this
def yY(m:Int)(p:PD)(hp:p.ok)(s:Int)(_:IntKind.i64.wrap s=s):aa prog (GG m) 6 [p.A,.c (.d (.int .i64 s))] (.c (.d (.bool true))):=by
 have hgr:=ML (GG m) p hp;have hsh:=MU m
 cases hgb:oT p with
 |true=>
  rw[hgb]at hgr;refine aa.en func6 rfl λ_=>aab ?_;refine aaa λK hK=>aar 1 hgr ?_;refine aai (aar 1 hsh ?_);exact aae (au.rt (t:=4) rfl 9 (by simp))
 |false=>
 rw[hgb]at hgr
 have all:∀(q t:PD) (e:Int),aa prog (GG m) 26 [p.A,.c (.d (.int .i64 s))] (.tup [q.A,.c (.d (.int .i64 e))])->aa prog (GG m) 27 [p.A,.c (.d (.int .i64 s))] (.tup [t.A,.c (.d (.int .i64 e))])->aa prog (GG m) 20 [q.A,t.A] (.c (.d (.bool true)))->aa prog (GG m) 6 [p.A,.c (.d (.int .i64 s))] (.c (.d (.bool true))):=by
  intro q t e a1 a2 a3;refine aa.en func6 rfl λ_=>aab ?_;refine aaa λK hK=>aar 1 hgr ?_;refine aah (aad (hK _ _ (aaw 1 a1 @aj.eq_1 ?_)));refine aaw 2 a2 @aj.eq_1 ?_;refine aak λK hK=>?_;simp;refine ag.p 3 9 a3 ?_;simp;refine ag.p 4 9 hsh ?_;simp;apply hK;exact aae (au.rt (t:=4) rfl 9 (by simp))
 have h00:aa prog (GG m) 20 [iU.A,iU.A] (.c (.d (.bool true))):=by
  have:=zj (GG m) iU iU LD LD;rwa[y8 LD]at this
 by_cases h0:(dA p).2.2=0
 rotate_left
 ·exact all iU iU _ (Ok m p hp s h0) (J0 m p hp s h0) h00
 by_cases hs:0<=s/\s<=200
 rotate_left
 ·exact all iU iU _ (OW m p hp s h0 hs) (Jg m p hp s h0 hs) h00
 have hr:=Af m p hp s h0 hs
 by_cases hbig:64<yp p s
 ·rw[show JS p s=(iU,3) from if_pos hbig]at hr;exact all iU iU 3 (Oz m p hp s h0 hs hbig) hr h00
 rw[show JS p s=(jy p.nz s.toNat,0) from if_neg hbig]at hr;have hg:=ou hp h0;have hcnt:=HJ hg hs.1;exact all _ _ 0 (Rb m p hp s h0 hs hbig) hr (JV hg _ (by omega) m)
end Go.Am
