/- Helpers. -/
import Derived.Test.YticmbkclbnjnaaaGreatDoorJn12

set_option linter.all false
set_option maxHeartbeats 8000000
set_option maxRecDepth 100000
open Go.Proofs.Tryz
namespace Go.Am
variable {lv lv':Key->LB}{own o2 fz o1 o3 own' fz':Bool}{p:PD}{k:Key}{fr:Nat->AV}{V:NS}{av lf l5 lf0:List Int}{f f0:Int×Int×Int}{κ q o t i q0:Nat}{T T':TypeId}{c0:Ctx}{s:az}{M S:List Bool}{fn:Func}{x:AV}{l:List Nd}{ν:List LB}{n:Nd}{r:Option Nat}{Q:Ex->az->Nat->Prop}{n0 n1 n2:CV}{e:Ex}
abbrev afg:=@List.forall_mem_cons
open Go.Am.Ty Go.Proofs N
theorem Cv(m:Int)(p:PD)(hp:p.ok):aa prog (GG m) 19 [p.A] (.c (.d (.int .i64 (gj p).2.2))):=by
 have h:=Fv m p hp;generalize gj p=v at*
 refine aa.en func19 rfl λ_=>aar ?_;refine acF 1 h ?_;refine aar ?_;exact aaV (aq.rt rfl 2 (by simp))
theorem SC(G:List (List DV))(a b:Option (List Int))(hab:zL a=zL b)(hl:(zL b).length<=1000):aa prog G 9 [.c (zC a),.c (zC b)] (.c (.d (.bool true))):=by
 have la:=λlv=>Vv (T:=30) (by simp) lv a
 have lb:=λlv=>Vv (T:=30) (by simp) lv b
 have xa:=λlv (i:Nat) hi=>Wh (T:=30) (by simp) lv a (i:=i) hi
 have xb:=λlv (i:Nat) hi=>Wh (T:=30) (by simp) lv b (i:=i) hi
 simp only[hab]at la xa;have fa:=nq a;have fb:=nq b;have pa:=qX a;have pb:=qX b;generalize zL b=l at*
 generalize zC a=za at*
 generalize zC b=zb at*
 refine aa.en func9 rfl λ_=>aar ?_;refine aae λK hK=>acv la lb ?_;refine abg (aaE (hK _ _ (aae λK hK=>aar ?_)));refine abd ?_;refine aco (λ(i:Nat)=>⟨aJ [(0,.c za),(1,.c zb),(5,.c (.d (.int .i64 (i:Int))))],λ_=>.hole⟩) 0 (λi=>i<=l.length) (λi=>l.length-i) 0 (Le.mk' _ rfl aW (by simp)) (ac1 _) ?_;rintro i hi
 try simp only at hi
 refine aae λK3 hK3=>acf la ?_
 by_cases hlt:i<l.length
 ·have hlt':(i:Int)<(l.length:Int):=by omega
  have f12:=bE (n:=(i:Int)+1) (by omega) (by omega);have xa1:=λlv=>xa lv i hlt
  have xb1:=λlv=>xb lv i hlt
  refine abz (by simp<;>omega) (aaE (hK3 _ _ (aae λK5 hK5=>abd (AW.d2 mixed xa1 xb1 ?_))));refine abg (aaE (hK5 _ _ (aaJ ?_)));simp[f12];exact⟨i+1,Le.mk' _ rfl aW (by simp),by omega,by omega⟩
 ·have hlt':¬(i:Int)<(l.length:Int):=by omega
  refine abD (by simp<;>omega) (abX (hK _ _ (aar ?_)));exact aaV (aq.rt rfl 4 (by simp))
abbrev Xz(p:PD)(M S:List Bool):Key->LB:=au (au (au (λ_=>.hole) 0 (.cells true false 27 p.cs)) 1 (.cells true false 4 (bK M))) 2 (.cells true false 4 (bK S))
abbrev nM(p:PD)(M S:List Bool):List (Key×Key×LB):=[(0,0,.cells true false 27 p.cs),(1,1,.cells true false 4 (bK M)),(2,2,.cells true false 4 (bK S))]
theorem VT{c:Ctx}(hc:c.jd=λ_=>.hole)(l:List (Nat×AV))(h0:lv 0=.cells true false 27 p.cs)(h1:lv 1=.cells true false 4 (bK M))(h2:lv 2=.cells true false 4 (bK S))(h9:lv 9=.hole)
 (hl:∀x∈l,x.2.bF=true/\fr x.1=x.2.bJ (aQ (nM p M S) 9)):Le c ⟨fr,lv⟩ ⟨aJ l,Xz p M S⟩:=by
 refine Le.keys (nM p M S) 9 l rfl hc (by simp) (by simp) h9 ?_ hl;intro e he;simp only[fy,aa8,or_false]at he;rcases he with rfl|rfl|rfl
 ·simp_all
 ·show(lv 1).like _ _;rw[h1];exact Et _ _
 ·show(lv 2).like _ _;rw[h2];exact Et _ _
theorem S8{c:Ctx}(hc:c.jd=λ_=>.hole)(l:List (Nat×AV))(h0:lv 0=.cells true false 27 p.cs)(h1:lv 1=.cells true false 4 (bK M))(h2:lv 2=.cells true false 4 (bK S))(h3:lv 10=bN n)(h9:lv 9=.hole)
 (hl:∀x∈l,x.2.bF=true/\fr x.1=x.2.bJ (aQ (nM p M S++[(10,10,bN n)]) 9)):Le c ⟨fr,lv⟩ ⟨aJ l,au (Xz p M S) 10 (bN n)⟩:=by
 refine Le.keys (nM p M S++[(10,10,bN n)]) 9 l rfl hc (by simp) (by simp) h9 ?_ hl;intro e he;simp only[ad6,adM,fy,aa8,or_false]at he;rcases he with rfl|rfl|rfl|rfl
 ·simp_all
 ·show(lv 1).like _ _;rw[h1];exact Et _ _
 ·show(lv 2).like _ _;rw[h2];exact Et _ _
 simp_all
theorem iR.QH{c:Ctx}{X Y:AV}{u:Nat}{ks:List Key}(hr:fn.results=#[.tmp t,.tmp u])(hx:s.fr t=X)(hy:s.fr u=Y)(hn:X.cD=true)(hm:Y.cD=true)(hd:eJ s.lv (.tup [X,Y])=some (x,ks)):iR c fn x .ret s κ:=
 ⟨.tup [X,Y],ks,by rw[hr];simp[eD,l8,pE,hx,hy,hn,hm],hd⟩
theorem QM(hM:M.length<=1000)(hS:S.length<=1000)(h1:lv 1=.cells own fz T (bK M))(h2:lv 2=.cells own' fz' T' (bK S)):
 eJ lv (.tup [.c (.aE 1 0 M.length 1),.c (.aE 2 0 S.length 1)])=some (.tup [.c (bC (some M)),.c (bC (some S))],[1,2]):=by
 simp[eJ,jj,Kt h1 hM,Kt h2 hS]
theorem P5(l:List Bool)(a b:List Nat):mY l (a++b)=mY (mY l a) b:=by unfold mY;simp
theorem Me(l:List Bool)(ks:List Nat)(k:Nat):mY l (ks++[k])=(mY l ks).set k true:=by unfold mY;simp
theorem HB(m:Int)(p:PD)(hp:p.ok)(hg:p.good):aa prog (GG m) 20 [p.A] (.tup [.c (bC (some (MB p).1)),.c (bC (some (MB p).2))]):=by
 obtain⟨hn1,hn2,hn3,-,-,hnn,hns⟩:=fD hg.gen;obtain⟨hr0,hr1,-⟩:=hg.res;have hv:=ry hg;have hrep:∀n,lp n [CV.d (.bool false)]=bK (List.replicate n false):=λn=>by rw[EJ];simp
 have hrep':∀n,List.replicate n (CV.d (.bool false))=bK (List.replicate n false):=λn=>(EJ n).symm
 have hst1:=sZ (List.replicate p.nn false) p.res.toNat true (by grind);have hw1:=bE (n:=(p.ns:Int)+2) (by omega) (by omega);have hw2:=bE (n:=(p.nn:Int)-1) (by omega) (by omega);have hro:=y7 hv;refine aa.ed func20 rfl λ_=>aar ?_;refine AW.d4 mixed @nR @Eb hrep hrep' ?_;refine adb hr0 hr1 hst1 ?_;refine aae λK hK=>aar ?_;refine abd ?_
 refine aco (λ(r:Nat)=>⟨aJ [(1,.c (.ptr 0 0)),(4,.c (.aE 1 0 p.nn 1)),(5,.c (.aE 2 0 p.ns 1)),(6,.c (.d (.int .i64 r)))],Xz p (jE p r (m7 p)).1 (jE p r (m7 p)).2⟩) 10
  (λr=>r<=p.ns+2) (λr=>p.ns+2-r) 0 (VT rfl _ (by simp) (by rfl) (by rfl) (by simp) (by simp[aQ])) (ac1 _) ?_
 rintro r hr
 try simp only at hr
 have hlr:=(hro r).1.len;obtain⟨S0,hS0⟩:∃S0,jE p r (m7 p)=S0:=⟨_,rfl⟩
 have hS1:jE p (r+1) (m7 p)=kB p p.nn S0:=by rw[<-hS0];rfl
 rw[hS0]at hlr;simp only[hS0];refine aae λK3 hK3=>acv @Eb hw1 ?_
 by_cases hlt:r<p.ns+2
 ·have hlt':(r:Int)<(p.ns:Int)+2:=by omega
  have f12:=bE (n:=(r:Int)+1) (by omega) (by omega);refine abz (by simp_all) (aaE (hK3 _ _ (aae λK5 hK5=>abd (acv @nR hw2 ?_))));refine abd ?_
  refine aco (λ(a:Nat×NS)=>⟨aJ [(1,.c (.ptr 0 0)),(4,.c (.aE 1 0 p.nn 1)),(5,.c (.aE 2 0 p.ns 1)),(6,.c (.d (.int .i64 r))),(7,.c (.d (.int .i64 ((a.1:Int)-1))))],Xz p a.2.1 a.2.2⟩) 10
   (λa=>a.1<=p.nn/\jn p a.2/\kB p a.1 a.2=kB p p.nn S0) (λa=>a.1) (p.nn,S0) (VT rfl _ (by simp) (by simp) (by simp) (by simp) (by simp[aQ])) ⟨aU _,hlr,rfl⟩ ?_
  rintro⟨j,M,S⟩ ⟨hj,hl,hsw⟩;simp only at hj hl hsw;have hM:M.length=p.nn:=hl.1;have hS:S.length=p.ns:=hl.2;refine aae λK7 hK7=>aar ?_
  cases j with
  |zero=>
   refine abg (abX (hK5 _ _ (aaJ ?_)));simp[f12];have hsw':(M,S)=kB p p.nn S0:=hsw;refine⟨r+1,?_,by omega,by omega⟩;rw[hS1,<-hsw'];exact VT rfl _ (by simp) (by simp) (by simp) (by simp) (by simp[aQ])
  |succ i=>
   have hi:i<p.nn:=by omega
   have hi0:((i+1:Nat):Int)-1=(i:Int):=by omega
   have hi1:0<=(i:Int):=by omega
   have hi2:(i:Int)<(p.nn:Int):=by omega
   have hiM:i<M.length:=by omega
   have hld:=Ek (P:=prog) (T:=4) (by simp) hiM;have f13:=bE (n:=(i:Int)-1) (by omega) (by omega);have hstp:kB p (i+1) (M,S)=kB p i (gI p i (M,S)):=rfl;have hgd:=zu hiM;rw[hstp]at hsw;rw[hi0];refine abz (by simp<;>omega) (aaE (hK7 _ _ (aae λK9 hK9=>abd (aae λK10 hK10=>adb hi1 hi2 hld ?_))))
   cases hb:M[i]with
   |false=>
    have e:gI p i (M,S)=(M,S):=if_neg (by grind);rw[e]at hsw;refine abz (by rfl) (abX (hK9 _ _ (aaJ ?_)));simp[f13];exact⟨i,M,S,VT rfl _ (by simp) (by simp) (by simp) (by simp) (by simp[aQ]),⟨by omega,hl,hsw⟩,by omega⟩
   |true=>
    have e:gI p i (M,S)=G5 p i (M,S):=if_pos (by grind);have hl2:=(yD hv hi hl (show M.getD i false=true by grind)).1.len;rw[e]at hsw;obtain⟨-,ha,hkr⟩:=jh hg hi;have hxn:=λlv=>Er p lv hp i hi
    obtain⟨T,hT⟩:∃T,G5 p i (M,S)=T:=⟨_,rfl⟩
    rw[hT]at hsw hl2;have hTd:T=(mY M (Hp p i),if (p.nd i).op=2 then S.set (p.nd i).a.toNat true else S):=by rw[<-hT];rfl
    unfold Hp at hTd;obtain⟨n,hn⟩:∃n,p.nd i=n:=⟨_,rfl⟩
    rw[hn]at ha hkr hTd;simp only[hn]at hxn;have hkd:=BS (GG m) n;have hkp:(AV.c (zC (zN (aN n)))).pure=true:=qX _;have hkf:(AV.c (zC (zN (aN n)))).bF=true:=nq _;have hkn:∀g,(zC (zN (aN n))).bJ g=zC (zN (aN n)):=λg=>P1 _ g
    have lpk:=λlv=>Vv (T:=30) (by simp) lv (zN (aN n))
    have ixk:∀lv (q:Nat) (hq:q<(aN n).length),ak prog 30 lv (.c (zC (zN (aN n)))) (.c (.d (.int .i64 (q:Int))))=some (.c (.d (.ptr [.int .i64 (aN n)[q]])),[],[],True):=by
     intro lv q hq;have:=Wh (T:=30) (by simp) lv (zN (aN n)) (i:=q) (by rw[Co];exact hq);simp only[Co]at this;exact this
    rw[Co]at lpk;have hkl:=nj n;generalize zC (zN (aN n))=kz at*
    generalize aN n=kl at*
    refine abD (by rfl) (aaE (hK10 _ _ ?_));refine acW 10 ?_;refine acv hxn @aj.eq_1 ?_;refine abU λK12 hK12=>?_;simp;refine ag.pure 11 9 hkd hkp (by simp) (by rfl) ?_;simp;apply hK12;refine aae λK12 hK12=>aar ?_;refine abd ?_
    refine aco (λ(q:Nat)=>⟨aJ [(1,.c (.ptr 0 0)),(4,.c (.aE 1 0 p.nn 1)),(5,.c (.aE 2 0 p.ns 1)),(6,.c (.d (.int .i64 r))),(7,.c (.d (.int .i64 (i:Int)))),(8,.c (.ptr 10 0)),(9,.c kz),(10,.c (.d (.int .i64 q)))],au (Xz p (mY M ((kl.map Int.toNat).take q)) S) 10 (bN n)⟩) 11
     (λq=>q<=kl.length) (λq=>kl.length-q) 0 (S8 rfl _ (by simp) (by simp[mY]) (by simp) (by simp) (by simp) (by simp[aQ,hkf,hkn])) (ac1 _) ?_
    rintro q hq
    try simp only at hq
    have hlq:=zc ((kl.map Int.toNat).take q) M
    have hsn:∀h:q<kl.length,mY M ((kl.map Int.toNat).take (q+1))=(mY M ((kl.map Int.toNat).take q)).set (kl[q]).toNat true:=λh=>by
     rw[aew,bp (by grind)];simp only[Option.toList_some,BH];exact Me ..
    obtain⟨Mq,hMq⟩:∃Mq,mY M ((kl.map Int.toNat).take q)=Mq:=⟨_,rfl⟩
    rw[hMq]at hlq;simp only[hMq]at hsn⊢;refine aae λK14 hK14=>acf lpk ?_
    by_cases hqt:q<kl.length
    ·have hqt':(q:Int)<(kl.length:Int):=by omega
     have hxk:=λlv=>ixk lv q hqt
     have hk2:=hkr _ (aZ hqt);have hsn:=hsn hqt;have f14:=bE (n:=(q:Int)+1) (by omega) (by omega);generalize kl[q]=x at*
     have hx0:0<=x:=hk2.1;have hx1:x<(p.nn:Int):=by omega
     have hbs:=sZ Mq x.toNat true (by omega);refine abz (by simp<;>omega) (aaE (hK14 _ _ (aae λK16 hK16=>abd (acY hxk hx0 hx1 hbs (hK16 _ _ ?_)))));refine aaJ ?_;simp[f14];refine⟨q+1,?_,by omega,by omega⟩;rw[hsn];exact S8 rfl _ (by simp) (by simp) (by simp) (by simp) (by simp) (by simp[aQ,hkf,hkn])
    have hqt':¬(q:Int)<(kl.length:Int):=by omega
    have hqe:q=kl.length:=by omega
    subst hqe;refine abD (by simp) (abX ?_);simp;rw[adQ (by simp)]at hMq;rw[P5,hMq]at hTd;apply hK12;refine aae λK12 hK12=>?_
    by_cases ho:n.op=2
    ·have ho':(n.op=2)=True:=eq_true ho;obtain⟨a0,a1⟩:=ha ho;have b1:n.a.toNat<p.ns:=by omega
     obtain⟨c1,c2,c3,c4⟩:=yB hg b1;have hia:(n.a.toNat:Int)=n.a:=by omega
     have hxs:=λlv=>JP hp lv n.a.toNat b1
     simp only[hia]at hxs;rw[if_pos ho,if_pos ho]at hTd;generalize p.st n.a.toNat=st at*
     obtain⟨si,sn⟩:=st;simp only at c1 c2 c3 c4 hTd;have ha2:n.a<(p.ns:Int):=a1;have hs1:=sZ S n.a.toNat true (by omega);have hs2:=sZ Mq si.toNat true (by omega);have hs3:=sZ (Mq.set si.toNat true) sn.toNat true (by grind);refine acC ho' (hK12 _ _ ?_);refine abA (adb a0 ha2 hs1 ?_);refine adi hxs c1 c2 hs2 ?_;refine acY hxs c3 c4 hs3 (hK9 _ _ ?_);refine aaJ ?_;simp[f13];refine⟨i,T.1,T.2,VT rfl _ (by simp) (by simp[hTd,mY]) (by simp[hTd]) (by simp) (by simp[aQ]),⟨by omega,hl2,hsw⟩,by omega⟩
    ·rw[if_neg ho,if_neg ho]at hTd;refine acC ho (hK12 _ _ ?_);refine abg (aaE (hK9 _ _ (aaJ ?_)));simp[f13];refine⟨i,T.1,T.2,VT rfl _ (by simp) (by simp[hTd,mY]) (by simp[hTd]) (by simp) (by simp[aQ]),⟨by omega,hl2,hsw⟩,by omega⟩
 have hlt':¬(r:Int)<(p.ns:Int)+2:=by omega
 have hre:r=p.ns+2:=by omega
 subst hre;have hS2:S0=MB p:=hS0.symm;rw[hS2]at hlr⊢;generalize MB p=V at*
 refine abD (by simp) (abX ?_);simp;apply hK;refine aae λK hK=>adg (hK _ _ ?_)
 refine aaV (iR.QH rfl (X:=.c (.aE 1 0 V.1.length 1)) (Y:=.c (.aE 2 0 V.2.length 1)) (ks:=[1,2]) (by simp[hlr.1]) (by simp[hlr.2]) rfl rfl ?_);exact QM (own:=true) (fz:=false) (T:=4) (own':=true) (fz':=false) (T':=4) (by rw[hlr.1];omega) (by rw[hlr.2];omega) (by simp) (by simp)
theorem KE{l:List Bool}{n:Nat}(h:lv k=.cells own fz T (bK l))(hl:l.length<=1000):cP lv (n+1) (.aE k 0 l.length 1)=some (.sl (bD l),[k]):=by
 have h1:((bK l).drop 0).take (l.length*1)=(l.map λx=>DV.bool x).map CV.d:=by rw[adJ,ad3,HO];exact adQ (by simp)
 have h2:0+l.length*1<=(bK l).length/\l.length<=9223372036854775807:=⟨by simp,by omega⟩
 have h3:l.length=(l.map λx=>DV.bool x).length:=by simp
 simp only[cP,h];rw[if_pos h2,h1,qU];simp only[adm];rw[h3,nJ,ady];rfl
theorem Ry(lv:Key->LB)(n:Nat)(o:Option (List (List DV))):cP lv n (eG o)=some (sD o,[]):=by cases o<;>cases n<;>rfl
def Of(p:PD)(s:NS):List DV:=p.Es++[.sl (bD s.1),.sl (bD s.2)]
theorem b84(a b c d e f g h x y:CV):eO prog 64 [0,1,2] [.agg [a,b,c,d,e,f,g,h],.c x,.c y]=some (.agg [a,b,c,d,e,f,g,h,x,y],[],[],True):=by kernel_rfl
theorem UH{s:NS}(h1:s.1.length<=1000)(h2:s.2.length<=1000){own'' fz'':Bool}{T'':TypeId}(h3:lv 3=.cells own fz T (mC p 1 2 s.1.length s.2.length))(g1:lv 1=.cells own' fz' T' (bK s.1))(g2:lv 2=.cells own'' fz'' T'' (bK s.2)):
 eJ lv (.c (.ptr 3 0))=some (.c (.d (.ptr (Of p s))),[3,1,2]):=by
 have e1:=KE (n:=6) g1 h1;have e2:=KE (n:=6) g2 h2
 have e0:cP lv 8 (.ptr 3 0)=(fO (cP lv 7) (mC p 1 2 s.1.length s.2.length)).map λq=>(.ptr q.1,3::q.2):=by
  simp only[cP,h3];rw[if_pos (ac1 _),adJ]
 have ed:∀x:DV,cP lv 7 (.d x)=some (x,[]):=λx=>rfl
 show(cP lv 8 (.ptr 3 0)).map _=_;rw[e0];simp[fO,Ry,e1,e2,ed,Of,PD.Es]
theorem Ia(m:Int)(p:PD)(hp:p.ok)(hg:p.good):aa prog (GG m) 14 [p.A] (.c (.d (.ptr (Of p (cF p))))):=by
 obtain⟨hn1,hn2,hn3,-,-,hnn,hns⟩:=fD hg.gen;obtain⟨hr0,hr1,-⟩:=hg.res;have hv:=ry hg;have hrep:∀n,lp n [CV.d (.bool false)]=bK (List.replicate n false):=λn=>by rw[EJ];simp
 have hrep':∀n,List.replicate n (CV.d (.bool false))=bK (List.replicate n false):=λn=>(EJ n).symm
 have hl0:jn p (List.replicate p.nn false,List.replicate p.ns false):=⟨by simp,by simp⟩
 have hc:=KS m p hp hg p.nn p.res.toNat _ hv.res hl0 (by unfold Br;simp);have hl:=(uX hv p.nn p.res.toNat _ hv.res hl0 (by unfold Br;simp)).1.len;change aD _ _ _ _ _ (.ret _ (mS p (cF p)) _)at hc;change jn p (cF p)at hl;rw[show((p.res.toNat:Nat):Int)=p.res by omega]at hc;generalize cF p=V at*
 refine aa.ed func14 rfl λ_=>aar ?_;refine AW.d5 mixed @nR @Eb hrep hrep' @b84 ?_;refine abU λK hK=>?_;simp;refine ag.mk 4 9 3 1 2 true hc ?_;simp;apply hK;refine aar ?_;refine aaV (iR.tmp rfl (X:=.c (.ptr 3 0)) (ks:=[3,1,2]) (by simp) ?_);exact UH (own:=true) (fz:=false) (T:=64) (own':=true) (fz':=false) (T':=4) (own'':=true) (fz'':=false) (T'':=4) (by rw[hl.1];omega) (by rw[hl.2];omega) (by simp) (by simp) (by simp)
def u8(L0 L:List Nd):LB:=if L.length=L0.length then .hole else .cells true false 40 (iQ L)
theorem acU{c:Ctx}{x:Code}{s2:az}{κ2:Nat}(h:Le c s s2)(k:AW c r x s2 κ2 Q):AW c r x s κ Q:=by
 obtain⟨g,hg⟩:=h;exact AW.coarse hg k
theorem DX(n:Nat):zK (List.replicate n 0)=List.replicate n (CV.d (.int .i64 0)):=by unfold zK;simp
def g8(k5 k7 kh:Key):Key->Key:=λk=>if k=0 then 0 else if k=1 then 1 else if k=2 then 2 else if k=3 then 3 else if k=4 then 4 else if k=5 then k5 else if k=6 then 6 else if k=7 then k7 else kh
def g9:Key->Key:=λk=>if k=9 then 9 else g8 5 7 19 k
theorem Tt(hp:p.ok)(lv:Key->LB)(i:Nat)(hi:i<p.ns):ak prog 25 lv (.c (eG p.states)) (.c (.d (.int .i64 (i:Int))))=some (.c (.d (.ptr (zw (p.st i)))),[],[],True):=by
 have:=Zi hp lv (i:Int) (by omega) (by omega)
 grind
theorem AE(L:List Nd):(L.map Nd.e).flatten.map CV.d=iQ L:=by rfl
structure CS where
 A0:List Nd
 A1:List Nd
 A2:List Nd
variable {c c':CS}
def CS.L(c:CS):List Nd:=c.A0++(c.A1++c.A2)
def CS.sec(c:CS):Nat->List Nd
 |0=>c.A0
 |1=>c.A1
 |_=>c.A2
def CS.off(c:CS):Nat->Nat
 |0=>0
 |1=>c.A0.length
 |_=>c.A0.length+c.A1.length
def CS.add(c:CS)(s:Nat)(n:Nd):CS:=
 match s with
 |0=>⟨c.A0++[n],c.A1,c.A2⟩
 |1=>⟨c.A0,c.A1++[n],c.A2⟩
 |_=>⟨c.A0,c.A1,c.A2++[n]⟩
def dg(n:Nd):List Nd->Option Nat
 |[]=>none
 |m::l=>if n=m then some 0 else(dg n l).map (·+1)
def CS.find(c:CS)(s:Nat)(n:Nd):Option Nat:=
 match dg n (c.sec s)with
 |some i=>some (c.off s+i)
 |none=>dg n c.A0
def CS.put(c:CS)(s:Nat)(n:Nd):Nat×CS:=
 match c.find s n with
 |some i=>(i,c)
 |none=>(c.L.length,c.add s n)
def CS.upto(c:CS)(s:Nat):Prop:=(s=0->c.A1=[])/\(s<=1->c.A2=[])
theorem CS.To{s:Nat}(h:c.upto s)(n:Nd):(c.add s n).L=c.L++[n]:=by
 obtain⟨a,b,d⟩:=c;obtain⟨h1,h2⟩:=h
 match s with
 |0=>have e1:b=[]:=h1 rfl;have e2:d=[]:=h2 (by omega);subst e1;subst e2;simp[CS.add,CS.L]
 |1=>have e2:d=[]:=h2 (by omega);subst e2;simp[CS.add,CS.L]
 |_+2=>simp[CS.add,CS.L]
theorem CS.zo{s:Nat}(h:c.upto s)(n:Nd):(c.put s n).2.upto s:=by
 unfold CS.put
 cases c.find s n with
 |some i=>exact h
 |none=>match s with
  |0=>exact h
  |1=>exact⟨λh=>by omega,h.2⟩
  |_+2=>exact⟨λh=>by omega,λh=>by omega⟩
theorem CS.yC{s:Nat}(h:c.upto s)(n:Nd):c.L.length<=(c.put s n).2.L.length/\(c.put s n).2.L.length<=c.L.length+1/\0<=(c.put s n).1:=by
 unfold CS.put
 cases c.find s n with
 |some i=>simp
 |none=>rw[CS.To h];simp
def iF(o:Nat):List Nd->List (DV×AV)
 |[]=>[]
 |n::l=>(.agg n.e,.c (.d (.int .i64 o)))::iF (o+1) l
theorem Gn(n:Nd):∀(l:List Nd) (o:Nat),iF o (l++[n])=iF o l++[(.agg n.e,.c (.d (.int .i64 (o+l.length:Nat))))]
 |[],o=>rfl
 |m::l,o=>by
  rw[ad6,iF,Gn n l (o+1),iF,adN,show o+1+l.length=o+(l.length+1) by omega];rfl
theorem p8:∀(l:List Nd) (o:Nat),∀e∈iF o l,(∃n:Nd,e.1=.agg n.e)/\∃i:Nat,e.2=.c (.d (.int .i64 i))
 |[],_,e,h=>by cases h
 |n::l,o,e,h=>by
  rcases List.mem_cons.1 h with rfl|h
  ·grind
  ·exact p8 l (o+1) e h
theorem Gv:∀(l:List Nd) (o i:Nat),i<l.length->((iF o l)[i]?).map (·.2)=some (.c (.d (.int .i64 (o+i:Nat))))
 |[],_,_,h=>by cases h
 |n::l,o,0,_=>rfl
 |n::l,o,i+1,h=>by
  rw[iF,List.getElem?_cons_succ,Gv l (o+1) i (by simpa using h),show o+1+i=o+(i+1) by omega]
theorem JW{n:Nd}:∀{l:List Nd}{i:Nat},dg n l=some i->i<l.length
 |[],_,h=>by cases h
 |m::l,i,h=>by
  unfold dg at h;split at h
  ·grind
  ·obtain⟨j,hj,rfl⟩:=Option.map_eq_some_iff.1 h;have:=JW hj
   grind
theorem UW(n m:Nd):vG (.agg n.e) (.agg m.e)=decide (n=m):=by
 obtain⟨a1,a2,a3,a4,a5,a6,a7⟩:=n;obtain⟨b1,b2,b3,b4,b5,b6,b7⟩:=m;rw[Bool.eq_iff_iff];simp[vG,Ir,oh]
theorem wj(n:Nd):∀(l:List Nd) (o:Nat),lM (.agg n.e) (iF o l)=dg n l
 |[],_=>rfl
 |m::l,o=>by
  rw[iF,lM,dg,wj n l];simp only[UW,decide_eq_true_eq]
theorem PR:CU prog 53=some (40,3):=by kernel_rfl
theorem N6(n:Nd):fX prog 40 (.agg n.e)=true:=by kernel_rfl
theorem acj:Ac prog 3=some (.c (.d (.int .i64 0))):=by kernel_rfl
theorem GM(l:List Nd)(o:Nat):(iF o l).all (λe=>fX prog 40 e.1)=true:=by
 rw[ab3];intro e he;obtain⟨⟨n,h⟩,-⟩:=p8 l o e he;rw[h];rfl
def Tu(o:Nat)(x:Option Nat):AV:=
 match x with
 |some i=>.tup [.c (.d (.int .i64 (o+i:Nat))),.c (.d (.bool true))]
 |none=>.tup [.c (.d (.int .i64 0)),.c (.d (.bool false))]
theorem Em(h:lv k=.map own (iF o l))(n:Nd):AN prog 53 true lv (.c (.mapr k)) n.A=some (Tu o (dg n l),[],[k]):=by
 have hm:HV lv (.c (.mapr k))=some (iF o l,[k]):=by unfold HV;simp only[h]
 have hd:mo n.A=some (.agg n.e):=rfl
 have hl:Gy prog 3 (.agg n.e) (iF o l)=match dg n l with|some i=>some (.c (.d (.int .i64 (o+i:Nat))),true)|none=>some (.c (.d (.int .i64 0)),false):=by
  unfold Gy;rw[wj]
  cases hx:dg n l with
  |none=>rfl
  |some i=>
   have:=Gv l o i (JW hx)
   grind
 unfold AN;simp only[hm,PR,hd,N6,GM,Bool.and_self,if_true,hl]
 cases dg n l<;>rfl
theorem abR(h:lv k=.map own (iF o l))(hn:dg n l=none)(hi:i=o+l.length):oV prog 53 lv (.c (.mapr k)) n.A (.c (.d (.int .i64 i)))=some (.undef,[(k,.map own (iF o (l++[n])))],[]):=by
 subst hi;have hd:mo n.A=some (.agg n.e):=rfl
 have hp:xH (.agg n.e) (.c (.d (.int .i64 (o+l.length:Nat)))) (iF o l)=iF o (l++[n]):=by
  unfold xH;rw[wj,hn,Gn]
 unfold oV;simp only[h,PR,hd,N6,GM,Bool.and_self,hp];rfl
def nB(own:Bool)(L:List Nd):LB:=if L=[]then .bO else .cells own false 40 (iQ L)
theorem gA{L:List Nd}(h:nB own L=.hole):False:=by unfold nB at h;grind
abbrev C9(p:PD)(V:NS)(k1 k2 k3:Key)(n a l:Nat)(m0 m1 m2:CV)(f:Int×Int×Int):List CV:=
 [.d (.ptr (Of p V)),eG p.f,.d (.int .i64 p.mode),eG p.ins,.aE k3 0 n 7,.d (.int .i64 0),.d (.int .i64 0),.d .nilsl,.d (.int .i64 0),.aE k1 0 a 1,.aE k2 0 l 1,m0,m1,m2,.d (.int .i64 f.1),.d (.int .i64 f.2.1),.d (.int .i64 f.2.2)]
def mV(ms:List Key)(t:Nat):CV:=match ms[t]? with|some k=>.mapr k|none=>.d .nilmap
def CS.yN(c:CS)(t:Nat):List (DV×AV):=iF (c.off t) (c.sec t)
def mB(q:Nat)(c:CS)(t:Nat):LB:=if t<q then .map false (c.yN t)else .hole
def fM(q t:Nat):CV:=if t<q then .mapr (4+t)else .d .nilmap
abbrev Ld(p:PD)(V:NS)(k3:Key)(L:List Nd)(av lf:List Int)(m0 m1 m2:CV)(f:Int×Int×Int)(b3 b4 b5 b6 b7:LB):Key->LB:=
 au (au (au (au (au (au (au (au (λ_=>.hole) 0 (.cells false false 57 (C9 p V 1 2 k3 L.length av.length lf.length m0 m1 m2 f))) 1 (bZ av)) 2 (bZ lf)) 4 b4) 5 b5) 6 b6) 7 b7) 3 b3
def QI(p:PD)(V:NS)(q:Nat)(c:CS)(av lf:List Int)(f:Int×Int×Int):Key->LB:=
 Ld p V 3 c.L av lf (fM q 0) (fM q 1) (fM q 2) f (nB false c.L) (mB q c 0) (mB q c 1) (mB q c 2) .hole
def RD(p:PD)(V:NS)(q:Nat)(c:CS)(av lf:List Int)(f:Int×Int×Int):Key->LB:=
 au (Ld p V 1000 c.L av lf (fM q 0) (fM q 1) (fM q 2) f .dead (mB q c 0) (mB q c 1) (mB q c 2) .hole) 1000 (nB false c.L)
theorem fC(L:List Nd)(g:Key->Key)(h:own=true->o2=true):(nB o2 L).like (nB own L) g:=by
 unfold nB;split
 ·rfl
 simp_all
theorem aR(l:List Nd)(o:Nat)(g:Key->Key)(h:own=true->o2=true):(LB.map o2 (iF o l)).like (.map own (iF o l)) g:=by
 refine⟨o2,_,rfl,?_,h,λp hp l' e=>?_⟩
 ·conv=>lhs;rw[<-aeS (iF o l)]
  refine adI λe he=>?_;obtain⟨-,i,h2⟩:=p8 l o e he;obtain⟨a,b⟩:=e;simp only at h2;subst h2;rfl
 ·obtain⟨-,i,h2⟩:=p8 l o p hp
  grind
@[simp]theorem CV.Yd(g:Key->Key)(k:Key):(CV.mapr k).bJ g=.mapr (g k):=rfl
theorem qJ(g:Key->Key):LB.dead.like .dead g:=by
 show LB.dead≠.hole;simp
def pe(lv:Key->LB):Prop:=∀k own es,lv k=.map own es->∀p∈es,∀l,p.2≠.tup l
theorem qL(h:pe lv){b:LB}(hb:∀own es,b=.map own es->∀p∈es,∀l,p.2≠.tup l):pe (au lv k b):=λk' own es e=>by
 unfold au at e;split at e
 ·grind
 ·exact h k' own es e
theorem CZ(h:pe lv){cs:List CV}:pe (au lv k (.cells own fz T cs)):=qL h λ_ _ e=>by cases e
theorem Ew(h:pe lv):pe (au lv k .hole):=qL h λ_ _ e=>by cases e
theorem CQ(h:pe lv){L:List Nd}:pe (au lv k (nB own L)):=qL h λ_ _ e=>by unfold nB at e;grind
theorem EG(h:pe lv):pe (au lv k (.map own (iF o l))):=qL h λ_ _ e p hp l' e2=>by
 injection e with e3 e4
 subst e4;obtain⟨-,i,h2⟩:=p8 l o p hp
 grind
theorem Dw:pe (λ_=>.hole):=λ_ _ _ e=>by cases e
theorem Le.mkM{c:Ctx}(l:List (Nat×AV))(hm:pe lv)(hl:∀p∈l,p.2.bF=true/\fr p.1=p.2:=by simp)(he:lv=lv':=by rfl):Le c ⟨fr,lv⟩ ⟨aJ l,lv'⟩:=by
 subst he;exact Le.slots l hl hm
@[simp]theorem UE{e:Key×LB}{l:List (Key×LB)}:bk lv (e::l)=bk (au lv e.1 e.2) l:=rfl
def gC(kn k4 k5 k6:Key):Key->Key:=λk=>if k=0 then 0 else if k=1 then 1 else if k=2 then 2 else if k=4 then k4 else if k=5 then k5 else if k=6 then k6 else if k=7 then kn else if k=3 then 3 else 9
theorem SA(kn k4 k5 k6:Key)(a b d e f g h i:LB):aQ [(0,0,a),(1,1,b),(2,2,d),(4,k4,e),(5,k5,f),(6,k6,g),(7,kn,h),(3,3,i)] 9=gC kn k4 k5 k6:=by
 funext k;unfold gC;have e:∀j:Key,k≠j->(j==k)=false:=λj hj=>by grind
 by_cases h0:k=0
 ·subst h0;rfl
 by_cases h1:k=1
 ·subst h1;rfl
 by_cases h2:k=2
 ·subst h2;rfl
 by_cases h4:k=4
 ·subst h4;rfl
 by_cases h5:k=5
 ·subst h5;rfl
 by_cases h6:k=6
 ·subst h6;rfl
 by_cases h7:k=7
 ·subst h7;rfl
 by_cases h3:k=3
 ·subst h3;rfl
 rw[if_neg h0,if_neg h1,if_neg h2,if_neg h4,if_neg h5,if_neg h6,if_neg h7,if_neg h3];simp[aQ,List.find?,e _ h0,e _ h1,e _ h2,e _ h3,e _ h4,e _ h5,e _ h6,e _ h7]
theorem ye(h:QI p V q c av lf f k≠.hole):k=0\/k=1\/k=2\/k=3\/(k=4/\0<q)\/(k=5/\1<q)\/(k=6/\2<q):=by
 by_cases h0:k=0
 ·grind
 by_cases h1:k=1
 ·grind
 by_cases h2:k=2
 ·grind
 by_cases h3:k=3
 ·grind
 have hm:∀t,mB q c t≠.hole->t<q:=λt ht=>by
  by_cases hq:t<q
  ·exact hq
  ·exact absurd (if_neg hq) ht
 simp only[QI,au]at h
 grind
theorem V7(kn k4 k5 k6:Key){L:List Nd}{m0 m1 m2:CV}{b4 b5 b6:LB}(l:List (Nat×AV))
 (hl0:c0.jd=QI p V q c l5 lf0 f0) (hk4:0<q->k4=4) (hk5:1<q->k5=5) (hk6:2<q->k6=6) (hk:([0,1,2,k4,k5,k6,kn]:List Key).Nodup)
 (h0:lv 0=.cells own false 57 (C9 p V 1 2 kn L.length av.length lf.length n0 n1 n2 f)) (h1:lv 1=.cells o1 false 3 (zK av)) (h2:lv 2=.cells o2 false 3 (zK lf)) (h3:lv 3≠.hole) (hn:lv kn=nB o3 L)
 (h4:∀g,(lv k4).like b4 g) (h5:∀g,(lv k5).like b5 g) (h6:∀g,(lv k6).like b6 g) (h9:lv 9=.hole) (e0:n0=m0.bJ (gC kn k4 k5 k6)) (e1:n1=m1.bJ (gC kn k4 k5 k6)) (e2:n2=m2.bJ (gC kn k4 k5 k6))
 (hl:∀x∈l,x.2.bF=true/\fr x.1=x.2.bJ (gC kn k4 k5 k6)):Le c0 ⟨fr,lv⟩ ⟨aJ l,Ld p V 7 L av lf m0 m1 m2 f .dead b4 b5 b6 (nB false L)⟩:=by
 refine⟨gC kn k4 k5 k6,?_⟩;have hkm:=SA kn k4 k5 k6 (.cells false false 57 (C9 p V 1 2 7 L.length av.length lf.length m0 m1 m2 f)) (bZ av) (bZ lf) b4 b5 b6 (nB false L) .dead;rw[<-hkm];refine dQ.WB (s:=⟨fr,lv⟩) [(0,0,.cells false false 57 (C9 p V 1 2 7 L.length av.length lf.length m0 m1 m2 f)),(1,1,bZ av),(2,2,bZ lf),(4,k4,b4),(5,k5,b5),(6,k6,b6),(7,kn,nB false L)] [3] 9 l _ rfl rfl ?_ (by simp) hk h9 ?_ ?_ (by grind)
 ·intro k hk';rw[hkm];rw[hl0]at hk';rcases ye hk' with rfl|rfl|rfl|rfl|⟨rfl,hq⟩|⟨rfl,hq⟩|⟨rfl,hq⟩
  ·exact .inr rfl
  ·exact .inr rfl
  ·exact .inr rfl
  ·simp
  ·exact .inr (hk4 hq)
  ·exact .inr (hk5 hq)
  ·exact .inr (hk6 hq)
 ·rw[hkm];simp only[afg,aa8,false_implies,implies_true,and_true];refine⟨?_,?_,?_,h4 _,h5 _,h6 _,?_⟩
  ·rw[h0];refine⟨own,_,rfl,?_,λh=>by cases h⟩;rw[e0,e1,e2];simp[gC]
  ·rw[h1];exact⟨o1,_,rfl,(aX av _).symm,λh=>by cases h⟩
  ·rw[h2];exact⟨o2,_,rfl,(aX lf _).symm,λh=>by cases h⟩
  ·rw[hn];exact fC L _ (λh=>by cases h)
 grind
theorem rE(q t:Nat){g:Key->Key}(h:t<q->g (4+t)=4+t):(fM q t).bJ g=fM q t:=by
 unfold fM;split
 ·simp_all
 ·rfl
theorem xX(q:Nat)(c':CS)(kn:Key)(l:List (Nat×AV))
 (hl0:c0.jd=QI p V q0 c l5 lf0 f0) (hk:([0,1,2,4,5,6,kn]:List Key).Nodup)
 (h0:lv 0=.cells own false 57 (C9 p V 1 2 kn c'.L.length av.length lf.length (fM q 0) (fM q 1) (fM q 2) f)) (h1:lv 1=.cells o1 false 3 (zK av)) (h2:lv 2=.cells o2 false 3 (zK lf)) (h3:lv 3≠.hole) (hn:lv kn=nB o3 c'.L)
 (h4:∀g,(lv 4).like (mB q c' 0) g) (h5:∀g,(lv 5).like (mB q c' 1) g) (h6:∀g,(lv 6).like (mB q c' 2) g) (h9:lv 9=.hole)
 (hl:∀x∈l,x.2.bF=true/\fr x.1=x.2.bJ (gC kn 4 5 6)):Le c0 ⟨fr,lv⟩ ⟨aJ l,Ld p V 7 c'.L av lf (fM q 0) (fM q 1) (fM q 2) f .dead (mB q c' 0) (mB q c' 1) (mB q c' 2) (nB false c'.L)⟩:=
 V7 kn 4 5 6 l hl0 (λ_=>rfl) (λ_=>rfl) (λ_=>rfl) hk h0 h1 h2 h3 hn h4 h5 h6 h9 (rE q 0 λ_=>rfl).symm (rE q 1 λ_=>rfl).symm (rE q 2 λ_=>rfl).symm hl
def L7:Key->Key:=λk=>if k=0 then 0 else if k=1 then 1 else if k=2 then 2 else if k=4 then 4 else if k=5 then 5 else if k=6 then 6 else if k=7 then 8 else if k=3 then 3 else if k=1000 then 7 else 9
theorem Mu(a b d e f g h i j:LB):aQ [(0,0,a),(1,1,b),(2,2,d),(4,4,e),(5,5,f),(6,6,g),(7,8,h),(3,3,i),(1000,7,j)] 9=L7:=by
 funext k;unfold L7;have e:∀j:Key,k≠j->(j==k)=false:=λj hj=>by grind
 by_cases h0:k=0
 ·subst h0;rfl
 by_cases h1:k=1
 ·subst h1;rfl
 by_cases h2:k=2
 ·subst h2;rfl
 by_cases h4:k=4
 ·subst h4;rfl
 by_cases h5:k=5
 ·subst h5;rfl
 by_cases h6:k=6
 ·subst h6;rfl
 by_cases h7:k=7
 ·subst h7;rfl
 by_cases h3:k=3
 ·subst h3;rfl
 by_cases h8:k=1000
 ·subst h8;rfl
 rw[if_neg h0,if_neg h1,if_neg h2,if_neg h4,if_neg h5,if_neg h6,if_neg h7,if_neg h3,if_neg h8];simp[aQ,List.find?,e _ h0,e _ h1,e _ h2,e _ h3,e _ h4,e _ h5,e _ h6,e _ h7,e _ h8]
theorem bV(q:Nat)(c:CS)(t:Nat)(g:Key->Key):(mB q c t).like (mB q c t) g:=by
 unfold mB;split
 ·exact aR _ _ g id
 ·rfl
theorem AK{σ':List LB}(he:e=.ret\/e=.normal)(hl0:c0.jd=QI p V q0 c l5 lf0 f0)
 (hs:s.lv=Ld p V 7 c'.L av lf (fM q 0) (fM q 1) (fM q 2) f .dead (mB q c' 0) (mB q c' 1) (mB q c' 2) (nB false c'.L)) (hσ':bu σ' ν=RD p V q c' av lf f) (hx:x.pure=true) (hr:eD c0.P s fn.results.toList=some x):I8 c0 fn x σ' ν e s κ:=by
 have key:∃(m:List (Key×Key×LB)) (kh:Key),bu σ' ν=bk (λ_=>.hole) (m.map λe=>(e.1,e.2.2))/\(m.map (·.1)).Nodup/\(m.map (·.2.1)).Nodup/\s.lv kh=.hole /\
  (∀k,c0.jd k≠.hole->bu σ' ν k=.dead\/aQ m kh k=k)/\(∀e∈m,(s.lv e.2.1).like e.2.2 (aQ m kh))/\x.bF=true/\eD c0.P s fn.results.toList=some (x.bJ (aQ m kh)):=by
  have hkm:=Mu (.cells false false 57 (C9 p V 1 2 1000 c'.L.length av.length lf.length (fM q 0) (fM q 1) (fM q 2) f)) (bZ av) (bZ lf) (mB q c' 0) (mB q c' 1) (mB q c' 2) .hole .dead (nB false c'.L);refine⟨[(0,0,.cells false false 57 (C9 p V 1 2 1000 c'.L.length av.length lf.length (fM q 0) (fM q 1) (fM q 2) f)),(1,1,bZ av),(2,2,bZ lf),(4,4,mB q c' 0),(5,5,mB q c' 1),(6,6,mB q c' 2),(7,8,.hole),(3,3,.dead),(1000,7,nB false c'.L)],9,hσ',by simp,by simp,by simp_all,?_,?_,AV.eB hx,by rw[AV.bM hx];exact hr⟩
  ·intro k hk';rw[hkm,hσ'];rw[hl0]at hk';rcases ye hk' with rfl|rfl|rfl|rfl|⟨rfl,hq⟩|⟨rfl,hq⟩|⟨rfl,hq⟩
   ·exact .inr rfl
   ·exact .inr rfl
   ·exact .inr rfl
   ·exact .inl rfl
   ·exact .inr rfl
   ·exact .inr rfl
   ·exact .inr rfl
  ·rw[hkm,hs];simp only[afg,aa8,false_implies,implies_true,and_true];refine⟨⟨false,_,rfl,?_,id⟩,⟨false,_,rfl,(aX av _).symm,id⟩,⟨false,_,rfl,(aX lf _).symm,id⟩,bV q c' 0 _,bV q c' 1 _,bV q c' 2 _,rfl,qJ _,fC c'.L _ id⟩;have e0:=rE q 0 (g:=L7) (λ_=>rfl);have e1:=rE q 1 (g:=L7) (λ_=>rfl);have e2:=rE q 2 (g:=L7) (λ_=>rfl);simp[L7,e0,e1,e2]
 rcases he with rfl|rfl<;>exact key
theorem Ym(lv:Key->LB)(κ:Key)(h:lv κ=.hole)(a b:CV):ai prog 30 2 [0,1] lv κ [.c a,.c b]=some (.c (.aE κ 0 2 1),[(κ,.cells true false 3 [a,b])],[],True):=by
 unfold ai;rw[h];rfl
theorem AW.Y6{c:Ctx}{x:Code}(h:lv=lv')(k:AW c r x ⟨fr,lv'⟩ κ Q):AW c r x ⟨fr,lv⟩ κ Q:=by rw[h];exact k
abbrev nCs(n:Nd):List CV:=[.d (.int .i64 n.op),.d (.int .i64 n.a),.d (.int .i64 n.b),.d (.int .i64 n.c),.d (.int .i64 n.d),.d (.int .i64 n.f),.d (.str n.v)]
theorem W4{L:List Nd}(h:lv k=nB own L)(hL:L.length<=1000):dm prog 24 lv (.c (.aE k 0 L.length 7))=some (.c (.d (.int .i64 L.length)),[],[k],True):=by
 have hT:(fk prog 24).isSome=true:=by simp
 have h2:ku prog 24 lv (.c (.aE k 0 L.length 7))=some (L.length:Int):=by
  unfold nB at h;unfold ku;split at h<;>simp only[h,hT,if_true]
 have h3:kQ (.c (.aE k 0 L.length 7)) (L.length:Int)=True:=eq_true (by simp[kQ];omega);unfold dm;simp only[h2,h3];rfl
theorem tP(o:Nat)(x:Option Nat):Tu o x=.tup [.c (.d (.int .i64 (match x with|some i=>((o+i:Nat):Int)|none=>0))),.c (.d (.bool x.isSome))]:=by cases x<;>rfl
theorem H9(m:Int)(p:PD)(V:NS)(c:CS)(av lf:List Int)(f:Int×Int×Int)(s:Nat)(hs:s<3)(n:Nd)(hc:c.upto s)(hL:c.L.length<=1000)(σ σ' ν:List LB)(hσ:bu σ []=QI p V (s+1) c av lf f)(hσ':bu σ' ν=RD p V (s+1) (c.put s n).2 av lf f):
 aD prog (GG m) 43 [.c (.ptr 0 0),.c (.d (.int .i64 s)),n.A] σ (.ret (.c (.d (.int .i64 ((c.put s n).1:Nat)))) σ' ν):=by
 have hadd:=CS.To hc n;have hw:=bE (n:=(c.L.length:Int)) (by omega) (by omega);have hLb:(c.L.length:Int)<=9223372036854775807:=by omega
 have hoff:c.L.length=c.off s+(c.sec s).length:=by
  obtain⟨a,b,d⟩:=c;obtain⟨h1,h2⟩:=hc;obtain rfl|rfl|rfl:s=0\/s=1\/s=2:=by omega
  ·have e1:b=[]:=h1 rfl;have e2:d=[]:=h2 (by omega);subst e1;subst e2;simp[CS.L,CS.off,CS.sec]
  ·have e2:d=[]:=h2 (by omega);subst e2;simp[CS.L,CS.off,CS.sec]
  ·simp[CS.L,CS.off,CS.sec];omega
 have hsec:(c.add s n).sec s=c.sec s++[n]/\(c.add s n).off s=c.off s:=by
  obtain rfl|rfl|rfl:s=0\/s=1\/s=2:=by omega
  all_goals exact⟨rfl,rfl⟩
 have hfS:∀i,dg n (c.sec s)=some i->c.put s n=(c.off s+i,c):=λi h=>by unfold CS.put CS.find;rw[h]
 have hf0:∀i,dg n (c.sec s)=none->dg n c.A0=some i->c.put s n=(i,c):=λi h h2=>by unfold CS.put CS.find;grind
 have hfN:dg n (c.sec s)=none->dg n c.A0=none->c.put s n=(c.L.length,c.add s n):=λh h2=>by unfold CS.put CS.find;grind
 refine aD.SW func43 rfl hσ λ_=>?_;refine AW.Y6 (lv':=Ld p V 3 c.L av lf (fM (s+1) 0) (fM (s+1) 1) (fM (s+1) 2) f (nB false c.L) (mB (s+1) c 0) (mB (s+1) c 1) (mB (s+1) c 2) .hole) rfl ?_;refine acW 10 ?_;refine aar ?_;refine aae λK hK=>abU λK1 hK1=>?_;simp[Ym,-ai];apply hK1;refine abd ?_
 refine aco (λ(j:Nat)=>⟨aJ [(0,.c (.ptr 0 0)),(1,.c (.d (.int .i64 s))),(5,.c (.ptr 10 0)),(12,.c (.aE 11 0 2 1)),(13,.c (.d (.int .i64 2))),(14,.c (.d (.int .i64 j)))],
  au (au (Ld p V 3 c.L av lf (fM (s+1) 0) (fM (s+1) 1) (fM (s+1) 2) f (nB false c.L) (mB (s+1) c 0) (mB (s+1) c 1) (mB (s+1) c 2) .hole) 10 (.cells true false 40 (nCs n))) 11 (.cells true false 3 [.d (.int .i64 s),.d (.int .i64 0)])⟩) 12
  (λj=>j<=2/\(1<=j->dg n (c.sec s)=none)/\(2<=j->dg n c.A0=none)) (λj=>2-j) 0 (Le.mkM _ (by
   obtain rfl|rfl|rfl:s=0\/s=1\/s=2:=by omega
   all_goals repeat (first|exact Dw|refine CZ ?_|refine Ew ?_|refine CQ ?_|refine EG ?_))) ⟨by omega,λh=>by omega,λh=>by omega⟩ ?_
 rintro j ⟨hj,hj1,hj2⟩;have hln:∀lv:Key->LB,lv 3=nB false c.L->dm prog 24 lv (.c (.aE 3 0 c.L.length 7))=some (.c (.d (.int .i64 c.L.length)),[],[3],True):=λlv h=>W4 h (by omega)
 have hbs:∀(lv:Key->LB) (h:lv 12=.hole) (n:Nd),ai prog 24 1 [0] lv 12 [n.A]=some (.c (.aE 12 0 1 7),[(12,.cells true false 40 (iQ [n]))],[],True):=λlv h n=>Sx lv 12 h n
 obtain⟨c1,hc1⟩:∃c1,(c.put s n).2=c1:=⟨_,rfl⟩
 obtain⟨v1,yf⟩:∃v1,(c.put s n).1=v1:=⟨_,rfl⟩
 rw[hc1]at hσ';rw[yf];have w1:=bE (n:=1) (by omega) (by omega);have w2:=bE (n:=2) (by omega) (by omega);refine aar ?_;refine aae λK2 hK2=>?_
 by_cases hjt:j<2
 ·have hjt':(j:Int)<2:=by omega
  refine abz (by simp_all) (aaE (hK2 _ _ (aae λK3 hK3=>abd (aae λK4 hK4=>?_))));have hjj:j=0\/j=1:=by omega
  obtain rfl|rfl:=hjj
  ·refine adg (hK4 _ _ ?_)
   cases hx:dg n (c.sec s)with
   |some q=>
    have e:=hfS q hx;rw[e]at hc1 yf;subst hc1 yf;have hs0:s=0\/s=1\/s=2:=by omega
    obtain hs0|hs0|hs0:=hs0
    all_goals
     have hx':=hx;rw[hs0]at hx';refine aae λK4 hK4=>?_;refine AW.GV mixed (by kernel_rfl) ?_;refine vC.run 7 rfl ?_;simp[hs0,fM,mB];refine vC.dF 12 rfl rfl (by simp[Am.dF,Op.operands];exact Em rfl n) ?_;rw[tP];refine vC.run 5 rfl ?_;simp;refine vC.done ?_;refine⟨by kernel_rfl,?_⟩;apply hK4;refine acf hx' ?_;refine abA (aar ?_);refine acU (κ2:=9) (xX (s+1) c 3 [(6,.c (.d (.int .i64 ((c.off s+q:Nat):Int))))] rfl (by decide) (by rw[hs0];rfl) rfl rfl (λh=>gA h) rfl (λg=>by rw[hs0];first|exact aR _ _ g id|exact rfl) (λg=>by rw[hs0];first|exact aR _ _ g id|exact rfl) (λg=>by rw[hs0];first|exact aR _ _ g id|exact rfl) rfl (by simp[hs0])) ?_;exact aaV (AK (κ:=0) (.inl rfl) rfl rfl hσ' rfl (by rfl))
   |none=>
    have hs0:s=0\/s=1\/s=2:=by omega
    obtain hs0|hs0|hs0:=hs0
    all_goals
     have hx':=hx;rw[hs0]at hx';refine aae λK4 hK4=>?_;refine AW.GV mixed (by kernel_rfl) ?_;refine vC.run 7 rfl ?_;simp[hs0,fM,mB];refine vC.dF 12 rfl rfl (by simp[Am.dF,Op.operands];exact Em rfl n) ?_;rw[tP];refine vC.run 5 rfl ?_;simp;refine vC.done ?_;refine⟨by kernel_rfl,?_⟩;apply hK4;refine acf hx' ?_;refine abg (aaE (hK3 _ _ (aaJ ?_)));simp[w1]
     refine⟨1,Le.mkM _ (by
      try rw[hs0]
      repeat (first|exact Dw|refine CZ ?_|refine Ew ?_|refine CQ ?_|refine EG ?_)) (by simp[hs0]) (by rw[hs0];rfl),⟨by omega,λ_=>hx,λh=>by omega⟩,by omega⟩
  ·refine adg (hK4 _ _ ?_);have hx:=hj1 (by omega)
   cases hx0:dg n c.A0 with
   |some q=>
    have e:=hf0 q hx hx0;rw[e]at hc1 yf;subst hc1 yf;have hs0:s=0\/s=1\/s=2:=by omega
    obtain hs0|hs0|hs0:=hs0
    all_goals
     refine aae λK4 hK4=>?_;refine AW.GV mixed (by kernel_rfl) ?_;refine vC.run 7 rfl ?_;simp[hs0,fM,mB];refine vC.dF 12 rfl rfl (by simp[Am.dF,Op.operands];exact Em rfl n) ?_;rw[tP];refine vC.run 5 rfl ?_;simp;refine vC.done ?_;refine⟨by kernel_rfl,?_⟩;apply hK4;refine abU λK4 hK4=>?_;simp[CS.off,CS.sec,hx0];apply hK4;refine abA (aar ?_);refine acU (κ2:=9) (xX (s+1) c 3 [(6,.c (.d (.int .i64 (q:Int))))] rfl (by decide) (by rw[hs0];rfl) rfl rfl (λh=>gA h) rfl (λg=>by rw[hs0];first|exact aR _ _ g id|exact rfl) (λg=>by rw[hs0];first|exact aR _ _ g id|exact rfl) (λg=>by rw[hs0];first|exact aR _ _ g id|exact rfl) rfl (by simp)) ?_;exact aaV (AK (κ:=0) (.inl rfl) rfl rfl hσ' rfl (by rfl))
   |none=>
    have hs0:s=0\/s=1\/s=2:=by omega
    obtain hs0|hs0|hs0:=hs0
    all_goals
     refine aae λK4 hK4=>?_;refine AW.GV mixed (by kernel_rfl) ?_;refine vC.run 7 rfl ?_;simp[hs0,fM,mB];refine vC.dF 12 rfl rfl (by simp[Am.dF,Op.operands];exact Em rfl n) ?_;rw[tP];refine vC.run 5 rfl ?_;simp;refine vC.done ?_;refine⟨by kernel_rfl,?_⟩;apply hK4;refine abU λK4 hK4=>?_;simp[CS.sec,hx0];apply hK4;refine abg (aaE (hK3 _ _ (aaJ ?_)));simp[w2]
     refine⟨2,Le.mkM _ (by
      try rw[hs0]
      repeat (first|exact Dw|refine CZ ?_|refine Ew ?_|refine CQ ?_|refine EG ?_)) (by simp[hs0]) (by rw[hs0];rfl),⟨by omega,λ_=>hx,λ_=>hx0⟩,by omega⟩
 have hje:j=2:=by omega
 subst hje;have hx:=hj1 (by omega);have hx0:=hj2 (by omega);have e:=hfN hx hx0;rw[e]at hc1 yf;subst hc1 yf;refine abg (abX (hK _ _ ?_));have hL2:(c.add s n).L.length=c.L.length+1:=by rw[hadd];simp
 have hB2:∀own,nB own (c.add s n).L=.cells own false 40 (iQ (c.L++[n])):=λown=>by rw[hadd];exact if_neg (by simp)
 have w0:=bE (n:=0) (by omega) (by omega);have hw9:=bE (n:=(c.L.length:Int)) (by omega) (by omega);have hs0:s=0\/s=1\/s=2:=by omega
 obtain hs0|hs0|hs0:=hs0
 all_goals
  have hx':=hx;rw[hs0]at hx';have hL2':=hL2;rw[hs0]at hL2';have ho':=hoff;rw[hs0]at ho';refine aae λK hK=>?_;refine AW.GV mixed (by kernel_rfl) ?_;refine vC.run 13 rfl ?_;simp[hs0,fM,mB,hln];refine vC.dF 12 rfl rfl (by simp[Am.dF,Op.operands];exact abR rfl hx' ho') ?_;refine vC.done ?_;simp;refine⟨by kernel_rfl,?_⟩;apply hK
  by_cases hL0:c.L=[]
  ·have hB:nB false c.L=.bO:=if_pos hL0;have hl0:c.L.length=0:=by rw[hL0];rfl
   refine aae λK hK=>?_;refine acs mixed (by kernel_rfl) rfl ?_;simp[hbs,dS,keyOf,vm,qc,aj,hB,hl0,-ai];refine⟨by kernel_rfl,?_⟩;apply hK;refine acv w0 hl0 ?_;rw[e];refine acU (κ2:=9) (xX (s+1) (c.add s n) (f:=f) (own:=false) 13 [(6,.c (.d (.int .i64 (c.L.length:Int))))] (o3:=true) rfl (by decide) (by rw[hs0];simp[hL2',hl0,fM]) rfl rfl (λh=>by cases h) (by simp[hB2,hL0]) (λg=>by rw[hs0];first|exact aR _ _ g id|exact rfl) (λg=>by rw[hs0];first|exact aR _ _ g id|exact rfl) (λg=>by rw[hs0];first|exact aR _ _ g id|exact rfl) rfl (by simp[hl0])) ?_;exact aaV (AK (κ:=0) (.inl rfl) rfl rfl hσ' rfl (by rfl))
  ·have hB:nB false c.L=.cells false false 40 (iQ c.L):=if_neg hL0;refine aae λK hK=>?_;refine acs mixed (by kernel_rfl) rfl ?_;simp[hbs,dS,keyOf,qc,aj,hB,mI,-ai]
   repeat refine aL ?_
   refine⟨by kernel_rfl,?_⟩;apply hK;refine acf hw9 ?_;rw[e];refine acU (κ2:=9) (xX (s+1) (c.add s n) (f:=f) (own:=false) 13 [(6,.c (.d (.int .i64 (c.L.length:Int))))] (o3:=false) rfl (by decide) (by rw[hs0];simp[hL2',fM]) rfl rfl (λh=>by cases h) (by simp[hB2,qY]) (λg=>by rw[hs0];first|exact aR _ _ g id|exact rfl) (λg=>by rw[hs0];first|exact aR _ _ g id|exact rfl) (λg=>by rw[hs0];first|exact aR _ _ g id|exact rfl) rfl (by simp)) ?_;exact aaV (AK (κ:=0) (.inl rfl) rfl rfl hσ' rfl (by rfl))
def Ea(p:PD)(V:NS)(q:Nat)(c:CS)(av lf:List Int)(f:Int×Int×Int):List LB:=
 [.cells false false 57 (C9 p V 1 2 3 c.L.length av.length lf.length (fM q 0) (fM q 1) (fM q 2) f),bZ av,bZ lf,nB false c.L]++(List.range q).map (λt=>.map false (c.yN t))
def wZ(p:PD)(V:NS)(q:Nat)(c:CS)(av lf:List Int)(n0 n1 n2:CV)(f:Int×Int×Int):List LB:=
 [.cells false false 57 (C9 p V 1 2 1000 c.L.length av.length lf.length n0 n1 n2 f),bZ av,bZ lf,.dead]++(List.range q).map (λt=>.map false (c.yN t))
theorem As{σ:List LB}(h:∀i (hi:i<σ.length),lv i=σ[i])(h':∀i (hi:i<ν.length),lv (1000+i)=ν[i])(hσ:σ.length<=1000)(h2:∀k:Nat,¬k<σ.length->¬(1000<=k/\k<1000+ν.length)->lv k=.hole):bu σ ν=lv:=by
 refine funext λ(k:Nat)=>?_;rw[DY]
 by_cases hk:k<1000
 ·grind
 ·rw[if_neg hk]
  by_cases h3:k-1000<ν.length
  ·have:=h' (k-1000) h3
   simp_all
  grind
theorem Yi{f:Key->LB}{a b c d e x y z:Nat}{A B C D E X Y Z:LB}{k:Nat}(h1:k≠a)(h2:k≠b)(h3:k≠c)(h4:k≠d)(h5:k≠e)(h6:k≠x)(h7:k≠y)(h8:k≠z):au (au (au (au (au (au (au (au f a A) b B) c C) d D) e E) x X) y Y) z Z k=f k:=by
 simp_all
theorem wJ(p:PD)(V:NS)(q:Nat)(hq:q<=3)(c:CS)(av lf:List Int)(f:Int×Int×Int):bu (Ea p V q c av lf f) []=QI p V q c av lf f:=by
 have hl:(Ea p V q c av lf f).length=4+q:=by simp[Ea];omega
 refine As (λi hi=>?_) (λi hi=>by cases hi) (by omega) (λk h1 _=>?_)
 ·match i,hi with
  |0,_=>rfl
  |1,_=>rfl
  |2,_=>rfl
  |3,_=>rfl
  |t+4,hi=>
   have ht:t<q:=by omega
   have e:(Ea p V q c av lf f)[t+4]=.map false (c.yN t):=by simp[Ea]
   rw[e];have:t=0\/t=1\/t=2:=by omega
   rcases this with rfl|rfl|rfl
   ·exact if_pos ht
   ·exact if_pos ht
   ·exact if_pos ht
 ·rw[hl]at h1
  by_cases h:QI p V q c av lf f k=.hole
  ·exact h
  ·rcases ye h with rfl|rfl|rfl|rfl|⟨rfl,hq⟩|⟨rfl,hq⟩|⟨rfl,hq⟩<;>omega
theorem m4(p:PD)(V:NS)(q:Nat)(hq:q<=3)(c:CS)(av lf:List Int)(f:Int×Int×Int):bu (wZ p V q c av lf (fM q 0) (fM q 1) (fM q 2) f) [nB false c.L]=RD p V q c av lf f:=by
 have hl:(wZ p V q c av lf (fM q 0) (fM q 1) (fM q 2) f).length=4+q:=by simp[wZ];omega
 refine As (λi hi=>?_) (λi hi=>?_) (by omega) (λk h1 h2=>?_)
 ·match i,hi with
  |0,_=>rfl
  |1,_=>rfl
  |2,_=>rfl
  |3,_=>rfl
  |t+4,hi=>
   have ht:t<q:=by omega
   have e:(wZ p V q c av lf (fM q 0) (fM q 1) (fM q 2) f)[t+4]=.map false (c.yN t):=by simp[wZ]
   rw[e];have:t=0\/t=1\/t=2:=by omega
   rcases this with rfl|rfl|rfl
   ·exact if_pos ht
   ·exact if_pos ht
   ·exact if_pos ht
 ·have:i=0:=by simpa using hi
  subst this;rfl
 ·rw[hl]at h1;have hk:k≠1000:=λe=>h2 ⟨by omega,by simp[e]⟩
  by_cases h4:k=4
  ·subst h4;exact if_neg (by omega)
  by_cases h5:k=5
  ·subst h5;exact if_neg (by omega)
  by_cases h6:k=6
  ·subst h6;exact if_neg (by omega)
  by_cases h7:k=7
  ·subst h7;rfl
  unfold RD;rw[aF _ _ hk];exact Yi (by omega) (by omega) (by omega) h4 h5 h6 h7 (by omega)
theorem uA(L:List Nd)(g:Key->Key)(own:Bool):((nB false L).bJ g).fix own=nB own L:=by
 unfold nB;split
 ·rfl
 simp
theorem Sl(o:Nat)(l:List Nd)(g:Key->Key):(iF o l).map (λp=>(p.1,p.2.l6 g))=iF o l:=by
 obtain⟨_,_,h1,h2,_⟩:=aR (own:=false) (o2:=false) l o g id
 grind
theorem Fe(o:Nat)(l:List Nd)(g:Key->Key)(own:Bool):((LB.map false (iF o l)).bJ g).fix own=.map own (iF o l):=by
 show LB.map _ _=_;rw[Sl,ae3]
theorem Qz(lv:Key->LB)(n:Nat)(o:Option (List (List DV))):kM lv n (eG o)=[]:=by cases o<;>cases n<;>rfl
theorem Jc(lv:Key->LB)(n:Nat)(x:DV):kM lv n (.d x)=[]:=by cases n<;>rfl
theorem Uc(lv:Key->LB)(n:Nat)(x:Key):kM lv n (.mapr x)=[]:=by cases n<;>rfl
theorem UA(lv:Key->LB)(n:Nat)(ms:List Key)(t:Nat):kM lv n (mV ms t)=[]:=by unfold mV;split<;>first|exact Uc ..|exact Jc ..
theorem U8(lv:Key->LB)(n:Nat)(l:List Int):(zK l).flatMap (kM lv n)=[]:=by
 unfold zK;rw[List.flatMap_map,afF];intro x _;exact Jc _ _ _
theorem NF(lv:Key->LB)(n:Nat)(l:List Nd):(iQ l).flatMap (kM lv n)=[]:=by
 unfold iQ;rw[List.flatMap_map,afF];intro x _;exact Jc _ _ _
theorem UK{ms:List Key}(hq:ms.length=q){a b d e kh:Key}{nk:List Key}(h3:q<=3)(t:Nat):mV ms t=(fM q t).bJ (aG ([a,b,d,e]++ms) nk kh):=by
 unfold mV fM
 by_cases ht:t<q
 ·rw[if_pos ht,bp (by omega)];show CV.mapr _=.mapr (aG _ _ _ (4+t));congr 1;show _=if _ then _ else _
  grind
 ·rw[if_neg ht,ae0 (by omega)];rfl
theorem ag.cg{fid:FuncId}{us:List AV}{K:AV->List (Key×LB)->List Key->Nat->Prop}(κ' kh:Key)(own:Bool)(k0 k1 k2 k3:Key)(ms nk:List Key){f':Int×Int×Int}{o0:Bool}
 (hc:aD c0.P c0.G fid (.c (.ptr 0 0)::us) (Ea p V ms.length c av lf f) (.ret x (wZ p V ms.length c' av lf n0 n1 n2 f') ν)) (hx:x.pure=true) (hu:∀a∈us,a.pure=true) (hq:ms.length<=3) (hn:(([k0,k1,k2,k3]++ms)++nk).Nodup) (hkh:kh∉([k0,k1,k2,k3]++ms)++nk) (hl:nk.length=ν.length)
 (h0:lv k0=.cells o0 false 57 (C9 p V k1 k2 k3 c.L.length av.length lf.length (mV ms 0) (mV ms 1) (mV ms 2) f)) (h1:lv k1=.cells o1 false 3 (zK av)) (h2:lv k2=.cells o2 false 3 (zK lf)) (h3:lv k3=nB o3 c.L)
 (hm:∀t (h:t<ms.length),∃o,lv ms[t]=.map o (c.yN t)/\(own=true->o=true)) (ho:own=true->o0=true/\o1=true/\o2=true/\o3=true) (hnk:∀k∈nk,lv k=.hole) (hh:lv kh=.hole) (hν:∀b∈ν,b≠.hole)
 (hK:K x ([(k0,.cells own false 57 (C9 p V k1 k2 (nk.getD 0 kh) c'.L.length av.length lf.length (n0.bJ (aG ([k0,k1,k2,k3]++ms) nk kh)) (n1.bJ (aG ([k0,k1,k2,k3]++ms) nk kh)) (n2.bJ (aG ([k0,k1,k2,k3]++ms) nk kh)) f')),(k1,.cells own false 3 (zK av)),(k2,.cells own false 3 (zK lf)),(k3,.dead)] ++
  (List.zipWith (λk t=>(k,LB.map own (c'.yN t))) ms (List.range ms.length)++cq (aG ([k0,k1,k2,k3]++ms) nk kh) own nk ν)) [kh,k0,k1,k2,k3] κ'):ag c0 fid (.c (.ptr k0 0)::us) lv K:=by
 obtain⟨g,hg⟩:∃g,aG ([k0,k1,k2,k3]++ms) nk kh=g:=⟨_,rfl⟩
 have g0:g 0=k0:=by rw[<-hg];rfl
 have g1:g 1=k1:=by rw[<-hg];rfl
 have g2:g 2=k2:=by rw[<-hg];rfl
 have g3:g 3=k3:=by rw[<-hg];rfl
 have gN:g 1000=nk.getD 0 kh:=by rw[<-hg];rfl
 have hmv:∀t,mV ms t=(fM ms.length t).bJ g:=λt=>by rw[<-hg];exact UK rfl hq t
 have hli:(Ea p V ms.length c av lf f).length=4+ms.length:=by simp[Ea];omega
 have hlo:(wZ p V ms.length c' av lf n0 n1 n2 f').length=4+ms.length:=by simp[wZ];omega
 refine ag.Tx κ' kh own ([k0,k1,k2,k3]++ms) nk _ _ _ (us:=.c (.ptr 0 0)::us) [kh,k0,k1,k2,k3] hc hn hkh (by grind) (by omega) hl (by omega) ?_ hnk hh ?_ ?_ ?_ rfl ?_ ?_ (by simp) ?_
 ·rw[hg];intro i q1 q2
  match i,q1,q2 with
  |0,_,_=>
   show(lv k0).like _ _;rw[h0];refine⟨o0,_,rfl,?_,λh=>by cases h⟩
   simp_all
  |1,_,_=>show(lv k1).like _ _;rw[h1];exact⟨o1,_,rfl,(aX av _).symm,λh=>by cases h⟩
  |2,_,_=>show(lv k2).like _ _;rw[h2];exact⟨o2,_,rfl,(aX lf _).symm,λh=>by cases h⟩
  |3,_,_=>show(lv k3).like _ _;rw[h3];exact fC c.L _ (λh=>by cases h)
  |t+4,q1,q2=>
   have ht:t<ms.length:=by rw[hli]at q2;omega
   have e1:([k0,k1,k2,k3]++ms)[t+4]=ms[t]:=by simp
   have e2:(Ea p V ms.length c av lf f)[t+4]=.map false (c.yN t):=by simp[Ea]
   rw[e1,e2];obtain⟨o,h5,-⟩:=hm t ht;show(lv ms[t]).like _ _;rw[h5];exact aR _ _ _ (λh=>by cases h)
 ·intro b hb;unfold Ea at hb;simp only[ad6,adM,fy,adX,aeC]at hb;rcases hb with rfl|rfl|rfl|rfl|⟨t,_,rfl⟩
  ·rfl
  ·rfl
  ·rfl
  ·unfold nB;split<;>rfl
  ·rfl
 ·intro b hb;have nb:nB false c.L≠.hole:=by unfold nB;split<;>exact λh=>by cases h
  rcases List.mem_append.1 hb with hb|hb
  ·rcases List.mem_append.1 hb with hb|hb
   ·unfold Ea at hb;simp only[ad6,adM,fy,adX,aeC]at hb
    grind
   ·unfold wZ at hb;simp only[ad6,adM,fy,adX,aeC]at hb
    grind
  grind
 ·intro hw k hk;obtain⟨r0,r1,r2,r3⟩:=ho hw;rcases List.mem_append.1 hk with hk|hk
  ·simp only[fy,aa8,or_false]at hk;rcases hk with rfl|rfl|rfl|rfl
   ·rw[h0];exact r0
   ·rw[h1];exact r1
   ·rw[h2];exact r2
   ·rw[h3];unfold nB;split
    ·rfl
    ·exact r3
  ·obtain⟨t,ht,rfl⟩:=List.mem_iff_getElem.1 hk;obtain⟨o,h5,h6⟩:=hm t ht;rw[h5];exact h6 hw
 ·rw[hg];intro i q1 q2
  match i,q1,q2 with
  |0,_,_=>simp_all
  |t+1,q1,q2=>
   have hp:=hu (us[t]'(by grind)) (aZ _);exact⟨AV.eB hp,(AV.bM hp _).symm⟩
 ·intro a ha k hk;rcases List.mem_cons.1 ha with rfl|ha
  ·simp only[pz,kM,h0,h1,h2,h3,fy,afC,List.flatMap_nil,Qz,UA,U8,adv,adM,aem,aa8,or_false]at hk;simp only[fy];rcases hk with rfl|(rfl|hk)|rfl|rfl
   ·simp
   ·simp
   ·exfalso;unfold nB at hk;split at hk
    ·rename_i e;split at e<;>first|(injection e with _ _ _ e4;rw[<-e4,NF]at hk;cases hk)|cases e
    grind
   ·simp
   ·simp
  ·rw[jr (hu a ha)]at hk;cases hk
 ·rw[AV.bM hx]
  have e:cq (aG ([k0,k1,k2,k3]++ms) nk kh) own ([k0,k1,k2,k3]++ms) (wZ p V ms.length c' av lf n0 n1 n2 f')=[(k0,.cells own false 57 (C9 p V k1 k2 (nk.getD 0 kh) c'.L.length av.length lf.length (n0.bJ g) (n1.bJ g) (n2.bJ g) f')),(k1,.cells own false 3 (zK av)),(k2,.cells own false 3 (zK lf)),(k3,.dead)]++List.zipWith (λk t=>(k,LB.map own (c'.yN t))) ms (List.range ms.length):=by
   rw[hg];unfold wZ cq;simp only[ad6,adM,ae5,List.zipWith_map_right];congr 1
   ·simp_all
   ·congr 1
    ·simp[LB.fix,aX]
    ·congr 1
     ·simp[LB.fix,aX]
     ·congr 1;congr 1;funext k t;exact congrArg (Prod.mk k) (Fe _ _ _ _)
  grind
def m8(p:PD)(i:Nat):Nd:=⟨1,i,0,0,0,(p.Bc i).f,[]⟩
def lK(p:PD)(s:Nat)(k:Int):Nd:=⟨2,k,0,0,0,(p.nd (p.st s).1.toNat).f,[]⟩
def qw(p:PD)(c:CS):Nat->CS
 |0=>c
 |j+1=>((qw p c j).put 0 (m8 p j)).2
def mX(p:PD)(lf:List Int)(t:Nat)(c:CS):Nat->CS
 |0=>c
 |j+1=>if 0<=lf.getD j 0 then((mX p lf t c j).put t (lK p j (lf.getD j 0))).2 else mX p lf t c j
def eN(p:PD)(lf:List Int)(t:Nat)(c:CS):CS:=if t=0 then qw p c p.ni else mX p lf t c lf.length
def nG(f:Int×Int×Int)(t:Nat)(v:Int):Int×Int×Int:=
 match t with
 |0=>(v,f.2)
 |1=>(f.1,v,f.2.2)
 |_=>(f.1,f.2.1,v)
theorem C2(p:PD){c:CS}(h:c.upto 0):∀j,(qw p c j).upto 0/\(qw p c j).L.length<=c.L.length+j
 |0=>⟨h,aU _⟩
 |j+1=>by
  obtain⟨h1,h2⟩:=C2 p h j;have:=CS.yC h1 (m8 p j);exact⟨CS.zo h1 _,by show((qw p c j).put 0 (m8 p j)).2.L.length<=_;omega⟩
theorem DK(p:PD)(lf:List Int){t:Nat}{c:CS}(h:c.upto t):∀j,(mX p lf t c j).upto t/\(mX p lf t c j).L.length<=c.L.length+j
 |0=>⟨h,aU _⟩
 |j+1=>by
  obtain⟨h1,h2⟩:=DK p lf h j;have:=CS.yC h1 (lK p j (lf.getD j 0));unfold mX;split
  ·exact⟨CS.zo h1 _,by omega⟩
  grind
def nQ(t u:Nat):CV:=if u<t then .mapr (4+u)else if u=t then .mapr 1001 else .d .nilmap
def sQ(t u:Nat):Key:=if u<t then 4+u else 20+u
def gB(t:Nat):Key->Key:=λk=>if k=0 then 0 else if k=1 then 1 else if k=2 then 2 else if k=4 then sQ t 0 else if k=5 then sQ t 1 else if k=6 then sQ t 2 else if k=3 then 3 else if k=1000 then 7 else if k=1001 then 4+t else 9
theorem SL(t:Nat)(a b d e f g h i j:LB):aQ [(0,0,a),(1,1,b),(2,2,d),(4,sQ t 0,e),(5,sQ t 1,f),(6,sQ t 2,g),(3,3,h),(1000,7,i),(1001,4+t,j)] 9=gB t:=by
 funext k;unfold gB;have e:∀j:Key,k≠j->(j==k)=false:=λj hj=>by grind
 by_cases h0:k=0
 ·subst h0;rfl
 by_cases h1:k=1
 ·subst h1;rfl
 by_cases h2:k=2
 ·subst h2;rfl
 by_cases h4:k=4
 ·subst h4;rfl
 by_cases h5:k=5
 ·subst h5;rfl
 by_cases h6:k=6
 ·subst h6;rfl
 by_cases h3:k=3
 ·subst h3;rfl
 by_cases h7:k=1000
 ·subst h7;rfl
 by_cases h8:k=1001
 ·subst h8;rfl
 rw[if_neg h0,if_neg h1,if_neg h2,if_neg h4,if_neg h5,if_neg h6,if_neg h3,if_neg h7,if_neg h8];simp[aQ,List.find?,e _ h0,e _ h1,e _ h2,e _ h3,e _ h4,e _ h5,e _ h6,e _ h7,e _ h8]
theorem SX(ht:t<3)(he:e=.ret\/e=.normal)(hl0:c0.jd=QI p V t c l5 lf0 f0)
 (hs:s.lv=Ld p V 7 c'.L av lf (fM (t+1) 0) (fM (t+1) 1) (fM (t+1) 2) f .dead (mB (t+1) c' 0) (mB (t+1) c' 1) (mB (t+1) c' 2) (nB false c'.L)) (hr:fn.results=#[]):I8 c0 fn (.tup []) (wZ p V t c' av lf (nQ t 0) (nQ t 1) (nQ t 2) f) [nB false c'.L,.map false (c'.yN t)] e s κ:=by
 have hl:(wZ p V t c' av lf (nQ t 0) (nQ t 1) (nQ t 2) f).length=4+t:=by simp[wZ];omega
 have hlv:bu (wZ p V t c' av lf (nQ t 0) (nQ t 1) (nQ t 2) f) [nB false c'.L,.map false (c'.yN t)]=au (au (au (au (au (au (au (au (au (λ_=>.hole) 0 (.cells false false 57 (C9 p V 1 2 1000 c'.L.length av.length lf.length (nQ t 0) (nQ t 1) (nQ t 2) f))) 1 (bZ av)) 2 (bZ lf)) 4 (mB t c' 0)) 5 (mB t c' 1)) 6 (mB t c' 2)) 3 .dead) 1000 (nB false c'.L)) 1001 (.map false (c'.yN t)):=by
  refine As (λi hi=>?_) (λi hi=>?_) (by omega) (λk h1 h2=>?_)
  ·match i,hi with
   |0,_=>rfl
   |1,_=>rfl
   |2,_=>rfl
   |3,_=>rfl
   |u+4,hi=>
    have hu:u<t:=by omega
    have e:(wZ p V t c' av lf (nQ t 0) (nQ t 1) (nQ t 2) f)[u+4]=.map false (c'.yN u):=by simp[wZ]
    rw[e];have:u=0\/u=1\/u=2:=by omega
    rcases this with rfl|rfl|rfl
    ·exact if_pos hu
    ·exact if_pos hu
    omega
  ·have:i=0\/i=1:=by have:i<2:=hi;omega
   rcases this with rfl|rfl<;>rfl
  ·rw[hl]at h1;have hk:k≠1000:=λe=>h2 ⟨by omega,by simp[e]⟩
   have hk1:k≠1001:=λe=>h2 ⟨by omega,by simp[e]⟩
   by_cases h4:k=4
   ·subst h4;show mB t c' 0=.hole;exact if_neg (by omega)
   by_cases h5:k=5
   ·subst h5;show mB t c' 1=.hole;exact if_neg (by omega)
   by_cases h6:k=6
   ·subst h6;show mB t c' 2=.hole;exact if_neg (by omega)
   rw[aF _ _ hk1];exact Yi (by omega) (by omega) (by omega) h4 h5 h6 (by omega) hk
 have key:∃(m:List (Key×Key×LB)) (kh:Key),bu (wZ p V t c' av lf (nQ t 0) (nQ t 1) (nQ t 2) f) [nB false c'.L,.map false (c'.yN t)]=bk (λ_=>.hole) (m.map λe=>(e.1,e.2.2))/\(m.map (·.1)).Nodup/\(m.map (·.2.1)).Nodup/\s.lv kh=.hole /\
  (∀k,c0.jd k≠.hole->bu (wZ p V t c' av lf (nQ t 0) (nQ t 1) (nQ t 2) f) [nB false c'.L,.map false (c'.yN t)] k=.dead\/aQ m kh k=k)/\(∀e∈m,(s.lv e.2.1).like e.2.2 (aQ m kh))/\(AV.tup []).bF=true/\eD c0.P s fn.results.toList=some ((AV.tup []).bJ (aQ m kh)):=by
  have hkm:=SL t (.cells false false 57 (C9 p V 1 2 1000 c'.L.length av.length lf.length (nQ t 0) (nQ t 1) (nQ t 2) f)) (bZ av) (bZ lf) (mB t c' 0) (mB t c' 1) (mB t c' 2) .dead (nB false c'.L) (.map false (c'.yN t));refine⟨[(0,0,.cells false false 57 (C9 p V 1 2 1000 c'.L.length av.length lf.length (nQ t 0) (nQ t 1) (nQ t 2) f)),(1,1,bZ av),(2,2,bZ lf),(4,sQ t 0,mB t c' 0),(5,sQ t 1,mB t c' 1),(6,sQ t 2,mB t c' 2),(3,3,.dead),(1000,7,nB false c'.L),(1001,4+t,.map false (c'.yN t))],9,hlv,by simp,?_,by simp_all,?_,?_,rfl,by rw[hr];rfl⟩
  ·obtain rfl|rfl|rfl:t=0\/t=1\/t=2:=by omega
   all_goals simp[sQ]
  ·intro k hk';rw[hkm,hlv];rw[hl0]at hk';rcases ye hk' with rfl|rfl|rfl|rfl|⟨rfl,hq⟩|⟨rfl,hq⟩|⟨rfl,hq⟩
   ·exact .inr rfl
   ·exact .inr rfl
   ·exact .inr rfl
   ·simp
   ·exact .inr (if_pos hq)
   ·exact .inr (if_pos hq)
   omega
  ·rw[hkm,hs];obtain rfl|rfl|rfl:t=0\/t=1\/t=2:=by omega
   ·simp only[afg,aa8,false_implies,implies_true,and_true];exact⟨⟨false,_,rfl,by simp[gB,fM,nQ],id⟩,⟨false,_,rfl,(aX av _).symm,id⟩,⟨false,_,rfl,(aX lf _).symm,id⟩,rfl,rfl,rfl,qJ _,fC c'.L _ id,aR _ _ _ id⟩
   ·simp only[afg,aa8,false_implies,implies_true,and_true];exact⟨⟨false,_,rfl,by simp[gB,fM,nQ,sQ],id⟩,⟨false,_,rfl,(aX av _).symm,id⟩,⟨false,_,rfl,(aX lf _).symm,id⟩,aR _ _ _ id,rfl,rfl,qJ _,fC c'.L _ id,aR _ _ _ id⟩
   ·simp only[afg,aa8,false_implies,implies_true,and_true];exact⟨⟨false,_,rfl,by simp[gB,fM,nQ,sQ],id⟩,⟨false,_,rfl,(aX av _).symm,id⟩,⟨false,_,rfl,(aX lf _).symm,id⟩,aR _ _ _ id,aR _ _ _ id,rfl,qJ _,fC c'.L _ id,aR _ _ _ id⟩
 rcases he with rfl|rfl<;>exact key
theorem RR(a b c:CV):eO prog 40 [0,1,5] [.c a,.c b,.c c]=some (.agg [a,b,.d (.int .i64 0),.d (.int .i64 0),.d (.int .i64 0),c,.d (.str [])],[],[],True):=by kernel_rfl
theorem LN(m:Int)(p:PD)(V:NS)(hp:p.ok)(hni:p.ni<=100)(c:CS)(av lf:List Int)(f:Int×Int×Int)(hc:c.upto 0)(hcs:c.A0=[])(hL:c.L.length<=500):
 aD prog (GG m) 17 [.c (.ptr 0 0),.c (.d (.int .i64 0))] (Ea p V 0 c av lf f) (.ret (.tup []) (wZ p V 0 (qw p c p.ni) av lf (nQ 0 0) (nQ 0 1) (nQ 0 2) (nG f 0 c.L.length)) [nB false (qw p c p.ni).L,.map false ((qw p c p.ni).yN 0)]):=by
 have hbk:=C2 p hc;refine aD.SW func17 rfl (wJ p V 0 (by omega) c av lf f) λ_=>?_;refine AW.Y6 (lv':=Ld p V 3 c.L av lf (.d .nilmap) (.d .nilmap) (.d .nilmap) f (nB false c.L) .hole .hole .hole .hole) rfl ?_;refine acW 10 ?_;have hln:∀lv:Key->LB,lv 3=nB false c.L->dm prog 24 lv (.c (.aE 3 0 c.L.length 7))=some (.c (.d (.int .i64 c.L.length)),[],[3],True):=λlv h=>W4 h (by omega)
 refine aae λK hK=>?_;refine AW.rG ?_;refine mb.run 2 rfl ?_;simp[];refine mb.dF (x:=.c (.mapr 10)) (us:=[(10,.map true [])]) (rds:=[]) 11 rfl rfl ?_ ?_
 ·rfl
 refine mb.run 4 rfl ?_;simp[aj];refine mb.done ?_;apply hK;refine AW.d2 mixed hln @aj.eq_1 ?_;have hli:=λlv=>ME p lv
 rw[sN]at hli;refine aae λK hK=>aar ?_;refine abA (aae λK1 hK1=>abU λK2 hK2=>?_);simp[Of,PD.Es,hli];apply hK2;refine abd ?_
 refine aco (λ(j:Nat)=>⟨aJ [(0,.c (.ptr 0 0)),(34,.c (.d (sD p.ins))),(35,.c (.d (.int .i64 p.ni))),(36,.c (.d (.int .i64 j)))],
  Ld p V 7 (qw p c j).L av lf (.mapr 4) (.d .nilmap) (.d .nilmap) (nG f 0 c.L.length) .dead (.map false ((qw p c j).yN 0)) .hole .hole (nB false (qw p c j).L)⟩) 10
  (λj=>j<=p.ni) (λj=>p.ni-j) 0 (V7 (c:=c) (q:=0) (L:=c.L) 3 10 5 6 _ rfl (λh=>by omega) (λh=>by omega) (λh=>by omega) (by decide) rfl rfl rfl (λh=>gA h) rfl (λg=>by show(LB.map true (iF 0 [])).like (.map false (iF 0 c.A0)) g;rw[hcs];exact aR [] 0 g (λh=>by cases h)) (λg=>rfl) (λg=>rfl) rfl rfl rfl rfl (by simp[gC])) (ac1 _) ?_
 rintro j hj
 try simp only at hj
 have hdn:qw p c (j+1)=((qw p c j).put 0 (m8 p j)).2:=rfl;obtain⟨hd1,hd2⟩:=hbk j;obtain⟨d,hd⟩:∃d,qw p c j=d:=⟨_,rfl⟩
 rw[hd]at hd1 hd2 hdn;simp only[hd];refine aar ?_;refine aae λK2 hK2=>?_
 by_cases hjt:j<p.ni
 ·have hjt':(j:Int)<(p.ni:Int):=by omega
  have hxi:=λlv=>YE hp lv (j:Int) (by omega) (by omega)
  simp only[ac9,sN]at hxi;have hwj:=bE (n:=(j:Int)+1) (by omega) (by omega);have hput:=H9 m p V d av lf (nG f 0 c.L.length) 0 (by omega) (m8 p j) hd1 (by omega) (Ea p V 1 d av lf (nG f 0 c.L.length)) (wZ p V 1 (d.put 0 (m8 p j)).2 av lf (fM 1 0) (fM 1 1) (fM 1 2) (nG f 0 c.L.length)) [nB false (d.put 0 (m8 p j)).2.L] (wJ _ _ _ (by omega) _ _ _ _) (m4 _ _ _ (by omega) _ _ _ _);refine abz (by simp<;>omega) (aaE (hK2 _ _ (aae λK3 hK3=>abd (acv hxi @aj.eq_1 ?_))));refine aaJ ?_;simp[RR];refine ag.cg 40 9 false 0 1 2 7 [4] [30] hput rfl (by simp) (by decide) (by decide) (by decide) rfl rfl rfl rfl rfl (λt h=>?_) (λh=>by cases h) (by simp) rfl (λb hb=>?_) ?_
  ·obtain rfl:t=0:=by grind
   simp
  ·rw[List.mem_singleton.1 hb];exact λh=>gA h
  simp[uA,cq];apply hK3;refine aaJ ?_;simp[hwj];refine⟨j+1,?_,by omega,by omega⟩;rw[hdn];exact V7 (c:=c) (q:=0) (L:=(d.put 0 (m8 p j)).2.L) (f:=nG f 0 c.L.length) (own:=false) (o3:=false) 30 4 5 6 _ rfl (λ_=>rfl) (λ_=>rfl) (λ_=>rfl) (by decide) (by rfl) (by simp;rfl) (by simp;rfl) (λh=>by simp at h) (by simp) (λg=>by simp;exact aR _ _ g id) (λg=>by rfl) (λg=>by rfl) (by simp) rfl rfl rfl (by simp[gC])
 have hje:j=p.ni:=by omega
 subst hje;subst hd;refine abg (abX (hK1 _ _ ?_));exact aaV (SX (κ:=0) (by omega) (.inl rfl) rfl rfl rfl)
theorem Mf(m:Int)(p:PD)(V:NS)(hp:p.ok)(hg:p.good)(c:CS)(av lf:List Int)(f:Int×Int×Int)(t:Nat)(ht:t=1\/t=2)(hc:c.upto t)(hcs:c.sec t=[])(hL:c.L.length<=500)(hlf:lf.length=p.ns):
 aD prog (GG m) 17 [.c (.ptr 0 0),.c (.d (.int .i64 t))] (Ea p V t c av lf f) (.ret (.tup []) (wZ p V t (mX p lf t c lf.length) av lf (nQ t 0) (nQ t 1) (nQ t 2) (nG f t c.L.length)) [nB false (mX p lf t c lf.length).L,.map false ((mX p lf t c lf.length).yN t)]):=by
 obtain⟨-,-,-,-,-,hnn,hns⟩:=fD hg.gen;have hbk:=DK p lf hc;have hln:∀lv:Key->LB,lv 3=nB false c.L->dm prog 24 lv (.c (.aE 3 0 c.L.length 7))=some (.c (.d (.int .i64 c.L.length)),[],[3],True):=λlv h=>W4 h (by omega)
 refine aD.SW func17 rfl (wJ p V t (by omega) c av lf f) λ_=>?_;refine AW.Y6 (lv':=Ld p V 3 c.L av lf (fM t 0) (fM t 1) (fM t 2) f (nB false c.L) (mB t c 0) (mB t c 1) (mB t c 2) .hole) rfl ?_;refine acW 10 ?_;obtain hs0|hs0:=ht
 all_goals
  refine aae λK hK=>?_;refine AW.rG ?_;refine mb.run 2 rfl ?_;simp[];refine mb.dF (x:=.c (.mapr 10)) (us:=[(10,.map true [])]) (rds:=[]) 11 rfl rfl ?_ ?_
  ·rfl
  refine mb.run 4 rfl ?_;simp[aj,hs0,fM,mB];refine mb.done ?_;apply hK;refine AW.d3 mixed hln @aj.eq_1 hs0 ?_;refine aae λK hK=>acf hs0 ?_;refine abg (aaE (hK _ _ (aar ?_)));refine abd ?_
  refine aco (λ(j:Nat)=>⟨aJ [(0,.c (.ptr 0 0)),(1,.c (.d (.int .i64 t))),(51,.c (.aE 2 0 lf.length 1)),(52,.c (.d (.int .i64 lf.length))),(53,.c (.d (.int .i64 j)))],
   Ld p V 7 (mX p lf t c j).L av lf (fM (t+1) 0) (fM (t+1) 1) (fM (t+1) 2) (nG f t c.L.length) .dead (mB (t+1) (mX p lf t c j) 0) (mB (t+1) (mX p lf t c j) 1) (mB (t+1) (mX p lf t c j) 2) (nB false (mX p lf t c j).L)⟩) 10
   (λj=>j<=lf.length) (λj=>lf.length-j) 0 (by
    subst hs0
    first
     |exact V7 (c:=c) (L:=c.L) 3 4 10 6 _ rfl (λ_=>rfl) (λh=>by omega) (λh=>by omega) (by decide) rfl rfl rfl (λh=>gA h) rfl (λg=>aR _ _ g id) (λg=>by show(LB.map true (iF (c.off 1) [])).like (.map false (iF (c.off 1) (c.sec 1))) g;rw[hcs];exact aR [] _ g (λh=>by cases h)) (λg=>rfl) rfl rfl rfl rfl (by simp[gC])
     |exact V7 (c:=c) (L:=c.L) 3 4 5 10 _ rfl (λ_=>rfl) (λ_=>rfl) (λh=>by omega) (by decide) rfl rfl rfl (λh=>gA h) rfl (λg=>aR _ _ g id) (λg=>aR _ _ g id) (λg=>by show(LB.map true (iF (c.off 2) [])).like (.map false (iF (c.off 2) (c.sec 2))) g;rw[hcs];exact aR [] _ g (λh=>by cases h)) rfl rfl rfl rfl (by simp[gC])) (ac1 _) ?_
  rintro j hj
  try simp only at hj
  have hdn:mX p lf t c (j+1)=if 0<=lf.getD j 0 then((mX p lf t c j).put t (lK p j (lf.getD j 0))).2 else mX p lf t c j:=rfl
  obtain⟨hd1,hd2⟩:=hbk j;obtain⟨d,hd⟩:∃d,mX p lf t c j=d:=⟨_,rfl⟩
  rw[hd]at hd1 hd2 hdn;simp only[hd];refine aar ?_;refine aae λK2 hK2=>?_
  by_cases hjt:j<lf.length
  ·have hjt':(j:Int)<(lf.length:Int):=by omega
   have hwj:=bE (n:=(j:Int)+1) (by omega) (by omega);have hld:=dh (P:=prog) (T:=3) (by simp) hjt;have hgd:lf.getD j 0=lf[j]:=by rw[ac2,bp hjt];rfl
   rw[hgd]at hdn;generalize lf[j]=k at*
   obtain⟨s0,s1,-,-⟩:=yB hg (show j<p.ns by omega);have hxs:=λlv=>JP hp lv j (by omega)
   have hxn:=λlv=>V1 hp lv (p.st j).1 s0 s1
   simp only[sN]at hxs hxn;have hput:=H9 m p V d av lf (nG f t c.L.length) t (by omega) (lK p j k) hd1 (by omega) (Ea p V (t+1) d av lf (nG f t c.L.length)) (wZ p V (t+1) (d.put t (lK p j k)).2 av lf (fM (t+1) 0) (fM (t+1) 1) (fM (t+1) 2) (nG f t c.L.length)) [nB false (d.put t (lK p j k)).2.L] (wJ _ _ _ (by omega) _ _ _ _) (m4 _ _ _ (by omega) _ _ _ _);refine abz (by simp<;>omega) (aaE (hK2 _ _ (aae λK3 hK3=>abd (acv hjt' hld ?_))));refine aar ?_
   by_cases hk:0<=k
   ·rw[if_pos hk]at hdn;refine abz (by simp_all) ?_;refine acs mixed (by kernel_rfl) rfl ?_;simp[Of,PD.Es,hxs,hxn,RR];subst hs0
    first
     |refine ag.cg 40 9 false 0 1 2 7 [4,5] [30] hput rfl (by simp) (by decide) (by decide) (by decide) rfl rfl rfl rfl rfl (λu h=>?_) (λh=>by cases h) (by simp) rfl (λb hb=>?_) ?_
     |refine ag.cg 40 9 false 0 1 2 7 [4,5,6] [30] hput rfl (by simp) (by decide) (by decide) (by decide) rfl rfl rfl rfl rfl (λu h=>?_) (λh=>by cases h) (by simp) rfl (λb hb=>?_) ?_
    ·have hu:u=0\/u=1\/u=2:=by simp at h;omega
     rcases hu with rfl|rfl|rfl
     all_goals first|exact⟨false,rfl,λh=>by cases h⟩|(simp at h)
    ·rw[List.mem_singleton.1 hb];exact λh=>gA h
    simp[uA,cq,List.range_succ];refine⟨by kernel_rfl,?_⟩;apply hK3;refine aaJ ?_;simp[hwj];refine⟨j+1,?_,by omega,by omega⟩;rw[hdn];exact V7 (c:=c) (L:=(d.put _ (lK p j k)).2.L) (f:=nG f _ c.L.length) (own:=false) (o3:=false) 30 4 5 6 _ rfl (λ_=>rfl) (λ_=>rfl) (λ_=>rfl) (by decide) (by simp[fM];first|exact⟨rfl,rfl,rfl⟩|exact⟨rfl,rfl⟩) (by simp;rfl) (by simp;rfl) (λh=>by simp at h) (by simp) (λg=>by simp;exact aR _ _ g id) (λg=>by simp;exact aR _ _ g id) (λg=>by simp;first|exact aR _ _ g id|exact rfl) (by simp) rfl rfl rfl (by simp[gC])
   ·rw[if_neg hk]at hdn;refine abD (by simp_all) (aaE (hK3 _ _ (aaJ ?_)));simp[hwj];refine⟨j+1,?_,by omega,by omega⟩;rw[hdn];exact xX (t+1) (c:=c) d 7 _ rfl (by decide) rfl rfl rfl (λh=>by simp at h) rfl (λg=>bV (t+1) d 0 g) (λg=>bV (t+1) d 1 g) (λg=>bV (t+1) d 2 g) rfl (by simp[gC])
  have hje:j=lf.length:=by omega
  subst hje;subst hd;refine abg (abX ?_);simp;exact SX (by omega) (.inr rfl) rfl rfl rfl
def jS(p:PD)(V:NS)(lf:List Int)(fst t:Nat)(c:CS)(av:List Int)(i:Nat):Int×CS:=
 if (p.nd i).op=1 then((p.nd i).a,c)
 else if (p.nd i).op=2 then(if lf.getD (p.nd i).a.toNat 0<0 then(-1,c)else(fst+lf.getD (p.nd i).a.toNat 0,c))
 else if V.1.getD i false=false then(-1,c)
 else(((c.put t ((p.nd i).dw av)).1:Nat),(c.put t ((p.nd i).dw av)).2)
def Uz(f:Int×Int×Int)(t:Nat):Int:=
 match t with
 |0=>f.1
 |1=>f.2.1
 |_=>f.2.2
theorem Ct(h:(fk prog T).map (·.2)=some 1)(lv:Key->LB)(l:List Bool)(hi:i<l.length):ak prog T lv (.c (.d (.sl (bD l)))) (.c (.d (.int .i64 (i:Int))))=some (.c (.d (.ptr [.bool l[i]])),[],[],True):=
 ixB (o:=some l) h lv hi
theorem Ph(m:Int)(p:PD)(hp:p.ok)(hg:p.good)(V:NS)(hV:jn p V)(c:CS)(av lf:List Int)(f:Int×Int×Int)(t:Nat)(ht:t<3)(hc:c.upto t)(hL:c.L.length<=500)(hav:av.length=p.nn)(hlf:lf.length=p.ns)(hlb:∀x∈lf,-1<=x/\x<=100)(fst:Nat)(hfst:Uz f t=fst)(hf1:fst<=1000)(i:Nat)(hi:i<p.nn):
 aD prog (GG m) 18 [.c (.ptr 0 0),.c (.d (.int .i64 t)),.c (.d (.int .i64 i))] (Ea p V (t+1) c av lf f) (.ret (.c (.d (.int .i64 (jS p V lf fst t c av i).1))) (wZ p V (t+1) (jS p V lf fst t c av i).2 av lf (fM (t+1) 0) (fM (t+1) 1) (fM (t+1) 2) f) [nB false (jS p V lf fst t c av i).2.L]):=by
 obtain⟨-,-,-,-,-,hnn,hns⟩:=fD hg.gen;have hV1:V.1.length=p.nn:=hV.1;obtain⟨hop,ha,hkr⟩:=jh hg hi;have hxn:=λlv=>Er p lv hp i hi
 have hil:i<V.1.length:=by omega
 have hxv:=λlv=>Ct (T:=62) (by simp) lv V.1 hil
 have hgd:=zu hil;have hra:=OA m (p.nd i) hop.1 hop.2 av (by omega) (by grind);have hput:=H9 m p V c av lf f t ht ((p.nd i).dw av) hc (by omega) (Ea p V (t+1) c av lf f) (wZ p V (t+1) (c.put t ((p.nd i).dw av)).2 av lf (fM (t+1) 0) (fM (t+1) 1) (fM (t+1) 2) f) [nB false (c.put t ((p.nd i).dw av)).2.L] (wJ p V (t+1) (by omega) c av lf f) (m4 p V (t+1) (by omega) _ av lf f);have hpl:=CS.yC hc ((p.nd i).dw av);obtain⟨R,hR⟩:∃R,jS p V lf fst t c av i=R:=⟨_,rfl⟩
 rw[hR];have hR':=hR;unfold jS at hR';rw[sN]at hxn;refine aD.SW func18 rfl (wJ p V (t+1) (by omega) c av lf f) λ_=>?_;refine AW.Y6 (lv':=Ld p V 3 c.L av lf (fM (t+1) 0) (fM (t+1) 1) (fM (t+1) 2) f (nB false c.L) (mB (t+1) c 0) (mB (t+1) c 1) (mB (t+1) c 2) .hole) rfl ?_;refine acW 10 ?_;refine aar ?_;refine abU λK hK=>?_;simp[Of,PD.Es,hxn,aj];apply hK;refine aae λK hK=>abd (aar ?_)
 by_cases h1:(p.nd i).op=1
 ·rw[if_pos h1]at hR';subst hR';refine abz (by simp_all) (aar ?_);refine acU (κ2:=9) (xX (t+1) c (f:=f) 3 [(6,.c (.d (.int .i64 (p.nd i).a)))] rfl (by decide) rfl rfl rfl (λh=>gA h) rfl (λg=>bV (t+1) c 0 g) (λg=>bV (t+1) c 1 g) (λg=>bV (t+1) c 2 g) rfl (by simp)) ?_;exact aaV (AK (κ:=0) (.inl rfl) rfl rfl (m4 p V (t+1) (by omega) c av lf f) rfl (by rfl))
 ·have h1':((p.nd i).op=1)=False:=eq_false h1;rw[if_neg h1]at hR';refine abD (by simp_all) (aae λK1 hK1=>?_)
  by_cases h2:(p.nd i).op=2
  ·have h2':((p.nd i).op=2)=True:=eq_true h2;rw[if_pos h2]at hR';obtain⟨a0,a1⟩:=ha h2;have a2:(p.nd i).a<(lf.length:Int):=by omega
   have hal:(p.nd i).a.toNat<lf.length:=by omega
   have hld:=dh (P:=prog) (T:=3) (by simp) hal;have hgk:lf.getD (p.nd i).a.toNat 0=lf[(p.nd i).a.toNat]:=by rw[ac2,bp hal];rfl
   have hkb:=hlb _ (aZ hal);rw[hgk]at hR';generalize lf[(p.nd i).a.toNat]=k at*
   refine AW.dl4 mixed h2' a0 a2 hld (hK1 _ _ ?_)
   by_cases hk:k<0
   ·rw[if_pos hk]at hR';subst hR';refine abz (by simp_all) (aar ?_);refine acU (κ2:=9) (xX (t+1) c (f:=f) 3 [(6,.c (.d (.int .i64 (-1))))] rfl (by decide) rfl rfl rfl (λh=>gA h) rfl (λg=>bV (t+1) c 0 g) (λg=>bV (t+1) c 1 g) (λg=>bV (t+1) c 2 g) rfl (by simp)) ?_;exact aaV (AK (κ:=0) (.inl rfl) rfl rfl (m4 p V (t+1) (by omega) c av lf f) rfl (by rfl))
   ·rw[if_neg hk]at hR';subst hR';refine abD (by simp_all) (aar ?_);refine abz (by simp_all) (aae λK1 hK1=>?_);obtain hs0|hs0|hs0:t=0\/t=1\/t=2:=by omega
    all_goals
     have hw:=bE (n:=(fst:Int)+k) (by omega) (by omega);have hfs:=hfst;rw[hs0]at hfs;simp only[Uz]at hfs;refine acs mixed (by kernel_rfl) rfl ?_;simp[a0,a2,hld,hs0,hfs,hw];refine⟨by kernel_rfl,?_⟩;apply hK1;have hso:=m4 p V (t+1) (by omega) c av lf f;subst hs0;refine acU (κ2:=9) (xX _ c (f:=f) 3 [(6,.c (.d (.int .i64 ((fst:Int)+k))))] rfl (by decide) rfl rfl rfl (λh=>gA h) rfl (λg=>by first|exact bV 1 c 0 g|exact bV 2 c 0 g|exact bV 3 c 0 g) (λg=>by first|exact bV 1 c 1 g|exact bV 2 c 1 g|exact bV 3 c 1 g) (λg=>by first|exact bV 1 c 2 g|exact bV 2 c 2 g|exact bV 3 c 2 g) rfl (by simp)) ?_;exact aaV (AK (κ:=0) (.inl rfl) rfl rfl hso rfl (by rfl))
  ·have h2':((p.nd i).op=2)=False:=eq_false h2;rw[if_neg h2]at hR';refine AW.dl1 mixed h2' (hK1 _ _ ?_);refine abg (aar ?_);refine abD (by simp_all) (abU λK1 hK1=>?_);simp[Of,PD.Es,hxv];apply hK1
   cases hb:V.1[i]with
   |false=>
    rw[if_pos (by grind)]at hR';subst hR';refine abz (by rfl) (aar ?_);refine acU (κ2:=9) (xX (t+1) c (f:=f) 3 [(6,.c (.d (.int .i64 (-1))))] rfl (by decide) rfl rfl rfl (λh=>gA h) rfl (λg=>bV (t+1) c 0 g) (λg=>bV (t+1) c 1 g) (λg=>bV (t+1) c 2 g) rfl (by simp)) ?_;exact aaV (AK (κ:=0) (.inl rfl) rfl rfl (m4 p V (t+1) (by omega) c av lf f) rfl (by rfl))
   |true=>
    rw[if_neg (by grind)]at hR';subst hR';refine abD (by rfl) (aaE (hK _ _ (aae λK hK=>?_)));obtain hs0|hs0|hs0:t=0\/t=1\/t=2:=by omega
    all_goals
     subst hs0;refine acs mixed (by kernel_rfl) rfl ?_;simp;refine ag.Tl 30 9 1 (by simpa using hra) (by rfl) (by rfl) rfl rfl (by decide) ?_;simp
     first
      |refine ag.cg 60 9 false 0 1 2 3 [4] [50] hput rfl (by simp) (by decide) (by decide) (by decide) rfl rfl rfl rfl rfl (λu h=>?_) (λh=>by cases h) (by simp) rfl (λb hb=>?_) ?_
      |refine ag.cg 60 9 false 0 1 2 3 [4,5] [50] hput rfl (by simp) (by decide) (by decide) (by decide) rfl rfl rfl rfl rfl (λu h=>?_) (λh=>by cases h) (by simp) rfl (λb hb=>?_) ?_
      |refine ag.cg 60 9 false 0 1 2 3 [4,5,6] [50] hput rfl (by simp) (by decide) (by decide) (by decide) rfl rfl rfl rfl rfl (λu h=>?_) (λh=>by cases h) (by simp) rfl (λb hb=>?_) ?_
     ·have hu:u=0\/u=1\/u=2:=by simp at h;omega
      rcases hu with rfl|rfl|rfl
      all_goals first|exact⟨false,rfl,λh=>by cases h⟩|(simp at h)
     ·rw[List.mem_singleton.1 hb];exact λh=>gA h
     simp[uA,cq,List.range_succ];refine⟨by kernel_rfl,?_⟩;apply hK
     first
      |refine acU (κ2:=9) (xX 1 (c.put 0 ((p.nd i).dw av)).2 (f:=f) (own:=false) (o3:=false) 50 [(6,.c (.d (.int .i64 ((c.put 0 ((p.nd i).dw av)).1:Nat))))] rfl (by decide) rfl rfl rfl (λh=>by simp at h) rfl (λg=>bV 1 _ 0 g) (λg=>bV 1 _ 1 g) (λg=>bV 1 _ 2 g) rfl (by simp)) ?_
      |refine acU (κ2:=9) (xX 2 (c.put 1 ((p.nd i).dw av)).2 (f:=f) (own:=false) (o3:=false) 50 [(6,.c (.d (.int .i64 ((c.put 1 ((p.nd i).dw av)).1:Nat))))] rfl (by decide) rfl rfl rfl (λh=>by simp at h) rfl (λg=>bV 2 _ 0 g) (λg=>bV 2 _ 1 g) (λg=>bV 2 _ 2 g) rfl (by simp)) ?_
      |refine acU (κ2:=9) (xX 3 (c.put 2 ((p.nd i).dw av)).2 (f:=f) (own:=false) (o3:=false) 50 [(6,.c (.d (.int .i64 ((c.put 2 ((p.nd i).dw av)).1:Nat))))] rfl (by decide) rfl rfl rfl (λh=>by simp at h) rfl (λg=>bV 3 _ 0 g) (λg=>bV 3 _ 1 g) (λg=>bV 3 _ 2 g) rfl (by simp)) ?_
     all_goals first
      |exact aaV (AK (κ:=0) (.inl rfl) rfl rfl (m4 p V 1 (by omega) _ av lf f) rfl (by rfl))
      |exact aaV (AK (κ:=0) (.inl rfl) rfl rfl (m4 p V 2 (by omega) _ av lf f) rfl (by rfl))
      |exact aaV (AK (κ:=0) (.inl rfl) rfl rfl (m4 p V 3 (by omega) _ av lf f) rfl (by rfl))
end Go.Am
namespace Go.Am
open N
variable {t:Nat}{c:CS}
def bA:List Bool->Nat->List Int
 |[],_=>[]
 |b::l,k=>if b then(k:Int)::bA l (k+1)else -1::bA l k
theorem ja:∀(l:List Bool) (k:Nat),(bA l k).length=l.length
 |[],_=>rfl
 |true::l,k=>by simp[bA,ja l]
 |false::l,k=>by simp[bA,ja l]
theorem rH:∀(l:List Bool) (b:Bool) (k:Nat),bA (l++[b]) k=bA l k++[if b then((k+l.count true:Nat):Int)else -1]
 |[],true,k=>by rfl
 |[],false,k=>by rfl
 |true::l,b,k=>by
  show(k:Int)::bA (l++[b]) (k+1)=_;rw[rH l b (k+1)];have e:k+1+l.count true=k+(true::l).count true:=by simp;omega
  rw[e];rfl
 |false::l,b,k=>by
  show -1::bA (l++[b]) k=_;rw[rH l b k];rfl
theorem qP:∀(l:List Bool) (k:Nat),∀x∈bA l k,-1<=x/\x<=k+l.length
 |[],_,x,h=>by cases h
 |true::l,k,x,h=>by
  rcases List.mem_cons.1 h with rfl|h
  ·simp;omega
  ·have:=qP l (k+1) x h;grind
 |false::l,k,x,h=>by
  rcases List.mem_cons.1 h with rfl|h
  ·simp;omega
  ·have:=qP l k x h;grind
def fH(p:PD)(V:NS)(lf:List Int)(fst t:Nat)(s:CS×List Int)(i:Nat):Nat->CS×List Int
 |0=>s
 |k+1=>((jS p V lf fst t (fH p V lf fst t s i k).1 (fH p V lf fst t s i k).2 (i+k)).2,(fH p V lf fst t s i k).2.set (i+k) (jS p V lf fst t (fH p V lf fst t s i k).1 (fH p V lf fst t s i k).2 (i+k)).1)
def bB(p:PD):Nat->Nat
 |0=>0
 |1=>p.head.toNat
 |2=>p.tail.toNat
 |_=>p.nn
def bn(p:PD)(V:NS)(lf:List Int):Nat->CS×List Int
 |0=>(⟨[],[],[]⟩,List.replicate p.nn 0)
 |t+1=>fH p V lf (bn p V lf t).1.L.length t (eN p lf t (bn p V lf t).1,(bn p V lf t).2) (bB p t) (bB p (t+1)-bB p t)
def Jq(p:PD)(V:NS)(lf:List Int):Nat->Int×Int×Int
 |0=>(0,0,0)
 |t+1=>nG (Jq p V lf t) t (bn p V lf t).1.L.length
def nT(p:PD)(av lf:List Int):Nat->List (Int×Int)
 |0=>[]
 |j+1=>if 0<=lf.getD j 0 then nT p av lf j++[(av.getD (p.st j).1.toNat 0,av.getD (p.st j).2.toNat 0)]else nT p av lf j
def kC(p:PD)(V:NS):PD:=
 let lf:=bA V.2 0
 let s:=bn p V lf 3
 let m:=V.2.count true
 ⟨p.f,p.mode,p.ins,(if s.1.L=[]then none else some (s.1.L.map Nd.e)),(if m=0 then s.1.L.length else(bn p V lf 1).1.L.length),(if m=0 then s.1.L.length else(bn p V lf 2).1.L.length),(if nT p s.2 lf lf.length=[]then none else some ((nT p s.2 lf lf.length).map zw)),s.2.getD p.res.toNat 0⟩
theorem J0(p:PD)(V:NS)(lf:List Int)(fst:Nat)(av:List Int)(i:Nat)(hc:c.upto t):(jS p V lf fst t c av i).2.upto t/\c.L.length<=(jS p V lf fst t c av i).2.L.length/\(jS p V lf fst t c av i).2.L.length<=c.L.length+1:=by
 have h:=CS.yC hc ((p.nd i).dw av);have h2:=CS.zo hc ((p.nd i).dw av);unfold jS
 grind
theorem EF(p:PD)(V:NS)(lf:List Int)(fst:Nat){t:Nat}{s:CS×List Int}(i:Nat)(hc:s.1.upto t):∀k,(fH p V lf fst t s i k).1.upto t/\s.1.L.length<=(fH p V lf fst t s i k).1.L.length/\(fH p V lf fst t s i k).1.L.length<=s.1.L.length+k/\(fH p V lf fst t s i k).2.length=s.2.length
 |0=>⟨hc,aU _,aU _,rfl⟩
 |k+1=>by
  obtain⟨h1,h2,h3,h4⟩:=EF p V lf fst i hc k;obtain⟨g1,g2,g3⟩:=J0 p V lf fst (fH p V lf fst t s i k).2 (i+k) h1;refine⟨g1,ab8 h2 g2,?_,by show(List.set _ _ _).length=_;grind⟩;show(jS p V lf fst t (fH p V lf fst t s i k).1 (fH p V lf fst t s i k).2 (i+k)).2.L.length<=_;omega
def CS.emp(c:CS)(t:Nat):Prop:=(t<=0->c.A0=[])/\(t<=1->c.A1=[])/\(t<=2->c.A2=[])
theorem CS.kq(h:c.emp t):c.upto t:=⟨λe=>h.2.1 (by omega),λe=>h.2.2 (by omega)⟩
theorem CS.pI(h:c.upto t):c.emp (t+1):=⟨λe=>by omega,λe=>h.1 (by omega),λe=>h.2 (by omega)⟩
theorem CS.Ds(ht:t<3)(h:c.emp t):c.sec t=[]:=by
 obtain rfl|rfl|rfl:t=0\/t=1\/t=2:=by omega
 ·exact h.1 (by omega)
 ·exact h.2.1 (by omega)
 ·exact h.2.2 (by omega)
theorem yG(p:PD)(lf:List Int)(h:c.upto t):(eN p lf t c).upto t/\(eN p lf t c).L.length<=c.L.length+(p.ni+lf.length):=by
 unfold eN;split
 ·rename_i e;subst e
  have:=C2 p h p.ni
  grind
 ·have:=DK p lf h lf.length
  grind
theorem CW(p:PD)(hn:p.nn<=64)(hh:p.head.toNat<=p.tail.toNat)(ht:p.tail.toNat<=p.nn)(hi:p.ni<=6)(V:NS)(lf:List Int)(hl:lf.length<=4):∀t,t<=3->(bn p V lf t).1.emp t/\(bn p V lf t).1.L.length<=10*t+bB p t/\(bn p V lf t).2.length=p.nn
 |0,_=>⟨⟨λ_=>rfl,λ_=>rfl,λ_=>rfl⟩,by simp[bn,CS.L],by simp[bn]⟩
 |t+1,h=>by
  obtain⟨h1,h2,h3⟩:=CW p hn hh ht hi V lf hl t (by omega);obtain⟨g1,g2⟩:=yG p lf (CS.kq h1);obtain⟨f1,f2,f3,f4⟩:=EF p V lf (bn p V lf t).1.L.length (s:=(eN p lf t (bn p V lf t).1,(bn p V lf t).2)) (bB p t) g1 (bB p (t+1)-bB p t)
  have hb:bB p t<=bB p (t+1):=by
   obtain rfl|rfl|rfl:t=0\/t=1\/t=2:=by omega
   ·exact ac1 _
   ·exact hh
   ·exact ht
  refine⟨CS.pI f1,?_,f4.trans h3⟩;show(fH p V lf _ t _ _ _).1.L.length<=_
  grind
end Go.Am
namespace Go.Am
open Go.Am.Ty Go.Proofs N
variable {lv:Key->LB}{own fz:Bool}{p:PD}{t u v off κ:Nat}{T U:TypeId}{k:Key}{c:Ctx}{fn:Func}{x X y z:AV}{cs:List CV}{s:az}{av:List Int}{L:List Nd}{n:Nd}
theorem iR.EN{k:Nat}{ks:List Key}(hr:fn.results=#[.cell t T,.tmp u,.tmp v])(ht:s.fr t=.c (.ptr k off))(hk:s.lv k=.cells own fz U cs)
 (hx:fq c.P T (cs.drop off)=some X) (hy:s.fr u=y) (hz:s.fr v=z) (hn:X.cD=true) (hm:y.cD=true) (hw:z.cD=true) (hd:eJ s.lv (.tup [X,y,z])=some (x,ks)):iR c fn x .ret s κ:=
 ⟨.tup [X,y,z],ks,by rw[hr];simp[eD,l8,pE,ht,hk,hx,hy,hz,hn,hm,hw],hd⟩
theorem iR.Ns{k:Nat}(hr:fn.results=#[.cell t T,.tmp u,.tmp v])(ht:s.fr t=.c (.ptr k off))(hk:s.lv k=.cells own fz U cs)
 (hx:fq c.P T (cs.drop off)=some X) (hy:s.fr u=y) (hz:s.fr v=z) (hn:X.cD=true) (hm:y.cD=true) (hw:z.cD=true) (hd:∃ks,eJ s.lv (.tup [X,y,z])=some (x,ks)):iR c fn x .ret s κ:=
 hd.elim λ_ hd=>iR.EN hr ht hk hx hy hz hn hm hw hd
theorem Xu(lv:Key->LB)(p:PD)(n:Int):eJ lv (.tup [p.A,.c (.d .nilsl),.c (.d (.int .i64 n))])=some (.tup [p.A,.c (.d .nilsl),.c (.d (.int .i64 n))],[]):=by
 have h:=QV lv p n;simp only[eJ,ado]at h⊢;obtain⟨⟨l,ks⟩,h1,h2⟩:=h;simp only[jj]at h1 ⊢
 cases e:fu lv p.A with
 |none=>grind
 |some q=>
  obtain⟨y,ks'⟩:=q;rw[e]at h1;have e2:∀x:DV,fu lv (.c (.d x))=some (.c (.d x),[]):=λx=>rfl
  grind
theorem LP(m:Int)(p:PD)(hp:p.ok)(h0:(gj p).2.2≠0):aa prog (GG m) 6 [p.A] (.tup [nL.A,.c (.d .nilsl),.c (.d (.int .i64 (gj p).2.2))]):=by
 have h:=E5 m p hp;generalize (gj p).2.2=e at*
 refine aa.ed func6 rfl λ_=>aar ?_;refine aae λK hK=>acX 2 h h0 ?_;refine aar ?_;refine abz (by simp_all) (acv @ZQ @aj.eq_1 ?_);refine aaV (iR.EN (κ:=0) (k:=1) (off:=0) (own:=true) (fz:=false) (T:=27) (U:=27) (cs:=nL.cs) (X:=nL.A) (y:=.c (.d .nilsl)) (z:=.c (.d (.int .i64 e))) (ks:=[]) rfl (by simp) (by simp) (by rfl) (by simp) (by simp) (by simp) rfl rfl ?_);rfl
def UZ(p:PD)(V:NS)(lf:List Int)(m:Nat):PD:=
 ⟨p.f,p.mode,p.ins,(if (bn p V lf 3).1.L=[]then none else some ((bn p V lf 3).1.L.map Nd.e)),(if m=0 then(bn p V lf 3).1.L.length else(bn p V lf 1).1.L.length),(if m=0 then(bn p V lf 3).1.L.length else(bn p V lf 2).1.L.length),(if nT p (bn p V lf 3).2 lf lf.length=[]then none else some ((nT p (bn p V lf 3).2 lf lf.length).map zw)),(bn p V lf 3).2.getD p.res.toNat 0⟩
def Rr(p:PD)(V:NS):AV:=
 if 64<(bn p V (bA V.2 0) 3).1.L.length then .tup [nL.A,.c (.d .nilsl),.c (.d (.int .i64 3))]
 else .tup [(kC p V).A,.c (zC (some (bn p V (bA V.2 0) 3).2)),.c (.d (.int .i64 0))]
abbrev QL(p:PD)(z:LB)(av lf:List Int)(mk:List CV)(b5 b6 b7 b8 b9 b10 b11:LB):Key->LB:=
 au (au (au (au (au (au (au (au (au (au (au (au (λ_=>.hole) 0 (.cells true false 27 p.cs)) 1 z) 2 (.cells true false 3 (zK av))) 3 (.cells true false 3 (zK lf))) 4 (.cells true false 57 mk)) 5 b5) 6 b6) 7 b7) 8 b8) 9 b9) 10 b10) 11 b11
def gK(k5 k6 k7 k8 k9 k10 k11:Key):Key->Key:=λk=>if k=0 then 0 else if k=1 then 1 else if k=2 then 2 else if k=3 then 3 else if k=4 then 4 else if k=5 then k5 else if k=6 then k6 else if k=7 then k7 else if k=8 then k8 else if k=9 then k9 else if k=10 then k10 else if k=11 then k11 else 19
theorem SR(k5 k6 k7 k8 k9 k10 k11:Key)(a b d e f g h i j l n o:LB):aQ [(0,0,a),(1,1,b),(2,2,d),(3,3,e),(4,4,f),(5,k5,g),(6,k6,h),(7,k7,i),(8,k8,j),(9,k9,l),(10,k10,n),(11,k11,o)] 19=gK k5 k6 k7 k8 k9 k10 k11:=by
 funext k;unfold gK;have e:∀j:Key,k≠j->(j==k)=false:=λj hj=>by grind
 by_cases h0:k=0
 ·subst h0;rfl
 by_cases h1:k=1
 ·subst h1;rfl
 by_cases h2:k=2
 ·subst h2;rfl
 by_cases h3:k=3
 ·subst h3;rfl
 by_cases h4:k=4
 ·subst h4;rfl
 by_cases h5:k=5
 ·subst h5;rfl
 by_cases h6:k=6
 ·subst h6;rfl
 by_cases h7:k=7
 ·subst h7;rfl
 by_cases h8:k=8
 ·subst h8;rfl
 by_cases h9:k=9
 ·subst h9;rfl
 by_cases hA:k=10
 ·subst hA;rfl
 by_cases hB:k=11
 ·subst hB;rfl
 rw[if_neg h0,if_neg h1,if_neg h2,if_neg h3,if_neg h4,if_neg h5,if_neg h6,if_neg h7,if_neg h8,if_neg h9,if_neg hA,if_neg hB];simp[aQ,List.find?,e _ h0,e _ h1,e _ h2,e _ h3,e _ h4,e _ h5,e _ h6,e _ h7,e _ h8,e _ h9,e _ hA,e _ hB]
theorem KZ{c0:Ctx}{fr:Nat->AV}{z:LB}{lf:List Int}{mk mk':List CV}{b5 b6 b7 b8 b9 b10 b11:LB}(k5 k6 k7 k8 k9 k10 k11:Key)(l:List (Nat×AV))(hc:c0.jd=λ_=>.hole)(hk:([0,1,2,3,4,k5,k6,k7,k8,k9,k10,k11]:List Key).Nodup)
 (h0:lv 0=.cells true false 27 p.cs) (h1:lv 1=z) (hz:∀g,z.like z g) (h2:lv 2=.cells true false 3 (zK av)) (h3:lv 3=.cells true false 3 (zK lf)) (h4:lv 4=.cells true false 57 mk') (hm:mk'=mk.map (CV.bJ (gK k5 k6 k7 k8 k9 k10 k11)))
 (h5:∀g,(lv k5).like b5 g) (h6:∀g,(lv k6).like b6 g) (h7:∀g,(lv k7).like b7 g) (h8:∀g,(lv k8).like b8 g) (h9:∀g,(lv k9).like b9 g) (hA:∀g,(lv k10).like b10 g) (hB:∀g,(lv k11).like b11 g) (hh:lv 19=.hole)
 (hl:∀x∈l,x.2.bF=true/\fr x.1=x.2.bJ (gK k5 k6 k7 k8 k9 k10 k11)):Le c0 ⟨fr,lv⟩ ⟨aJ l,QL p z av lf mk b5 b6 b7 b8 b9 b10 b11⟩:=by
 have hkm:=SR k5 k6 k7 k8 k9 k10 k11 (.cells true false 27 p.cs) z (.cells true false 3 (zK av)) (.cells true false 3 (zK lf)) (.cells true false 57 mk) b5 b6 b7 b8 b9 b10 b11;refine Le.keys [(0,0,.cells true false 27 p.cs),(1,1,z),(2,2,.cells true false 3 (zK av)),(3,3,.cells true false 3 (zK lf)),(4,4,.cells true false 57 mk),(5,k5,b5),(6,k6,b6),(7,k7,b7),(8,k8,b8),(9,k9,b9),(10,k10,b10),(11,k11,b11)] 19 l rfl hc (by simp) hk hh ?_ (by grind);rw[hkm];simp only[afg,aa8,false_implies,implies_true,and_true];refine⟨?_,?_,?_,?_,?_,h5 _,h6 _,h7 _,h8 _,h9 _,hA _,hB _⟩
 ·simp_all
 ·grind
 ·rw[h2];exact⟨true,_,rfl,(aX av _).symm,id⟩
 ·rw[h3];exact⟨true,_,rfl,(aX lf _).symm,id⟩
 simp_all
theorem dj(own:Bool)(T:TypeId)(l:List DV)(g:Key->Key):(LB.cells own false T (l.map CV.d)).like (.cells own false T (l.map CV.d)) g:=⟨own,_,rfl,by simp,id⟩
theorem NO(m:Int)(p:PD)(V:NS)(hp:p.ok)(hg:p.good)(c:CS)(av lf:List Int)(f:Int×Int×Int)(t:Nat)(ht:t<3)(hc:c.upto t)(hcs:c.sec t=[])(hL:c.L.length<=500)(hlf:lf.length=p.ns):
 aD prog (GG m) 17 [.c (.ptr 0 0),.c (.d (.int .i64 t))] (Ea p V t c av lf f) (.ret (.tup []) (wZ p V t (eN p lf t c) av lf (nQ t 0) (nQ t 1) (nQ t 2) (nG f t c.L.length)) [nB false (eN p lf t c).L,.map false ((eN p lf t c).yN t)]):=by
 by_cases h0:t=0
 ·subst h0;exact LN m p V hp (by have:=(fD hg.gen).2.2.2.2.1;omega) c av lf f hc hcs hL
 ·have e:eN p lf t c=mX p lf t c lf.length:=if_neg h0;rw[e];exact Mf m p V hp hg c av lf f t (by omega) hc hcs hL hlf
def mK(t u:Nat):CV:=if u<t then .mapr (8+u)else .d .nilmap
def EL(t:Nat)(c:CS)(u:Nat):LB:=if u<t then .map true (c.yN u)else .hole
def j5(p:PD)(V:NS)(lf:List Int)(t u:Nat):Int:=if u<t then(bn p V lf (u+1)).1.L.length else 0
abbrev Uo(p:PD):List CV:=[.d (.int .i64 0),.d (.int .i64 p.head),.d (.int .i64 p.tail),.d (.int .i64 p.nn)]
abbrev Fq(p:PD)(V:NS)(lf:List Int)(t:Nat):List CV:=[.d (.int .i64 (j5 p V lf t 0)),.d (.int .i64 (j5 p V lf t 1)),.d (.int .i64 (j5 p V lf t 2))]
theorem eE(t:Nat)(c:CS)(u:Nat)(g:Key->Key):(EL t c u).like (EL t c u) g:=by
 unfold EL;split
 ·exact aR _ _ g id
 ·rfl
def BC(p:PD):Nat->Int
 |0=>0
 |1=>p.head
 |2=>p.tail
 |_=>p.nn
theorem KU(f:Int×Int×Int)(ht:t<3)(v:Int):Uz (nG f t v) t=v:=by
 obtain rfl|rfl|rfl:t=0\/t=1\/t=2:=by omega
 all_goals rfl
abbrev mkF(p:PD)(V:NS)(n a l:Nat)(f:Int×Int×Int)(hd tl:Int)(st:CV)(r:Int):List CV:=
 [.d (.ptr (Of p V)),eG p.f,.d (.int .i64 p.mode),eG p.ins,.aE 7 0 n 7,.d (.int .i64 hd),.d (.int .i64 tl),st,.d (.int .i64 r),.aE 2 0 a 1,.aE 3 0 l 1,.mapr 8,.mapr 9,.mapr 10,.d (.int .i64 f.1),.d (.int .i64 f.2.1),.d (.int .i64 f.2.2)]
def Bb(l:List (Int×Int)):List CV:=(l.flatMap zw).map CV.d
def sB(l:List (Int×Int)):LB:=if l=[]then .bO else .cells true false 44 (Bb l)
theorem Kw(l:List (Int×Int)):(Bb l).length=l.length*2:=by
 unfold Bb
 induction l with
 |nil=>rfl
 |cons x l ih=>rw[ac5]at ih⊢;rw[afC,ac8,ih,adN];simp;omega
theorem KM(l m:List (Int×Int)):Bb (l++m)=Bb l++Bb m:=by unfold Bb;simp
theorem DC(l:List (Int×Int))(g:Key->Key):(Bb l).map (CV.bJ g)=Bb l:=by unfold Bb;simp
theorem Kx(l:List (Int×Int))(g:Key->Key):(sB l).like (sB l) g:=by
 unfold sB;split
 ·rfl
 ·exact⟨true,_,rfl,(DC l g).symm,id⟩
theorem YS(a b:CV):eO prog 44 [0,1] [.c a,.c b]=some (.agg [a,b],[],[],True):=by kernel_rfl
theorem VB(lv:Key->LB)(κ:Key)(h:lv κ=.hole)(a b:CV):ai prog 25 1 [0] lv κ [.agg [a,b]]=some (.c (.aE κ 0 1 2),[(κ,.cells true false 44 [a,b])],[],True):=by
 unfold ai;rw[h];rfl
theorem Gf(p:PD)(av lf:List Int):∀j,(nT p av lf j).length<=j
 |0=>aU _
 |j+1=>by
  have:=Gf p av lf j;unfold nT;grind
theorem qS{es:List (List DV)}{sz:Nat}(h:lv k=.cells own fz T (es.flatten.map CV.d))(hs:∀e∈es,e.length=sz)(hl:es.length<=9223372036854775807):cP lv 8 (.aE k 0 es.length sz)=some (.sl es,[k]):=by
 have e1:=qR h hs hl;simp only[eJ,fu,ado]at e1
 grind
theorem R3(h:lv k=nB own L)(hL:L.length<=1000):∃ks,cP lv 8 (.aE k 0 L.length 7)=some (sD (if L=[]then none else some (L.map Nd.e)),ks):=by
 by_cases h0:L=[]
 ·have hB:lv k=.bO:=h.trans (if_pos h0);rw[if_pos h0];exact⟨[],by simp only[cP,hB];rfl⟩
 ·have hB:lv k=.cells own false 40 (iQ L):=h.trans (if_neg h0);rw[if_neg h0];have e:=qS (lv:=lv) (k:=k) (own:=own) (fz:=false) (T:=40) (es:=L.map Nd.e) (sz:=7) (by rw[AE];exact hB) (λe he=>by obtain⟨n,_,rfl⟩:=List.mem_map.1 he;rfl) (by grind);rw[ac5]at e;exact⟨_,e⟩
theorem Rk{L:List (Int×Int)}(h:lv k=sB L)(hL:L.length<=1000):∃ks,cP lv 8 (.aE k 0 L.length 2)=some (sD (if L=[]then none else some (L.map zw)),ks):=by
 by_cases h0:L=[]
 ·have hB:lv k=.bO:=h.trans (if_pos h0);rw[if_pos h0];exact⟨[],by simp only[cP,hB];rfl⟩
 ·have hB:lv k=.cells true false 44 (Bb L):=h.trans (if_neg h0);rw[if_neg h0];have e:=qS (lv:=lv) (k:=k) (own:=true) (fz:=false) (T:=44) (es:=L.map zw) (sz:=2) (by rw[<-List.flatMap_def];exact hB) (λe he=>by obtain⟨n,_,rfl⟩:=List.mem_map.1 he;rfl) (by grind);rw[ac5]at e;exact⟨_,e⟩
theorem J8(l:List Int):(zD l).flatten.map CV.d=zK l:=by
 induction l with
 |nil=>rfl
 |cons x l ih=>unfold zD zK at*;grind
theorem Pp(p:PD){S:List (Int×Int)}{k1 k2 k3:Key}{o1 f3 o3:Bool}{T3:TypeId}(hd tl r n:Int)(h7:lv k1=nB o1 L)(h11:lv k2=sB S)(h2:lv k3=.cells o3 f3 T3 (zK av))(hL:L.length<=1000)(hS:S.length<=1000)(hA:av.length<=1000):
 ∃ks,eJ lv (.tup [.agg [eG p.f,.d (.int .i64 p.mode),eG p.ins,.aE k1 0 L.length 7,.d (.int .i64 hd),.d (.int .i64 tl),.aE k2 0 S.length 2,.d (.int .i64 r)],.c (.aE k3 0 av.length 1),.c (.d (.int .i64 n))]) =
  some (.tup [(⟨p.f,p.mode,p.ins,(if L=[]then none else some (L.map Nd.e)),hd,tl,(if S=[]then none else some (S.map zw)),r⟩:PD).A,.c (zC (some av)),.c (.d (.int .i64 n))],ks):=by
 obtain⟨ks1,e1⟩:=R3 h7 hL;obtain⟨ks2,e2⟩:=Rk h11 hS;have e3:=qS (lv:=lv) (k:=k3) (own:=o3) (fz:=f3) (T:=T3) (es:=zD av) (sz:=1) (by rw[h2,J8]) (λe he=>by unfold zD at he;grind) (by unfold zD;grind);rw[show(zD av).length=av.length from by unfold zD;simp]at e3;have f1:∀x:DV,cP lv 8 (.d x)=some (x,[]):=λx=>rfl
 refine⟨ks1++ks2++[k3],?_⟩;simp only[eJ,jj,fu,sN,fO,f1,e1,e2,e3,adm,adv,adM,ac4,adP,PD.A,PD.cs,adq];rfl
theorem U7(lv:Key->LB)(l:List Bool):dm prog 62 lv (.c (.d (.sl (bD l))))=some (.c (.d (.int .i64 l.length)),[],[],True):=lpB (T:=62) (by simp) lv (some l)
abbrev Uq(p:PD)(V:NS):List CV:=[.d (.ptr (Of p V)),eG p.f,.d (.int .i64 p.mode),eG p.ins,.d .nilsl,.d (.int .i64 0),.d (.int .i64 0),.d .nilsl,.d (.int .i64 0),.aE 2 0 p.nn 1,.aE 3 0 p.ns 1,.d .nilmap,.d .nilmap,.d .nilmap,.d (.int .i64 0),.d (.int .i64 0),.d (.int .i64 0)]
theorem b78(a b d:CV):eO prog 57 [0,2,3] [.c a,.c b,.c d]=some (.agg [a,.d .nilsl,.d (.int .i64 0),.d .nilsl,.d .nilsl,.d (.int .i64 0),.d (.int .i64 0),.d .nilsl,.d (.int .i64 0),b,d,.d .nilmap,.d .nilmap,.d .nilmap,.d (.int .i64 0),.d (.int .i64 0),.d (.int .i64 0)],[],[],True):=by kernel_rfl
theorem aaG(a b d:CV):eO prog 27 [0,1,2] [.c a,.c b,.c d]=some (.agg [a,b,d,.d .nilsl,.d (.int .i64 0),.d (.int .i64 0),.d .nilsl,.d (.int .i64 0)],[],[],True):=by kernel_rfl
theorem OB(m:Int)(p:PD)(hp:p.ok)(h0:(gj p).2.2=0):aa prog (GG m) 6 [p.A] (Rr p (cF p)):=by
 have hg:=u7 hp h0;have h:=E5 m p hp;rw[h0]at h;obtain⟨hn1,hn2,hn3,-,hni,hnn,hns⟩:=fD hg.gen;obtain⟨hr0,hr1,-⟩:=hg.res;have hn:=Ia m p hp hg;have Qs:=(vo (ry hg)).len;obtain⟨V,hV⟩:∃V,cF p=V:=⟨_,rfl⟩
 rw[hV]at hn Qs;rw[hV];have hc1:=Ih (GG m) p.f (λe he=>oo (hp.f e he)) (by have:=fD hg.gen;unfold PD.nf at this;omega);have hc2:=Jg (GG m) p.ins (λe he=>vq (hp.ins e he)) (by unfold PD.ni at hni;omega);refine aa.ed func6 rfl λ_=>aar ?_;refine aae λK hK=>acF 2 h ?_;refine aar ?_;refine abg (aaE (hK _ _ (aae λK hK=>?_)));refine acs mixed (by kernel_rfl) rfl ?_;simp;refine ag.p 2 9 hn ?_;simp[nR,Eb,b78,lp]
 repeat refine aL ?_
 refine⟨by kernel_rfl,?_⟩;apply hK;refine aae λK hK=>?_;refine acs mixed (by kernel_rfl) rfl ?_;simp;refine ag.p 5 9 hc1 ?_;simp;refine ag.p 5 9 hc2 ?_;simp[aaG,aj];refine⟨by kernel_rfl,?_⟩;apply hK;refine aar ?_;have hV2:V.2.length=p.ns:=Qs.2;have hlB:=λlv=>U7 lv V.2
 refine aae λK hK=>abU λK1 hK1=>?_;simp[Of,PD.Es,hlB];apply hK1;refine abd ?_;have hz:∀g,(LB.cells true false 27 nL.cs).like (.cells true false 27 nL.cs) g:=λg=>P7 27 nL g
 refine aco (λ(j:Nat)=>⟨aJ [(1,.c (.ptr 0 0)),(2,.c (.ptr 1 0)),(6,.c (.ptr 4 0)),(7,.c (.d (.int .i64 ((V.2.take j).count true:Nat)))),(52,.c (.d (.sl (bD V.2)))),(53,.c (.d (.int .i64 p.ns))),(54,.c (.d (.int .i64 j)))],
  QL p (.cells true false 27 nL.cs) (List.replicate p.nn 0) (bA (V.2.take j) 0++List.replicate (p.ns-j) 0) (Uq p V) .hole .hole .hole .hole .hole .hole .hole⟩) 20
  (λj=>j<=p.ns) (λj=>p.ns-j) 0 (KZ 5 6 7 8 9 10 11 _ rfl (by decide) (by simp) rfl hz (by simp[DX]) (by simp[DX,bA]) (mk':=Uq p V) rfl (by simp[Uq,gK]) (λg=>rfl) (λg=>rfl) (λg=>rfl) (λg=>rfl) (λg=>rfl) (λg=>rfl) (λg=>rfl) rfl (by simp[gK,hV2])) (ac1 _) ?_
 rintro j hj
 try simp only at hj
 have hAl:(bA (V.2.take j) 0).length=j:=by rw[ja,ac7];omega
 have hcl:(V.2.take j).count true<=j:=ab8 aej (by simp_all);refine aar ?_;refine aae λK2 hK2=>?_
 by_cases hjt:j<p.ns
 ·have hjt':(j:Int)<(p.ns:Int):=by omega
  have hjV:j<V.2.length:=by omega
  have hwj:=bE (n:=(j:Int)+1) (by omega) (by omega);have hxv:=λlv=>Ct (T:=62) (by simp) lv V.2 hjV
  have htk:V.2.take (j+1)=V.2.take j++[V.2[j]]:=by rw[aew,bp hjV];rfl
  have hlf1:=rH (V.2.take j) V.2[j] 0;rw[<-htk]at hlf1;have hct:(V.2.take (j+1)).count true=(V.2.take j).count true+if V.2[j]=true then 1 else 0:=by rw[htk,List.count_append];cases V.2[j]<;>rfl
  obtain⟨b,hb⟩:∃b,V.2[j]=b:=⟨_,rfl⟩
  simp only[hb]at hxv hlf1 hct;obtain⟨A,hA⟩:∃A,bA (V.2.take j) 0=A:=⟨_,rfl⟩
  rw[hA]at hAl hlf1;simp only[hA];obtain⟨q,hq⟩:∃q,p.ns-j=q+1:=⟨p.ns-j-1,by omega⟩
  have hq2:p.ns-(j+1)=q:=by omega
  have hset:∀x y:Int,(A++x::List.replicate q 0).set j y=A++y::List.replicate q 0:=λx y=>by
   simp_all
  have hlen:∀x:Int,(A++x::List.replicate q 0).length=p.ns:=λx=>by simp;omega
  have hz1:∀x y:Int,aj (zK (A++x::List.replicate q 0)) j [CV.d (.int .i64 y)]=zK (A++y::List.replicate q 0):=λx y=>by rw[Ap _ _ _ (by rw[hlen];omega),hset]
  have hle:∀x:Int,j+1<=(zK (A++x::List.replicate q 0)).length:=λx=>by rw[IY,hlen];omega
  rw[hq,afi];refine abz (by simp<;>omega) (aaE (hK2 _ _ (aae λK3 hK3=>abd (acf hxv ?_))));refine acv hjt' hz1 ?_;refine aar ?_;have hw1:=bE (n:=((V.2.take j).count true:Int)+1) (by omega) (by omega)
  have hfin:∀(fr:Nat->AV) (lv:Key->LB) (l':List (Nat×AV)) (x:Int),lv=au (QL p (.cells true false 27 nL.cs) (List.replicate p.nn 0) (A++0::List.replicate q 0) (Uq p V) .hole .hole .hole .hole .hole .hole .hole) 3 (.cells true false 3 (zK (A++x::List.replicate q 0))) ->
   bA (V.2.take (j+1)) 0=A++[x]->(∀z∈l',z.2.bF=true/\fr z.1=z.2.bJ (gK 5 6 7 8 9 10 11))->∀(c0:Ctx),(c0.jd=λ_=>.hole)->Le c0 ⟨fr,lv⟩ ⟨aJ l',QL p (.cells true false 27 nL.cs) (List.replicate p.nn 0) (bA (V.2.take (j+1)) 0++List.replicate (p.ns-(j+1)) 0) (Uq p V) .hole .hole .hole .hole .hole .hole .hole⟩:=by
   intro fr lv l' x hlv hx hl' c0 hc0;subst hlv;rw[hx,hq2,adq];exact KZ (mk':=Uq p V) 5 6 7 8 9 10 11 _ hc0 (by decide) rfl rfl hz rfl rfl rfl (by simp[Uq,gK]) (λg=>rfl) (λg=>rfl) (λg=>rfl) (λg=>rfl) (λg=>rfl) (λg=>rfl) (λg=>rfl) rfl hl'
  cases b with
  |true=>
   refine abA (acv hjt' hz1 ?_);refine acC hw1 (hK3 _ _ ?_);refine aaJ ?_;simp[hwj];refine⟨j+1,hfin _ _ _ ((V.2.take j).count true:Nat) ?_ (by simp_all) (by simp[gK,hct]) _ rfl,by omega,by omega⟩;rfl
  |false=>
   refine abg (aaE (hK3 _ _ (aaJ ?_)));simp[hwj];refine⟨j+1,hfin _ _ _ (-1) (by rfl) (by simp_all) (by simp[gK,hct]) _ rfl,by omega,by omega⟩
 have hje:j=p.ns:=by omega
 subst hje;refine abg (abX (hK _ _ ?_));have htk:V.2.take p.ns=V.2:=adQ (by omega);rw[htk]at hAl hcl;simp only[htk,aes,afL,adv];refine adb @nR @Y4 @aj.eq_1 ?_;refine aar ?_;refine AW.bO 4 24 4 7 rfl rfl rfl ?_;have hlfl:(bA V.2 0).length=p.ns:=by rw[ja];omega
 have hlfb:∀x∈bA V.2 0,-1<=x/\x<=100:=λx hx=>by have:=qP V.2 0 x hx;omega
 unfold Rr;have hcP:kC p V=UZ p V (bA V.2 0) (V.2.count true):=rfl;rw[hcP];generalize bA V.2 0=lf at*
 have hcan:=λt ht=>CW p hnn (by omega) (by omega) hni V lf (by omega) t ht
 obtain⟨M,hM⟩:∃M,V.2.count true=M:=⟨_,rfl⟩
 have w1:=bE (n:=1) (by omega) (by omega);have w2:=bE (n:=2) (by omega) (by omega);have w3:=bE (n:=3) (by omega) (by omega);rw[hM];refine aae λK hK=>aar ?_;refine abd ?_
 refine aco (λ(t:Nat)=>⟨aJ [(1,.c (.ptr 0 0)),(2,.c (.ptr 1 0)),(6,.c (.ptr 4 0)),(7,.c (.d (.int .i64 (M:Nat)))),(10,.c (.ptr 5 0)),(11,.c (.ptr 6 0)),(84,.c (.d (.int .i64 t)))],
  QL p (.cells true false 27 nL.cs) (bn p V lf t).2 lf (C9 p V 2 3 7 (bn p V lf t).1.L.length (bn p V lf t).2.length lf.length (mK t 0) (mK t 1) (mK t 2) (Jq p V lf t)) (.cells true false 65 (Uo p)) (.cells true false 55 (Fq p V lf t)) (nB true (bn p V lf t).1.L) (EL t (bn p V lf t).1 0) (EL t (bn p V lf t).1 1) (EL t (bn p V lf t).1 2) .hole⟩) 20
  (λt=>t<=3) (λt=>3-t) 0 (KZ 20 22 24 8 9 10 11 _ rfl (by decide) rfl rfl hz rfl rfl rfl (by simp[gK,bn,CS.L,mK,Jq,hlfl]) (λg=>dj true 65 [.int .i64 0,.int .i64 p.head,.int .i64 p.tail,.int .i64 p.nn] g) (λg=>dj true 55 [.int .i64 0,.int .i64 0,.int .i64 0] g) (λg=>rfl) (λg=>rfl) (λg=>rfl) (λg=>rfl) (λg=>rfl) rfl (by simp[gK])) (ac1 _) ?_
 rintro t ht
 try simp only at ht
 obtain⟨hE,hLb,hAv⟩:=hcan t ht;refine aar ?_;refine aae λK2 hK2=>?_
 by_cases htt:t<3
 ·have htt':(t:Int)<3:=by omega
  have hwt:=bE (n:=(t:Int)+1) (by omega) (by omega);obtain⟨hE2,hLb2,hAv2⟩:=hcan (t+1) (by omega)
  have hb0:bB p t<=bB p (t+1)/\bB p (t+1)<=p.nn:=by
   obtain rfl|rfl|rfl:t=0\/t=1\/t=2:=by omega
   ·exact⟨ac1 _,by show p.head.toNat<=_;omega⟩
   ·exact⟨by show p.head.toNat<=p.tail.toNat;omega,by show p.tail.toNat<=_;omega⟩
   ·exact⟨by show p.tail.toNat<=p.nn;omega,aU _⟩
  have hS1:bn p V lf (t+1)=fH p V lf (bn p V lf t).1.L.length t (eN p lf t (bn p V lf t).1,(bn p V lf t).2) (bB p t) (bB p (t+1)-bB p t):=rfl;have hF1:Jq p V lf (t+1)=nG (Jq p V lf t) t (bn p V lf t).1.L.length:=rfl;obtain⟨f,hf⟩:∃f,Jq p V lf t=f:=⟨_,rfl⟩
  obtain⟨⟨c,av⟩,hS⟩:∃S,bn p V lf t=S:=⟨_,rfl⟩
  rw[hf,hS]at hF1;rw[hS]at hS1 hE hLb hAv;simp only[hS,hf];simp only at hS1 hE hLb hAv hF1;have hbeg:=NO m p V hp hg c av lf f t htt (CS.kq hE) (CS.Ds htt hE) (by omega) hlfl;obtain⟨hu1,Tp⟩:=yG p lf (CS.kq hE);obtain⟨c1,hc1⟩:∃c1,eN p lf t c=c1:=⟨_,rfl⟩
  rw[hc1]at hbeg hS1 hu1 Tp;have hsv:=EF p V lf c.L.length (s:=(c1,av)) (bB p t) hu1;refine abz (by simp_all) (aaE (hK2 _ _ (aae λK3 hK3=>abd (aar ?_))));refine aae λK4 hK4=>?_;obtain hs0|hs0|hs0:t=0\/t=1\/t=2:=by omega
  all_goals
   refine aaJ ?_;simp[hs0];have hbeg':=hbeg;rw[hs0]at hbeg'
   first
    |refine ag.cg 40 19 true 4 2 3 7 [] [30,31] hbeg' rfl (by simp) (by decide) (by decide) (by decide) rfl rfl rfl rfl rfl (λu h=>?_) (λ_=>⟨rfl,rfl,rfl,rfl⟩) (by simp) rfl (λb hb=>?_) ?_
    |refine ag.cg 40 19 true 4 2 3 7 [8] [30,31] hbeg' rfl (by simp) (by decide) (by decide) (by decide) rfl rfl rfl rfl rfl (λu h=>?_) (λ_=>⟨rfl,rfl,rfl,rfl⟩) (by simp) rfl (λb hb=>?_) ?_
    |refine ag.cg 40 19 true 4 2 3 7 [8,9] [30,31] hbeg' rfl (by simp) (by decide) (by decide) (by decide) rfl rfl rfl rfl rfl (λu h=>?_) (λ_=>⟨rfl,rfl,rfl,rfl⟩) (by simp) rfl (λb hb=>?_) ?_
   ·have hu:u=0\/u=1:=by first|(simp at h;omega)|(simp at h)
    rcases hu with rfl|rfl
    all_goals first|exact⟨true,rfl,λ_=>rfl⟩|(simp at h)
   ·simp only[fy,aa8,or_false]at hb;rcases hb with rfl|rfl
    ·exact λh=>gA h
    simp
   simp[uA,Fe,cq,List.range_succ,CS.yN];apply hK4;have hbt:((bB p t:Nat):Int)=(BC p t):=by rw[hs0];simp[bB,BC];try omega
   rw[hs0]at hbt;simp only[BC]at hbt;refine aae λK4 hK4=>aar ?_;refine abd ?_
   refine aco (λ(k:Nat)=>⟨aJ [(1,.c (.ptr 0 0)),(2,.c (.ptr 1 0)),(6,.c (.ptr 4 0)),(7,.c (.d (.int .i64 (M:Nat)))),(10,.c (.ptr 5 0)),(11,.c (.ptr 6 0)),(12,.c (.d (.int .i64 t))),(13,.c (.d (.int .i64 ((bB p t:Nat)+(k:Nat):Int)))),(84,.c (.d (.int .i64 t)))],
    QL p (.cells true false 27 nL.cs) (fH p V lf c.L.length t (c1,av) (bB p t) k).2 lf (C9 p V 2 3 7 (fH p V lf c.L.length t (c1,av) (bB p t) k).1.L.length (fH p V lf c.L.length t (c1,av) (bB p t) k).2.length lf.length (mK (t+1) 0) (mK (t+1) 1) (mK (t+1) 2) (nG f t c.L.length)) (.cells true false 65 (Uo p)) (.cells true false 55 (Fq p V lf t)) (nB true (fH p V lf c.L.length t (c1,av) (bB p t) k).1.L) (EL (t+1) (fH p V lf c.L.length t (c1,av) (bB p t) k).1 0) (EL (t+1) (fH p V lf c.L.length t (c1,av) (bB p t) k).1 1) (EL (t+1) (fH p V lf c.L.length t (c1,av) (bB p t) k).1 2) .hole⟩) 40
    (λk=>k<=bB p (t+1)-bB p t) (λk=>bB p (t+1)-bB p t-k) 0 (by
     subst hs0
     first
      |exact KZ 5 6 30 31 9 10 11 _ rfl (by decide) rfl rfl hz rfl rfl rfl (by simp[gK,mK,aG,nQ,fH];try decide) (λg=>dj true 65 [.int .i64 0,.int .i64 p.head,.int .i64 p.tail,.int .i64 p.nn] g) (λg=>dj true 55 [.int .i64 (j5 p V lf _ 0),.int .i64 (j5 p V lf _ 1),.int .i64 (j5 p V lf _ 2)] g) (λg=>fC _ g id) (λg=>by first|exact aR _ _ g id|exact rfl) (λg=>by rfl) (λg=>by rfl) (λg=>rfl) rfl (by simp[gK,hbt])
      |exact KZ 5 6 30 8 31 10 11 _ rfl (by decide) rfl rfl hz rfl rfl rfl (by simp[gK,mK,aG,nQ,fH];try decide) (λg=>dj true 65 [.int .i64 0,.int .i64 p.head,.int .i64 p.tail,.int .i64 p.nn] g) (λg=>dj true 55 [.int .i64 (j5 p V lf _ 0),.int .i64 (j5 p V lf _ 1),.int .i64 (j5 p V lf _ 2)] g) (λg=>fC _ g id) (λg=>by first|exact aR _ _ g id|exact rfl) (λg=>by first|exact aR _ _ g id|exact rfl) (λg=>by rfl) (λg=>rfl) rfl (by simp[gK,hbt])
      |exact KZ 5 6 30 8 9 31 11 _ rfl (by decide) rfl rfl hz rfl rfl rfl (by simp[gK,mK,aG,nQ,fH];try decide) (λg=>dj true 65 [.int .i64 0,.int .i64 p.head,.int .i64 p.tail,.int .i64 p.nn] g) (λg=>dj true 55 [.int .i64 (j5 p V lf _ 0),.int .i64 (j5 p V lf _ 1),.int .i64 (j5 p V lf _ 2)] g) (λg=>fC _ g id) (λg=>by first|exact aR _ _ g id|exact rfl) (λg=>by first|exact aR _ _ g id|exact rfl) (λg=>by first|exact aR _ _ g id|exact rfl) (λg=>rfl) rfl (by simp[gK,hbt])) (ac1 _) ?_
   rintro k hk
   try simp only at hk
   obtain⟨hd1,hd2,hd3,hd4⟩:=hsv k;have hstep:fH p V lf c.L.length t (c1,av) (bB p t) (k+1)=((jS p V lf c.L.length t (fH p V lf c.L.length t (c1,av) (bB p t) k).1 (fH p V lf c.L.length t (c1,av) (bB p t) k).2 (bB p t+k)).2,(fH p V lf c.L.length t (c1,av) (bB p t) k).2.set (bB p t+k) (jS p V lf c.L.length t (fH p V lf c.L.length t (c1,av) (bB p t) k).1 (fH p V lf c.L.length t (c1,av) (bB p t) k).2 (bB p t+k)).1):=rfl;obtain⟨⟨d,bv⟩,hSk⟩:∃S,fH p V lf c.L.length t (c1,av) (bB p t) k=S:=⟨_,rfl⟩
   rw[hSk]at hd1 hd2 hd3 hd4 hstep;simp only[hSk];simp only at hd1 hd2 hd3 hd4 hstep;have hbe:((bB p (t+1):Nat):Int)=BC p (t+1):=by rw[hs0];simp[bB,BC];try omega
   have hbe':=hbe;rw[hs0]at hbe';simp only[BC]at hbe';refine aae λK6 hK6=>adi hs0 w1 w2 w3 ?_
   by_cases hkt:k<bB p (t+1)-bB p t
   ·have hi:bB p t+k<p.nn:=by omega
    have hcmp:((bB p t:Nat):Int)+(k:Nat)<BC p (t+1):=by rw[<-hbe];omega
    have hcmp':=hcmp;rw[hs0]at hcmp';simp only[BC]at hcmp';have hnode:=Ph m p hp hg V Qs d bv lf (nG f t c.L.length) t htt hd1 (by omega) (by omega) hlfl hlfb c.L.length (KU f htt _) (by omega) (bB p t+k) hi;obtain⟨R,hR⟩:∃R,jS p V lf c.L.length t d bv (bB p t+k)=R:=⟨_,rfl⟩
    rw[hR]at hnode hstep;have hnd':=hnode;have hwk:=bE (n:=((bB p t:Nat):Int)+(k:Nat)+1) (by omega) (by omega);rw[hs0]at hwk;rw[hs0]at hnd';simp only[Int.natCast_add]at hnd';refine abz (by simp[hcmp']<;>omega) (aaE (hK6 _ _ (aae λK8 hK8=>abd ?_)));refine AW.Xa 60 mixed (by kernel_rfl) ?_;have hB:∃B,B=LB.cells true false 57 (C9 p V 2 3 50 R.2.L.length bv.length lf.length (mK (t+1) 0) (mK (t+1) 1) (mK (t+1) 2) (nG f t c.L.length)):=⟨_,rfl⟩
    obtain⟨B,hB⟩:=hB;refine rN.op (κ:=45) rfl rfl ?_;simp only[lX];refine rN.read 45 4 B rfl rfl (x:=.c (.ptr 4 0)) (by rfl) (by simp[cX,Op.operands,hB]) ?_;refine rN.read 45 4 B rfl rfl (x:=.c (.ptr 4 9)) (by rfl) (by simp[cX,Op.operands,hB]) ?_;refine rN.read 45 4 B rfl rfl (x:=.c (.aE 2 0 bv.length 1)) (by rfl) (by simp[cX,Op.operands,hB]) ?_;refine rN.op (κ:=45) rfl rfl ?_;simp only[lX];refine rN.op (κ:=45) rfl rfl ?_;simp only[lX];refine rN.op (κ:=45) rfl rfl ?_;simp only[lX];refine rN.op (κ:=45) rfl rfl ?_;simp only[lX];refine rN.op (κ:=45) rfl rfl ?_;simp
    first
     |refine ag.cg 60 19 true 4 2 3 7 [8] [50] hnd' rfl (by simp) (by decide) (by decide) (by decide) rfl rfl rfl rfl rfl (λu h=>?_) (λ_=>⟨rfl,rfl,rfl,rfl⟩) (by simp) rfl (λb hb=>?_) ?_
     |refine ag.cg 60 19 true 4 2 3 7 [8,9] [50] hnd' rfl (by simp) (by decide) (by decide) (by decide) rfl rfl rfl rfl rfl (λu h=>?_) (λ_=>⟨rfl,rfl,rfl,rfl⟩) (by simp) rfl (λb hb=>?_) ?_
     |refine ag.cg 60 19 true 4 2 3 7 [8,9,10] [50] hnd' rfl (by simp) (by decide) (by decide) (by decide) rfl rfl rfl rfl rfl (λu h=>?_) (λ_=>⟨rfl,rfl,rfl,rfl⟩) (by simp) rfl (λb hb=>?_) ?_
    ·have hu:u=0\/u=1\/u=2:=by simp at h;omega
     rcases hu with rfl|rfl|rfl
     all_goals first|exact⟨true,rfl,λ_=>rfl⟩|(simp at h)
    ·rw[List.mem_singleton.1 hb];exact λh=>gA h
    simp[uA,cq,List.range_succ];refine rN.read 60 2 (.cells true false 3 (zK bv)) rfl rfl (x:=.c (.ptr 2 (bB p t+k))) (by simp[cX,Op.operands,hs0];omega) (by simp[cX,Op.operands,hs0];omega) ?_;refine rN.op (κ:=60) rfl rfl ?_;have hzs:=Ap bv (bB p t+k) R.1 (by omega);simp[hzs];refine aL ?_;refine rN.done ⟨?_,?_,?_⟩
    ·simp[Tw.D5,uK];rfl
    ·intro p' hp' q' hq' W' B' hs' hw';simp[flg,List.zipIdx]at hp';simp[wrt,List.zipIdx]at hq';rcases hp' with rfl|rfl|rfl|rfl
     all_goals
      cases hs'
      rcases hq' with rfl|rfl
      all_goals first
       |(exfalso;simp at hw';done)
       |exact .inr ⟨.inl rfl,.inr (by rw[hB,hs0];rfl)⟩
       |exact .inr ⟨.inl rfl,.inl rfl⟩
       |exact .inl (by kernel_rfl)
    apply hK8;refine aaJ ?_;simp[hwk];refine⟨k+1,?_,by omega,by omega⟩;rw[hstep];clear hstep hsv;subst hs0;exact KZ 5 6 50 8 9 10 11 _ rfl (by decide) rfl rfl hz rfl rfl rfl (by simp[gK,mK,fM,aG];try decide) (λg=>dj true 65 [.int .i64 0,.int .i64 p.head,.int .i64 p.tail,.int .i64 p.nn] g) (λg=>dj true 55 [.int .i64 (j5 p V lf _ 0),.int .i64 (j5 p V lf _ 1),.int .i64 (j5 p V lf _ 2)] g) (λg=>fC _ g id) (λg=>by first|exact aR _ _ g id|exact rfl) (λg=>by first|exact aR _ _ g id|exact rfl) (λg=>by first|exact aR _ _ g id|exact rfl) (λg=>rfl) rfl (by simp[gK,Int.add_assoc])
   have hke:k=bB p (t+1)-bB p t:=by omega
   have hcmp:¬(((bB p t:Nat):Int)+(k:Nat)<BC p (t+1)):=by rw[<-hbe];omega
   rw[hs0]at hcmp;simp only[BC]at hcmp;have hSn:bn p V lf (t+1)=(d,bv):=by rw[hS1,<-hke,hSk]
   clear hS1 hstep hsv hSk;have hlnd:∀lv:Key->LB,lv 7=nB true d.L->dm prog 24 lv (.c (.aE 7 0 d.L.length 7))=some (.c (.d (.int .i64 d.L.length)),[],[7],True):=λlv h=>W4 h (by omega)
   refine abD (by simp[hcmp]<;>omega) (abX (hK4 _ _ (acZ hlnd hs0 @aj.eq_1 (hK3 _ _ ?_))));rw[hs0]at hwt;refine aaJ ?_;simp[w1,w2,w3];have htl:(Fq p V lf t).set t (.d (.int .i64 (d.L.length:Int)))=Fq p V lf (t+1):=by rw[hs0]at hSn⊢;simp[j5,hSn]
   refine⟨t+1,?_,by omega,by omega⟩;rw[hSn,hF1];clear hSn hF1;subst hs0;exact KZ 5 6 7 8 9 10 11 _ rfl (by decide) rfl rfl hz rfl rfl rfl (by simp[gK,mK];try decide) (λg=>dj true 65 [.int .i64 0,.int .i64 p.head,.int .i64 p.tail,.int .i64 p.nn] g) (λg=>by first|(show(LB.cells true false 55 ((Fq p V lf 0).set 0 (.d (.int .i64 (d.L.length:Int))))).like _ g;rw[htl];exact dj true 55 [.int .i64 (j5 p V lf 1 0),.int .i64 (j5 p V lf 1 1),.int .i64 (j5 p V lf 1 2)] g)|(show(LB.cells true false 55 ((Fq p V lf 1).set 1 (.d (.int .i64 (d.L.length:Int))))).like _ g;rw[htl];exact dj true 55 [.int .i64 (j5 p V lf 2 0),.int .i64 (j5 p V lf 2 1),.int .i64 (j5 p V lf 2 2)] g)|(show(LB.cells true false 55 ((Fq p V lf 2).set 2 (.d (.int .i64 (d.L.length:Int))))).like _ g;rw[htl];simp)) (λg=>fC _ g id) (λg=>by first|exact aR _ _ g id|exact rfl) (λg=>by first|exact aR _ _ g id|exact rfl) (λg=>by first|exact aR _ _ g id|exact rfl) (λg=>rfl) rfl (by simp[gK])
 have hte:t=3:=by omega
 subst hte;obtain⟨⟨c,av⟩,hS⟩:∃S,bn p V lf 3=S:=⟨_,rfl⟩
 obtain⟨f,hf⟩:∃f,Jq p V lf 3=f:=⟨_,rfl⟩
 rw[hS]at hE hLb hAv;simp only[hS,hf];simp only at hE hLb hAv;have hLn:c.L.length<=500:=by have:bB p 3=p.nn:=rfl;omega
 have hlnd:∀lv:Key->LB,lv 7=nB true c.L->dm prog 24 lv (.c (.aE 7 0 c.L.length 7))=some (.c (.d (.int .i64 c.L.length)),[],[7],True):=λlv h=>W4 h (by omega)
 refine abg (abX (hK _ _ (aae λK hK=>acf hlnd ?_)))
 by_cases hbig:64<c.L.length
 ·simp only[hS];rw[if_pos hbig];have hbig':(64:Int)<(c.L.length:Int):=by omega
  refine abz (by simp_all) (acv @ZQ @aj.eq_1 ?_);refine aaV (iR.EN (κ:=0) (k:=1) (off:=0) (own:=true) (fz:=false) (T:=27) (U:=27) (cs:=nL.cs) (X:=nL.A) (y:=.c (.d .nilsl)) (z:=.c (.d (.int .i64 3))) (ks:=[]) rfl (by simp) (by simp) (by rfl) (by simp) (by simp) (by simp) rfl rfl ?_);rfl
 have hbig':¬(64:Int)<(c.L.length:Int):=by omega
 refine abD (by simp_all) (aaE (hK _ _ ?_));have ht0:j5 p V lf 3 0=(bn p V lf 1).1.L.length:=if_pos (by omega);have ht1:j5 p V lf 3 1=(bn p V lf 2).1.L.length:=if_pos (by omega);have ht2:j5 p V lf 3 2=c.L.length:=by have:j5 p V lf 3 2=(bn p V lf 3).1.L.length:=if_pos (by omega);rw[this,hS]
 refine AW.d3 mixed @aj.eq_1 ht0 ht1 ?_;refine aae λK hK=>?_
 have hK':∀(fr:Nat->AV) (lv:Key->LB) (κ:Nat) (hd tl:Int),hd=(if M=0 then(c.L.length:Int)else(bn p V lf 1).1.L.length)->tl=(if M=0 then(c.L.length:Int)else(bn p V lf 2).1.L.length) ->
  fr 1=.c (.ptr 0 0)->fr 2=.c (.ptr 1 0)->fr 6=.c (.ptr 4 0) ->
  lv=au (QL p (.cells true false 27 nL.cs) av lf (C9 p V 2 3 7 c.L.length av.length lf.length (mK 3 0) (mK 3 1) (mK 3 2) f) (.cells true false 65 (Uo p)) (.cells true false 55 (Fq p V lf 3)) (nB true c.L) (EL 3 c 0) (EL 3 c 1) (EL 3 c 2) .hole) 4 (.cells true false 57 (mkF p V c.L.length av.length lf.length f hd tl (.d .nilsl) 0))->K ⟨fr,lv⟩ κ:=by
  intro fr lv κ hd tl hhd htl g1 g2 g6 hlv;subst hlv;apply hK;simp only[hS];rw[if_neg hbig];refine AW.bO 4 11 7 2 rfl rfl rfl ?_;refine acU (s2:=⟨aJ [(1,.c (.ptr 0 0)),(2,.c (.ptr 1 0)),(6,.c (.ptr 4 0))],QL p (.cells true false 27 nL.cs) av lf (mkF p V c.L.length av.length lf.length f hd tl (.aE 11 0 0 2) 0) .hole .hole (nB true c.L) (EL 3 c 0) (EL 3 c 1) (EL 3 c 2) .bO⟩) (κ2:=20) (KZ 12 13 7 8 9 10 11 _ rfl (by decide) rfl rfl hz rfl rfl rfl (by simp[gK]) (λg=>rfl) (λg=>rfl) (λg=>fC _ g id) (λg=>eE 3 c 0 g) (λg=>eE 3 c 1 g) (λg=>eE 3 c 2 g) (λg=>rfl) rfl (by simp[g1,g2,g6,gK])) ?_;refine aae λK hK=>aar ?_;refine abd ?_
  refine aco (λ(j:Nat)=>⟨aJ [(1,.c (.ptr 0 0)),(2,.c (.ptr 1 0)),(6,.c (.ptr 4 0)),(157,.c (.aE 3 0 lf.length 1)),(158,.c (.d (.int .i64 lf.length))),(159,.c (.d (.int .i64 j)))],
   QL p (.cells true false 27 nL.cs) av lf (mkF p V c.L.length av.length lf.length f hd tl (.aE 11 0 (nT p av lf j).length 2) 0) .hole .hole (nB true c.L) (EL 3 c 0) (EL 3 c 1) (EL 3 c 2) (sB (nT p av lf j))⟩) 20
   (λj=>j<=lf.length) (λj=>lf.length-j) 0 (KZ 5 6 7 8 9 10 11 _ rfl (by decide) rfl rfl hz rfl rfl rfl (by simp[gK,nT]) (λg=>rfl) (λg=>rfl) (λg=>fC _ g id) (λg=>eE 3 c 0 g) (λg=>eE 3 c 1 g) (λg=>eE 3 c 2 g) (λg=>rfl) rfl (by simp[gK])) (ac1 _) ?_
  rintro j hj
  try simp only at hj
  have hsn:nT p av lf (j+1)=if 0<=lf.getD j 0 then nT p av lf j++[(av.getD (p.st j).1.toNat 0,av.getD (p.st j).2.toNat 0)]else nT p av lf j:=rfl
  have hsl:=Gf p av lf j;obtain⟨S,hSt⟩:∃S,nT p av lf j=S:=⟨_,rfl⟩
  rw[hSt]at hsn hsl;simp only[hSt];refine aar ?_;refine aae λK2 hK2=>?_
  by_cases hjt:j<lf.length
  ·have hjt':(j:Int)<(lf.length:Int):=by omega
   have hwj:=bE (n:=(j:Int)+1) (by omega) (by omega);have hld:=dh (P:=prog) (T:=3) (by simp) hjt;have hgd:lf.getD j 0=lf[j]:=by rw[ac2,bp hjt];rfl
   rw[hgd]at hsn;generalize lf[j]=y at*
   refine abz (by simp<;>omega) (aaE (hK2 _ _ (aae λK3 hK3=>abd (acv hjt' hld ?_))));refine aar ?_
   by_cases hy:0<=y
   ·rw[if_pos hy]at hsn;obtain⟨s0,s1,s2,s3⟩:=yB hg (show j<p.ns by omega);have hxs:=λlv=>JP hp lv j (by omega)
    obtain⟨q1,hq1⟩:∃q:Nat,(p.st j).1=q:=⟨(p.st j).1.toNat,by omega⟩
    obtain⟨q2,hq2⟩:∃q:Nat,(p.st j).2=q:=⟨(p.st j).2.toNat,by omega⟩
    have l1:q1<av.length:=by omega
    have l2:q2<av.length:=by omega
    have l1':(q1:Int)<(av.length:Int):=by omega
    have l2':(q2:Int)<(av.length:Int):=by omega
    have hl1:=dh (P:=prog) (T:=3) (by simp) l1;have hl2:=dh (P:=prog) (T:=3) (by simp) l2;rw[hq1,hq2,ac9,ac9,ac2,bp l1,ac2,bp l2]at hsn;simp only[aeQ]at hsn;generalize av[q1]=x1 at*
    generalize av[q2]=x2 at*
    refine abz (by simp[hy]<;>omega) ?_
    by_cases hS0:S=[]
    ·have hB:sB S=.bO:=if_pos hS0;have hl0:S.length=0:=by rw[hS0];rfl
     refine acs mixed (by kernel_rfl) rfl ?_;simp[hxs,hq1,hq2,l1',l2',hl1,hl2,YS,VB,dS,keyOf,aj,hB,hl0,-ai];refine⟨by kernel_rfl,?_⟩;apply hK3;refine aaJ ?_;simp[hwj];refine⟨j+1,?_,by omega,by omega⟩;rw[hsn,hS0];exact KZ 5 6 7 8 9 10 21 _ rfl (by decide) rfl rfl hz rfl rfl rfl (by simp[gK]) (λg=>rfl) (λg=>rfl) (λg=>fC _ g id) (λg=>eE 3 c 0 g) (λg=>eE 3 c 1 g) (λg=>eE 3 c 2 g) (λg=>⟨true,_,rfl,rfl,id⟩) rfl (by simp[gK])
    ·have hB:sB S=.cells true false 44 (Bb S):=if_neg hS0;refine acs mixed (by kernel_rfl) rfl ?_;simp[hxs,hq1,hq2,l1',l2',hl1,hl2,YS,VB,dS,keyOf,aj,hB,Kw,-ai]
     repeat refine aL ?_
     refine⟨by kernel_rfl,?_⟩;apply hK3;refine aaJ ?_;simp[hwj];refine⟨j+1,?_,by omega,by omega⟩;rw[hsn];exact KZ 5 6 7 8 9 10 21 _ rfl (by decide) rfl rfl hz rfl rfl rfl (by simp[gK]) (λg=>rfl) (λg=>rfl) (λg=>fC _ g id) (λg=>eE 3 c 0 g) (λg=>eE 3 c 1 g) (λg=>eE 3 c 2 g) (λg=>by show(LB.cells true false 44 (Bb S++Bb [(x1,x2)])).like (sB (S++[(x1,x2)])) g;rw[<-KM];have e:sB (S++[(x1,x2)])=.cells true false 44 (Bb (S++[(x1,x2)])):=if_neg (by simp);rw[<-e];exact Kx _ g) rfl (by simp[gK])
   ·rw[if_neg hy]at hsn;refine abD (by simp[hy]<;>omega) (aaE (hK3 _ _ (aaJ ?_)));simp[hwj];refine⟨j+1,?_,by omega,by omega⟩;rw[hsn];exact KZ 5 6 7 8 9 10 11 _ rfl (by decide) rfl rfl hz rfl rfl rfl (by simp[gK]) (λg=>rfl) (λg=>rfl) (λg=>fC _ g id) (λg=>eE 3 c 0 g) (λg=>eE 3 c 1 g) (λg=>eE 3 c 2 g) (λg=>Kx S g) rfl (by simp[gK])
  have hje:j=lf.length:=by omega
  subst hje;refine abg (abX (hK _ _ ?_));obtain⟨q,hq⟩:∃q:Nat,p.res=q:=⟨p.res.toNat,by omega⟩
  have hql:q<av.length:=by omega
  have hql':(q:Int)<(av.length:Int):=by omega
  have hlq:=dh (P:=prog) (T:=3) (by simp) hql;refine AW.d4 mixed hq hql' hlq @aj.eq_1 ?_;refine AW.d2 mixed @Px @aj.eq_1 ?_;refine aaV (iR.Ns (κ:=0) (k:=1) (off:=0) (own:=true) (fz:=false) (T:=27) (U:=27) (y:=.c (.aE 2 0 av.length 1)) (z:=.c (.d (.int .i64 0))) rfl (by simp) rfl (by rw[adJ];exact Px ..) (by simp) (by simp) (by simp) rfl rfl ?_)
  have hfv:UZ p V lf M=⟨p.f,p.mode,p.ins,(if c.L=[]then none else some (c.L.map Nd.e)),hd,tl,(if S=[]then none else some (S.map zw)),av[q]⟩:=by
   unfold UZ;rw[hS,hhd,htl];simp only[hSt,hq,ac9,ac2,bp hql,aeQ]
  rw[hfv];exact Pp p hd tl av[q] 0 (o1:=true) rfl rfl rfl (by omega) (by omega) (by omega)
 refine aar ?_
 by_cases hM0:M=0
 ·have hM0':((M:Nat):Int)=0:=by omega
  refine abz (by simp[hM0']<;>omega) ?_;refine acs mixed (by kernel_rfl) rfl ?_;simp[aj,ht2];refine⟨by kernel_rfl,?_⟩;refine hK' _ _ _ c.L.length c.L.length (by omega) (by omega) (by simp) (by simp) (by simp) rfl
 ·have hM0':¬((M:Nat):Int)=0:=by omega
  refine abD (by simp<;>omega) (aaE ?_);simp;refine hK' _ _ _ (bn p V lf 1).1.L.length (bn p V lf 2).1.L.length (by omega) (by omega) (by simp) (by simp) (by simp) rfl
theorem vS(hg:p.good){i:Nat}(hi:i<p.ns):0<=(p.st i).1/\(p.st i).1<p.head/\0<=(p.st i).2/\(p.st i).2<p.tail:=by
 have h:=hg.states i hi;unfold tS at h;omega
theorem eW:eI p=0↔(p.nf<=6/\p.ni<=6/\p.nn<=64/\p.ns<=4)/\(p.nf≠0/\p.nn≠0/\0<=p.mode/\p.mode<=4)/\(0<=p.head/\p.head<=p.tail/\p.tail<=p.nn)/\(p.ns=0->p.head=p.nn):=by
 unfold eI PD.nf PD.ni PD.nn PD.ns;omega
theorem qA{i:Int}:kj p i n=0↔(1<=n.op/\n.op<=15)/\kE n=true/\(0<=n.f/\n.f<p.nf)/\(n.op=1->0<=n.a/\n.a<p.ni)/\(n.op=1->(p.Bc n.a.toNat).f=n.f)/\(n.op=2->¬i<p.head/\0<=n.a/\n.a<p.ns)/\(n.op=3->eX n.v=0)/\(n.op≠3->(aN n).all (dH p i)=true):=by
 unfold kj
 grind
structure ndG(p:PD)(j:Int)(n:Nd):Prop where
 op:1<=n.op/\n.op<=15
 ne:n.op≠2
 idle:kE n=true
 fm:0<=n.f/\n.f<p.nf
 Bc:n.op=1->0<=n.a/\n.a<p.ni
 inf:n.op=1->(p.Bc n.a.toNat).f=n.f
 tA:n.op=3->eX n.v=0
 kids:∀x∈aN n,0<=x/\x<j
theorem G8(l:List Int)(h:1<=n.op/\n.op<=15):aN (n.dw l)=(aN n).map λx=>l.getD x.toNat 0:=by
 have e1:aN n=n.l4.take (bT n.op):=if_pos h;have e2:aN (n.dw l)=[nv l (bT n.op) 4 0 n.a,nv l (bT n.op) 4 1 n.b,nv l (bT n.op) 4 2 n.c,nv l (bT n.op) 4 3 n.d].take (bT n.op):=if_pos h;rw[e1,e2];have hk:=lR n.op;generalize bT n.op=kk at*
 unfold Nd.l4;have:kk=0\/kk=1\/kk=2\/kk=3\/kk=4:=by omega
 rcases this with rfl|rfl|rfl|rfl|rfl<;>simp[nv]
theorem N3(op:Int):bT op<=fP op:=by
 unfold fP;split
 ·rename_i h
  rcases h with rfl|rfl<;>simp[bT]
 simp
theorem IL(n:Nd)(l:List Int):kE (n.dw l)=kE n:=by
 have e:(n.dw l).l4.drop (fP n.op)=n.l4.drop (fP n.op):=by
  show [nv l (bT n.op) 4 0 n.a,nv l (bT n.op) 4 1 n.b,nv l (bT n.op) 4 2 n.c,nv l (bT n.op) 4 3 n.d].drop (fP n.op)=[n.a,n.b,n.c,n.d].drop (fP n.op);have h1:=N3 n.op;have h2:=yT n.op;generalize bT n.op=kk at*
  generalize fP n.op=uu at*
  have hu:uu=0\/uu=1\/uu=2\/uu=3\/uu=4:=by omega
  have nvi:∀(j:Nat) (x:Int),kk<=j->nv l kk 4 j x=x:=λj x hj=>by unfold nv;omega
  rcases hu with rfl|rfl|rfl|rfl|rfl
  ·grind
  ·grind
  ·grind
  ·grind
  ·simp
 show(((n.dw l).l4.drop (fP n.op)).all _&&_)=_;rw[e];rfl
structure rOk(p:PD)(av:List Int)(L:List Nd):Prop where
 at':∀x∈av,0<=x/\x<L.length
 nd:∀j (h:j<L.length),ndG p j L[j]
 pos:0<L.length
end Go.Am
namespace Go.Am
open N
variable {c:CS}{s a k j:Nat}{n:Nd}{b l:List Bool}{lf:List Int}
theorem j6{n:Nd}:∀{l:List Nd},dg n l=none↔n∉l
 |[]=>by simp[dg]
 |m::l=>by
  unfold dg
  by_cases h:n=m
  ·simp[h]
  ·rw[if_neg h,Option.map_eq_none_iff,j6,fy];simp[h]
theorem rj{n:Nd}:∀{l:List Nd}{i:Nat},dg n l=some i->l[i]?=some n
 |[],_,h=>by cases h
 |m::l,i,h=>by
  unfold dg at h
  by_cases e:n=m
  ·grind
  ·rw[if_neg e]at h;obtain⟨j,hj,rfl⟩:=Option.map_eq_some_iff.1 h;rw[List.getElem?_cons_succ];exact rj hj
def CS.sc(c:CS)(k:Nat):Nat:=if k<c.A0.length then 0 else if k<c.A0.length+c.A1.length then 1 else 2
theorem CS.xq(c:CS):c.L.length=c.A0.length+(c.A1.length+c.A2.length):=by simp[CS.L]
theorem CS.T4(h:c.A0[k]?=some n):c.L[k]?=some n/\c.sc k=0:=by
 obtain⟨hk,-⟩:=List.getElem?_eq_some_iff.1 h;exact⟨by unfold CS.L;grind,if_pos hk⟩
theorem CS.JI(hs:s<3)(h:(c.sec s)[k]?=some n):c.L[c.off s+k]?=some n/\c.sc (c.off s+k)=s:=by
 obtain⟨hk,-⟩:=List.getElem?_eq_some_iff.1 h;obtain rfl|rfl|rfl:s=0\/s=1\/s=2:=by omega
 ·rw[show c.off 0+k=k from adx k];exact CS.T4 h
 ·have h':c.A1[k]?=some n:=h;have hk':k<c.A1.length:=hk;show c.L[c.A0.length+k]?=_/\c.sc (c.A0.length+k)=_;refine⟨?_,by unfold CS.sc;grind⟩;unfold CS.L
  grind
 ·have h':c.A2[k]?=some n:=h;show c.L[c.A0.length+c.A1.length+k]?=_/\c.sc (c.A0.length+c.A1.length+k)=_;refine⟨?_,by unfold CS.sc;grind⟩;unfold CS.L
  grind
theorem CS.La(hs:s<3)(h:c.find s n=some k):c.L[k]?=some n/\(c.sc k=0\/c.sc k=s):=by
 unfold CS.find at h
 cases e:dg n (c.sec s)with
 |none=>
  rw[e]at h;have:=CS.T4 (rj h)
  grind
 |some i=>
  rw[e]at h
  cases h
  have:=CS.JI hs (rj e)
  grind
theorem CS.vK:c.find s n=none↔n∉c.sec s/\n∉c.A0:=by
 unfold CS.find
 cases e:dg n (c.sec s)with
 |none=>exact⟨λh=>⟨j6.1 e,j6.1 h⟩,λh=>j6.2 h.2⟩
 |some i=>
  refine⟨λh=>(by cases h),λh=>?_⟩;rw[j6.2 h.1]at e;cases e
def CS.iD(c:CS)(s:Nat)(l:List Nd):CS:=
 match s with
 |0=>⟨c.A0++l,c.A1,c.A2⟩
 |1=>⟨c.A0,c.A1++l,c.A2⟩
 |_=>⟨c.A0,c.A1,c.A2++l⟩
theorem CS.add_eq(c:CS)(s:Nat)(n:Nd):c.add s n=c.iD s [n]:=by rcases s with _|_|s<;>rfl
theorem CS.On(c:CS)(s:Nat):c.iD s []=c:=by rcases s with _|_|s<;>simp[CS.iD]
theorem CS.MH(c:CS)(s:Nat)(l:List Nd)(n:Nd):(c.iD s l).add s n=c.iD s (l++[n]):=by rcases s with _|_|s<;>simp[CS.iD,CS.add]
theorem CS.Oy(c:CS)(s:Nat)(l:List Nd):(c.iD s l).sec s=c.sec s++l:=by rcases s with _|_|s<;>rfl
theorem CS.Sg(c:CS)(hs:1<=s)(l:List Nd):(c.iD s l).A0=c.A0:=by rcases s with _|_|s<;>first|rfl|omega
theorem CS.qW(hs:s<3)(h:c.upto s)(l:List Nd):(c.iD s l).upto s/\(c.iD s l).L=c.L++l/\(∀k,k<c.L.length->(c.iD s l).sc k=c.sc k)/\(∀k,c.L.length<=k->k<c.L.length+l.length->(c.iD s l).sc k=s):=by
 obtain⟨A,B,D⟩:=c;obtain⟨h1,h2⟩:=h;obtain rfl|rfl|rfl:s=0\/s=1\/s=2:=by omega
 ·have e1:B=[]:=h1 rfl;have e2:D=[]:=h2 (by omega);subst e1;subst e2;refine⟨⟨λ_=>rfl,λ_=>rfl⟩,by simp[CS.iD,CS.L],λk hk=>?_,λk h3 h4=>?_⟩<;>simp only[CS.xq,CS.iD,CS.sc,ac8,List.length_nil]at *<;>(repeat' split)<;>omega
 ·have e2:D=[]:=h2 (by omega);subst e2;refine⟨⟨λh=>by omega,λ_=>rfl⟩,by simp[CS.iD,CS.L],λk hk=>?_,λk h3 h4=>?_⟩<;>simp only[CS.xq,CS.iD,CS.sc,ac8,List.length_nil]at *<;>(repeat' split)<;>omega
 ·refine⟨⟨λh=>by omega,λh=>by omega⟩,by simp[CS.iD,CS.L],λk hk=>?_,λk h3 h4=>?_⟩<;>simp only[CS.xq,CS.iD,CS.sc]at *<;>(repeat' split)<;>omega
def CS.nd(c:CS):Prop:=(c.A0++c.A1).Nodup/\(c.A0++c.A2).Nodup
theorem CS.Ke(hs:s<3)(h:c.upto s)(hn:c.nd){l:List Nd}(hl:l.Nodup)(hd:∀x∈l,x∉c.sec s/\x∉c.A0):(c.iD s l).nd:=by
 obtain⟨A,B,D⟩:=c;obtain⟨h1,h2⟩:=h;obtain⟨n1,n2⟩:=hn;obtain rfl|rfl|rfl:s=0\/s=1\/s=2:=by omega
 ·have e1:B=[]:=h1 rfl;have e2:D=[]:=h2 (by omega);subst e1;subst e2
  have:(A++l).Nodup:=by
   simp only[adv]at n1;exact List.nodup_append.2 ⟨n1,hl,λx hx y hy e=>(hd y hy).2 (e▸hx)⟩
  constructor<;>simpa[CS.iD]using this
 ·refine⟨?_,n2⟩;show(A++(B++l)).Nodup;rw[<-adq];exact List.nodup_append.2 ⟨n1,hl,λx hx y hy e=>(List.mem_append.1 hx).elim (λh=>(hd y hy).2 (e▸h)) λh=>(hd y hy).1 (e▸h)⟩
 ·refine⟨n1,?_⟩;show(A++(D++l)).Nodup;rw[<-adq];exact List.nodup_append.2 ⟨n2,hl,λx hx y hy e=>(List.mem_append.1 hx).elim (λh=>(hd y hy).2 (e▸h)) λh=>(hd y hy).1 (e▸h)⟩
theorem CS.tB(h:n∉c.sec s/\n∉c.A0):c.put s n=(c.L.length,c.iD s [n]):=by
 unfold CS.put;rw[CS.vK.2 h,<-CS.add_eq]
instance decIn{l:List Bool}{k:Nat}:Decidable (cS l k):=inferInstanceAs (Decidable (l.getD k false=true))
theorem we:∀(l:List Bool) (k a:Nat),a<l.length->(bA l k).getD a 0=if cS l a then((k+(l.take a).count true:Nat):Int)else -1
 |[],_,_,h=>by cases h
 |true::l,k,0,_=>by rfl
 |false::l,k,0,_=>by rfl
 |true::l,k,a+1,h=>by
  have:=we l (k+1) a (by grind);show(bA l (k+1)).getD a 0=_;rw[this]
  by_cases c:cS l a
  ·rw[if_pos c,if_pos (show cS (true::l) (a+1) from c),List.take_succ_cons,List.count_cons]
   grind
  ·rw[if_neg c,if_neg (show ¬cS (true::l) (a+1) from c)]
 |false::l,k,a+1,h=>by
  have:=we l k a (by grind);show(bA l k).getD a 0=_;rw[this];rfl
theorem Ai(h:a<l.length):cS l a↔l[a]=true:=by
 unfold cS;grind
theorem zS(h:a<l.length):(l.take (a+1)).count true=(l.take a).count true+if cS l a then 1 else 0:=by
 rw[aew,bp h,List.count_append]
 by_cases c:cS l a
 ·rw[if_pos c,(Ai h).1 c];rfl
 ·rw[if_neg c]
  have e:l[a]=false:=by
   cases hb:l[a]with
   |true=>exact absurd ((Ai h).2 hb) c
   |false=>rfl
  grind
theorem GZ(l:List Bool){b:Nat}(h:a<=b):(l.take a).count true<=(l.take b).count true:=by
 obtain⟨d,rfl⟩:=Nat.exists_eq_add_of_le h
 grind
structure LF(b:List Bool)(lf:List Int):Prop where
 len:lf.length=b.length
 get:∀a,a<b.length->lf.getD a 0=if cS b a then(((b.take a).count true:Nat):Int)else -1
theorem gQ(b:List Bool):LF b (bA b 0):=⟨ja b 0,λa h=>by rw[we b 0 a h,adx]⟩
theorem LF.iff(h:LF b lf)(ha:a<b.length):0<=lf.getD a 0↔cS b a:=by
 rw[h.get a ha];grind
theorem LF.inj{b:List Bool}{lf:List Int}(h:LF b lf){a a':Nat}(ha:a<b.length)(ha':a'<b.length)(h0:0<=lf.getD a 0)(e:lf.getD a 0=lf.getD a' 0):a=a':=by
 have i1:=(h.iff ha).1 h0;have i2:=(h.iff ha').1 (by omega);rw[h.get a ha,h.get a' ha',if_pos i1,if_pos i2]at e;have s1:=zS ha;have s2:=zS ha';rw[if_pos i1]at s1;rw[if_pos i2]at s2;rcases afD a a' with g|g|g
 ·have:=GZ b (show a+1<=a' by omega);omega
 ·exact g
 ·have:=GZ b (show a'+1<=a by omega);omega
def Hq{α:Type}(f:Nat->α)(lf:List Int):Nat->List α
 |0=>[]
 |j+1=>if 0<=lf.getD j 0 then Hq f lf j++[f j]else Hq f lf j
theorem rJ{α:Type}(f:Nat->α){b:List Bool}{lf:List Int}(h:LF b lf):∀j,j<=b.length->(Hq f lf j).length=(b.take j).count true
 |0,_=>by simp[Hq]
 |j+1,hj=>by
  have ih:=rJ f h j (by omega);have hi:=h.iff (a:=j) (by omega);rw[zS (by omega),Hq]
  grind
theorem n8{α:Type}(f:Nat->α){b:List Bool}{lf:List Int}(h:LF b lf):∀j,j<=b.length->∀(k:Nat) (x:α),(Hq f lf j)[k]?=some x↔∃a,a<j/\lf.getD a 0=(k:Int)/\x=f a
 |0,_,k,x=>by simp[Hq]
 |j+1,hj,k,x=>by
  have ih:=n8 f h j (by omega) k x;have hl:=rJ f h j (by omega);have hi:=h.iff (a:=j) (by omega);have hg:=h.get j (by omega);rw[Hq]
  grind
theorem Jx{α:Type}(f:Nat->α)(h:LF b lf)(hj:j<=b.length){x:α}(hx:x∈Hq f lf j):∃a,a<j/\0<=lf.getD a 0/\x=f a:=by
 obtain⟨k,hk⟩:=List.mem_iff_getElem?.1 hx;obtain⟨a,h1,h2,h3⟩:=(n8 f h j hj k x).1 hk
 grind
theorem KI(p:PD)(av lf:List Int):∀j,nT p av lf j=Hq (λj=>(av.getD (p.st j).1.toNat 0,av.getD (p.st j).2.toNat 0)) lf j
 |0=>rfl
 |j+1=>by rw[nT,Hq,KI p av lf j]
abbrev jW(p:PD)(lf:List Int)(j:Nat):List Nd:=Hq (λj=>lK p j (lf.getD j 0)) lf j
theorem Ho{p:PD}(h:LF b lf)(hj:j<b.length)(h0:0<=lf.getD j 0):lK p j (lf.getD j 0)∉jW p lf j:=λhx=>by
 obtain⟨a,h1,h2,h3⟩:=Jx _ h (by omega) hx;have e:lf.getD j 0=lf.getD a 0:=congrArg Nd.a h3;have:=h.inj hj (by omega) h0 e;omega
theorem J4{p:PD}{b:List Bool}{lf:List Int}(h:LF b lf):∀j,j<=b.length->(jW p lf j).Nodup
 |0,_=>List.nodup_nil
 |j+1,hj=>by
  have ih:=J4 (p:=p) h j (by omega);show(if _ then _ else _:List Nd).Nodup;split
  ·rename_i h0
   refine List.nodup_append.2 ⟨ih,by simp,λx hx y hy e=>?_⟩;rw[ad8]at hy;subst e;subst hy;exact Ho h (by omega) h0 hx
  omega
theorem Kn{p:PD}{b:List Bool}{lf:List Int}(h:LF b lf){t:Nat}(ht:t=1\/t=2){c:CS}(hc:c.upto t)(hs:c.sec t=[])(h2:∀x∈c.A0,x.op≠2):∀j,j<=b.length->mX p lf t c j=c.iD t (jW p lf j)
 |0,_=>(CS.On c t).symm
 |j+1,hj=>by
  rw[mX,Kn h ht hc hs h2 j (by omega)];show _=c.iD t (if _ then _ else _)
  by_cases h0:0<=lf.getD j 0
  ·rw[if_pos h0,if_pos h0,CS.tB]
   ·rw[<-CS.add_eq,CS.MH]
   ·rw[CS.Oy,hs,adM,CS.Sg c (by omega)];exact⟨Ho h (by omega) h0,λhx=>h2 _ hx rfl⟩
  grind
def C7(p:PD):Nat->List Nd
 |0=>[]
 |j+1=>C7 p j++[m8 p j]
theorem tL(p:PD):∀j,(C7 p j).length=j
 |0=>rfl
 |j+1=>by rw[C7,ac8,tL p j];rfl
theorem yl(p:PD):∀j k (x:Nd),(C7 p j)[k]?=some x↔k<j/\x=m8 p k
 |0,k,x=>by simp[C7]
 |j+1,k,x=>by
  have ih:=yl p j k x;have hl:=tL p j;rw[C7]
  grind
theorem Ey(p:PD)(j:Nat):m8 p j∉C7 p j:=λhx=>by
 obtain⟨k,hk⟩:=List.mem_iff_getElem?.1 hx;obtain⟨h1,h2⟩:=(yl p j k _).1 hk;have:(j:Int)=k:=congrArg Nd.a h2;omega
theorem Ii(p:PD):∀j,(C7 p j).Nodup
 |0=>List.nodup_nil
 |j+1=>by
  refine List.nodup_append.2 ⟨Ii p j,by simp,λx hx y hy e=>?_⟩;rw[ad8]at hy;subst e;subst hy;exact Ey p j hx
theorem ya(p:PD):∀j,qw p ⟨[],[],[]⟩ j=⟨C7 p j,[],[]⟩
 |0=>rfl
 |j+1=>by
  rw[qw,ya p j,CS.tB ⟨Ey p j,Ey p j⟩];rfl
end Go.Am
namespace Go.Am
open Go.Am.Ty Go.Proofs N
variable {L:List Nd}{n fr:Nat}{lv:Key->LB}{x:Nd}{k:Key}
def Im(o:Nat):Option Nat->Int
 |some i=>((o+i:Nat):Int)
 |none=>-1
def wk(L:List Nd)(fr n:Nat)(x:Nd):Int:=Im fr (dg x ((L.take n).drop fr))
theorem KA{n:Nd}:∀{l:List Nd}{i:Nat},l[i]?=some n->(∀j,j<i->l[j]?≠some n)->dg n l=some i
 |[],_,h,_=>by cases h
 |m::l,0,h,_=>by
  have e:m=n:=by simpa using h
  unfold dg;grind
 |m::l,i+1,h,h2=>by
  have e:n≠m:=λe=>h2 0 (by omega) (by simp[e])
  unfold dg;rw[if_neg e,KA (l:=l) (i:=i) (by grind) λj hj=>by grind];rfl
theorem WX(L:List Nd)(fr n i:Nat):((L.take n).drop fr)[i]?=if fr+i<n then L[fr+i]? else none:=by
 grind
theorem UG{i:Nat}(h1:fr<=i)(h2:i<n)(h3:L[i]?=some x)(h4:∀j,fr<=j->j<i->L[j]?≠some x):wk L fr n x=i:=by
 have e:dg x ((L.take n).drop fr)=some (i-fr):=by
  refine KA ?_ λj hj=>?_
  ·grind
  ·grind
 unfold wk;rw[e];show((fr+(i-fr):Nat):Int)=i;omega
theorem Ut(h4:∀j,fr<=j->j<n->L[j]?≠some x):wk L fr n x = -1:=by
 have e:dg x ((L.take n).drop fr)=none:=j6.2 λhx=>by
  obtain⟨i,hi⟩:=List.mem_iff_getElem?.1 hx
  grind
 unfold wk;rw[e];rfl
theorem FH:∀(L:List Nd) (i:Nat),(iQ L).drop (i*7)=iQ (L.drop i)
 |L,0=>by simp
 |[],i+1=>by simp[iQ]
 |n::L,i+1=>by
  rw[Av,show(i+1)*7=7+i*7 by omega,<-aeb];exact FH L i
theorem lpP{own fz:Bool}{T':TypeId}{cs:List CV}{sz:Nat}(h:lv k=.cells own fz T' cs)(hn:n<=1000000):dm prog 24 lv (.c (.aE k 0 n sz))=some (.c (.d (.int .i64 n)),[],[k],True):=by
 have hT:(fk prog 24).isSome=true:=by simp
 have h2:ku prog 24 lv (.c (.aE k 0 n sz))=some (n:Int):=by
  unfold ku;simp only[h,hT,if_true]
 have h3:kQ (.c (.aE k 0 n sz)) (n:Int)=True:=eq_true (by simp[kQ];omega);unfold dm;simp only[h2,h3];rfl
theorem eqN(n m:Nd):aK prog .eql 40 n.A m.A=some (.c (.d (.bool (decide (n=m)))),[],[],True):=by
 have h:=TI (NZ n) (NZ m)
 have h2:um n.e m.e=decide (n=m):=by
  obtain⟨a1,a2,a3,a4,a5,a6,v⟩:=n;obtain⟨b1,b2,b3,b4,b5,b6,w⟩:=m;rw[Bool.eq_iff_iff];simp[um,Xv,Nd.e]
 rw[h2]at h;have hg:prog.eqGuardType prog.depth 40=false:=by kernel_rfl
 unfold aK;have h3:Bw prog 20 40 n.A m.A=some (decide (n=m)):=h;simp[hg,oy,h3]
theorem Gs(m:Int)(L:List Nd)(fr n:Nat)(hn:n<=L.length)(hL:L.length<=20000)(hfr:fr<=20000)(x:Nd):
 aD prog (GG m) 24 [.c (.aE 0 0 n 7),.c (.d (.int .i64 fr)),x.A] [.cells false false 40 (iQ L)] (.ret (.c (.d (.int .i64 (wk L fr n x)))) [.cells false false 40 (iQ L)] []):=by
 refine aD.SW func24 rfl (rL _) λ_=>?_
 have hfin:∀(fr':Nat->AV) (κ:Nat) (c:Ctx) (lv:Key->LB) (r:Int),c.P=prog->c.jd=au (λ_=>.hole) 0 (.cells false false 40 (iQ L))->fr' 6=.c (.d (.int .i64 r))->lv 0=.cells false false 40 (iQ L)->lv 9=.hole->I8 c Tryz.f24 (.c (.d (.int .i64 r))) [.cells false false 40 (iQ L)] [] .ret ⟨fr',lv⟩ κ:=by
  intro fr' κ c lv r hP hl0 z6 h0 h9;refine⟨[(0,0,.cells false false 40 (iQ L))],9,?_,by simp,by simp,h9,?_,?_,rfl,?_⟩
  ·rw[rL];rfl
  ·intro k hk;simp only[hl0,au]at hk;split at hk
   ·rename_i h0;subst h0;exact .inr (by simp[aQ])
   grind
  ·simp_all
  ·rw[hP];simp[Tryz.f24,eD,l8,pE,z6]
 refine aar ?_;refine aae λK hK=>aar ?_;refine abd ?_
 refine aco (λ(i:Nat)=>⟨aJ [(0,.c (.aE 0 0 n 7)),(5,.c (.ptr 1000 0)),(7,.c (.d (.int .i64 i)))],au (au (λ_=>.hole) 0 (.cells false false 40 (iQ L))) 1000 (.cells true false 40 (x.e.map CV.d))⟩) 1001
  (λi=>fr<=i/\∀j,fr<=j->j<i->j<n->L[j]?≠some x) (λi=>n-i) fr (Le.pq _) ⟨aU _,λj h1 h2=>by omega⟩ ?_
 rintro i ⟨hfi,hall⟩
 try simp only at hfi hall
 have lpn:∀lv:Key->LB,lv 0=.cells false false 40 (iQ L)->dm prog 24 lv (.c (.aE 0 0 n 7))=some (.c (.d (.int .i64 n)),[],[0],True):=λlv h=>lpP h (by omega)
 refine aae λK3 hK3=>acf lpn ?_
 by_cases hlt:i<n
 ·have hlt':(i:Int)<(n:Int):=by omega
  have hil:i<L.length:=by omega
  have hw:=bE (n:=(i:Int)+1) (by omega) (by omega);have hld:List.take 7 (List.drop (i*7) (iQ L))=[CV.d (.int .i64 L[i].op),CV.d (.int .i64 L[i].a),CV.d (.int .i64 L[i].b),CV.d (.int .i64 L[i].c),CV.d (.int .i64 L[i].d),CV.d (.int .i64 L[i].f),CV.d (.str L[i].v)]:=by rw[FH,adV hil,Av];rfl
  have hle8:7<=(iQ L).length-i*7:=by rw[mI];omega
  have hq:=eqN L[i] x;have hle7:i*7+7<=(iQ L).length:=by rw[mI];omega
  obtain⟨y,hy⟩:∃y,L[i]=y:=⟨_,rfl⟩
  rw[hy]at hld hq;refine abz (by simp<;>omega) (aaE (hK3 _ _ (aae λK5 hK5=>abd (aae λK6 hK6=>?_))))
  by_cases hyx:y=x
  ·rw[decide_eq_true hyx]at hq;refine acV mixed (by kernel_rfl) rfl rfl ?_;simp[hlt',hld,hq,hle8];apply hK6;refine abA (aar ?_);have he:wk L fr n x=i:=UG hfi hlt (by grind) λj h1 h2=>hall j h1 h2 (by omega)
   rw[he];exact aaV (hfin _ 0 _ _ _ rfl rfl (by simp) (by simp) (by simp))
  ·rw[decide_eq_false hyx]at hq;refine acV mixed (by kernel_rfl) rfl rfl ?_;simp[hlt',hld,hq,hle8];apply hK6;refine abg (aaE (hK5 _ _ (aaJ ?_)));simp[hw];refine⟨i+1,Le.pq _,⟨by omega,λj h1 h2 h3=>?_⟩,by omega⟩
   grind
 have hlt':¬(i:Int)<(n:Int):=by omega
 have he:wk L fr n x = -1:=Ut λj h1 h2=>hall j h1 (by omega) h2
 refine abD (by simp<;>omega) (abX (hK _ _ (aar ?_)));rw[he];exact aaV (hfin _ 0 _ _ _ rfl rfl (by simp) (by simp) (by simp))
def nS(k:Key)(L:List Nd):CV:=if L=[]then .d .nilsl else .aE k 0 L.length 7
def nH(L:List Nd):LB:=if L=[]then .hole else .cells true false 40 (iQ L)
theorem bY(L:List Nd)(g:Key->Key):(nH L).like (nH L) g:=by
 unfold nH;split
 ·rfl
 simp
theorem PS(k:Key)(L:List Nd)(g:Key->Key):(nS k L).bJ g=nS (g k) L:=by unfold nS;split<;>rfl
theorem C5(k:Key)(L:List Nd)(n:Nd):nS k (L++[n])=.aE k 0 (L.length+1) 7:=by unfold nS;simp
theorem uj(L:List Nd)(n:Nd):nH (L++[n])=.cells true false 40 (iQ (L++[n])):=if_neg (by simp)
theorem dNS(h:lv k=nH L)(hL:L.length<=1000000):∃ks,eJ lv (.c (nS k L))=some (.c (eG (if L=[]then none else some (L.map Nd.e))),ks):=by
 by_cases h0:L=[]
 ·subst h0;exact⟨[],rfl⟩
 ·unfold nS;rw[if_neg h0,if_neg h0];rw[show nH L=_ from if_neg h0]at h;have e1:=qR (lv:=lv) (k:=k) (own:=true) (fz:=false) (T:=40) (es:=L.map Nd.e) (sz:=7) (by rw[AE];exact h) (λe he=>by obtain⟨n,_,rfl⟩:=List.mem_map.1 he;rfl) (by grind);rw[ac5]at e1;exact⟨_,e1⟩
theorem QK{c:Ctx}(hc:c.jd=λ_=>.hole){fr:Nat->AV}{p:PD}(L:List Nd)(k:Key)(l:List (Nat×AV))(hn:([0,k]:List Key).Nodup)(h0:lv 0=.cells true false 27 p.cs)(h1:∀g,(lv k).like (nH L) g)(h9:lv 19=.hole)
 (hl:∀x∈l,x.2.bF=true/\fr x.1=x.2.bJ (aQ [(0,0,.cells true false 27 p.cs),(1,k,nH L)] 19)):Le c ⟨fr,lv⟩ ⟨aJ l,au (au (λ_=>.hole) 0 (.cells true false 27 p.cs)) 1 (nH L)⟩:=by
 refine Le.keys [(0,0,.cells true false 27 p.cs),(1,k,nH L)] 19 l rfl hc (by simp) hn h9 ?_ hl;intro e he;simp only[fy,aa8,or_false]at he;rcases he with rfl|rfl
 ·simp_all
 grind
theorem Te(lv:Key->LB)(h:lv 2=.hole)(a f:Int):ai prog 24 1 [0] lv 2 [.agg [.d (.int .i64 2),.d (.int .i64 a),.d (.int .i64 0),.d (.int .i64 0),.d (.int .i64 0),.d (.int .i64 f),.d (.str [])]]=some (.c (.aE 2 0 1 7),[(2,.cells true false 40 (iQ [⟨2,a,0,0,0,f,[]⟩]))],[],True):=Sx lv 2 h ⟨2,a,0,0,0,f,[]⟩
theorem Xf(a b:CV):eO prog 40 [0,1,5] [.c (.d (.int .i64 2)),.c a,.c b]=some (.agg [.d (.int .i64 2),a,.d (.int .i64 0),.d (.int .i64 0),.d (.int .i64 0),b,.d (.str [])],[],[],True):=by kernel_rfl
theorem BP(m:Int)(p:PD)(hp:p.ok)(hg:p.good)(V:NS)(hV:jn p V):aa prog (GG m) 22 [p.A,.c (.d (.sl (bD V.2)))] (.c (eG (if jW p (bA V.2 0) p.ns=[]then none else some ((jW p (bA V.2 0) p.ns).map Nd.e)))):=by
 have hl:=gQ V.2;have hlb:V.2.length=p.ns:=hV.2;obtain⟨⟨a1,a2,a3,a4⟩,-,⟨c1,c2,c3⟩,-⟩:=eW.1 hg.gen;have hll:=λj hj=>rJ (λa=>lK p a ((bA V.2 0).getD a 0)) hl j hj
 generalize bA V.2 0=lf at*
 refine aa.ed func22 rfl λ_=>aar ?_;refine aar ?_;refine aae λK hK=>aar ?_;refine abd ?_
 refine aco (λ(j:Nat)=>⟨aJ [(1,.c (.d (.sl (bD V.2)))),(2,.c (.ptr 0 0)),(5,.c (nS 1 (jW p lf j))),(6,.c (.d (.int .i64 j)))],au (au (λ_=>.hole) 0 (.cells true false 27 p.cs)) 1 (nH (jW p lf j))⟩) 2
  (λj=>j<=p.ns) (λj=>p.ns-j) 0 (QK rfl _ 1 _ (by decide) (by simp) (λg=>by rfl) (by simp) (by simp[nS,Hq,aQ])) (ac1 _) ?_
 rintro j hj
 try simp only at hj
 have hlj:=hll j (by omega);have hcj:(V.2.take j).count true<=j:=ab8 aej (by grind);refine aae λK3 hK3=>acf @Eb ?_
 by_cases hlt:j<p.ns
 ·have hlt':(j:Int)<(p.ns:Int):=by omega
  have hw:=bE (n:=(j:Int)+1) (by omega) (by omega);have hjV:j<V.2.length:=by omega
  have hxv:=λlv=>Ct (T:=62) (by simp) lv V.2 hjV
  have hgt:=hl.get j hjV;have hst:jW p lf (j+1)=if 0<=lf.getD j 0 then jW p lf j++[lK p j (lf.getD j 0)]else jW p lf j:=rfl
  have hin:cS V.2 j↔V.2[j]=true:=by
   unfold cS;rw[ac2,bp hjV];rfl
  rw[<-hlj]at hgt;obtain⟨L,hL⟩:∃L,jW p lf j=L:=⟨_,rfl⟩
  simp only[hL]at hgt hst hlj⊢;obtain⟨s1,s2,s3,s4⟩:=vS hg hlt;have hx:=λlv=>Tt hp lv j hlt
  obtain⟨q,hq⟩:∃q:Nat,(p.st j).1=q:=⟨(p.st j).1.toNat,by omega⟩
  have hxn:=λlv=>Er p lv hp q (by omega)
  refine abz (by simp<;>omega) (aaE (hK3 _ _ (aae λK5 hK5=>abd (aae λK6 hK6=>?_))));obtain⟨b,hb⟩:∃b,V.2[j]=b:=⟨_,rfl⟩
  simp only[hb]at hxv hin
  cases b with
  |false=>
   rw[if_neg (λh=>by grind)]at hgt;rw[hgt,if_neg (by decide)]at hst;refine acC hxv (hK6 _ _ ?_);refine abg (aaE (hK5 _ _ (aaJ ?_)));simp[hw];refine⟨j+1,?_,by omega,by omega⟩;rw[hst];exact QK rfl _ 1 _ (by decide) (by simp) (λg=>by simp;exact bY _ g) (by simp) (by simp[PS,aQ])
  |true=>
   rw[if_pos (hin.2 rfl)]at hgt
   have hstn:lK p j (lf.getD j 0)=⟨2,L.length,0,0,0,(p.nd q).f,[]⟩:=by
    unfold lK;rw[hgt,hq,ac9]
   rw[hstn,hgt,if_pos (by omega)]at hst;refine acC hxv (hK6 _ _ ?_);refine abA ?_
   by_cases hL0:L=[]
   ·subst hL0;have e0:nS 1 []=CV.d .nilsl:=rfl;have e1:nH []=LB.hole:=rfl;have lp0:∀lv,dm prog 24 lv (.c (.d .nilsl))=some (.c (.d (.int .i64 0)),[],[],True):=λlv=>cE (o:=none) (by simp)
    refine acs mixed (by kernel_rfl) rfl ?_;simp[e0,e1,lp0,hx,hq,hxn,Xf,Te,dS,keyOf,vm,qc,-ai];refine⟨by kernel_rfl,?_⟩;apply hK5;refine aaJ ?_;simp[hw];refine⟨j+1,?_,by omega,by omega⟩;rw[hst,C5];exact QK rfl _ 3 _ (by decide) (by simp) (λg=>by rw[uj];simp) (by simp) (by simp[aQ])
   ·have e0:nS 1 L=.aE 1 0 L.length 7:=if_neg hL0;have e1:nH L=.cells true false 40 (iQ L):=if_neg hL0;have hLb:(L.length:Int)<=9223372036854775807:=by omega
    refine acs mixed (by kernel_rfl) rfl ?_;simp[e0,e1,hLb,hx,hq,hxn,Xf,Te,dS,keyOf,qc,mI,-ai]
    repeat refine aL ?_
    refine⟨by kernel_rfl,?_⟩;apply hK5;refine aaJ ?_;simp[hw];refine⟨j+1,?_,by omega,by omega⟩;rw[hst,C5];exact QK rfl _ 3 _ (by decide) (by simp) (λg=>by rw[uj,qY];simp) (by simp) (by simp[aQ])
 have hje:j=p.ns:=by omega
 subst hje;refine abg (abX (hK _ _ (aar ?_)));have hlj':=hll p.ns (by omega);change (jW p lf p.ns).length=_ at hlj';obtain⟨ks,hd⟩:=dNS (lv:=au (au (λ_=>.hole) 0 (.cells true false 27 p.cs)) 1 (nH (jW p lf p.ns))) (k:=1) (L:=jW p lf p.ns) (by simp) (by omega);exact aaV (iR.tmp rfl (X:=.c (nS 1 (jW p lf p.ns))) (ks:=ks) (by simp) hd)
end Go.Am
namespace Go.Am
open N
variable {p:PD}{i t n a u k:Nat}{c d:CS}{V:NS}{lf av l bv:List Int}{x b:Int}{m:Nd}{late:Prop}
theorem mO{n:Nd}{m:List Int}(hop:1<=n.op/\n.op<=15)(h:∀x∈aN n,l.getD x.toNat 0=m.getD x.toNat 0):n.dw l=n.dw m:=by
 have e1:aN n=n.l4.take (bT n.op):=if_pos hop;rw[e1]at h;obtain⟨op,a,b,c,d,f,v⟩:=n;show(⟨op,nv l (bT op) 4 0 a,nv l (bT op) 4 1 b,nv l (bT op) 4 2 c,nv l (bT op) 4 3 d,f,v⟩:Nd)=⟨op,nv m (bT op) 4 0 a,nv m (bT op) 4 1 b,nv m (bT op) 4 2 c,nv m (bT op) 4 3 d,f,v⟩
 have h:∀x∈[a,b,c,d].take (bT op),l.getD x.toNat 0=m.getD x.toNat 0:=h;generalize bT op=kk at*
 have key:∀(j:Nat) (x:Int),([a,b,c,d])[j]?=some x->nv l kk 4 j x=nv m kk 4 j x:=λj x hj=>by
  unfold nv;split
  ·rename_i hh
   exact h x (List.mem_iff_getElem?.2 ⟨j,by grind⟩)
  ·rfl
 grind
theorem J3(hg:p.good)(hi:i<p.nn)(hx:x∈aN (p.nd i)):fN p x=0\/fN p x=fN p i:=by
 obtain⟨h1,-,-,-,-,-,-,h8⟩:=qA.1 (hg.nodes i hi)
 by_cases h3:(p.nd i).op=3
 ·unfold aN at hx;rw[if_pos h1,h3]at hx
  cases hx
 ·have:=List.all_eq_true.1 (h8 h3) x hx;unfold dH at this
  grind
theorem TF(hg:p.good)(ha:a<p.ns):(p.nd (p.st a).2.toNat).f=(p.nd (p.st a).1.toNat).f/\∀j,j<p.nn->(p.nd j).op=2->(p.nd j).a=a->(p.nd j).f=(p.nd (p.st a).1.toNat).f:=by
 have h:=hg.states a ha;obtain⟨r1,r2,r3,r4⟩:=vS hg ha;unfold tS at h;rw[if_neg (not_not_intro ⟨r1,r2⟩),if_neg (not_not_intro ⟨r3,r4⟩)]at h
 by_cases c1:(p.nd (p.st a).2.toNat).f≠(p.nd (p.st a).1.toNat).f
 ·omega
 rw[if_neg c1]at h;refine⟨Classical.not_not.1 c1,λj hj h2 h3=>?_⟩
 by_cases c2:(List.range p.nn).any (λj=>jm a (p.nd (p.st a).1.toNat).f (p.nd j))=true
 ·grind
 ·refine adK λhf=>c2 (List.any_eq_true.2 ⟨j,List.mem_range.2 hj,?_⟩)
  unfold jm
  grind
theorem Vi{i:Int}{s:Int×Int}(h1:0<=s.1/\s.1<p.head)(h2:0<=s.2/\s.2<p.tail)(h3:(p.nd s.2.toNat).f=(p.nd s.1.toNat).f)(h4:∀j,j<p.nn->(p.nd j).op=2->(p.nd j).a=i->(p.nd j).f=(p.nd s.1.toNat).f):tS p i s=0:=by
 unfold tS;rw[if_neg (not_not_intro h1),if_neg (not_not_intro h2),if_neg (not_not_intro h3),if_neg];intro h;obtain⟨j,hj,h⟩:=List.any_eq_true.1 h;unfold jm at h
 grind
theorem abP{x:In}(h:uR p x=0):0<=x.f/\x.f<p.nf:=by
 unfold uR at h;omega
theorem SK(hg:p.good)(ht:t<3)(h1:bB p t<=i)(h2:i<bB p (t+1)):fN p i=t:=by
 obtain⟨_,_,⟨c1,c2,c3⟩,_⟩:=eW.1 hg.gen;unfold fN;obtain rfl|rfl|rfl:t=0\/t=1\/t=2:=by omega
 ·simp only[bB]at h1 h2;omega
 ·simp only[bB]at h1 h2;omega
 ·simp only[bB]at h1 h2;omega
theorem mW.WO(h:mW p V)(hi:i<p.nn)(hv:cS V.1 i)(hx:x∈aN (p.nd i)):cS V.1 x.toNat:=
 (h.cl i hi hv).1 _ (List.mem_append.2 (.inl (List.mem_map.2 ⟨x,hx,rfl⟩)))
theorem mW.st(h:mW p V)(hg:p.good)(ha:cS V.2 a):a<p.ns/\cS V.1 (p.st a).1.toNat/\cS V.1 (p.st a).2.toNat:=by
 obtain⟨x,h1,h2,h3,rfl⟩:=h.m2 a ha;have h4:=(h.cl x h1 h2).1;have e:∀k∈[(p.st (p.nd x).a.toNat).1.toNat,(p.st (p.nd x).a.toNat).2.toNat],cS V.1 k:=λk hk=>h4 k (by unfold Hp;grind)
 exact⟨by have:=(jh hg h1).2.1 h3;omega,e _ (by simp),e _ (by simp)⟩
structure CS.Ex(c d:CS):Prop where
 get:∀k m,c.L[k]?=some m->d.L[k]?=some m/\d.sc k=c.sc k/\d.off (c.sc k)=c.off (c.sc k)
theorem CS.Ex.refl(c:CS):c.Ex c:=⟨λ_ _ h=>⟨h,rfl,rfl⟩⟩
theorem CS.nF(c:CS){s:Nat}(hs:s<3)(l:List Nd)(hu:u<=s):(c.iD s l).off u=c.off u:=by
 obtain rfl|rfl|rfl:s=0\/s=1\/s=2:=by omega
 ·obtain rfl:u=0:=by omega
  rfl
 ·obtain rfl|rfl:u=0\/u=1:=by omega
  all_goals rfl
 rfl
theorem CS.X3{s:Nat}(h:c.upto s)(hk:k<c.L.length):c.sc k<=s:=by
 rw[CS.xq]at hk;unfold CS.sc;split
 ·omega
 ·split
  ·rcases ae1 s with h0|h0
   ·have:=congrArg List.length (h.1 h0);grind
   ·omega
  ·by_cases h1:s<=1
   ·have:=congrArg List.length (h.2 h1);grind
   ·omega
theorem CS.Ks{s:Nat}(hs:s<3)(h:c.upto s)(l:List Nd):c.Ex (c.iD s l):=by
 obtain⟨-,h2,h3,-⟩:=CS.qW hs h l;refine⟨λk m hk=>?_⟩;have hl:=(List.getElem?_eq_some_iff.1 hk).1;exact⟨by grind,h3 k hl,CS.nF c hs l (CS.X3 h hl)⟩
def Wo(p:PD)(lf:List Int)(c:CS)(av:List Int)(i:Nat):Prop:=
 ∃(k:Nat) (m:Nd),av.getD i 0=(k:Int)/\c.L[k]?=some m/\(c.sc k=0\/(c.sc k:Int)=fN p i)/\m.f=(p.nd i).f /\
  ((p.nd i).op=1->m=m8 p (p.nd i).a.toNat/\k=(p.nd i).a.toNat)/\((p.nd i).op=2->m=lK p (p.nd i).a.toNat (lf.getD (p.nd i).a.toNat 0))/\((p.nd i).op≠1->(p.nd i).op≠2->m=(p.nd i).dw av)
def Ox(p:PD)(V:NS)(lf:List Int)(n:Nat)(c:CS)(av:List Int)(k:Nat)(m:Nd):Prop:=
 (k<p.ni/\m=m8 p k/\c.sc k=0) \/
 (∃a,a<p.ns/\0<=lf.getD a 0/\m=lK p a (lf.getD a 0)/\1<=c.sc k/\(k:Int)=c.off (c.sc k)+lf.getD a 0) \/
 (∃i,i<n/\cS V.1 i/\(p.nd i).op≠1/\(p.nd i).op≠2/\av.getD i 0=(k:Int)/\m=(p.nd i).dw av/\(∀x∈aN m,∃y:Nat,x=y/\y<k/\(c.sc y=0\/c.sc y=c.sc k))/\(c.sc k:Int)=fN p i)
structure CI(p:PD)(V:NS)(lf:List Int)(t n:Nat)(c:CS)(av:List Int):Prop where
 len:av.length=p.nn
 up:c.upto t
 nd:c.nd
 Bc:∀k,k<p.ni->c.L[k]?=some (m8 p k)/\c.sc k=0
 stp:∀u,1<=u->u<=t->∀a,a<p.ns->0<=lf.getD a 0->c.L[c.off u+(lf.getD a 0).toNat]?=some (lK p a (lf.getD a 0))/\c.sc (c.off u+(lf.getD a 0).toNat)=u
 ats:∀i,i<n->cS V.1 i\/(p.nd i).op=1->Wo p lf c av i
 pos:∀k m,c.L[k]?=some m->Ox p V lf n c av k m
theorem Wo.mono(hg:p.good)(hi:i<n)(hn:i<p.nn)(ha:∀j,j<n->bv.getD j 0=av.getD j 0)(hx:c.Ex d)(h:Wo p lf c av i):Wo p lf d bv i:=by
 obtain⟨k,m,h1,h2,h3,h4,h5,h6,h7⟩:=h;obtain⟨g1,g2,-⟩:=hx.get k m h2;refine⟨k,m,by grind,g1,by omega,h4,h5,h6,λn1 n2=>?_⟩;rw[h7 n1 n2];refine mO (jh hg hn).1 λx hx=>?_;have:=(jh hg hn).2.2 x hx
 grind
theorem Ox.mono(hg:p.good){n':Nat}(hV:V.1.length=p.nn)(hn:n<=n')(hk:c.L[k]?=some m)(ha:∀j,j<n->bv.getD j 0=av.getD j 0)(hx:c.Ex d)(h:Ox p V lf n c av k m):Ox p V lf n' d bv k m:=by
 obtain⟨-,g2,g3⟩:=hx.get k m hk;rcases h with⟨h1,h2,h3⟩|⟨a,h1,h2,h3,h4,h5⟩|⟨i,h1,h2,h3,h4,h5,h6,h7,h8⟩
 ·exact .inl ⟨h1,h2,by omega⟩
 ·exact .inr (.inl ⟨a,h1,h2,h3,by omega,by grind⟩)
 ·have hi:i<p.nn:=hV▸h2.lt;refine .inr (.inr ⟨i,by omega,h2,h3,h4,by grind,?_,λx hx'=>?_,by omega⟩)
  ·rw[h6];refine mO (jh hg hi).1 λx hx=>?_;have:=(jh hg hi).2.2 x hx
   grind
  ·obtain⟨y,e1,e2,e3⟩:=h7 x hx';have hkl:=(List.getElem?_eq_some_iff.1 hk).1;obtain⟨-,q2,-⟩:=hx.get y _ (bp (by omega:y<c.L.length))
   grind
theorem getD_set_ne{j:Nat}(x:Int)(h:j≠n):(l.set n x).getD j 0=l.getD j 0:=by
 grind
theorem qu(x:Int)(h:n<l.length):(l.set n x).getD n 0=x:=by
 grind
theorem CI.set(hg:p.good)(hV:mW p V)(h:CI p V lf t n c av)(hn:n<p.nn)(hx:c.Ex d)(hup:d.upto t)(hnd:d.nd)(hat:cS V.1 n\/(p.nd n).op=1->Wo p lf d (av.set n x) n)
 (hpos:∀k m,c.L.length<=k->d.L[k]?=some m->Ox p V lf (n+1) d (av.set n x) k m):CI p V lf t (n+1) d (av.set n x):=by
 have ha:∀j,j<n->(av.set n x).getD j 0=av.getD j 0:=λj hj=>getD_set_ne x (by omega)
 refine⟨by rw[aep];exact h.len,hup,hnd,λk hk=>?_,λu h1 h2 a h3 h4=>?_,λi hi hin=>?_,λk m hk=>?_⟩
 ·obtain⟨h1,h2⟩:=h.Bc k hk;obtain⟨g1,g2,-⟩:=hx.get _ _ h1
  grind
 ·obtain⟨e1,e2⟩:=h.stp u h1 h2 a h3 h4;obtain⟨g1,g2,g3⟩:=hx.get _ _ e1
  grind
 ·by_cases e:i=n
  ·grind
  ·exact(h.ats i (by omega) hin).mono hg (n:=n) (by omega) (by omega) ha hx
 ·by_cases hkl:k<c.L.length
  ·have e:c.L[k]?=some m:=by
    obtain⟨g1,-,-⟩:=hx.get k _ (bp hkl);rw[bp hkl,<-hk,g1]
   exact(h.pos k m e).mono hg hV.len.1 (by omega) e ha hx
  grind
theorem FR(p:PD)(V:NS)(lf:List Int)(fst:Nat)(ht:t<3)(c:CS)(av:List Int)(i:Nat)(hu:u<=t):(jS p V lf fst t c av i).2.off u=c.off u:=by
 unfold jS
 (repeat' split)<;>first|rfl|skip
 unfold CS.put;split
 ·rfl
 ·simp only;rw[CS.add_eq];exact CS.nF c ht _ hu
theorem CI.node(hg:p.good)(hV:mW p V)(hl:LF V.2 lf)(ht:t<3)(h:CI p V lf t n c av)(hn:n<p.nn)(hs:fN p n=t):
 CI p V lf t (n+1) (jS p V lf (c.off t) t c av n).2 (av.set n (jS p V lf (c.off t) t c av n).1):=by
 obtain⟨hop,hst,hkd⟩:=jh hg hn;obtain⟨-,-,-,d4,d5,d6,-,-⟩:=qA.1 (hg.nodes n hn);have hln:n<av.length:=by rw[h.len];exact hn
 have hsame:∀{x:Int},(cS V.1 n\/(p.nd n).op=1->Wo p lf c (av.set n x) n)->CI p V lf t (n+1) c (av.set n x):=λ{x} hat=>
  h.set hg hV hn (.refl c) h.up h.nd hat λk m hk e=>by grind
 unfold jS
 by_cases c1:(p.nd n).op=1
 ·rw[if_pos c1];refine hsame λ_=>?_;have ha:=d4 c1;obtain⟨e1,e2⟩:=h.Bc (p.nd n).a.toNat (by omega);exact⟨(p.nd n).a.toNat,_,by grind,e1,.inl e2,d5 c1,λ_=>⟨rfl,rfl⟩,λq=>absurd q (by omega),λq=>absurd c1 q⟩
 rw[if_neg c1]
 by_cases c2:(p.nd n).op=2
 ·rw[if_pos c2];have ha:=hst c2;have han:(p.nd n).a.toNat<p.ns:=by omega
  have hlb:V.2.length=p.ns:=hV.len.2
  by_cases c3:lf.getD (p.nd n).a.toNat 0<0
  ·rw[if_pos c3];refine hsame λhin=>?_;rcases hin with hin|hin
   ·have:=(hl.iff (a:=(p.nd n).a.toNat) (by omega)).2 ((hV.cl n hn hin).2 c2);omega
   omega
  ·rw[if_neg c3];refine hsame λ_=>?_
   have ht1:1<=t:=by
    have:=(d6 c2).1;unfold fN at hs;rw[if_neg this]at hs;split at hs<;>omega
   obtain⟨e1,e2⟩:=h.stp t ht1 (aU _) (p.nd n).a.toNat han (by omega);refine⟨_,_,by grind,e1,.inr (by rw[e2,hs]),?_,λq=>absurd q c1,λ_=>rfl,λ_ q=>absurd c2 q⟩;show(p.nd (p.st (p.nd n).a.toNat).1.toNat).f=_;exact((TF hg han).2 n hn c2 (by omega)).symm
 rw[if_neg c2]
 by_cases c3:V.1.getD n false=false
 ·rw[if_pos c3];refine hsame λhin=>?_;rcases hin with hin|hin
  ·unfold cS at hin;grind
  omega
 rw[if_neg c3]
 have hin:cS V.1 n:=by
  unfold cS
  cases hb:V.1.getD n false with
  |true=>rfl
  |false=>grind
 have hren:∀x:Int,(p.nd n).dw (av.set n x)=(p.nd n).dw av:=λx=>mO hop λy hy=>by
  grind
 unfold CS.put
 cases hf:c.find t ((p.nd n).dw av)with
 |some k=>
  obtain⟨e1,e2⟩:=CS.La ht hf;refine hsame λ_=>⟨k,_,qu _ hln,e1,e2.imp id λe=>by rw[e,hs],rfl,λq=>absurd q c1,λq=>absurd q c2,λ_ _=>(hren _).symm⟩
 |none=>
  simp only;rw[CS.add_eq];have hno:=CS.vK.1 hf;obtain⟨a1,a2,a3,a4⟩:=CS.qW ht h.up [(p.nd n).dw av]
  have hget:(c.iD t [(p.nd n).dw av]).L[c.L.length]?=some ((p.nd n).dw av):=by
   rw[a2,afE (aU _),aes];rfl
  have hsc:(c.iD t [(p.nd n).dw av]).sc c.L.length=t:=a4 _ (aU _) (by simp);refine h.set hg hV hn (CS.Ks ht h.up _) a1 (CS.Ke ht h.up h.nd (by simp) λx hx=>by grind) (λ_=>?_) λk m hk hm=>?_
  ·exact⟨c.L.length,_,qu _ hln,hget,.inr (by omega),rfl,λq=>absurd q c1,λq=>absurd q c2,λ_ _=>(hren _).symm⟩
  ·have hkl:=(List.getElem?_eq_some_iff.1 hm).1;rw[a2,ac8]at hkl;obtain rfl:k=c.L.length:=by grind
   rw[hget]at hm;obtain rfl:=adU hm;refine .inr (.inr ⟨n,by omega,hin,c1,c2,qu _ hln,(hren _).symm,λx hx=>?_,by omega⟩);rw[G8 av hop]at hx;obtain⟨y,hy,rfl⟩:=List.mem_map.1 hx;have hyr:=hkd y hy;obtain⟨k',m',g1,g2,g3,-⟩:=h.ats y.toNat (by omega) (.inl (hV.WO hn hin hy));have hk':=(List.getElem?_eq_some_iff.1 g2).1;refine⟨k',g1,hk',?_⟩;rw[a3 k' hk',hsc];have hss:=J3 hg hn hy
   grind
theorem CI.Q6(hg:p.good)(hV:mW p V)(hl:LF V.2 lf)(ht:t+1=1\/t+1=2)(h:CI p V lf t n c av)(he:c.emp (t+1)):
 CI p V lf (t+1) n (eN p lf (t+1) c) av/\eN p lf (t+1) c=c.iD (t+1) (jW p lf p.ns)/\c.off (t+1)=c.L.length:=by
 have hlb:V.2.length=p.ns:=hV.len.2;have hll:lf.length=p.ns:=hl.len.trans hlb;have hup:=CS.kq he;have ht3:t+1<3:=by omega
 have h2:∀x∈c.A0,x.op≠2:=λx hx=>by
  obtain⟨k,hk⟩:=List.mem_iff_getElem?.1 hx;obtain⟨e1,e2⟩:=CS.T4 hk;rcases h.pos k x e1 with⟨-,rfl,-⟩|⟨a,-,-,-,q,-⟩|⟨i,-,-,-,q,-,rfl,-,-⟩
  ·show(1:Int)≠2;decide
  ·omega
  ·exact q
 have e:eN p lf (t+1) c=c.iD (t+1) (jW p lf p.ns):=by
  unfold eN;rw[if_neg (by omega),hll];exact Kn hl ht hup (CS.Ds ht3 he) h2 p.ns (by omega)
 have hoff:c.off (t+1)=c.L.length:=by
  rw[CS.xq];obtain⟨e0,e1,e2⟩:=he;rcases ht with q|q
  ·obtain rfl:t=0:=by omega
   have q1:=e1 (by omega);have q2:=e2 (by omega);show c.A0.length=_
   grind
  ·obtain rfl:t=1:=by omega
   have q2:=e2 (by omega);show c.A0.length+c.A1.length=_
   grind
 refine⟨?_,e,hoff⟩;rw[e];obtain⟨a1,a2,a3,a4⟩:=CS.qW ht3 hup (jW p lf p.ns);have hx:=CS.Ks ht3 hup (jW p lf p.ns);have hof:(c.iD (t+1) (jW p lf p.ns)).off (t+1)=c.L.length:=(CS.nF c ht3 _ (aU _)).trans hoff;have hns:p.ns<=V.2.length:=by omega
 refine⟨h.len,a1,CS.Ke ht3 hup h.nd (J4 hl _ hns) λx hx=>?_,λk hk=>?_,λu h1 h2 a h3 h4=>?_,λi hi hin=>?_,λk m hk=>?_⟩
 ·rw[CS.Ds ht3 he];obtain⟨a,-,-,rfl⟩:=Jx _ hl hns hx;exact⟨by simp,λq=>h2 _ q rfl⟩
 ·obtain⟨h1,h2⟩:=h.Bc k hk
  grind
 ·by_cases hu:u<=t
  ·obtain⟨e1,e2⟩:=h.stp u h1 hu a h3 h4;obtain⟨g1,g2,g3⟩:=hx.get _ _ e1
   grind
  ·obtain rfl:u=t+1:=by omega
   have hq:=(n8 (λj=>lK p j (lf.getD j 0)) hl p.ns hns (lf.getD a 0).toNat (lK p a (lf.getD a 0))).2 ⟨a,h3,by omega,rfl⟩
   grind
 ·by_cases hin':i<p.nn
  ·exact(h.ats i hi hin).mono hg hi hin' (λ_ _=>rfl) hx
  ·exfalso;rcases hin with q|q
   ·have:=q.lt;rw[hV.len.1]at this;omega
   ·have e:p.nd i=default:=by
     unfold PD.nd;rw[ac2,ae0 (by unfold PD.nn at hin';omega)];rfl
    rw[e]at q;exact absurd q (by decide)
 ·by_cases hkl:k<c.L.length
  ·have e:c.L[k]?=some m:=by
    obtain⟨g1,-,-⟩:=hx.get k _ (bp hkl);rw[bp hkl,<-hk,g1]
   exact(h.pos k m e).mono hg hV.len.1 (aU _) e (λ_ _=>rfl) hx
  ·have hkk:=(List.getElem?_eq_some_iff.1 hk).1;rw[a2,ac8]at hkk;have hsc:=a4 k (by omega) hkk;rw[a2,afE (by omega)]at hk;obtain⟨a,q1,q2,q3⟩:=(n8 _ hl p.ns hns _ _).1 hk;exact .inr (.inl ⟨a,q1,by omega,q3,by omega,by grind⟩)
theorem CI.sec(hg:p.good)(hV:mW p V)(hl:LF V.2 lf){s:CS×List Int}(ht:t<3)(h:CI p V lf t (bB p t) s.1 s.2):∀k,bB p t+k<=bB p (t+1)->bB p (t+1)<=p.nn ->
 CI p V lf t (bB p t+k) (fH p V lf (s.1.off t) t s (bB p t) k).1 (fH p V lf (s.1.off t) t s (bB p t) k).2/\∀u,u<=t->(fH p V lf (s.1.off t) t s (bB p t) k).1.off u=s.1.off u
 |0,_,_=>⟨h,λ_ _=>rfl⟩
 |k+1,hk,hb=>by
  obtain⟨ih,io⟩:=CI.sec hg hV hl ht h k (by omega) hb;have hs:=SK hg (i:=bB p t+k) ht (by omega) (by omega);have h1:=ih.node hg hV hl ht (by omega) hs;rw[io t (aU _)]at h1;exact⟨h1,λu hu=>(FR p V lf _ ht _ _ _ hu).trans (io u hu)⟩
theorem CI.start(hg:p.good)(V:NS)(lf:List Int):CI p V lf 0 0 (eN p lf 0 ⟨[],[],[]⟩) (List.replicate p.nn 0):=by
 have e:eN p lf 0 ⟨[],[],[]⟩=⟨C7 p p.ni,[],[]⟩:=ya p p.ni;rw[e];have eL:(⟨C7 p p.ni,[],[]⟩:CS).L=C7 p p.ni:=by simp[CS.L]
 have hs:∀k,k<p.ni->(⟨C7 p p.ni,[],[]⟩:CS).sc k=0:=λk hk=>if_pos (by rw[tL];exact hk)
 refine⟨by simp,⟨λ_=>rfl,λ_=>rfl⟩,⟨by simpa using Ii p p.ni,by simpa using Ii p p.ni⟩,λk hk=>⟨by rw[eL];exact(yl p p.ni k _).2 ⟨hk,rfl⟩,hs k hk⟩,λu h1 h2=>by omega,λi hi=>by omega,λk m hk=>?_⟩;rw[eL]at hk;obtain⟨h1,h2⟩:=(yl p p.ni k m).1 hk;exact .inl ⟨h1,h2,hs k h1⟩
theorem UC(hg:p.good):bB p 0=0/\bB p 0<=bB p 1/\bB p 1<=bB p 2/\bB p 2<=bB p 3/\bB p 3=p.nn:=by
 obtain⟨_,_,⟨c1,c2,c3⟩,_⟩:=eW.1 hg.gen;show(0=0/\0<=p.head.toNat/\p.head.toNat<=p.tail.toNat/\p.tail.toNat<=p.nn/\p.nn=p.nn);omega
theorem Jj(hg:p.good)(hV:mW p V)(hl:LF V.2 lf):
 CI p V lf 2 p.nn (bn p V lf 3).1 (bn p V lf 3).2/\(bn p V lf 1).1.L.length=(bn p V lf 3).1.off 1/\(bn p V lf 2).1.L.length=(bn p V lf 3).1.off 2:=by
 obtain⟨b0,b1,b2,b3,b4⟩:=UC hg;obtain⟨⟨a1,a2,a3,a4⟩,-,⟨c1,c2,c3⟩,-⟩:=eW.1 hg.gen;have hll:lf.length<=4:=by rw[hl.len,hV.len.2];exact a4
 have hE:=λt ht=>(CW p a3 (by omega) (by omega) a2 V lf hll t ht).1
 have h0:=CI.start hg V lf;have r1:=(CI.sec (t:=0) (s:=(eN p lf 0 (bn p V lf 0).1,(bn p V lf 0).2)) hg hV hl (by omega) (by rw[b0];exact h0) (bB p 1-bB p 0) (by grind) (by grind)).1;rw[show bB p 0+(bB p 1-bB p 0)=bB p 1 by omega]at r1;have r1:CI p V lf 0 (bB p 1) (bn p V lf 1).1 (bn p V lf 1).2:=r1;obtain⟨s1,t1,o1⟩:=r1.Q6 hg hV hl (by omega) (hE 1 (by omega));obtain⟨r2,x2⟩:=CI.sec (t:=1) (s:=(eN p lf 1 (bn p V lf 1).1,(bn p V lf 1).2)) hg hV hl (by omega) s1 (bB p 2-bB p 1) (by grind) (by grind);rw[show bB p 1+(bB p 2-bB p 1)=bB p 2 by omega]at r2
 have oo1:(eN p lf 1 (bn p V lf 1).1).off 1=(bn p V lf 1).1.L.length:=by
  rw[show eN p lf 1 (bn p V lf 1).1=_ from t1,CS.nF _ (by omega) _ (aU _)];exact o1
 simp only at r2 x2;rw[oo1]at r2 x2;have r2:CI p V lf 1 (bB p 2) (bn p V lf 2).1 (bn p V lf 2).2:=r2;have x21:(bn p V lf 2).1.off 1=_:=x2 1 (by omega);obtain⟨s2,t2,o2⟩:=r2.Q6 hg hV hl (by omega) (hE 2 (by omega));obtain⟨r3,x3⟩:=CI.sec (t:=2) (s:=(eN p lf 2 (bn p V lf 2).1,(bn p V lf 2).2)) hg hV hl (by omega) s2 (bB p 3-bB p 2) (by grind) (by grind);rw[show bB p 2+(bB p 3-bB p 2)=p.nn by omega]at r3
 have oo2:∀u,u<=2->(eN p lf 2 (bn p V lf 2).1).off u=(bn p V lf 2).1.off u:=λu hu=>by
  rw[show eN p lf 2 (bn p V lf 2).1=_ from t2,CS.nF _ (by omega) _ hu]
 have oo22:(eN p lf 2 (bn p V lf 2).1).off 2=(bn p V lf 2).1.L.length:=(oo2 2 (by omega)).trans o2;simp only at r3 x3;rw[oo22]at r3 x3;have r3:CI p V lf 2 p.nn (bn p V lf 3).1 (bn p V lf 3).2:=r3;have x31:(bn p V lf 3).1.off 1=_:=x3 1 (by omega);have x32:(bn p V lf 3).1.off 2=_:=x3 2 (by omega)
 grind
def sx(p:PD)(i:Nat):Nat:=if i<p.head.toNat then 0 else if i<p.tail.toNat then 1 else 2
def sy(p:PD)(i:Nat):Nat:=if i<=p.head.toNat then 0 else if i<=p.tail.toNat then 1 else 2
def sz(p:PD)(i:Nat):Nat:=if i<p.head.toNat then 0 else if i<=p.tail.toNat then 1 else 2
structure RS where
 c:CS
 av:List Int
 fr:Nat
 hd:Nat
 qh:Nat
 qt:Nat
variable {s:RS}
def yS(p:PD)(lf:List Int)(M i:Nat)(s:RS):RS:=if i=p.head.toNat then⟨eN p lf 1 s.c,s.av,(if M=0 then s.fr else s.c.L.length),s.c.L.length,s.c.L.length,s.qt⟩ else s
def Qo(p:PD)(lf:List Int)(M i:Nat)(s:RS):RS:=if i=p.tail.toNat then⟨eN p lf 2 s.c,s.av,(if M=0 then s.fr else s.c.L.length),s.hd,s.qh,s.c.L.length⟩ else s
def rsN(p:PD)(V:NS)(lf:List Int)(i:Nat)(s:RS):RS:=⟨(jS p V lf (s.c.off (sx p i)) (sx p i) s.c s.av i).2,s.av.set i (jS p V lf (s.c.off (sx p i)) (sx p i) s.c s.av i).1,s.fr,s.hd,s.qh,s.qt⟩
def CO(p:PD)(lf:List Int)(M i:Nat)(s:RS):RS:=Qo p lf M i (yS p lf M i s)
def rs(p:PD)(V:NS)(lf:List Int)(M:Nat):Nat->RS
 |0=>⟨eN p lf 0 ⟨[],[],[]⟩,List.replicate p.nn 0,0,0,0,0⟩
 |i+1=>rsN p V lf i (CO p lf M i (rs p V lf M i))
structure RI(p:PD)(V:NS)(lf:List Int)(M t i:Nat)(s:RS):Prop where
 ci:CI p V lf t i s.c s.av
 em:s.c.emp (t+1)
 f0:M=0->s.fr=0
 f1:M≠0->s.fr=s.c.off t
 hd:1<=t->s.hd=s.c.off 1/\s.qh=s.c.off 1
 h0:t=0->s.hd=0
 qt:t=2->s.qt=s.c.off 2
variable {p:PD}{V:NS}{lf:List Int}{M:Nat}
theorem G0(hg:p.good):p.head.toNat<=p.tail.toNat/\p.tail.toNat<=p.nn:=by
 obtain⟨_,_,⟨c1,c2,c3⟩,_⟩:=eW.1 hg.gen;omega
theorem M6(hg:p.good)(hi:i<p.nn):fN p i=sx p i:=by
 obtain⟨_,_,⟨c1,c2,c3⟩,_⟩:=eW.1 hg.gen;unfold fN sx
 grind
theorem Ky(p:PD)(i:Nat):sx p i<3:=by unfold sx;grind
theorem vl(hg:p.good)(hV:mW p V)(hl:LF V.2 lf)(ht:t+1=1\/t+1=2)(h:CI p V lf t n c av)(he:c.emp (t+1))(hu:u<=t+1):(eN p lf (t+1) c).off u=c.off u:=by
 rw[(h.Q6 hg hV hl ht he).2.1];exact CS.nF c (by omega) _ hu
theorem RI.one(hg:p.good)(hV:mW p V)(hl:LF V.2 lf)(h:RI p V lf M (sy p i) i s):RI p V lf M (sz p i) i (yS p lf M i s):=by
 have hb:=G0 hg;unfold yS
 by_cases e:i=p.head.toNat
 ·rw[if_pos e];have e1:sy p i=0:=by unfold sy;rw[if_pos (by omega)]
  have e2:sz p i=1:=by unfold sz;rw[if_neg (by omega),if_pos (by omega)]
  rw[e1]at h;rw[e2];obtain⟨b1,b2,b3⟩:=h.ci.Q6 hg hV hl (by omega) h.em;have b4:(eN p lf 1 s.c).off 1=s.c.L.length:=(vl hg hV hl (t:=0) (by omega) h.ci h.em (aU _)).trans b3;refine⟨b1,CS.pI b1.up,λhM=>by simp only[if_pos hM];exact h.f0 hM,λhM=>by grind,λ_=>⟨b4.symm,b4.symm⟩,λq=>by omega,λq=>by omega⟩
 ·rw[if_neg e]
  have e1:sz p i=sy p i:=by
   unfold sz sy
   by_cases q:i<p.head.toNat
   ·grind
   ·grind
  grind
theorem RI.two(hg:p.good)(hV:mW p V)(hl:LF V.2 lf)(h:RI p V lf M (sz p i) i s):RI p V lf M (sx p i) i (Qo p lf M i s):=by
 have hb:=G0 hg;unfold Qo
 by_cases e:i=p.tail.toNat
 ·rw[if_pos e];have e1:sz p i=1:=by unfold sz;rw[if_neg (by omega),if_pos (by omega)]
  have e2:sx p i=2:=by unfold sx;rw[if_neg (by omega),if_neg (by omega)]
  rw[e1]at h;rw[e2];obtain⟨b1,b2,b3⟩:=h.ci.Q6 hg hV hl (by omega) h.em;have b4:=λu (hu:u<=2)=>vl hg hV hl (t:=1) (by omega) h.ci h.em hu
  have b5:(eN p lf 2 s.c).off 2=s.c.L.length:=(b4 2 (aU _)).trans b3;have b6:(eN p lf 2 s.c).off 1=s.c.off 1:=b4 1 (by omega);refine⟨b1,CS.pI b1.up,λhM=>by simp only[if_pos hM];exact h.f0 hM,λhM=>by grind,λ_=>?_,λq=>by omega,λ_=>b5.symm⟩;have:=h.hd (aU _)
  grind
 ·rw[if_neg e]
  have e1:sx p i=sz p i:=by
   unfold sz sx
   by_cases q:i<p.head.toNat
   ·grind
   ·grind
  grind
theorem RI.nod(hg:p.good)(hV:mW p V)(hl:LF V.2 lf)(hi:i<p.nn)(h:RI p V lf M (sx p i) i s):RI p V lf M (sy p (i+1)) (i+1) (rsN p V lf i s):=by
 have e1:sy p (i+1)=sx p i:=by
  unfold sx sy
  by_cases q:i<p.head.toNat
  ·rw[if_pos q,if_pos (by omega)]
  ·rw[if_neg q,if_neg (by omega:¬i+1<=p.head.toNat)]
   by_cases q2:i<p.tail.toNat
   ·rw[if_pos q2,if_pos (by omega)]
   ·rw[if_neg q2,if_neg (by omega:¬i+1<=p.tail.toNat)]
 rw[e1];have ht:=Ky p i;have h1:=h.ci.node hg hV hl ht hi (M6 hg hi);have ho:=λu (hu:u<=sx p i)=>FR p V lf (s.c.off (sx p i)) ht s.c s.av i hu
 refine⟨h1,CS.pI h1.up,h.f0,λhM=>?_,λh1'=>?_,h.h0,λh2=>?_⟩
 ·exact(h.f1 hM).trans (ho _ (aU _)).symm
 ·have:=h.hd h1';have e:=ho 1 h1';exact⟨this.1.trans e.symm,this.2.trans e.symm⟩
 ·exact(h.qt h2).trans (ho 2 (by omega)).symm
theorem GI(hg:p.good)(hV:mW p V)(hl:LF V.2 lf):∀i,i<=p.nn->RI p V lf M (sy p i) i (rs p V lf M i)
 |0,_=>by
  have e:sy p 0=0:=if_pos (ac1 _);rw[e];have h:=CI.start hg V lf;exact⟨h,CS.pI h.up,λ_=>rfl,λ_=>rfl,λq=>by omega,λ_=>rfl,λq=>by omega⟩
 |i+1,hi=>((GI hg hV hl i (by omega)).one hg hV hl).two hg hV hl |>.nod hg hV hl (by omega)
theorem Qd(hg:p.good)(hV:mW p V)(hl:LF V.2 lf)(hi:i<=p.nn):RI p V lf M (sx p i) i (CO p lf M i (rs p V lf M i)):=((GI hg hV hl i hi).one hg hV hl).two hg hV hl
theorem yL{l:List Bool}(h:cS l a):l.count true≠0:=λe=>by
 have hl:=h.lt;unfold cS at h
 grind
theorem mW.Y5(hg:p.good)(hV:mW p V)(hM:V.2.count true=0)(hi:cS V.1 i):fN p i≠1:=
 (hV.m1 (λi=>cS V.1 i/\fN p i≠1) ⟨hV.res,by rw[show((p.res.toNat:Nat):Int)=p.res by have:=hg.res;omega];exact hg.res.2.2⟩ (λi hin hx k hk=>by
  obtain⟨v,w⟩:=hx;refine⟨(hV.cl i hin v).1 k hk,?_⟩;unfold Hp at hk;rcases List.mem_append.1 hk with hk|hk
  ·obtain⟨y,hy,rfl⟩:=List.mem_map.1 hk;have hs:=J3 hg hin hy;have:=(jh hg hin).2.2 y hy
   grind
  ·by_cases n2:(p.nd i).op=2
   ·exact absurd hM (yL ((hV.cl i hin v).2 n2))
   grind) i hi).2
theorem CI.Y5(hg:p.good)(hV:mW p V)(hl:LF V.2 lf)(hM:V.2.count true=0)(h:CI p V lf t n c av):c.A1=[]:=by
 refine adK λhne=>?_;obtain⟨m,l,hA⟩:=List.exists_cons_of_ne_nil hne;have hk:c.A1[0]?=some m:=by rw[hA];rfl
 obtain⟨e1,e2⟩:=CS.JI (c:=c) (s:=1) (by omega) hk;rcases h.pos _ m e1 with⟨g1,rfl,g3⟩|⟨a,g1,g2,rfl,g4,g5⟩|⟨i,g1,g2,g3,g4,g5,rfl,g7,g8⟩
 ·omega
 ·exact yL ((hl.iff (by rw[hV.len.2];exact g1)).1 g2) hM
 ·rw[e2]at g8;exact hV.Y5 hg hM g2 g8.symm
theorem E8(m:Nd):∀(l k:List Nd),dg m (l++k)=match dg m l with|some i=>some i|none=>(dg m k).map (·+l.length)
 |[],k=>by simp[dg]
 |a::l,k=>by
  rw[ad6,dg,dg,E8 m l k]
  by_cases h:m=a
  ·simp[h]
  ·rw[if_neg h,if_neg h]
   cases dg m l with
   |some i=>rfl
   |none=>
    cases dg m k with
    |none=>rfl
    |some i=>simp;omega
def rW(c:CS)(t:Nat)(m:Nd):Int:=Im 0 (c.find t m)
theorem sU(h:dg m (c.sec t)=some i):rW c t m=((c.off t+i:Nat):Int):=by
 unfold rW CS.find;rw[h];show((0+(c.off t+i):Nat):Int)=_;simp
theorem oR(h:dg m (c.sec t)=none):rW c t m=Im 0 (dg m c.A0):=by
 unfold rW CS.find;rw[h]
def EY(L:List Nd)(fr hd:Nat)(late:Prop)[Decidable late](m:Nd):Int:=if wk L fr L.length m<0/\late then wk L 0 hd m else wk L fr L.length m
theorem HT[Decidable late]{a:Int}(h:0<=a):(if a<0/\late then b else a)=a:=if_neg λq=>by omega
theorem Gx[Decidable late]{a:Int}(h:a<0)(hl:late):(if a<0/\late then b else a)=b:=if_pos ⟨h,hl⟩
theorem CS.PY(ht:t<3)(h:c.upto t):c.L.drop (c.off t)=c.sec t:=by
 obtain⟨A,B,D⟩:=c;obtain⟨h1,h2⟩:=h;obtain rfl|rfl|rfl:t=0\/t=1\/t=2:=by omega
 ·have e1:B=[]:=h1 rfl;have e2:D=[]:=h2 (by omega);subst e1;subst e2;simp[CS.L,CS.off,CS.sec]
 ·have e2:D=[]:=h2 (by omega);subst e2;simp[CS.L,CS.off,CS.sec]
 ·simp[CS.L,CS.off,CS.sec,<-List.append_assoc]
theorem CS.Z9(c:CS):c.L.take (c.off 1)=c.A0:=by simp[CS.L,CS.off]
theorem Vp(hg:p.good)(hV:mW p V)(hl:LF V.2 lf)(hM:V.2.count true=M)(hi:i<p.nn)(hin:cS V.1 i)(h:RI p V lf M (sx p i) i s)(m:Nd):
 EY s.c.L s.fr s.hd (p.head.toNat<=i) m=rW s.c (sx p i) m:=by
 have ht:=Ky p i;have up:=h.ci.up
 have key:∀fr (l:List Nd),s.c.L.drop fr=l->wk s.c.L fr s.c.L.length m=Im fr (dg m l):=λfr l e=>by
  unfold wk;grind
 have k0:wk s.c.L 0 (s.c.off 1) m=Im 0 (dg m s.c.A0):=by
  unfold wk;rw[adJ,CS.Z9]
 unfold EY
 by_cases hz:sx p i=0
 ·have hlate:¬p.head.toNat<=i:=λq=>by unfold sx at hz;grind
  rw[if_neg (λq=>hlate q.2)]
  have hf:s.fr=0:=by
   by_cases q:M=0
   ·exact h.f0 q
   ·rw[h.f1 q,hz];rfl
  rw[hz]at up⊢;have e:=CS.PY (by omega) up;rw[show s.c.off 0=0 from rfl]at e;rw[hf,key 0 _ e]
  cases e0:dg m (s.c.sec 0)with
  |some k=>rw[sU e0];rfl
  |none=>
   have e1:dg m s.c.A0=none:=e0;rw[oR e0,e1]
 ·have hlate:p.head.toNat<=i:=by
   unfold sx at hz
   by_cases q:i<p.head.toNat
   ·grind
   ·omega
  rw[(h.hd (by omega)).1,k0]
  by_cases q:M=0
  ·rw[h.f0 q];have hA1:=h.ci.Y5 hg hV hl (by omega)
   have h2:sx p i=2:=by
    have:=hV.Y5 hg (by omega) hin;rw[M6 hg hi]at this;omega
   have hnd:=h.ci.nd.2;have eL:s.c.L=s.c.A0++s.c.A2:=by unfold CS.L;rw[hA1,adM]
   have eo:s.c.off 2=s.c.A0.length:=by show s.c.A0.length+s.c.A1.length=_;rw[hA1];rfl
   have ev:=key 0 (s.c.A0++s.c.A2) (by grind);rw[E8]at ev;rw[h2]
   cases e0:dg m s.c.A0 with
   |some k=>
    have hm:=afp (rj e0);have e2:dg m (s.c.sec 2)=none:=j6.2 λhx=>(List.nodup_append.1 hnd).2.2 m hm m hx rfl
    rw[e0]at ev;have ev:wk s.c.L 0 s.c.L.length m=((0+k:Nat):Int):=ev;rw[oR e2,e0,ev,HT (by omega)];rfl
   |none=>
    rw[e0]at ev
    cases e2:dg m s.c.A2 with
    |none=>
     have e3:dg m (s.c.sec 2)=none:=e2;rw[e2]at ev;have ev:wk s.c.L 0 s.c.L.length m = -1:=ev;rw[oR e3,e0,ev,Gx (by decide) hlate]
    |some k=>
     have e3:dg m (s.c.sec 2)=some k:=e2;rw[e2]at ev;have ev:wk s.c.L 0 s.c.L.length m=((0+(k+s.c.A0.length):Nat):Int):=ev;rw[sU e3,eo,ev,HT (by omega)];omega
  ·rw[h.f1 q];have ev:=key _ _ (CS.PY ht up)
   cases e:dg m (s.c.sec (sx p i))with
   |some k=>
    rw[e]at ev;have ev:wk s.c.L (s.c.off (sx p i)) s.c.L.length m=((s.c.off (sx p i)+k:Nat):Int):=ev;rw[sU e,ev,HT (by omega)]
   |none=>
    rw[e]at ev;have ev:wk s.c.L (s.c.off (sx p i)) s.c.L.length m = -1:=ev;rw[oR e,ev,Gx (by decide) hlate]
theorem Ui(hg:p.good)(hV:mW p V)(hl:LF V.2 lf):(CO p lf M p.nn (rs p V lf M p.nn)).c=(bn p V lf 3).1/\(CO p lf M p.nn (rs p V lf M p.nn)).av=(bn p V lf 3).2:=by
 have hb:=G0 hg;have hRI:=λi hi=>GI (M:=M) hg hV hl i hi
 have hRB:=λi (hi:i<=p.nn)=>Qd (M:=M) hg hV hl hi
 have step:∀i,i<p.nn->∀t,sx p i=t->∀c av,(CO p lf M i (rs p V lf M i)).c=c->(CO p lf M i (rs p V lf M i)).av=av->∀f,f=c.off t->(rs p V lf M (i+1)).c=(jS p V lf f t c av i).2/\(rs p V lf M (i+1)).av=av.set i (jS p V lf f t c av i).1:=by
  rintro i hi t rfl c av rfl rfl f rfl;exact⟨rfl,rfl⟩
 have l0:∀i,i<=p.head.toNat->((rs p V lf M i).c,(rs p V lf M i).av)=fH p V lf 0 0 (eN p lf 0 (bn p V lf 0).1,(bn p V lf 0).2) 0 i:=λi=>by
  induction i with
  |zero=>intro _;rfl
  |succ i ih=>
   intro hi;have ih:=ih (by omega)
   have e1:CO p lf M i (rs p V lf M i)=rs p V lf M i:=by
    unfold CO;rw[show yS p lf M i (rs p V lf M i)=rs p V lf M i from if_neg (by omega)];exact if_neg (by omega)
   have et:sx p i=0:=if_pos (by omega);obtain⟨s1,s2⟩:=step i (by omega) 0 et _ _ rfl rfl 0 rfl;rw[e1]at s1 s2;rw[s1,s2,fH,<-ih,adx]
 have c1:((rs p V lf M p.head.toNat).c,(rs p V lf M p.head.toNat).av)=bn p V lf 1:=l0 _ (aU _)
 have off1:∀c:CS,c.emp 1->c.off 1=c.L.length:=λc he=>by
  rw[CS.xq];show c.A0.length=_;rw[he.2.1 (by omega),he.2.2 (by omega)];rfl
 have off2:∀c:CS,c.emp 2->c.off 2=c.L.length:=λc he=>by
  rw[CS.xq];show c.A0.length+c.A1.length=_;rw[he.2.2 (by omega)];simp
 have h1:=hRI p.head.toNat (by omega);rw[show sy p p.head.toNat=0 from if_pos (aU _)]at h1;have c1c:(rs p V lf M p.head.toNat).c=(bn p V lf 1).1:=congrArg Prod.fst c1;have c1a:(rs p V lf M p.head.toNat).av=(bn p V lf 1).2:=congrArg Prod.snd c1
 have l1:∀k,p.head.toNat+k<=p.tail.toNat->((yS p lf M (p.head.toNat+k) (rs p V lf M (p.head.toNat+k))).c,(yS p lf M (p.head.toNat+k) (rs p V lf M (p.head.toNat+k))).av)=fH p V lf (bn p V lf 1).1.L.length 1 (eN p lf 1 (bn p V lf 1).1,(bn p V lf 1).2) p.head.toNat k:=λk=>by
  induction k with
  |zero=>
   intro _;rw[ad0];unfold yS;rw[if_pos rfl,c1c,c1a];rfl
  |succ k ih=>
   intro hk;have ih:=ih (by omega);have e1:CO p lf M (p.head.toNat+k) (rs p V lf M (p.head.toNat+k))=yS p lf M (p.head.toNat+k) (rs p V lf M (p.head.toNat+k)):=if_neg (by omega);have et:sx p (p.head.toNat+k)=1:=by unfold sx;rw[if_neg (by omega),if_pos (by omega)]
   have hR:=hRB (p.head.toNat+k) (by omega);rw[e1,et]at hR
   have ho:(bn p V lf 1).1.L.length=(yS p lf M (p.head.toNat+k) (rs p V lf M (p.head.toNat+k))).c.off 1:=by
    have e2:=(CI.sec (s:=(eN p lf 1 (bn p V lf 1).1,(bn p V lf 1).2)) (t:=1) hg hV hl (by omega) (by
     have:=(h1.ci.Q6 hg hV hl (by omega) h1.em).1;rw[c1c,c1a]at this;exact this) k (by show p.head.toNat+k<=p.tail.toNat;omega) (by show p.tail.toNat<=_;omega)).2 1 (aU _)
    have e3:(eN p lf 1 (bn p V lf 1).1).off 1=(bn p V lf 1).1.L.length:=by
     rw[<-c1c,vl hg hV hl (t:=0) (by omega) h1.ci h1.em (aU _)];exact off1 _ h1.em
    simp only at e2;rw[e3]at e2;exact e2.symm.trans (congrArg (λc:CS=>c.off 1) (congrArg Prod.fst ih).symm)
   obtain⟨s1,s2⟩:=step (p.head.toNat+k) (by omega) 1 et _ _ rfl rfl (bn p V lf 1).1.L.length (by grind);rw[e1]at s1 s2;have e4:yS p lf M (p.head.toNat+(k+1)) (rs p V lf M (p.head.toNat+(k+1)))=rs p V lf M (p.head.toNat+k+1):=if_neg (by omega);rw[e4,s1,s2,fH,<-ih]
 have c2:((yS p lf M p.tail.toNat (rs p V lf M p.tail.toNat)).c,(yS p lf M p.tail.toNat (rs p V lf M p.tail.toNat)).av)=bn p V lf 2:=by
  have:=l1 (p.tail.toNat-p.head.toNat) (by omega);rwa[show p.head.toNat+(p.tail.toNat-p.head.toNat)=p.tail.toNat by omega]at this
 have c2c:=congrArg Prod.fst c2;have c2a:=congrArg Prod.snd c2;simp only at c2c c2a;have h2:=(hRI p.tail.toNat (by omega)).one hg hV hl;rw[show sz p p.tail.toNat=1 by unfold sz;grind]at h2
 have l2:∀k,p.tail.toNat+k<=p.nn->((CO p lf M (p.tail.toNat+k) (rs p V lf M (p.tail.toNat+k))).c,(CO p lf M (p.tail.toNat+k) (rs p V lf M (p.tail.toNat+k))).av)=fH p V lf (bn p V lf 2).1.L.length 2 (eN p lf 2 (bn p V lf 2).1,(bn p V lf 2).2) p.tail.toNat k:=λk=>by
  induction k with
  |zero=>
   intro _;rw[ad0];unfold CO Qo;rw[if_pos rfl,c2c,c2a];rfl
  |succ k ih=>
   intro hk;have ih:=ih (by omega);have et:sx p (p.tail.toNat+k)=2:=by unfold sx;rw[if_neg (by omega),if_neg (by omega)]
   have hR:=hRB (p.tail.toNat+k) (by omega);rw[et]at hR
   have ho:(bn p V lf 2).1.L.length=(CO p lf M (p.tail.toNat+k) (rs p V lf M (p.tail.toNat+k))).c.off 2:=by
    have e2:=(CI.sec (s:=(eN p lf 2 (bn p V lf 2).1,(bn p V lf 2).2)) (t:=2) hg hV hl (by omega) (by
     have:=(h2.ci.Q6 hg hV hl (by omega) h2.em).1;rw[c2c,c2a]at this;exact this) k (by show p.tail.toNat+k<=p.nn;omega) (by show p.nn<=_;omega)).2 2 (aU _)
    have e3:(eN p lf 2 (bn p V lf 2).1).off 2=(bn p V lf 2).1.L.length:=by
     rw[<-c2c,vl hg hV hl (t:=1) (by omega) h2.ci h2.em (aU _)];exact off2 _ h2.em
    simp only at e2;rw[e3]at e2;exact e2.symm.trans (congrArg (λc:CS=>c.off 2) (congrArg Prod.fst ih).symm)
   obtain⟨s1,s2⟩:=step (p.tail.toNat+k) (by omega) 2 et _ _ rfl rfl _ ho
   have e4:CO p lf M (p.tail.toNat+(k+1)) (rs p V lf M (p.tail.toNat+(k+1)))=rs p V lf M (p.tail.toNat+k+1):=by
    unfold CO;rw[show yS p lf M (p.tail.toNat+(k+1)) (rs p V lf M (p.tail.toNat+(k+1)))=rs p V lf M (p.tail.toNat+(k+1)) from if_neg (by omega)];exact if_neg (by omega)
   rw[e4,s1,s2,fH,<-ih]
 have c3:=l2 (p.nn-p.tail.toNat) (by omega);rw[show p.tail.toNat+(p.nn-p.tail.toNat)=p.nn by omega]at c3;have c3:_=bn p V lf 3:=c3
 grind
end Go.Am
namespace Go.Am
open Go.Am.Ty Go.Proofs N
def Nf(G:List (List DV))(p:PD)(hp:p.ok)(ht:p.TN):aa prog G 21 [p.A] (.agg (qD p (.d .nilsl))):=by
 have e1:=Fk (n:=7) (lv:=bu [] [DL 60 p.nz.f,DL 38 p.nz.ins]) (k:=1000) (o:=p.nz.f) (E:=60) (sz:=2) (by rfl) (λe he=>oo (hp.f e he)) ht.f;have e2:=Fk (n:=7) (lv:=bu [] [DL 60 p.nz.f,DL 38 p.nz.ins]) (k:=1001) (o:=p.nz.ins) (E:=38) (sz:=3) (by rfl) (λe he=>vq (hp.ins e he)) ht.i;refine aa.Ue (Rf G p hp ht) (ks:=[1000,1001]) ?_;have f1:∀(lv:Key->LB) (x:DV),cP lv 8 (.d x)=some (x,[]):=λlv x=>rfl
 have e3:=OD ⟨p.nz.f,p.mode,p.nz.ins,none,0,0,none,0⟩;change cP _ 8 (.aE 1000 0 p.nf 2)=_ at e1;change cP _ 8 (.aE 1001 0 p.ni 3)=_ at e2;simp only[eJ,fu,fO,e1,e2,f1,adm,adv,adM];rfl
end Go.Am
namespace Go.Am
open N
variable {k a:Nat}
section
variable {p:PD}{V:NS}
def gk(p:PD)(V:NS):CS:=(bn p V (bA V.2 0) 3).1
def kD(p:PD)(V:NS):List Int:=(bn p V (bA V.2 0) 3).2
def uO(p:PD)(V:NS):List (Int×Int):=Hq (λj=>((kD p V).getD (p.st j).1.toNat 0,(kD p V).getD (p.st j).2.toNat 0)) (bA V.2 0) p.ns
theorem XL(p:PD)(V:NS):(kC p V).nn=(gk p V).L.length:=by
 show(sO (if (gk p V).L=[]then none else some ((gk p V).L.map Nd.e))).length=_;split
 ·rename_i h;rw[h];rfl
 ·simp[sO]
theorem Yb(p:PD)(V:NS){m:Nd}(h:(gk p V).L[k]?=some m):(kC p V).nd k=m:=by
 show P8 ((sO (if (gk p V).L=[]then none else some ((gk p V).L.map Nd.e))).getD k [])=_;rw[if_neg (λe=>by grind)];show P8 (((gk p V).L.map Nd.e).getD k [])=_;rw[ac2,aet,h];rfl
theorem SF(hV:mW p V):nT p (kD p V) (bA V.2 0) (bA V.2 0).length=uO p V:=by
 rw[ja,hV.len.2,KI];rfl
theorem Af(hV:mW p V):(uO p V).length=V.2.count true:=by
 rw[uO,rJ _ (gQ V.2) _ (aeD hV.len.2.symm),adQ (aeD hV.len.2)]
theorem qG(hV:mW p V):(kC p V).states=if uO p V=[]then none else some ((uO p V).map zw):=by
 show(if nT p (kD p V) (bA V.2 0) (bA V.2 0).length=[]then none else some ((nT p (kD p V) (bA V.2 0) (bA V.2 0).length).map zw))=_;rw[SF hV]
theorem Yh(hV:mW p V):(kC p V).ns=V.2.count true:=by
 show(sO (kC p V).states).length=_;rw[qG hV,<-Af hV];split
 ·rename_i h;rw[h];rfl
 ·simp[sO]
theorem W8(hV:mW p V)(ha:a<p.ns)(h0:0<=(bA V.2 0).getD a 0):(kC p V).st ((bA V.2 0).getD a 0).toNat=((kD p V).getD (p.st a).1.toNat 0,(kD p V).getD (p.st a).2.toNat 0):=by
 have h:=(n8 (λj=>((kD p V).getD (p.st j).1.toNat 0,(kD p V).getD (p.st j).2.toNat 0)) (gQ V.2) p.ns (aeD hV.len.2.symm) ((bA V.2 0).getD a 0).toNat _).2 ⟨a,ha,by omega,rfl⟩;have h:(uO p V)[((bA V.2 0).getD a 0).toNat]?=_:=h;show MR ((sO (kC p V).states).getD _ [])=_;rw[qG hV,if_neg (λe=>by grind)];show MR (((uO p V).map zw).getD _ [])=_;rw[ac2,aet,h];rfl
theorem UJ(hV:mW p V){j:Nat}(hj:j<V.2.count true):∃a,a<p.ns/\(bA V.2 0).getD a 0=j/\cS V.2 a:=by
 rw[<-Af hV]at hj;obtain⟨a,h1,h2,-⟩:=(n8 _ (gQ V.2) p.ns (aeD hV.len.2.symm) j _).1 (bp (show j<(uO p V).length from hj));exact⟨a,h1,h2,((gQ V.2).iff (by rw[hV.len.2];exact h1)).1 (by omega)⟩
theorem X8(hV:mW p V)(ha:a<p.ns)(h0:0<=(bA V.2 0).getD a 0):(bA V.2 0).getD a 0<V.2.count true:=by
 have h:=(n8 (λj=>((kD p V).getD (p.st j).1.toNat 0,(kD p V).getD (p.st j).2.toNat 0)) (gQ V.2) p.ns (aeD hV.len.2.symm) ((bA V.2 0).getD a 0).toNat _).2 ⟨a,ha,by omega,rfl⟩;have h1:((bA V.2 0).getD a 0).toNat<(uO p V).length:=(List.getElem?_eq_some_iff.1 h).1;rw[Af hV]at h1;omega
theorem TM(hg:p.good)(hV:mW p V):CI p V (bA V.2 0) 2 p.nn (gk p V) (kD p V):=(Jj hg hV (gQ V.2)).1
theorem Dn(hg:p.good)(hV:mW p V):(kC p V).head=if V.2.count true=0 then((gk p V).L.length:Int)else((gk p V).off 1:Int):=by
 show(if V.2.count true=0 then((gk p V).L.length:Int)else((bn p V (bA V.2 0) 1).1.L.length:Int))=_;rw[(Jj hg hV (gQ V.2)).2.1];rfl
theorem DA(hg:p.good)(hV:mW p V):(kC p V).tail=if V.2.count true=0 then((gk p V).L.length:Int)else((gk p V).off 2:Int):=by
 show(if V.2.count true=0 then((gk p V).L.length:Int)else((bn p V (bA V.2 0) 2).1.L.length:Int))=_;rw[(Jj hg hV (gQ V.2)).2.2];rfl
theorem CS.NH(c:CS):c.off 1<=c.off 2/\c.off 2<=c.L.length:=by
 rw[CS.xq];show c.A0.length<=c.A0.length+c.A1.length/\c.A0.length+c.A1.length<=_;omega
theorem CS.DT(c:CS)(k:Nat):c.sc k=if k<c.off 1 then 0 else if k<c.off 2 then 1 else 2:=rfl
theorem Is(hg:p.good)(hV:mW p V)(hk:k<(gk p V).L.length):fN (kC p V) k=if V.2.count true=0 then 0 else((gk p V).sc k:Int):=by
 unfold fN;rw[Dn hg hV,DA hg hV,CS.DT]
 grind
theorem Sk(hg:p.good)(hV:mW p V)(hb:(gk p V).L.length<=64):(kC p V).good:=by
 have h:=TM hg hV;have hl:=gQ V.2;have hlb:V.2.length=p.ns:=hV.len.2;obtain⟨⟨a1,a2,a3,a4⟩,⟨b1,b2,b3,b4⟩,⟨c1,c2,c3⟩,d⟩:=eW.1 hg.gen;have hnn:=XL p V;have hns:=Yh hV;have hhd:=Dn hg hV;have htl:=DA hg hV;have hof:=CS.NH (gk p V);have hcl:V.2.count true<=4:=ab8 aej (by omega);have hnf:(kC p V).nf=p.nf:=rfl;have hni:(kC p V).ni=p.ni:=rfl;have hmd:(kC p V).mode=p.mode:=rfl;have hres:(kC p V).res=(kD p V).getD p.res.toNat 0:=rfl;obtain⟨q1,q2,q3⟩:=hg.res;obtain⟨kr,mr,r1,r2,r3,-⟩:=h.ats p.res.toNat (by omega) (.inl hV.res);have hkr:=(List.getElem?_eq_some_iff.1 r2).1;have hsame:∀{k m},(gk p V).L[k]?=some m->(kC p V).nd k=m:=λe=>Yb p V e
 have hpar:∀i,i<p.nn->0<=(p.nd i).f/\(p.nd i).f<p.nf:=λi hi=>X4 (hg.nodes i hi)
 refine⟨⟨hg.ok.f,hg.ok.ins,λe he=>?_,λe he=>?_⟩,eW.2 ⟨⟨by omega,by omega,by omega,by omega⟩,⟨by omega,by omega,by omega,by omega⟩,?_,λh0=>?_⟩,hg.abZ,hg.ins,λk hk=>?_,λj hj=>?_,?_⟩
 ·have he:e∈sO (if (gk p V).L=[]then none else some ((gk p V).L.map Nd.e)):=he;split at he
  ·cases he
  ·obtain⟨x,_,rfl⟩:=List.mem_map.1 (show e∈(gk p V).L.map Nd.e from he);exact NZ x
 ·rw[qG hV]at he;split at he
  ·cases he
  ·obtain⟨x,_,rfl⟩:=List.mem_map.1 (show e∈(uO p V).map zw from he);exact W5 x
 ·omega
 ·omega
 ·rw[hnn]at hk;obtain⟨m,hm⟩:∃m,(gk p V).L[k]?=some m:=⟨_,bp hk⟩
  rw[hsame hm];rcases h.pos k m hm with⟨g1,rfl,g3⟩|⟨a,g1,g2,rfl,g4,g5⟩|⟨i,g1,g2,g3,g4,g5,rfl,g7,g8⟩
  ·exact qA.2 ⟨⟨by simp[m8],by simp[m8]⟩,by rfl,abP (hg.ins k g1),λ_=>⟨by simp[m8],by simp only[m8];omega⟩,λ_=>by rfl,λq=>absurd q (by simp[m8]),λq=>absurd q (by simp[m8]),λ_=>by rfl⟩
  ·obtain⟨s1,s2,s3,s4⟩:=vS hg g1;have hlt:=X8 hV g1 g2;refine qA.2 ⟨⟨by simp[lK],by simp[lK]⟩,by rfl,hpar _ (by omega),λq=>absurd q (by simp[lK]),λq=>absurd q (by simp[lK]),λ_=>⟨?_,?_,?_⟩,λq=>absurd q (by simp[lK]),λ_=>by rfl⟩
   ·rw[hhd,if_neg (by omega)];have hsc:=CS.DT (gk p V) k
    grind
   ·exact g2
   ·show(bA V.2 0).getD a 0<_;omega
  ·have hi:i<p.nn:=g1;obtain⟨o1,o2,o3,o4,o5,o6,o7,o8⟩:=qA.1 (hg.nodes i hi);refine qA.2 ⟨o1,by rw[IL];exact o2,o3,λq=>absurd q g3,λq=>absurd q g3,λq=>absurd q g4,o7,λ_=>?_⟩;rw[ab3];intro x hx;obtain⟨y,rfl,e2,e3⟩:=g7 x hx;unfold dH;rw[cy,ad2,decide_eq_true_eq,decide_eq_true_eq,decide_eq_true_eq,Is hg hV (by omega:y<_),Is hg hV hk];omega
 ·rw[hns]at hj;obtain⟨a,e1,e2,e3⟩:=UJ hV hj;obtain⟨-,i1,i2⟩:=hV.st hg e3;obtain⟨s1,s2,s3,s4⟩:=vS hg e1;have hst:=W8 hV e1 (by omega);rw[e2,ac9]at hst;obtain⟨k1,m1,x1,x2,x3,x4,-⟩:=h.ats _ (by omega) (.inl i1);obtain⟨k2,m2,y1,y2,y3,y4,-⟩:=h.ats _ (by omega) (.inl i2);have hf:=TF hg e1;have hM:¬V.2.count true=0:=by omega
  have hc1:fN p ((p.st a).1.toNat:Nat)=0:=if_pos (by omega)
  have hc2:fN p ((p.st a).2.toNat:Nat)≠2:=by
   unfold fN;split
   ·decide
   ·omega
  rw[hst,x1,y1];refine Vi ?_ ?_ ?_ λj' hj' h2 h3=>?_
  ·rw[hhd,if_neg hM];have hsc:=CS.DT (gk p V) k1
   grind
  ·rw[htl,if_neg hM];have hsc:=CS.DT (gk p V) k2
   grind
  ·simp_all
  ·simp only[ac9];rw[hnn]at hj';obtain⟨m,hm⟩:∃m,(gk p V).L[j']?=some m:=⟨_,bp hj'⟩
   rw[hsame hm]at h2 h3⊢;rw[hsame x2,x4];rcases h.pos j' m hm with⟨g1,rfl,g3⟩|⟨b,g1,g2,rfl,g4,g5⟩|⟨i,g1,g2,g3,g4,g5,rfl,g7,g8⟩
   ·exact absurd h2 (by simp[m8])
   ·have:b=a:=hl.inj (by omega) (by omega) g2 (by rw[e2];exact h3);rw[this];rfl
   ·exact absurd h2 g4
 ·rw[hres,r1,hnn];refine⟨by omega,by omega,?_⟩;rw[Is hg hV hkr]
  grind
end
end Go.Am
namespace Go.Am
open Go.Am.Ty Go.Proofs N
variable {L St:List Nd}{Q:Ex->az->Nat->Prop}{i M fr hd qh qt:Nat}{av:List Int}{mm:Nd}{c:Ctx}{lv:Key->LB}
abbrev qE(p:PD)(v:CV)(hd tl:Int)(st:CV)(r:Int):List CV:=[eG p.nz.f,.d (.int .i64 p.mode),eG p.nz.ins,v,.d (.int .i64 hd),.d (.int .i64 tl),st,.d (.int .i64 r)]
def xj(k:Key)(S:List (Int×Int)):CV:=if S=[]then .d .nilsl else .aE k 0 S.length 2
def Mv(S:List (Int×Int)):LB:=if S=[]then .hole else .cells true false 44 (Bb S)
theorem F6(S:List (Int×Int))(g:Key->Key):(Mv S).like (Mv S) g:=by
 unfold Mv;split
 ·rfl
 ·exact⟨true,_,rfl,(DC S g).symm,id⟩
theorem Sz(k:Key)(S:List (Int×Int))(g:Key->Key):(xj k S).bJ g=xj (g k) S:=by unfold xj;split<;>rfl
theorem O3(k:Key)(S:List (Int×Int))(n:Int×Int):xj k (S++[n])=.aE k 0 (S.length+1) 2:=by unfold xj;simp
theorem Oc(S:List (Int×Int))(n:Int×Int):Mv (S++[n])=.cells true false 44 (Bb (S++[n])):=if_neg (by simp)
abbrev oY(p:PD)(lf:List Int)(b4:LB)(L:List Nd)(S:List (Int×Int))(hd tl r:Int)(b7:LB):Key->LB:=
 au (au (au (au (au (au (au (au (λ_=>.hole) 0 (.cells true false 27 p.cs)) 1 (.cells true false 27 nL.cs)) 2 (.cells true false 27 (qE p (nS 5 L) hd tl (xj 6 S) r))) 3 (.cells true false 3 (zK lf))) 4 b4) 5 (nH L)) 6 (Mv S)) 7 b7
abbrev vM(p:PD)(lf:List Int)(b4:LB)(L:List Nd)(S:List (Int×Int))(hd tl r:Int)(b7:LB)(k3 k4 k5 k6 k7:Key):List (Key×Key×LB):=
 [(0,0,.cells true false 27 p.cs),(1,1,.cells true false 27 nL.cs),(2,2,.cells true false 27 (qE p (nS 5 L) hd tl (xj 6 S) r)),(3,k3,.cells true false 3 (zK lf)),(4,k4,b4),(5,k5,nH L),(6,k6,Mv S),(7,k7,b7)]
theorem m9(hc:c.jd=λ_=>.hole){fr:Nat->AV}{p:PD}{lf:List Int}{b4:LB}{S:List (Int×Int)}{hd tl r:Int}{b7:LB}(k3 k4 k5 k6 k7:Key)(l:List (Nat×AV))(hn:([0,1,2,k3,k4,k5,k6,k7]:List Key).Nodup)
 (h0:lv 0=.cells true false 27 p.cs) (h1:lv 1=.cells true false 27 nL.cs) (h2:lv 2=.cells true false 27 (qE p (nS k5 L) hd tl (xj k6 S) r)) (h3:lv k3=.cells true false 3 (zK lf)) (h4:∀g,(lv k4).like b4 g) (h5:∀g,(lv k5).like (nH L) g) (h6:∀g,(lv k6).like (Mv S) g) (h7:∀g,(lv k7).like b7 g) (h9:lv 19=.hole)
 (hl:∀x∈l,x.2.bF=true/\fr x.1=x.2.bJ (aQ (vM p lf b4 L S hd tl r b7 k3 k4 k5 k6 k7) 19)):Le c ⟨fr,lv⟩ ⟨aJ l,oY p lf b4 L S hd tl r b7⟩:=by
 refine Le.keys (vM p lf b4 L S hd tl r b7 k3 k4 k5 k6 k7) 19 l rfl hc (by simp) hn h9 ?_ hl;intro x hx;simp only[fy,aa8,or_false]at hx;rcases hx with rfl|rfl|rfl|rfl|rfl|rfl|rfl|rfl
 ·simp_all
 ·simp_all
 ·refine⟨true,_,h2,?_,id⟩;have e1:(nS 5 L).bJ (aQ (vM p lf b4 L S hd tl r b7 k3 k4 k5 k6 k7) 19)=nS k5 L:=PS ..;have e2:(xj 6 S).bJ (aQ (vM p lf b4 L S hd tl r b7 k3 k4 k5 k6 k7) 19)=xj k6 S:=Sz ..
  simp_all
 ·exact⟨true,_,h3,(aX _ _).symm,id⟩
 ·exact h4 _
 ·exact h5 _
 ·exact h6 _
 grind
theorem CK(k:Key)(hL:L.length<=1000000):∃ks,∀lv:Key->LB,lv k=nH L->dm prog 24 lv (.c (nS k L))=some (.c (.d (.int .i64 L.length)),[],ks,True):=by
 by_cases h0:L=[]
 ·subst h0;exact⟨[],λlv h=>cE (o:=none) (by simp)⟩
 ·refine⟨[k],λlv h=>?_⟩;rw[show nH L=_ from if_neg h0]at h;unfold nS;rw[if_neg h0];exact lpP h hL
theorem S7(lv:Key->LB)(κ:Key)(h:lv κ=.hole)(a f:Int):ai prog 24 1 [0] lv κ [.agg [.d (.int .i64 1),.d (.int .i64 a),.d (.int .i64 0),.d (.int .i64 0),.d (.int .i64 0),.d (.int .i64 f),.d (.str [])]]=some (.c (.aE κ 0 1 7),[(κ,.cells true false 40 (iQ [⟨1,a,0,0,0,f,[]⟩]))],[],True):=Sx lv κ h ⟨1,a,0,0,0,f,[]⟩
theorem Pg{p:PD}(hg:p.good){V:NS}(hV:mW p V){lf:List Int}(hl:LF V.2 lf){M:Nat}:∀i,i<=p.nn->(rs p V lf M i).c.L.length<=30*i+10
 |0,_=>by
  obtain⟨⟨a1,a2,a3,a4⟩,-⟩:=eW.1 hg.gen;have e:(rs p V lf M 0).c=⟨C7 p p.ni,[],[]⟩:=ya p p.ni;rw[e];simp[CS.L,tL];omega
 |i+1,hi=>by
  obtain⟨⟨a1,a2,a3,a4⟩,-⟩:=eW.1 hg.gen;have ih:=Pg (M:=M) hg hV hl i (by omega);have hI:=GI (M:=M) hg hV hl i (by omega);have hI1:=hI.one hg hV hl;have hI2:=hI1.two hg hV hl;have hll:lf.length<=4:=by rw[hl.len,hV.len.2];exact a4
  have b1:(yS p lf M i (rs p V lf M i)).c.L.length<=(rs p V lf M i).c.L.length+10:=by
   unfold yS;split
   ·rename_i e
    have e1:sy p i=0:=if_pos (by omega);rw[e1]at hI;have:(eN p lf 1 (rs p V lf M i).c).L.length<=(rs p V lf M i).c.L.length+(p.ni+lf.length):=(yG (t:=1) p lf (CS.kq hI.em)).2
    grind
   ·omega
  have b2:(CO p lf M i (rs p V lf M i)).c.L.length<=(yS p lf M i (rs p V lf M i)).c.L.length+10:=by
   unfold CO;unfold Qo;split
   ·rename_i e
    have hb:=G0 hg;have e1:sz p i=1:=by unfold sz;rw[if_neg (by omega),if_pos (by omega)]
    rw[e1]at hI1;have:(eN p lf 2 (yS p lf M i (rs p V lf M i)).c).L.length<=(yS p lf M i (rs p V lf M i)).c.L.length+(p.ni+lf.length):=(yG (t:=2) p lf (CS.kq hI1.em)).2
    grind
   ·omega
  have b3:=(J0 p V lf ((CO p lf M i (rs p V lf M i)).c.off (sx p i)) (CO p lf M i (rs p V lf M i)).av i hI2.ci.up).2.2;change _<=(CO p lf M i (rs p V lf M i)).c.L.length+1 at b3;exact ab8 b3 (by omega)
theorem ag.Tj{f:FuncId}{K:AV->List (Key×LB)->List Key->Nat->Prop}(κ' kh k:Key){own:Bool}{n:Nat}{x0 x1 x:AV}(hc:aD c.P c.G f [.c (.aE 0 0 n 7),x0,x1] [.cells false false 40 (iQ L)] (.ret x [.cells false false 40 (iQ L)] []))(hx:x.pure=true)(hx0:x0.pure=true)(hx1:x1.pure=true)
 (hk:lv k=.cells own false 40 (iQ L)) (hh:lv kh=.hole) (hkk:kh≠k) (hK:K x [(k,.cells own false 40 (iQ L))] [kh,k] κ'):ag c f [.c (.aE k 0 n 7),x0,x1] lv K:=by
 refine ag.Nq κ' kh own [k] [.cells false false 40 (iQ L)] [.cells false false 40 (iQ L)] [kh,k] hc (by simp) (by grind) rfl rfl (by simp) (λi p q=>?_) hh (by simp[LB.pass]) (by simp) (λho k' hk'=>?_) rfl (λi p q=>?_) (λa ha j hj=>?_) (by simp) ?_
 ·simp_all
 ·simp only[fy,aa8,or_false]at hk';subst hk';rw[hk];exact ho
 ·have hi:i=0\/i=1\/i=2:=by simp at p;omega
  rcases hi with rfl|rfl|rfl
  ·exact⟨rfl,rfl⟩
  ·exact⟨AV.eB hx0,(AV.bM hx0 _).symm⟩
  ·exact⟨AV.eB hx1,(AV.bM hx1 _).symm⟩
 ·simp only[fy,aa8,or_false]at ha;rcases ha with rfl|rfl|rfl
  ·simp only[pz,kM,hk,fy]at hj;rw[NF]at hj
   grind
  ·rw[jr hx0]at hj;cases hj
  ·rw[jr hx1]at hj;cases hj
 ·rw[AV.bM hx]
  have e:cq (aG [k] [] kh) own [k] [.cells false false 40 (iQ L)]=[(k,.cells own false 40 (iQ L))]:=by
   simp only[cq,ae5,afK,LB.wB,Kh,LB.fix,ae3]
  grind
theorem Ci(m:Int)(fr:Nat)(x:Nd):aa prog (GG m) 24 [.c (.d .nilsl),.c (.d (.int .i64 fr)),x.A] (.c (.d (.int .i64 (-1)))):=by
 have lp0:∀lv,dm prog 24 lv (.c (.d .nilsl))=some (.c (.d (.int .i64 0)),[],[],True):=λlv=>cE (o:=none) (by simp)
 have hn:¬(fr:Int)<0:=by omega
 refine aa.Sh func24 rfl λ_=>aar ?_;refine aae λK hK=>aar ?_;refine abd ?_
 refine aco (λ(_:Nat)=>⟨aJ [(0,.c (.d .nilsl)),(7,.c (.d (.int .i64 fr)))],au (λ_=>.hole) 0 (.cells true false 40 (x.e.map CV.d))⟩) 2
  (λ_=>True) (λi=>i) 0 (Le.pq _) trivial ?_
 rintro i -
 refine aae λK3 hK3=>acf lp0 ?_;refine abD (by rfl) (abX (hK _ _ (aar ?_)));exact aaV (aq.rt rfl 6 (by simp))
def yP(p:PD)(V:NS):PD:=
 ⟨p.nz.f,p.mode,p.nz.ins,(if (gk p V).L=[]then none else some ((gk p V).L.map Nd.e)),(if V.2.count true=0 then(gk p V).L.length else(gk p V).off 1),(if V.2.count true=0 then(gk p V).L.length else(gk p V).off 2),(if uO p V=[]then none else some ((uO p V).map zw)),(kD p V).getD p.res.toNat 0⟩
def Jz(p:PD)(V:NS):AV:=
 if 64<(gk p V).L.length then .tup [nL.A,.c (.d .nilsl),.c (.d (.int .i64 3))]
 else .tup [(yP p V).A,.c (zC (some (kD p V))),.c (.d (.int .i64 0))]
theorem F7(m:Int)(p:PD)(hp:p.ok)(h0:(gj p).2.2≠0):aa prog (GG m) 7 [p.A] (.tup [nL.A,.c (.d .nilsl),.c (.d (.int .i64 (gj p).2.2))]):=by
 have h:=Cv m p hp;generalize (gj p).2.2=e at*
 refine aa.ed func7 rfl λ_=>aar ?_;refine acX 2 h h0 ?_;refine aae λK hK=>acf h0 ?_;refine abz (by rfl) (acv @ZQ @aj.eq_1 ?_);refine aaV (iR.EN (κ:=0) (k:=1) (off:=0) (own:=true) (fz:=false) (T:=27) (U:=27) (cs:=nL.cs) (X:=nL.A) (y:=.c (.d .nilsl)) (z:=.c (.d (.int .i64 e))) (ks:=[]) rfl (by simp) (by simp) (by rfl) (by simp) (by simp) (by simp) rfl rfl ?_);rfl
def WJ:Nat->Code->Code
 |0,.seq a _=>a
 |1,.seq _ b=>b
 |2,.block _ b=>b
 |3,.loop b=>b
 |4,.cond _ a _=>a
 |5,.cond _ _ b=>b
 |_,c=>c
def TB:List Nat->Code->Code
 |[],c=>c
 |n::l,c=>TB l (WJ n c)
def cW(l:List Nat)(f:Func):Code:=TB l (f.body.getD .skip)
theorem adk{r:Option Nat}{x y:Code}{s:az}{κ:Nat}(h:x=y)(k:AW c r y s κ Q):AW c r x s κ Q:=h▸k
theorem rg1(m:Int)(p:PD)(V:NS)(lf:List Int)(z:Ev)(h0:0<=p.head)(hL:L.length<=3010)
 (hy:i=p.head.toNat->∀s κ,Le (⟨prog,GG m,z.w,z.F,z.W,Tryz.f7.ntmps,λ_=>.hole,z.b⟩:Ctx) s ⟨aJ [(1,.c (.ptr 0 0)),(2,.c (.ptr 1 0)),(6,.c (.d (.sl (bD V.1)))),(7,.c (.d (.sl (bD V.2)))),(8,.c (.ptr 2 0)),(9,.c (.aE 3 0 p.ns 1)),(10,.c (.d (.int .i64 (M:Nat)))),(12,.c (.aE 4 0 p.nn 1)),(14,.c (.d (.int .i64 (fr:Nat)))),(15,.c (.d (.int .i64 (L.length:Nat)))),(16,.c (.d (.int .i64 (i:Nat))))],oY p lf (.cells true false 3 (zK av)) L [] (L.length:Nat) (qt:Nat) 0 .hole⟩->Q .normal s κ) (hn:i≠p.head.toNat->∀s κ,Le (⟨prog,GG m,z.w,z.F,z.W,Tryz.f7.ntmps,λ_=>.hole,z.b⟩:Ctx) s ⟨aJ [(1,.c (.ptr 0 0)),(2,.c (.ptr 1 0)),(6,.c (.d (.sl (bD V.1)))),(7,.c (.d (.sl (bD V.2)))),(8,.c (.ptr 2 0)),(9,.c (.aE 3 0 p.ns 1)),(10,.c (.d (.int .i64 (M:Nat)))),(12,.c (.aE 4 0 p.nn 1)),(14,.c (.d (.int .i64 (fr:Nat)))),(15,.c (.d (.int .i64 (hd:Nat)))),(16,.c (.d (.int .i64 (i:Nat))))],oY p lf (.cells true false 3 (zK av)) L [] (qh:Nat) (qt:Nat) 0 .hole⟩->Q .normal s κ) :
 AW (⟨prog,GG m,z.w,z.F,z.W,Tryz.f7.ntmps,λ_=>.hole,z.b⟩:Ctx) none (cW [1,1,1,1,1,1,1,1,1,1,1,1,0,1,2,3,1,0,2,0] Tryz.f7) ⟨aJ [(1,.c (.ptr 0 0)),(2,.c (.ptr 1 0)),(6,.c (.d (.sl (bD V.1)))),(7,.c (.d (.sl (bD V.2)))),(8,.c (.ptr 2 0)),(9,.c (.aE 3 0 p.ns 1)),(10,.c (.d (.int .i64 (M:Nat)))),(12,.c (.aE 4 0 p.nn 1)),(14,.c (.d (.int .i64 (fr:Nat)))),(15,.c (.d (.int .i64 (hd:Nat)))),(16,.c (.d (.int .i64 (i:Nat))))],oY p lf (.cells true false 3 (zK av)) L [] (qh:Nat) (qt:Nat) 0 .hole⟩ 20 Q:=by
 conv=>
  enter [3]
  whnf
 refine aae λK1 hK1=>?_
 by_cases e:i=p.head.toNat
 ·have e':((i:Int)=p.head)=True:=eq_true (by omega);obtain⟨ks,hlen⟩:=CK 5 (L:=L) (by omega);refine acC e' (hK1 _ _ ?_);refine abA (acf hlen ?_);refine aaJ ?_;simp[aj];exact hy e _ _ (m9 rfl 3 4 5 6 7 _ (by decide) (by simp) (by rfl) (by rfl) (by simp) (λg=>⟨true,_,by simp,(aX _ _).symm,id⟩) (λg=>by simp;exact bY _ g) (λg=>by rfl) (λg=>rfl) (by simp) (by simp[aQ]))
 ·have e':((i:Int)=p.head)=False:=eq_false (by omega);refine acC e' (hK1 _ _ ?_);refine abg (aaE ?_);exact hn e _ _ (m9 rfl 3 4 5 6 7 _ (by decide) (by simp) (by rfl) (by rfl) (by simp) (λg=>⟨true,_,by simp,(aX _ _).symm,id⟩) (λg=>by simp;exact bY _ g) (λg=>by rfl) (λg=>rfl) (by simp) (by simp[aQ]))
theorem rg3(m:Int)(p:PD)(V:NS)(lf:List Int)(z:Ev)(h0:0<=p.tail)(hL:L.length<=3010)
 (hy:i=p.tail.toNat->∀s κ,Le (⟨prog,GG m,z.w,z.F,z.W,Tryz.f7.ntmps,λ_=>.hole,z.b⟩:Ctx) s ⟨aJ [(1,.c (.ptr 0 0)),(2,.c (.ptr 1 0)),(6,.c (.d (.sl (bD V.1)))),(7,.c (.d (.sl (bD V.2)))),(8,.c (.ptr 2 0)),(9,.c (.aE 3 0 p.ns 1)),(10,.c (.d (.int .i64 (M:Nat)))),(12,.c (.aE 4 0 p.nn 1)),(14,.c (.d (.int .i64 (fr:Nat)))),(15,.c (.d (.int .i64 (hd:Nat)))),(16,.c (.d (.int .i64 (i:Nat))))],oY p lf (.cells true false 3 (zK av)) L [] (qh:Nat) (L.length:Nat) 0 .hole⟩->Q .normal s κ) (hn:i≠p.tail.toNat->∀s κ,Le (⟨prog,GG m,z.w,z.F,z.W,Tryz.f7.ntmps,λ_=>.hole,z.b⟩:Ctx) s ⟨aJ [(1,.c (.ptr 0 0)),(2,.c (.ptr 1 0)),(6,.c (.d (.sl (bD V.1)))),(7,.c (.d (.sl (bD V.2)))),(8,.c (.ptr 2 0)),(9,.c (.aE 3 0 p.ns 1)),(10,.c (.d (.int .i64 (M:Nat)))),(12,.c (.aE 4 0 p.nn 1)),(14,.c (.d (.int .i64 (fr:Nat)))),(15,.c (.d (.int .i64 (hd:Nat)))),(16,.c (.d (.int .i64 (i:Nat))))],oY p lf (.cells true false 3 (zK av)) L [] (qh:Nat) (qt:Nat) 0 .hole⟩->Q .normal s κ) :
 AW (⟨prog,GG m,z.w,z.F,z.W,Tryz.f7.ntmps,λ_=>.hole,z.b⟩:Ctx) none (cW [1,1,1,1,1,1,1,1,1,1,1,1,0,1,2,3,1,0,2,1,1,0] Tryz.f7) ⟨aJ [(1,.c (.ptr 0 0)),(2,.c (.ptr 1 0)),(6,.c (.d (.sl (bD V.1)))),(7,.c (.d (.sl (bD V.2)))),(8,.c (.ptr 2 0)),(9,.c (.aE 3 0 p.ns 1)),(10,.c (.d (.int .i64 (M:Nat)))),(12,.c (.aE 4 0 p.nn 1)),(14,.c (.d (.int .i64 (fr:Nat)))),(15,.c (.d (.int .i64 (hd:Nat)))),(16,.c (.d (.int .i64 (i:Nat))))],oY p lf (.cells true false 3 (zK av)) L [] (qh:Nat) (qt:Nat) 0 .hole⟩ 20 Q:=by
 conv=>
  enter [3]
  whnf
 refine aae λK1 hK1=>?_
 by_cases e:i=p.tail.toNat
 ·have e':((i:Int)=p.tail)=True:=eq_true (by omega);obtain⟨ks,hlen⟩:=CK 5 (L:=L) (by omega);refine acC e' (hK1 _ _ ?_);refine abA (aaJ ?_);simp[hlen,aj];exact hy e _ _ (m9 rfl 3 4 5 6 7 _ (by decide) (by simp) (by rfl) (by rfl) (by simp) (λg=>⟨true,_,by simp,(aX _ _).symm,id⟩) (λg=>by simp;exact bY _ g) (λg=>by rfl) (λg=>rfl) (by simp) (by simp[aQ]))
 ·have e':((i:Int)=p.tail)=False:=eq_false (by omega);refine acC e' (hK1 _ _ ?_);refine abg (aaE ?_);exact hn e _ _ (m9 rfl 3 4 5 6 7 _ (by decide) (by simp) (by rfl) (by rfl) (by simp) (λg=>⟨true,_,by simp,(aX _ _).symm,id⟩) (λg=>by simp;exact bY _ g) (λg=>by rfl) (λg=>rfl) (by simp) (by simp[aQ]))
theorem rg2(m:Int)(p:PD)(V:NS)(lf:List Int)(z:Ev)(h0:0<=p.head)(hL:L.length<=3010)(hS:St.length<=4)(hSn:M≠0->St≠[])(hLn:M≠0->i=p.head.toNat->L≠[])(hM:M<=4)
 (hsn:M≠0->aa prog (GG m) 22 [p.A,.c (.d (.sl (bD V.2)))] (.c (eG (some (St.map Nd.e)))))
 (hy:i=p.head.toNat->M≠0->∀s κ,Le (⟨prog,GG m,z.w,z.F,z.W,Tryz.f7.ntmps,λ_=>.hole,z.b⟩:Ctx) s ⟨aJ [(1,.c (.ptr 0 0)),(2,.c (.ptr 1 0)),(6,.c (.d (.sl (bD V.1)))),(7,.c (.d (.sl (bD V.2)))),(8,.c (.ptr 2 0)),(9,.c (.aE 3 0 p.ns 1)),(10,.c (.d (.int .i64 (M:Nat)))),(12,.c (.aE 4 0 p.nn 1)),(14,.c (.d (.int .i64 (L.length:Nat)))),(15,.c (.d (.int .i64 (hd:Nat)))),(16,.c (.d (.int .i64 (i:Nat))))],oY p lf (.cells true false 3 (zK av)) (L++St) [] (qh:Nat) (qt:Nat) 0 .hole⟩->Q .normal s κ) (hn:(i≠p.head.toNat\/M=0)->∀s κ,Le (⟨prog,GG m,z.w,z.F,z.W,Tryz.f7.ntmps,λ_=>.hole,z.b⟩:Ctx) s ⟨aJ [(1,.c (.ptr 0 0)),(2,.c (.ptr 1 0)),(6,.c (.d (.sl (bD V.1)))),(7,.c (.d (.sl (bD V.2)))),(8,.c (.ptr 2 0)),(9,.c (.aE 3 0 p.ns 1)),(10,.c (.d (.int .i64 (M:Nat)))),(12,.c (.aE 4 0 p.nn 1)),(14,.c (.d (.int .i64 (fr:Nat)))),(15,.c (.d (.int .i64 (hd:Nat)))),(16,.c (.d (.int .i64 (i:Nat))))],oY p lf (.cells true false 3 (zK av)) L [] (qh:Nat) (qt:Nat) 0 .hole⟩->Q .normal s κ) :
 AW (⟨prog,GG m,z.w,z.F,z.W,Tryz.f7.ntmps,λ_=>.hole,z.b⟩:Ctx) none (cW [1,1,1,1,1,1,1,1,1,1,1,1,0,1,2,3,1,0,2,1,0] Tryz.f7) ⟨aJ [(1,.c (.ptr 0 0)),(2,.c (.ptr 1 0)),(6,.c (.d (.sl (bD V.1)))),(7,.c (.d (.sl (bD V.2)))),(8,.c (.ptr 2 0)),(9,.c (.aE 3 0 p.ns 1)),(10,.c (.d (.int .i64 (M:Nat)))),(12,.c (.aE 4 0 p.nn 1)),(14,.c (.d (.int .i64 (fr:Nat)))),(15,.c (.d (.int .i64 (hd:Nat)))),(16,.c (.d (.int .i64 (i:Nat))))],oY p lf (.cells true false 3 (zK av)) L [] (qh:Nat) (qt:Nat) 0 .hole⟩ 20 Q:=by
 obtain⟨w,hw⟩:∃w,eG (some (St.map Nd.e))=w:=⟨_,rfl⟩
 have hwp:(AV.c w).pure=true:=by rw[<-hw];rfl
 have hwk:keyOf (.c w)=[]:=by rw[<-hw];rfl
 have hws:∀lv:Key->LB,dS lv 7 (.c w)=some (St.length,iQ St):=λlv=>by
  rw[<-hw];have:=x8 (lv:=lv) (o:=some (St.map Nd.e)) (sz:=7) (λe he=>by obtain⟨n,_,rfl⟩:=List.mem_map.1 he;rfl);rw[this];show some ((St.map Nd.e).length,(St.map Nd.e).flatten.map CV.d)=_;rw[ac5,AE]
 rw[hw]at hsn
 conv=>
  enter [3]
  whnf
 refine aae λK1 hK1=>?_
 by_cases e:i=p.head.toNat
 ·have e':((i:Int)=p.head)=True:=eq_true (by omega)
  by_cases eM:M=0
  ·have eM':¬0<M:=by omega
   refine acJ e' eM' (hK1 _ _ ?_);refine abg (aaE ?_);exact hn (.inr eM) _ _ (m9 rfl 3 4 5 6 7 _ (by decide) (by simp) (by rfl) (by rfl) (by simp) (λg=>⟨true,_,by simp,(aX _ _).symm,id⟩) (λg=>by simp;exact bY _ g) (λg=>by rfl) (λg=>rfl) (by simp) (by simp[aQ]))
  ·have eM':0<M:=by omega
   have hc54:=hsn eM;have hSn:=hSn eM;obtain⟨ks,hlen⟩:=CK 5 (L:=L) (by omega);have hLe:=hLn eM e;have nb21:nS 21 (L++St)=.aE 21 0 (L.length+St.length) 7:=by unfold nS;rw[if_neg (by simp[hSn])];simp
   have nbH:nH (L++St)=.cells true false 40 (iQ (L++St)):=if_neg (by simp[hSn]);have n5:nS 5 L=.aE 5 0 L.length 7:=if_neg hLe;have n6:nH L=.cells true false 40 (iQ L):=if_neg hLe;refine acJ e' eM' (hK1 _ _ ?_);refine abA (acf hlen ?_);refine acs mixed (by kernel_rfl) rfl ?_;simp[n5,n6];refine ag.pure 21 9 hc54 hwp (by simp) (by rfl) ?_;simp[hws,hwk,n5,n6,mI,aj]
   repeat refine aL ?_
   refine⟨by kernel_rfl,?_⟩;refine hy e eM _ _ ?_;exact(m9 rfl 3 4 21 6 7 _ (by decide) (by simp) (by rfl) (by simp_all) (by simp) (λg=>⟨true,_,by simp,(aX _ _).symm,id⟩) (λg=>by simp;exact(by rw[nbH,qY];simp)) (λg=>by rfl) (λg=>rfl) (by simp) (by simp[aQ]))
 ·have e':((i:Int)=p.head)=False:=eq_false (by omega);refine acC e' (hK1 _ _ ?_);refine abg (aaE ?_);exact hn (.inl e) _ _ (m9 rfl 3 4 5 6 7 _ (by decide) (by simp) (by rfl) (by rfl) (by simp) (λg=>⟨true,_,by simp,(aX _ _).symm,id⟩) (λg=>by simp;exact bY _ g) (λg=>by rfl) (λg=>rfl) (by simp) (by simp[aQ]))
theorem rg4(m:Int)(p:PD)(V:NS)(lf:List Int)(z:Ev)(h0:0<=p.tail)(hL:L.length<=3010)(hS:St.length<=4)(hSn:M≠0->St≠[])(hLn:M≠0->i=p.tail.toNat->L≠[])(hM:M<=4)
 (hsn:M≠0->aa prog (GG m) 22 [p.A,.c (.d (.sl (bD V.2)))] (.c (eG (some (St.map Nd.e)))))
 (hy:i=p.tail.toNat->M≠0->∀s κ,Le (⟨prog,GG m,z.w,z.F,z.W,Tryz.f7.ntmps,λ_=>.hole,z.b⟩:Ctx) s ⟨aJ [(1,.c (.ptr 0 0)),(2,.c (.ptr 1 0)),(6,.c (.d (.sl (bD V.1)))),(7,.c (.d (.sl (bD V.2)))),(8,.c (.ptr 2 0)),(9,.c (.aE 3 0 p.ns 1)),(10,.c (.d (.int .i64 (M:Nat)))),(12,.c (.aE 4 0 p.nn 1)),(14,.c (.d (.int .i64 (L.length:Nat)))),(15,.c (.d (.int .i64 (hd:Nat)))),(16,.c (.d (.int .i64 (i:Nat))))],oY p lf (.cells true false 3 (zK av)) (L++St) [] (qh:Nat) (qt:Nat) 0 .hole⟩->Q .normal s κ) (hn:(i≠p.tail.toNat\/M=0)->∀s κ,Le (⟨prog,GG m,z.w,z.F,z.W,Tryz.f7.ntmps,λ_=>.hole,z.b⟩:Ctx) s ⟨aJ [(1,.c (.ptr 0 0)),(2,.c (.ptr 1 0)),(6,.c (.d (.sl (bD V.1)))),(7,.c (.d (.sl (bD V.2)))),(8,.c (.ptr 2 0)),(9,.c (.aE 3 0 p.ns 1)),(10,.c (.d (.int .i64 (M:Nat)))),(12,.c (.aE 4 0 p.nn 1)),(14,.c (.d (.int .i64 (fr:Nat)))),(15,.c (.d (.int .i64 (hd:Nat)))),(16,.c (.d (.int .i64 (i:Nat))))],oY p lf (.cells true false 3 (zK av)) L [] (qh:Nat) (qt:Nat) 0 .hole⟩->Q .normal s κ) :
 AW (⟨prog,GG m,z.w,z.F,z.W,Tryz.f7.ntmps,λ_=>.hole,z.b⟩:Ctx) none (cW [1,1,1,1,1,1,1,1,1,1,1,1,0,1,2,3,1,0,2,1,1,1,0] Tryz.f7) ⟨aJ [(1,.c (.ptr 0 0)),(2,.c (.ptr 1 0)),(6,.c (.d (.sl (bD V.1)))),(7,.c (.d (.sl (bD V.2)))),(8,.c (.ptr 2 0)),(9,.c (.aE 3 0 p.ns 1)),(10,.c (.d (.int .i64 (M:Nat)))),(12,.c (.aE 4 0 p.nn 1)),(14,.c (.d (.int .i64 (fr:Nat)))),(15,.c (.d (.int .i64 (hd:Nat)))),(16,.c (.d (.int .i64 (i:Nat))))],oY p lf (.cells true false 3 (zK av)) L [] (qh:Nat) (qt:Nat) 0 .hole⟩ 20 Q:=by
 obtain⟨w,hw⟩:∃w,eG (some (St.map Nd.e))=w:=⟨_,rfl⟩
 have hwp:(AV.c w).pure=true:=by rw[<-hw];rfl
 have hwk:keyOf (.c w)=[]:=by rw[<-hw];rfl
 have hws:∀lv:Key->LB,dS lv 7 (.c w)=some (St.length,iQ St):=λlv=>by
  rw[<-hw];have:=x8 (lv:=lv) (o:=some (St.map Nd.e)) (sz:=7) (λe he=>by obtain⟨n,_,rfl⟩:=List.mem_map.1 he;rfl);rw[this];show some ((St.map Nd.e).length,(St.map Nd.e).flatten.map CV.d)=_;rw[ac5,AE]
 rw[hw]at hsn
 conv=>
  enter [3]
  whnf
 refine aae λK1 hK1=>?_
 by_cases e:i=p.tail.toNat
 ·have e':((i:Int)=p.tail)=True:=eq_true (by omega)
  by_cases eM:M=0
  ·have eM':¬0<M:=by omega
   refine acJ e' eM' (hK1 _ _ ?_);refine abg (aaE ?_);exact hn (.inr eM) _ _ (m9 rfl 3 4 5 6 7 _ (by decide) (by simp) (by rfl) (by rfl) (by simp) (λg=>⟨true,_,by simp,(aX _ _).symm,id⟩) (λg=>by simp;exact bY _ g) (λg=>by rfl) (λg=>rfl) (by simp) (by simp[aQ]))
  ·have eM':0<M:=by omega
   have hc54:=hsn eM;have hSn:=hSn eM;obtain⟨ks,hlen⟩:=CK 5 (L:=L) (by omega);have hLe:=hLn eM e;have nb21:nS 21 (L++St)=.aE 21 0 (L.length+St.length) 7:=by unfold nS;rw[if_neg (by simp[hSn])];simp
   have nbH:nH (L++St)=.cells true false 40 (iQ (L++St)):=if_neg (by simp[hSn]);have n5:nS 5 L=.aE 5 0 L.length 7:=if_neg hLe;have n6:nH L=.cells true false 40 (iQ L):=if_neg hLe;refine acJ e' eM' (hK1 _ _ ?_);refine abA (acf hlen ?_);refine acs mixed (by kernel_rfl) rfl ?_;simp[n5,n6];refine ag.pure 21 9 hc54 hwp (by simp) (by rfl) ?_;simp[hws,hwk,n5,n6,mI,aj]
   repeat refine aL ?_
   refine⟨by kernel_rfl,?_⟩;refine hy e eM _ _ ?_;exact(m9 rfl 3 4 21 6 7 _ (by decide) (by simp) (by rfl) (by simp_all) (by simp) (λg=>⟨true,_,by simp,(aX _ _).symm,id⟩) (λg=>by simp;exact(by rw[nbH,qY];simp)) (λg=>by rfl) (λg=>rfl) (by simp) (by simp[aQ]))
 ·have e':((i:Int)=p.tail)=False:=eq_false (by omega);refine acC e' (hK1 _ _ ?_);refine abg (aaE ?_);exact hn (.inl e) _ _ (m9 rfl 3 4 5 6 7 _ (by decide) (by simp) (by rfl) (by rfl) (by simp) (λg=>⟨true,_,by simp,(aX _ _).symm,id⟩) (λg=>by simp;exact bY _ g) (λg=>by rfl) (λg=>rfl) (by simp) (by simp[aQ]))
theorem uH(l:List Int)(i:Nat)(x y:Int)(h:i<l.length):aj (zK (l.set i x)) i [CV.d (.int .i64 y)]=zK (l.set i y):=by
 rw[Ap _ _ _ (by rw[aep];exact h),List.set_set]
theorem AZ(k:Key):nS k []=CV.d .nilsl:=rfl
theorem HX:nH []=LB.hole:=rfl
theorem Ge(h:i<av.length)(x:Int):fq prog 3 ((zK (av.set i x)).drop i)=some (.c (.d (.int .i64 x))):=by
 have:=dh (P:=prog) (T:=3) (by simp) (l:=av.set i x) (i:=i) (by grind)
 grind
theorem aaA(m:Int)(p:PD)(V:NS)(lf:List Int)(z:Ev){n:Nd}(hal:av.length=p.nn)
 (hra:aD prog (GG m) 23 [n.A,.c (.aE 0 0 p.nn 1)] [bZ (av.set i (-1))] (.ret mm.A [bZ (av.set i (-1))] []))
 (hQ:∀s κ,Le (⟨prog,GG m,z.w,z.F,z.W,Tryz.f7.ntmps,λ_=>.hole,z.b⟩:Ctx) s ⟨aJ [(1,.c (.ptr 0 0)),(2,.c (.ptr 1 0)),(6,.c (.d (.sl (bD V.1)))),(7,.c (.d (.sl (bD V.2)))),(8,.c (.ptr 2 0)),(9,.c (.aE 3 0 p.ns 1)),(10,.c (.d (.int .i64 (M:Nat)))),(12,.c (.aE 4 0 p.nn 1)),(14,.c (.d (.int .i64 (fr:Nat)))),(15,.c (.d (.int .i64 (hd:Nat)))),(16,.c (.d (.int .i64 (i:Nat)))),(18,.c (.ptr 7 0))],oY p lf (.cells true false 3 (zK (av.set i (-1)))) L [] (qh:Nat) (qt:Nat) 0 (bX mm)⟩->Q .normal s κ) :
 AW (⟨prog,GG m,z.w,z.F,z.W,Tryz.f7.ntmps,λ_=>.hole,z.b⟩:Ctx) none (cW [1,1,1,1,1,1,1,1,1,1,1,1,0,1,2,3,1,0,2,1,1,1,1,1,1,1,2,1,5,1,5,1,4,0] Tryz.f7) ⟨aJ [(1,.c (.ptr 0 0)),(2,.c (.ptr 1 0)),(6,.c (.d (.sl (bD V.1)))),(7,.c (.d (.sl (bD V.2)))),(8,.c (.ptr 2 0)),(9,.c (.aE 3 0 p.ns 1)),(10,.c (.d (.int .i64 (M:Nat)))),(12,.c (.aE 4 0 p.nn 1)),(14,.c (.d (.int .i64 (fr:Nat)))),(15,.c (.d (.int .i64 (hd:Nat)))),(16,.c (.d (.int .i64 (i:Nat)))),(17,.c (.ptr 7 0))],oY p lf (.cells true false 3 (zK (av.set i (-1)))) L [] (qh:Nat) (qt:Nat) 0 (bX n)⟩ 20 Q:=by
 conv=>
  enter [3]
  whnf
 refine aaJ ?_;simp;refine ag.Tl 21 9 4 (by simpa using hra) (by rfl) (by rfl) rfl rfl (by decide) ?_;simp[aj];exact hQ _ _ (m9 rfl 3 4 5 6 21 _ (by decide) (by simp) (by rfl) (by rfl) (by simp) (λg=>⟨true,_,by simp,(aX _ _).symm,id⟩) (λg=>by simp;exact bY _ g) (λg=>by rfl) (λg=>⟨true,_,by rfl,rfl,id⟩) (by simp) (by simp[aQ]))
theorem Z5(m:Int)(p:PD)(V:NS)(lf:List Int)(z:Ev)(hi:i<p.nn)(hal:av.length=p.nn)(hL:L.length<=3020)(hfr:fr<=3020)
 (hQ:∀s κ,Le (⟨prog,GG m,z.w,z.F,z.W,Tryz.f7.ntmps,λ_=>.hole,z.b⟩:Ctx) s ⟨aJ [(1,.c (.ptr 0 0)),(2,.c (.ptr 1 0)),(6,.c (.d (.sl (bD V.1)))),(7,.c (.d (.sl (bD V.2)))),(8,.c (.ptr 2 0)),(9,.c (.aE 3 0 p.ns 1)),(10,.c (.d (.int .i64 (M:Nat)))),(12,.c (.aE 4 0 p.nn 1)),(14,.c (.d (.int .i64 (fr:Nat)))),(15,.c (.d (.int .i64 (hd:Nat)))),(16,.c (.d (.int .i64 (i:Nat)))),(18,.c (.ptr 7 0))],oY p lf (.cells true false 3 (zK (av.set i (wk L fr L.length mm)))) L [] (qh:Nat) (qt:Nat) 0 (bX mm)⟩->Q .normal s κ) :
 AW (⟨prog,GG m,z.w,z.F,z.W,Tryz.f7.ntmps,λ_=>.hole,z.b⟩:Ctx) none (cW [1,1,1,1,1,1,1,1,1,1,1,1,0,1,2,3,1,0,2,1,1,1,1,1,1,1,2,1,5,1,5,1,4,1,0] Tryz.f7) ⟨aJ [(1,.c (.ptr 0 0)),(2,.c (.ptr 1 0)),(6,.c (.d (.sl (bD V.1)))),(7,.c (.d (.sl (bD V.2)))),(8,.c (.ptr 2 0)),(9,.c (.aE 3 0 p.ns 1)),(10,.c (.d (.int .i64 (M:Nat)))),(12,.c (.aE 4 0 p.nn 1)),(14,.c (.d (.int .i64 (fr:Nat)))),(15,.c (.d (.int .i64 (hd:Nat)))),(16,.c (.d (.int .i64 (i:Nat)))),(18,.c (.ptr 7 0))],oY p lf (.cells true false 3 (zK (av.set i (-1)))) L [] (qh:Nat) (qt:Nat) 0 (bX mm)⟩ 20 Q:=by
 have hi2:(i:Int)<(p.nn:Int):=by omega
 have hle:i+1<=av.length:=by omega
 have hz:=uH av i (-1) (wk L fr L.length mm) (by omega)
 conv=>
  enter [3]
  whnf
 by_cases hL0:L=[]
 ·subst hL0;have he:wk [] fr ([]:List Nd).length mm = -1:=by unfold wk;simp[dg,Im]
  rw[he]at hz hQ;refine aaJ ?_;simp[AZ];refine ag.pure 21 9 (Ci m fr mm) (by simp) (by simp) (by rfl) ?_;simp[hi2,hz]
  repeat refine aL ?_
  exact hQ _ _ (m9 rfl 3 4 5 6 7 _ (by decide) (by rfl) (by rfl) (by rfl) (by rfl) (λg=>⟨true,_,by simp,(aX _ _).symm,id⟩) (λg=>by rfl) (λg=>by rfl) (λg=>⟨true,_,by rfl,rfl,id⟩) (by rfl) (by simp[aQ,AZ,HX]))
 ·have n5:nS 5 L=.aE 5 0 L.length 7:=if_neg hL0;have n6:nH L=.cells true false 40 (iQ L):=if_neg hL0;have heq:=Gs m L fr L.length (aU _) (by omega) (by omega) mm;refine aaJ ?_;simp[n5,n6];refine ag.Tj 21 9 5 (by simpa using heq) (by rfl) (by rfl) (by rfl) (by simp;exact n6) (by simp) (by decide) ?_;simp[hi2,hz]
  repeat refine aL ?_
  exact hQ _ _ (m9 rfl 3 4 5 6 7 _ (by decide) (by simp) (by rfl) (by rfl) (by simp) (λg=>⟨true,_,by simp,(aX _ _).symm,id⟩) (λg=>by simp_all) (λg=>by rfl) (λg=>⟨true,_,by rfl,rfl,id⟩) (by simp) (by simp[aQ]))
theorem aaj(m:Int)(p:PD)(V:NS)(lf:List Int)(z:Ev)(h0:0<=p.head)(hi:i<p.nn)(hal:av.length=p.nn)(hL:L.length<=3020)(hhd:hd<=L.length)(r:Int)(hr:r=wk L fr L.length mm)
 (hQ:∀s κ,Le (⟨prog,GG m,z.w,z.F,z.W,Tryz.f7.ntmps,λ_=>.hole,z.b⟩:Ctx) s ⟨aJ [(1,.c (.ptr 0 0)),(2,.c (.ptr 1 0)),(6,.c (.d (.sl (bD V.1)))),(7,.c (.d (.sl (bD V.2)))),(8,.c (.ptr 2 0)),(9,.c (.aE 3 0 p.ns 1)),(10,.c (.d (.int .i64 (M:Nat)))),(12,.c (.aE 4 0 p.nn 1)),(14,.c (.d (.int .i64 (fr:Nat)))),(15,.c (.d (.int .i64 (hd:Nat)))),(16,.c (.d (.int .i64 (i:Nat)))),(18,.c (.ptr 7 0))],oY p lf (.cells true false 3 (zK (av.set i (EY L fr hd (p.head.toNat<=i) mm)))) L [] (qh:Nat) (qt:Nat) 0 (bX mm)⟩->Q .normal s κ) :
 AW (⟨prog,GG m,z.w,z.F,z.W,Tryz.f7.ntmps,λ_=>.hole,z.b⟩:Ctx) none (cW [1,1,1,1,1,1,1,1,1,1,1,1,0,1,2,3,1,0,2,1,1,1,1,1,1,1,2,1,5,1,5,1,4,1,1,0] Tryz.f7) ⟨aJ [(1,.c (.ptr 0 0)),(2,.c (.ptr 1 0)),(6,.c (.d (.sl (bD V.1)))),(7,.c (.d (.sl (bD V.2)))),(8,.c (.ptr 2 0)),(9,.c (.aE 3 0 p.ns 1)),(10,.c (.d (.int .i64 (M:Nat)))),(12,.c (.aE 4 0 p.nn 1)),(14,.c (.d (.int .i64 (fr:Nat)))),(15,.c (.d (.int .i64 (hd:Nat)))),(16,.c (.d (.int .i64 (i:Nat)))),(18,.c (.ptr 7 0))],oY p lf (.cells true false 3 (zK (av.set i (r)))) L [] (qh:Nat) (qt:Nat) 0 (bX mm)⟩ 20 Q:=by
 have hi2:(i:Int)<(p.nn:Int):=by omega
 have hle:i+1<=av.length:=by omega
 have hld:=Ge (av:=av) (i:=i) (by omega) r;have hz:=uH av i r (wk L 0 hd mm) (by omega);unfold EY at hQ;rw[<-hr]at hQ
 conv=>
  enter [3]
  whnf
 refine aae λK1 hK1=>?_
 by_cases c1:r<0
 rotate_left
 ·rw[if_neg (λq=>c1 q.1)]at hQ;refine acZ hi2 hld c1 (hK1 _ _ ?_);refine abg (aaE ?_);exact hQ _ _ (m9 rfl 3 4 5 6 7 _ (by decide) (by simp) (by rfl) (by rfl) (by simp) (λg=>⟨true,_,by simp,(aX _ _).symm,id⟩) (λg=>by simp;exact bY _ g) (λg=>by rfl) (λg=>⟨true,_,by rfl,rfl,id⟩) (by simp) (by simp[aQ]))
 by_cases c2:p.head.toNat<=i
 rotate_left
 ·have c2':¬p.head<=(i:Int):=by omega
  rw[if_neg (λq=>c2 q.2)]at hQ;refine acY hi2 hld c1 c2' (hK1 _ _ ?_);refine abg (aaE ?_);exact hQ _ _ (m9 rfl 3 4 5 6 7 _ (by decide) (by simp) (by rfl) (by rfl) (by simp) (λg=>⟨true,_,by simp,(aX _ _).symm,id⟩) (λg=>by simp;exact bY _ g) (λg=>by rfl) (λg=>⟨true,_,by rfl,rfl,id⟩) (by simp) (by simp[aQ]))
 have c2':p.head<=(i:Int):=by omega
 rw[if_pos ⟨c1,c2⟩]at hQ;refine acY hi2 hld c1 c2' (hK1 _ _ ?_);refine abA ?_
 by_cases hL0:L=[]
 ·subst hL0;obtain rfl:hd=0:=Nat.le_zero.1 hhd;have he:wk [] 0 0 mm = -1:=by unfold wk;simp[dg,Im]
  rw[he]at hz hQ;refine acs mixed (by kernel_rfl) rfl ?_;simp[AZ];refine ag.pure 21 9 (Ci m 0 mm) (by simp) (by simp) (by rfl) ?_;simp[hi2,hz]
  repeat refine aL ?_
  refine⟨by kernel_rfl,?_⟩;exact hQ _ _ (m9 rfl 3 4 5 6 7 _ (by decide) (by rfl) (by rfl) (by rfl) (by rfl) (λg=>⟨true,_,by simp,(aX _ _).symm,id⟩) (λg=>by rfl) (λg=>by rfl) (λg=>⟨true,_,by rfl,rfl,id⟩) (by rfl) (by simp[aQ,AZ,HX]))
 ·have n5:nS 5 L=.aE 5 0 L.length 7:=if_neg hL0;have n6:nH L=.cells true false 40 (iQ L):=if_neg hL0;have hhd':(hd:Int)<=(L.length:Int):=by omega
  have heq:=Gs m L 0 hd hhd (by omega) (by omega) mm;refine acs mixed (by kernel_rfl) rfl ?_;simp[n5,n6,hhd'];refine ag.Tj 21 9 5 (by simpa using heq) (by rfl) (by rfl) (by rfl) (by simp;exact n6) (by simp) (by decide) ?_;simp[hi2,hz]
  repeat refine aL ?_
  refine⟨by kernel_rfl,?_⟩;exact hQ _ _ (m9 rfl 3 4 5 6 7 _ (by decide) (by simp) (by rfl) (by rfl) (by simp) (λg=>⟨true,_,by simp,(aX _ _).symm,id⟩) (λg=>by simp_all) (λg=>by rfl) (λg=>⟨true,_,by rfl,rfl,id⟩) (by simp) (by simp[aQ]))
theorem abN(m:Int)(p:PD)(V:NS)(lf:List Int)(z:Ev)(hi:i<p.nn)(hal:av.length=p.nn)(hL:L.length<=3020)(r:Int)
 (hn:¬r<0->∀s κ,Le (⟨prog,GG m,z.w,z.F,z.W,Tryz.f7.ntmps,λ_=>.hole,z.b⟩:Ctx) s ⟨aJ [(1,.c (.ptr 0 0)),(2,.c (.ptr 1 0)),(6,.c (.d (.sl (bD V.1)))),(7,.c (.d (.sl (bD V.2)))),(8,.c (.ptr 2 0)),(9,.c (.aE 3 0 p.ns 1)),(10,.c (.d (.int .i64 (M:Nat)))),(12,.c (.aE 4 0 p.nn 1)),(14,.c (.d (.int .i64 (fr:Nat)))),(15,.c (.d (.int .i64 (hd:Nat)))),(16,.c (.d (.int .i64 (i:Nat))))],oY p lf (.cells true false 3 (zK (av.set i (r)))) L [] (qh:Nat) (qt:Nat) 0 .hole⟩->Q .normal s κ)
 (hy:r<0->∀s κ,Le (⟨prog,GG m,z.w,z.F,z.W,Tryz.f7.ntmps,λ_=>.hole,z.b⟩:Ctx) s ⟨aJ [(1,.c (.ptr 0 0)),(2,.c (.ptr 1 0)),(6,.c (.d (.sl (bD V.1)))),(7,.c (.d (.sl (bD V.2)))),(8,.c (.ptr 2 0)),(9,.c (.aE 3 0 p.ns 1)),(10,.c (.d (.int .i64 (M:Nat)))),(12,.c (.aE 4 0 p.nn 1)),(14,.c (.d (.int .i64 (fr:Nat)))),(15,.c (.d (.int .i64 (hd:Nat)))),(16,.c (.d (.int .i64 (i:Nat))))],oY p lf (.cells true false 3 (zK (av.set i ((L.length:Int))))) (L++[mm]) [] (qh:Nat) (qt:Nat) 0 .hole⟩->Q .normal s κ) :
 AW (⟨prog,GG m,z.w,z.F,z.W,Tryz.f7.ntmps,λ_=>.hole,z.b⟩:Ctx) none (cW [1,1,1,1,1,1,1,1,1,1,1,1,0,1,2,3,1,0,2,1,1,1,1,1,1,1,2,1,5,1,5,1,4,1,1,1] Tryz.f7) ⟨aJ [(1,.c (.ptr 0 0)),(2,.c (.ptr 1 0)),(6,.c (.d (.sl (bD V.1)))),(7,.c (.d (.sl (bD V.2)))),(8,.c (.ptr 2 0)),(9,.c (.aE 3 0 p.ns 1)),(10,.c (.d (.int .i64 (M:Nat)))),(12,.c (.aE 4 0 p.nn 1)),(14,.c (.d (.int .i64 (fr:Nat)))),(15,.c (.d (.int .i64 (hd:Nat)))),(16,.c (.d (.int .i64 (i:Nat)))),(18,.c (.ptr 7 0))],oY p lf (.cells true false 3 (zK (av.set i (r)))) L [] (qh:Nat) (qt:Nat) 0 (bX mm)⟩ 20 Q:=by
 have hi2:(i:Int)<(p.nn:Int):=by omega
 have hle:i+1<=av.length:=by omega
 have hld:=Ge (av:=av) (i:=i) (by omega) r;have hz:=uH av i r L.length (by omega);obtain⟨ks,hlen⟩:=CK 5 (L:=L) (by omega)
 conv=>
  enter [3]
  whnf
 refine aae λK1 hK1=>?_
 by_cases c1:r<0
 rotate_left
 ·refine acZ hi2 hld c1 (hK1 _ _ ?_);refine abg (aaE ?_);exact hn c1 _ _ (m9 rfl 3 4 5 6 30 _ (by decide) (by simp) (by rfl) (by rfl) (by simp) (λg=>⟨true,_,by simp,(aX _ _).symm,id⟩) (λg=>by simp;exact bY _ g) (λg=>by rfl) (λg=>by simp;rfl) (by simp) (by simp[aQ]))
 refine acZ hi2 hld c1 (hK1 _ _ ?_);refine abA (adb hlen hi2 hz ?_);have hbs:∀(lv:Key->LB) (h:lv 21=.hole),ai prog 24 1 [0] lv 21 [mm.A]=some (.c (.aE 21 0 1 7),[(21,.cells true false 40 (iQ [mm]))],[],True):=λlv h=>Sx lv 21 h mm
 by_cases hL0:L=[]
 ·subst hL0;refine aaJ ?_;simp[AZ,HX,hbs,dS,keyOf,vm,qc,aj,-ai];refine hy c1 _ _ ?_;exact(m9 rfl 3 4 22 6 30 _ (by decide) (by simp) (by rfl) (by rfl) (by simp) (λg=>⟨true,_,by simp,(aX _ _).symm,id⟩) (λg=>by simp;exact(by exact bY [mm] g)) (λg=>by rfl) (λg=>by simp;rfl) (by simp) (by simp[aQ]))
 ·have n5:nS 5 L=.aE 5 0 L.length 7:=if_neg hL0;have n6:nH L=.cells true false 40 (iQ L):=if_neg hL0;have hLb:(L.length:Int)<=9223372036854775807:=by omega
  refine aaJ ?_;simp[n5,n6,hbs,dS,keyOf,qc,mI,aj,-ai]
  repeat refine aL ?_
  refine hy c1 _ _ ?_;exact(m9 rfl 3 4 22 6 30 _ (by decide) (by simp) (by rfl) (by simp[nS,xj]) (by simp) (λg=>⟨true,_,by simp,(aX _ _).symm,id⟩) (λg=>by simp;exact(by rw[uj,qY];simp)) (λg=>by rfl) (λg=>by simp;rfl) (by simp) (by simp[aQ,C5]))
theorem XY(m:Int)(p:PD)(V:NS)(lf:List Int)(z:Ev){c:CS}(hg:p.good)(hi:i<p.nn)(hal:av.length=p.nn)(hV:jn p V)(hlf:lf.length=p.ns)(hlb:∀x∈lf,-1<=x/\x<=100)
 (hL:c.L.length<=3020) (hfr:fr<=3020) (hhd:hd<=c.L.length) (ht:sx p i<3) (hup:c.upto (sx p i)) (hfr2:(p.nd i).op=2->0<=lf.getD (p.nd i).a.toNat 0->fr=c.off (sx p i))
 (hfind:cS V.1 i->∀mm,EY c.L fr hd (p.head.toNat<=i) mm=rW c (sx p i) mm)
 (hQ:∀c' av',(jS p V lf (c.off (sx p i)) (sx p i) c av i).2=c'->av.set i (jS p V lf (c.off (sx p i)) (sx p i) c av i).1=av'->∀s κ,Le (⟨prog,GG m,z.w,z.F,z.W,Tryz.f7.ntmps,λ_=>.hole,z.b⟩:Ctx) s ⟨aJ [(1,.c (.ptr 0 0)),(2,.c (.ptr 1 0)),(6,.c (.d (.sl (bD V.1)))),(7,.c (.d (.sl (bD V.2)))),(8,.c (.ptr 2 0)),(9,.c (.aE 3 0 p.ns 1)),(10,.c (.d (.int .i64 (M:Nat)))),(12,.c (.aE 4 0 p.nn 1)),(14,.c (.d (.int .i64 (fr:Nat)))),(15,.c (.d (.int .i64 (hd:Nat)))),(16,.c (.d (.int .i64 (i:Nat))))],oY p lf (.cells true false 3 (zK av')) c'.L [] (qh:Nat) (qt:Nat) 0 .hole⟩->Q .normal s κ) :
 AW (⟨prog,GG m,z.w,z.F,z.W,Tryz.f7.ntmps,λ_=>.hole,z.b⟩:Ctx) none (cW [1,1,1,1,1,1,1,1,1,1,1,1,0,1,2,3,1,0,2,1,1,1,1,1,1,1] Tryz.f7) ⟨aJ [(1,.c (.ptr 0 0)),(2,.c (.ptr 1 0)),(6,.c (.d (.sl (bD V.1)))),(7,.c (.d (.sl (bD V.2)))),(8,.c (.ptr 2 0)),(9,.c (.aE 3 0 p.ns 1)),(10,.c (.d (.int .i64 (M:Nat)))),(12,.c (.aE 4 0 p.nn 1)),(14,.c (.d (.int .i64 (fr:Nat)))),(15,.c (.d (.int .i64 (hd:Nat)))),(16,.c (.d (.int .i64 (i:Nat)))),(17,.c (.ptr 7 0))],oY p lf (.cells true false 3 (zK (av.set i (-1)))) c.L [] (qh:Nat) (qt:Nat) 0 (bX (p.nd i))⟩ 20 Q:=by
 have hi2:(i:Int)<(p.nn:Int):=by omega
 have hle:i+1<=av.length:=by omega
 have hio:i<av.length:=by omega
 obtain⟨hop,hst,hkd⟩:=jh hg hi;obtain⟨⟨a1,a2,a3,a4⟩,-,⟨g1,g2,g3⟩,-⟩:=eW.1 hg.gen;obtain⟨n,hn⟩:∃n,p.nd i=n:=⟨_,rfl⟩
 unfold jS at hQ;simp only[hn]at hop hst hkd hfr2 hQ ⊢
 conv=>
  enter [3]
  whnf
 refine abd (aae λK hK=>?_)
 by_cases c1:n.op=1
 ·have c1':(n.op=1)=True:=eq_true c1;have hz:=uH av i (-1) n.a hio;simp only[if_pos c1]at hQ;refine acC c1' (hK _ _ ?_);refine abA (aaJ ?_);simp[hi2,hz]
  repeat refine aL ?_
  exact hQ c _ rfl rfl _ _ (m9 rfl 3 4 5 6 30 _ (by decide) (by simp) (by rfl) (by rfl) (by simp) (λg=>⟨true,_,by simp,(aX _ _).symm,id⟩) (λg=>by simp;exact bY _ g) (λg=>by rfl) (λg=>by simp;rfl) (by simp) (by simp[aQ]))
 have c1':(n.op=1)=False:=eq_false c1;simp only[if_neg c1]at hQ;refine acC c1' (hK _ _ ?_);refine abg (aae λK hK=>?_)
 by_cases c2:n.op=2
 ·have c2':(n.op=2)=True:=eq_true c2;simp only[if_pos c2]at hQ;have ha:=hst c2;obtain⟨q,hq⟩:∃q:Nat,n.a=q:=⟨n.a.toNat,by omega⟩
  have hqs:q<lf.length:=by omega
  have hq2:(q:Int)<(p.ns:Int):=by omega
  have hld:=dh (P:=prog) (T:=3) (by simp) hqs;have hgd:lf.getD q 0=lf[q]:=by rw[ac2,bp hqs];rfl
  have hlq:=hlb _ (aZ hqs);have hfr2:=hfr2 c2;simp only[hq,ac9,hgd]at hQ hfr2;obtain⟨x,hx⟩:∃x,lf[q]=x:=⟨_,rfl⟩
  simp only[hx]at hld hQ hlq hfr2;refine acC c2' (hK _ _ ?_);refine abA (aae λK hK=>?_)
  by_cases c3:x<0
  ·simp only[if_pos c3]at hQ;have c3':¬0<=x:=by omega
   refine acY hq hq2 hld c3' (hK _ _ ?_);refine abg (aaE ?_);exact hQ c _ rfl rfl _ _ (m9 rfl 3 4 5 6 30 _ (by decide) (by simp) (by rfl) (by rfl) (by simp) (λg=>⟨true,_,by simp,(aX _ _).symm,id⟩) (λg=>by simp;exact bY _ g) (λg=>by rfl) (λg=>by simp;rfl) (by simp) (by simp[aQ]))
  ·simp only[if_neg c3]at hQ;have c3':0<=x:=by omega
   have hf:=hfr2 c3';have hw:=bE (n:=(fr:Int)+x) (by omega) (by omega);have hz:=uH av i (-1) ((fr:Int)+x) hio;refine acY hq hq2 hld c3' (hK _ _ ?_);refine abA (aaJ ?_);simp[hq,hq2,hld,hw,hi2,hz]
   repeat refine aL ?_
   rw[<-hf]at hQ;exact hQ c _ rfl rfl _ _ (m9 rfl 3 4 5 6 30 _ (by decide) (by simp) (by rfl) (by rfl) (by simp) (λg=>⟨true,_,by simp,(aX _ _).symm,id⟩) (λg=>by simp;exact bY _ g) (λg=>by rfl) (λg=>by simp;rfl) (by simp) (by simp[aQ]))
 have c2':(n.op=2)=False:=eq_false c2;simp only[if_neg c2]at hQ;refine acC c2' (hK _ _ ?_);refine abg (aae λK hK=>?_);have hiV:i<V.1.length:=by rw[hV.1];exact hi
 have hxv:=λlv=>Ct (T:=62) (by simp) lv V.1 hiV
 have hgv:V.1.getD i false=V.1[i]:=by rw[ac2,bp hiV];rfl
 have hin:=Ai hiV;simp only[hgv]at hQ;obtain⟨b,hb⟩:∃b,V.1[i]=b:=⟨_,rfl⟩
 simp only[hb]at hxv hQ hin
 cases b with
 |false=>
  simp only[if_true]at hQ;refine acC hxv (hK _ _ ?_);refine abg (aaE ?_);exact hQ c _ rfl rfl _ _ (m9 rfl 3 4 5 6 30 _ (by decide) (by simp) (by rfl) (by rfl) (by simp) (λg=>⟨true,_,by simp,(aX _ _).symm,id⟩) (λg=>by simp;exact bY _ g) (λg=>by rfl) (λg=>by simp;rfl) (by simp) (by simp[aQ]))
 |true=>
  have hfind:=hfind (hin.2 rfl);obtain⟨mm,hmm⟩:∃mm,n.dw av=mm:=⟨_,rfl⟩
  simp only[hmm,Bool.true_eq_false,if_false]at hQ;have hra:=PE m n hop.1 hop.2 (av.set i (-1)) (by grind) (by grind)
  have hrn:n.dw (av.set i (-1))=mm:=by
   rw[<-hmm]
   exact mO hop λy hy=>by
    grind
  rw[hrn,aep,hal]at hra;have hff:=hfind mm;refine acC hxv (hK _ _ ?_);refine abA ?_;refine acU (κ2:=20) (s2:=⟨aJ [(1,.c (.ptr 0 0)),(2,.c (.ptr 1 0)),(6,.c (.d (.sl (bD V.1)))),(7,.c (.d (.sl (bD V.2)))),(8,.c (.ptr 2 0)),(9,.c (.aE 3 0 p.ns 1)),(10,.c (.d (.int .i64 (M:Nat)))),(12,.c (.aE 4 0 p.nn 1)),(14,.c (.d (.int .i64 (fr:Nat)))),(15,.c (.d (.int .i64 (hd:Nat)))),(16,.c (.d (.int .i64 (i:Nat)))),(17,.c (.ptr 7 0))],oY p lf (.cells true false 3 (zK (av.set i (-1)))) c.L [] (qh:Nat) (qt:Nat) 0 (bX n)⟩) (m9 rfl 3 4 5 6 7 _ (by decide) (by simp) (by rfl) (by rfl) (by simp) (λg=>⟨true,_,by simp,(aX _ _).symm,id⟩) (λg=>by simp;exact bY _ g) (λg=>by rfl) (λg=>⟨true,_,by rfl,rfl,id⟩) (by simp) (by simp[aQ])) ?_;refine aae λK1 hK1=>adk (y:=cW [1,1,1,1,1,1,1,1,1,1,1,1,0,1,2,3,1,0,2,1,1,1,1,1,1,1,2,1,5,1,5,1,4,0] Tryz.f7) (by kernel_rfl) (aaA m p V lf z hal hra λs κ hle=>hK1 _ _ (acU (κ2:=20) hle (aae λK2 hK2=>adk (y:=cW [1,1,1,1,1,1,1,1,1,1,1,1,0,1,2,3,1,0,2,1,1,1,1,1,1,1,2,1,5,1,5,1,4,1,0] Tryz.f7) (by kernel_rfl) (Z5 m p V lf z hi hal hL hfr λs κ hle=>hK2 _ _ (acU (κ2:=20) hle ?_)))))
  refine aae λK3 hK3=>adk (y:=cW [1,1,1,1,1,1,1,1,1,1,1,1,0,1,2,3,1,0,2,1,1,1,1,1,1,1,2,1,5,1,5,1,4,1,1,0] Tryz.f7) (by kernel_rfl) (aaj m p V lf z g1 hi hal hL hhd _ rfl λs κ hle=>hK3 _ _ (acU (κ2:=20) hle ?_))
  refine adk (y:=cW [1,1,1,1,1,1,1,1,1,1,1,1,0,1,2,3,1,0,2,1,1,1,1,1,1,1,2,1,5,1,5,1,4,1,1,1] Tryz.f7) (by kernel_rfl) ?_;rw[hff];refine abN m p V lf z hi hal hL _ (λhr s κ hle=>?_) λhr s κ hle=>?_
  ·cases hf:c.find (sx p i) mm with
   |none=>unfold rW at hr;rw[hf]at hr;exact absurd (by decide) hr
   |some k=>
    have e1:rW c (sx p i) mm=(k:Int):=by unfold rW;rw[hf];show((0+k:Nat):Int)=k;rw[adx]
    have e2:c.put (sx p i) mm=(k,c):=by unfold CS.put;rw[hf]
    simp_all
  ·cases hf:c.find (sx p i) mm with
   |some k=>unfold rW at hr;rw[hf]at hr;exact absurd hr (by show ¬((0+k:Nat):Int)<0;omega)
   |none=>
    have e2:c.put (sx p i) mm=(c.L.length,c.iD (sx p i) [mm]):=CS.tB (CS.vK.1 hf);rw[e2]at hQ;have e3:(c.iD (sx p i) [mm]).L=c.L++[mm]:=(CS.qW ht hup [mm]).2.1;refine hQ (c.iD (sx p i) [mm]) _ rfl rfl _ _ ?_;rw[e3];exact hle
end Go.Am
