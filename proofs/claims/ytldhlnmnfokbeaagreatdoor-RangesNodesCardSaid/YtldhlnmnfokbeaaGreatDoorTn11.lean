/- Helpers. -/
import Derived.Test.YtldhlnmnfokbeaaGreatDoorTn10

set_option linter.all false
set_option maxHeartbeats 8000000
set_option maxRecDepth 100000
open Go.IntKind
open Go.Proofs.Tryz
namespace Go.Am
open Go.Am.Ty Go.Proofs N
variable {p:PD}{lv:Key->LB}{D dl:DV}{c c0:Ctx}{i k κ n m node j N t M u:Nat}{r s C S R x c' s' r':Rat}{o d:Nat->Iv}{a b v:Iv}{Q:Ex->aJ->Nat->Prop}{is l L:List Iv}{T:TypeId}{fr:Nat->AV}{K:AV->List (Key×LB)->List Key->Nat->Prop}{X y:AV}{fn:Func}{cs:List CV}{e op:Int}{fid f:FuncId}{own fz:Bool}{dp:Nat->Bool}
theorem rO(n:Nat)(hi:i<kM p k)(h0:dF p k i≠0)(h1:∀j,j<i->dF p k j=0):fC p (n+1) k=((k:Int)+1,(i:Int),dF p k i):=by
 show(match kS (dF p k) (kM p k)with|some i=>((k:Int)+1,(i:Int),dF p k i)|none=>fC p n (k+1))=_;rw[xK hi h0 h1]
theorem pV(n:Nat)(h1:∀j,j<kM p k->dF p k j=0):fC p (n+1) k=fC p n (k+1):=by
 show(match kS (dF p k) (kM p k)with|some i=>((k:Int)+1,(i:Int),dF p k i)|none=>fC p n (k+1))=_;rw[xX h1]
abbrev abl(v:Int×Int×Int):AV:=.tup [.c (.d (.int .i64 v.1)),.c (.d (.int .i64 v.2.1)),.c (.d (.int .i64 v.2.2))]
theorem FB(m:Int)(p:PD)(hp:p.ok):aa prog (GG m) 86 [p.A] (abl (jT p)):=by
 have hge:=IA (GG m) p
 by_cases hg:gj p=0
 rotate_left
 ·have hr:jT p=(0,0,gj p):=by unfold jT;rw[if_pos hg]
  rw[hr];refine aa.en func86 rfl λ_=>aah ?_;refine abi 1 hge ?_;refine aac λK hK=>aah ?_;refine aaB yk (aah ?_);exact aaq (aD.t3 rfl 9 zp zp zp)
 have v0:jT p=fC p 4 0:=sq
 rw[hg]at hge;have hrg:=eX hg;have hwi:=pE (GG m) p.res p.nn;have hse:=wZ (GG m) p p.res;have q0:=λi=>xL (GG m) (p.fm i).1 (p.fm i).2
 have q1:=λi=>HW m p hp (p.inp i)
 have q2:=λi hi=>Lx m p hp i hi zd
 have q3:=λi hi=>HV m p hp hg i hi
 have x0:∀lv (i:Nat),i<p.nf->aq prog 22 lv (.c (dc p.f)) (.c (.d (.int .i64 (i:Int))))=some (.c (.d (.ptr (prE (p.fm i)))),[],[],True):=by
  intro lv i hi;have:=ixF hp lv (i:Int) zd zd
  rwa[adW]at this
 have x1:=λlv i hi=>abu p lv hp i hi
 refine aa.ML func86 rfl λ_=>aah ?_;refine abi 1 hge ?_;refine aac λK hK=>aah ?_;refine aax (aan (hK _ _ (aac λKa0 hKa0=>aah ?_)));refine aaw ?_
 refine aaY (λ(i:Nat)=>⟨aT [(1,.c (.ptr 0 0)),(6,.c (.d (.int .i64 i)))],aM (λ_=>.hole) 0 (.cells true false 27 p.cs)⟩) 2
  (λi=>i<=p.nf/\∀j,j<i->dF p 0 j=0) (λi=>p.nf-i) 0 (Le.fJ _) ⟨zd,λj hj=>absurd hj (aer j)⟩ ?_
 rintro i ⟨hi,hall⟩
 try simp only at hi hall
 refine aac λK3 hK3=>aaN @CD ?_
 by_cases hlt:i<p.nf
 ·have hlt':(i:Int)<(p.nf:Int):=by omega
  have f12:=bP (n:=(i:Int)+1) zd zd;have hxn:=λlv=>x0 lv i hlt
  have hcc:=q0 i;have hE:iV (p.fm i).1 (p.fm i).2=dF p 0 i:=rfl;rw[hE]at hcc;refine aaB xv (aan (hK3 _ _ (aac λK5 hK5=>aaw (abx 3 hcc hxn ?_))));refine aah ?_
  by_cases h0:dF p 0 i=0
  ·refine aaD yk (aan (hK5 _ _ (aai ?_)));simp[f12];refine⟨i+1,Le.fJ _,⟨zd,λj hj=>?_⟩,zd⟩
   grind
  ·have hres:=v0.trans (rO 3 (k:=0) (i:=i) hlt h0 hall);refine aaB yk (aah ?_);exact aaq (aD.t3 rfl 9 wb wb wb)
 have hlt':¬(i:Int)<(p.nf:Int):=zd
 have v1:=v0.trans (pV 3 (k:=0) (λj (hj:j<p.nf)=>hall j zd));refine aaD xv (aaR ?_);simp;clear hall hlt hlt';apply hKa0;refine aac λKa1 hKa1=>aah ?_;refine aaw ?_
 refine aaY (λ(i:Nat)=>⟨aT [(1,.c (.ptr 0 0)),(8,.c (.d (.int .i64 i)))],aM (λ_=>.hole) 0 (.cells true false 27 p.cs)⟩) 2
  (λi=>i<=p.ni/\∀j,j<i->dF p 1 j=0) (λi=>p.ni-i) 0 (Le.fJ _) ⟨zd,λj hj=>absurd hj (aer j)⟩ ?_
 rintro i ⟨hi,hall⟩
 try simp only at hi hall
 refine aac λK3 hK3=>aaN @MI ?_
 by_cases hlt:i<p.ni
 ·have hlt':(i:Int)<(p.ni:Int):=by omega
  have f12:=bP (n:=(i:Int)+1) zd zd;have hxn:=λlv=>x1 lv i hlt
  have hcc:=q1 i;have hE:wO p (p.inp i)=dF p 1 i:=rfl;rw[hE]at hcc;refine aaB xv (aan (hK3 _ _ (aac λK5 hK5=>aaw (aac λK6 hK6=>?_))));refine aaT mixed zt rfl ?_;simp[hxn];refine ag.p 3 9 hcc ?_;simp;refine⟨zt,?_⟩;apply hK6;refine aah ?_
  by_cases h0:dF p 1 i=0
  ·refine aaD yk (aan (hK5 _ _ (aai ?_)));simp[f12];refine⟨i+1,Le.fJ _,⟨zd,λj hj=>?_⟩,zd⟩
   grind
  ·have hres:=v1.trans (rO 2 (k:=1) (i:=i) hlt h0 hall);refine aaB yk (aah ?_);exact aaq (aD.t3 rfl 9 wb wb wb)
 have hlt':¬(i:Int)<(p.ni:Int):=zd
 have v2:=v1.trans (pV 2 (k:=1) (λj (hj:j<p.ni)=>hall j zd));refine aaD xv (aaR ?_);simp;clear hall hlt hlt';apply hKa1;refine aac λKa2 hKa2=>aah ?_;refine aaw ?_
 refine aaY (λ(i:Nat)=>⟨aT [(1,.c (.ptr 0 0)),(10,.c (.d (.int .i64 i)))],aM (λ_=>.hole) 0 (.cells true false 27 p.cs)⟩) 2
  (λi=>i<=p.nn/\∀j,j<i->dF p 2 j=0) (λi=>p.nn-i) 0 (Le.fJ _) ⟨zd,λj hj=>absurd hj (aer j)⟩ ?_
 rintro i ⟨hi,hall⟩
 try simp only at hi hall
 refine aac λK3 hK3=>aaN @s8 ?_
 by_cases hlt:i<p.nn
 ·have hlt':(i:Int)<(p.nn:Int):=by omega
  have f12:=bP (n:=(i:Int)+1) zd zd;have hxn:=True.intro;have hcc:=q2 i hlt;have hE:l6 p i (p.nd i)=dF p 2 i:=rfl;rw[hE]at hcc;refine aaB xv (aan (hK3 _ _ (aac λK5 hK5=>aaw (abi 3 hcc ?_))));refine aah ?_
  by_cases h0:dF p 2 i=0
  ·refine aaD yk (aan (hK5 _ _ (aai ?_)));simp[f12];refine⟨i+1,Le.fJ _,⟨zd,λj hj=>?_⟩,zd⟩
   grind
  ·have hres:=v2.trans (rO 1 (k:=2) (i:=i) hlt h0 hall);refine aaB yk (aah ?_);exact aaq (aD.t3 rfl 9 wb wb wb)
 have hlt':¬(i:Int)<(p.nn:Int):=zd
 have v3:=v2.trans (pV 1 (k:=2) (λj (hj:j<p.nn)=>hall j zd));refine aaD xv (aaR ?_);simp;clear hall hlt hlt';apply hKa2;refine aac λKa3 hKa3=>aah ?_;refine aaw ?_
 refine aaY (λ(i:Nat)=>⟨aT [(1,.c (.ptr 0 0)),(12,.c (.d (.int .i64 i)))],aM (λ_=>.hole) 0 (.cells true false 27 p.cs)⟩) 2
  (λi=>i<=p.ns/\∀j,j<i->dF p 3 j=0) (λi=>p.ns-i) 0 (Le.fJ _) ⟨zd,λj hj=>absurd hj (aer j)⟩ ?_
 rintro i ⟨hi,hall⟩
 try simp only at hi hall
 refine aac λK3 hK3=>aaN @Qa ?_
 by_cases hlt:i<p.ns
 ·have hlt':(i:Int)<(p.ns:Int):=by omega
  have f12:=bP (n:=(i:Int)+1) zd zd;have hxn:=True.intro;have hcc:=q3 i hlt;have hE:zR p i (p.st i)=dF p 3 i:=rfl;rw[hE]at hcc;refine aaB xv (aan (hK3 _ _ (aac λK5 hK5=>aaw (abi 3 hcc ?_))));refine aah ?_
  by_cases h0:dF p 3 i=0
  ·refine aaD yk (aan (hK5 _ _ (aai ?_)));simp[f12];refine⟨i+1,Le.fJ _,⟨zd,λj hj=>?_⟩,zd⟩
   grind
  ·have hres:=v3.trans (rO 0 (k:=3) (i:=i) hlt h0 hall);refine aaB yk (aah ?_);exact aaq (aD.t3 rfl 9 wb wb wb)
 have hlt':¬(i:Int)<(p.ns:Int):=zd
 have v4:=v3.trans (pV 0 (k:=3) (λj (hj:j<p.ns)=>hall j zd));refine aaD xv (aaR ?_);simp;clear hall hlt hlt';apply hKa3;have hfin:jT p=if 0<=p.res/\p.res<p.nn/\ot p p.res≠1 then(0,0,0)else(5,0,7):=v4
 refine aac λK hK=>aac λK1 hK1=>?_
 by_cases h1:0<=p.res/\p.res<p.nn
 rotate_left
 ·have hd:decide (0<=p.res/\p.res<(p.nn:Int))=false:=decide_eq_false h1;have hres:jT p=(5,0,7):=by rw[hfin,if_neg (λh=>h1 ⟨h.1,h.2.1⟩)]
  rw[hd]at hwi;refine abI 3 hwi @s8 (hK1 _ _ ?_);refine aaE (aah ?_);exact aaq (aD.t3 rfl 9 wb wb wb)
 have hd:decide (0<=p.res/\p.res<(p.nn:Int))=true:=decide_eq_true h1;rw[hd]at hwi
 by_cases h2:ot p p.res=1
 ·have hres:jT p=(5,0,7):=by rw[hfin,if_neg (λh=>h.2.2 h2)]
  rw[h2]at hse;refine aai ?_;simp[s8];refine ag.p 3 9 hwi ?_;simp;refine ag.p 3 9 hse ?_;simp;apply hK1;refine aaE (aah ?_);exact aaq (aD.t3 rfl 9 wb wb wb)
 ·have hres:jT p=(0,0,0):=by rw[hfin,if_pos ⟨h1.1,h1.2,h2⟩]
  refine aai ?_;simp[s8];refine ag.p 3 9 hwi ?_;simp;refine ag.p 3 9 hse ?_;simp[h2];apply hK1;refine aaD xr (aan (hK _ _ (aah ?_)));exact aaq (aD.t3 rfl 9 wb wb wb)
theorem G0(G:List (List DV))(x:Rat)(hx:bF x 1000000):aa prog G 132 [bQ x] (.c (.d (.int .i64 (s9 x:Int)))):=by
 have z1:=Ei hx.1;have z2:=Ei hx.2;have c1:=sJ G x.num.natAbs (cw x) (iW x) zd;have b1:=iH G x;have c2:=sJ G x.den (some (aL 1000000000 x.den)) rfl zd;rw[<-OM]at c1 c2;have l1:=mN x.num.natAbs;have l2:=mN x.den;have hx1:(aL 4294967296 x.num.natAbs).length<=1000000:=hx.1;have hx2:(aL 4294967296 x.den).length<=1000000:=hx.2;have hd:s9 x=max (eP x.num.natAbs).length (eP x.den).length:=rfl;generalize eP x.num.natAbs=s at*
 generalize eP x.den=t at*
 have hmx:(if s.length<t.length then(t.length:Int)else(s.length:Int))=(s9 x:Int):=by rw[hd];split<;>omega
 generalize s9 x=d at*
 refine aa.en func132 rfl λ_=>?_;refine aau mixed (lD c1 b1 c2) (mo @eN.eq_1 @eN.eq_2 @eN.eq_3 hmx) ?_;exact aaq (aD.rt rfl 2 zp)
theorem mH(G:List (List DV))(x:Rat)(hx:bF x 1000000):aa prog G 61 [bQ x] (.c (.d (.bool (eS x)))):=by
 have c1:=G0 G x hx;have e:eS x=decide ((2000:Int)<(s9 x:Int)):=by unfold eS;congr 1;exact propext zd
 rw[e];generalize s9 x=d at*
 refine aa.en func61 rfl λ_=>?_;refine aau mixed c1 trivial ?_;exact aaq (aD.rt rfl 2 zp)
theorem La(m:Int)(p:PD)(hp:p.ok):aa prog (GG m) 34 [p.A] (.c (.d (.int .i64 (jT p).2.2))):=by
 have h:=FB m p hp;generalize jT p=v at*
 refine aa.en func34 rfl λ_=>aah ?_;refine abi 1 h ?_;refine aah ?_;exact aaq (aD.rt rfl 2 zp)
theorem r7(m:Int)(p:PD)(hp:p.ok)(b:Option (List Sp))(node:Int):
 aa prog (GG m) 16 [p.A,.c (dc (uh b)),.c (.d (.int .i64 node))] (.tup [.c (dc (if gS p (bH b) node=0 then Hr (gM (bH b))else none)),.c (.d (.int .i64 (gS p (bH b) node)))]):=by
 have c1:=La m p hp;have hlb:=λlv=>Ra lv b
 have hli:=λlv=>MI p lv
 have hln:=λlv=>s8 p lv
 obtain⟨ce,hce⟩:∃ce,(jT p).2.2=ce:=⟨_,rfl⟩
 rw[hce]at c1
 by_cases h1:ce=0
 rotate_left
 ·have e:gS p (bH b) node=ce:=by unfold gS;rw[hce];exact if_pos h1
  rw[e,if_neg h1];refine aa.en func16 rfl λ_=>?_;refine aau mixed c1 h1 ?_;exact aaq (aD.t2 rfl 9 wr zp)
 subst h1;have hg:=vf hp hce;obtain⟨hn1,hn2,hn3,hnf,hni,hnn,hns⟩:=eX hg.gen
 by_cases h2:((bH b).length:Int)=p.ni
 rotate_left
 ·have e:gS p (bH b) node=2:=by unfold gS;rw[hce,if_neg zr];exact if_pos h2
  rw[e,if_neg zr];refine aa.en func16 rfl λ_=>?_;refine aau mixed c1 (lD hlb hli h2) ?_;exact aaq (aD.t2 rfl 9 wr zp)
 have c2:=HR (GG m) b zd;have h3':pZ (bH b) 0≠0->gS p (bH b) node=pZ (bH b) 0:=λh=>by unfold gS;rw[hce,if_neg zr,if_neg (not_not_intro h2)];exact if_pos h
 have h4':pZ (bH b) 0=0->gS p (bH b) node=if node<0\/(p.nn:Int)<=node then 7 else 0:=λh=>by unfold gS;rw[hce,if_neg zr,if_neg (not_not_intro h2),if_neg (not_not_intro h)]
 obtain⟨D,hD⟩:∃D,dc (Hr (gM (bH b)))=.d D:=by cases Hr (gM (bH b))<;>exact⟨_,rfl⟩
 generalize gS p (bH b) node=E at*
 generalize pZ (bH b) 0=be at*
 by_cases h3:be=0
 rotate_left
 ·rw[if_neg h3]at c2;obtain rfl:=h3' h3;rw[if_neg h3];refine aa.en func16 rfl λ_=>?_;refine aau mixed (eY c1 c2) (mo hlb hli h2 h3) ?_;exact aaq (aD.t2 rfl 9 wr zp)
 rw[if_pos h3]at c2;have h4:=h4' h3;subst h3;simp only[hD]at c2 ⊢
 by_cases h5:node<0\/(p.nn:Int)<=node
 ·rw[if_pos h5]at h4;subst h4;rw[if_neg zr];have h6:node<0\/¬node<0/\(p.nn:Int)<=node:=by omega
  rcases h6 with h6|⟨h6,h7⟩
  ·refine aa.en func16 rfl λ_=>?_;refine aau mixed (eY c1 c2) (mo hlb hli h2 h6) ?_;exact aaq (aD.t2 rfl 9 wr zp)
  ·refine aa.en func16 rfl λ_=>?_;refine aau mixed (eY c1 c2) (me hlb hli h2 h6 hln h7) ?_;exact aaq (aD.t2 rfl 9 wr zp)
 ·rw[if_neg h5]at h4;subst h4;rw[if_pos rfl];have h6:¬node<0:=by omega
  have h7:¬(p.nn:Int)<=node:=zd
  rw[hD];refine aa.en func16 rfl λ_=>?_;refine aau mixed (eY c1 c2) (me hlb hli h2 h6 hln h7) ?_;exact aaq (aD.t2 rfl 9 zp zp)
theorem wM(M:List Bool)(k j:Nat)(hj:j<M.length):(M.set k true).getD j false=(M.getD j false ||decide (k=j)):=by
 rw[ab6,ab6,List.getElem?_set]
 by_cases h:k=j
 ·subst h;simp[hj]
 ·simp[h]
theorem sP:∀(ks:List Nat) (M:List Bool) (j:Nat),j<M.length->(nv M ks).getD j false=(M.getD j false ||decide (j∈ks))
 |[],M,j,_=>by simp[nv]
 |k::ks,M,j,hj=>by
  have e:nv M (k::ks)=nv (M.set k true) ks:=rfl;rw[e,sP ks (M.set k true) j jp,wM M k j hj]
  by_cases h:k=j
  ·subst h;simp
  ·have h':¬j=k:=λe=>h e.symm
   simp[h,h']
theorem Gy(p:PD)(n:Nat):∀(i:Nat) (M M':List Bool),i<=n->n<=M.length->n<=M'.length->(∀j,j<n->M.getD j false=M'.getD j false)->∀j,j<n->(wm p i M).getD j false=(wm p i M').getD j false
 |0,_,_,_,_,_,h=>h
 |i+1,M,M',hi,h1,h2,h=>by
  refine Gy p n i (uM p M i) (uM p M' i) zd (by rw[AJ];exact h1) (by rw[AJ];exact h2) λj hj=>?_;unfold uM;rw[h i zd];split
  ·rw[sP _ _ _ zd,sP _ _ _ zd,h j hj]
  ·exact h j hj
theorem CM(p:PD)(hn:node<n)(hj:j<=node):(jR p node n).getD j false=iP p node j:=by
 unfold iP jR;refine Gy p (node+1) (node+1) _ _ (bf _) yv zp (λk hk=>?_) j zd
 have e:∀n k,(List.replicate n false).getD k false=false:=λn k=>by
  rw[ab6,List.getElem?_replicate];split<;>rfl
 rw[wM _ _ _ yv,wM _ _ _ yv,e,e]
theorem qu(m:Int)(p:PD)(hp:p.ok)(hg:p.good)(node:Nat)(hn:node<p.nn):aa prog (GG m) 55 [p.A,.c (.d (.int .i64 (node:Int)))] (.c (bC (some (jR p node p.nn)))):=by
 obtain⟨hn1,hn2,hn3,-,-,hnn,hns⟩:=eX hg.gen;have hrep:∀n,gh n [CV.d (.bool false)]=bK (List.replicate n false):=λn=>by rw[El];simp[gh]
 have hrep':∀n,List.replicate n (CV.d (.bool false))=bK (List.replicate n false):=λn=>(El n).symm
 have hln:=λlv=>s8 p lv
 have hki:∀i,i<p.nn->∀k∈aP (p.nd i),0<=k/\k<(i:Int):=λi hi=>(tQ hg hi).2.2
 have hxa:=λlv i (hi:i<p.nn)=>wI p lv hp i hi
 obtain⟨N,hN⟩:∃N,p.nn=N:=⟨_,rfl⟩
 rw[hN]at hn hnn;simp only[hN]at hln hki hxa⊢;obtain⟨M0,hM0⟩:∃M0,List.replicate N false=M0:=⟨_,rfl⟩
 have hl0:M0.length=N:=by rw[<-hM0];simp
 have hst1:=EC M0 node true zd;have hV:wm p (node+1) (M0.set node true)=jR p node N:=by rw[<-hM0];rfl
 have hnl:(node:Int)<(N:Int):=zd
 refine aa.ed func55 rfl λ_=>?_;refine abM ?_;refine abF mixed trivial trivial ?_;refine abM ?_;refine abF mixed trivial (lD hln hrep hrep') ?_;rw[hM0];refine aau mixed trivial (lD hst1 hl0 hn) ?_
 refine aaY (λ(a:Nat×List Bool)=>⟨aT [(1,.c (.d (.int .i64 (node:Int)))),(2,.c (.ptr 0 0)),(5,.c (.aO 1 0 N 1)),(6,.c (.d (.int .i64 ((a.1:Int)-1))))],Mv p a.2⟩) 10
  (λa=>a.1<=node+1/\a.2.length=N/\wm p a.1 a.2=jR p node N) (λa=>a.1) (node+1,M0.set node true) (yo rfl _ zp zp zp (by simp[aV]<;>omega)) ⟨bf _,by simp[hl0],hV⟩ ?_
 rintro⟨j,M⟩ ⟨hj,hl,hsw⟩
 try simp only at hj hl hsw ⊢
 refine aau mixed trivial trivial ?_
 cases j with
 |zero=>
  have hsw:M=jR p node N:=hsw;refine abF mixed trivial trivial ?_;refine abF mixed trivial trivial ?_;refine abM ?_;refine abF mixed trivial trivial ?_;rw[<-hsw,<-hl];refine aaq (cq.tmp (κ:=0) (X:=.c (.aO 1 0 M.length 1)) (t:=4) (ks:=[1]) rfl bj ?_);exact Jq (own:=true) (fz:=false) (T:=4) zp zd
 |succ i=>
  have hi:i<N:=zd
  have hi0:((i+1:Nat):Int)-1=(i:Int):=zd
  have hi1:0<=(i:Int):=zd
  have hiM:i<M.length:=zd
  have f1:=bP (n:=(i:Int)-1) zd zd;have hstp:wm p (i+1) M=wm p i (uM p M i):=rfl;have hgd:=Bj hiM;rw[hstp]at hsw;rw[hi0];have hkr:=hki i hi;have hxn:=λlv=>hxa lv i hi
  obtain⟨n,hn'⟩:∃n,p.nd i=n:=⟨_,rfl⟩
  rw[hn']at hkr;have hstd:uM p M i=if M.getD i false then nv M ((aP n).map Int.toNat)else M:=by unfold uM;rw[hn']
  simp only[hn']at hxn;have hkd:=wC (GG m) n;have lpk:=λlv=>Un (T:=92) zp lv (zN (aP n))
  have ixk:∀lv (q:Nat) (hq:q<(aP n).length),aq prog 92 lv (.c (zC (zN (aP n)))) (.c (.d (.int .i64 (q:Int))))=some (.c (.d (.ptr [.int .i64 (aP n)[q]])),[],[],True):=by
   intro lv q hq;have:=V6 (T:=92) zp lv (zN (aP n)) (i:=q) (by rw[vh];exact hq);simp only[vh]at this;exact this
  rw[vh]at lpk;have hkl:=oN n;obtain⟨kz,hkz⟩:∃kz:DV,zC (zN (aP n))=.d kz:=by cases zN (aP n)<;>exact⟨_,rfl⟩
  simp only[hkz]at hkd lpk ixk;generalize aP n=kl at*
  refine aau mixed hkd (eY hi1 hxn) ?_;obtain⟨b,hb⟩:∃b,M[i]=b:=⟨_,rfl⟩
  rw[hb]at hgd
  cases b with
  |false=>
   have e:uM p M i=M:=by rw[hstd,hgd];rfl
   rw[e]at hsw;have hld:=DS (P:=prog) (T:=4) zp hiM;rw[hb]at hld
   refine aaY (λ(_:Unit)=>⟨aT [(1,.c (.d (.int .i64 (node:Int)))),(2,.c (.ptr 0 0)),(5,.c (.aO 1 0 N 1)),(6,.c (.d (.int .i64 (i:Int)))),(7,.c (.d kz)),(8,.c (.d (.int .i64 0)))],Mv p M⟩) 11
    (λ_=>True) (λ_=>0) () (yo rfl _ zp zp zp xa) trivial ?_
   rintro⟨⟩ -
   try simp only
   refine aau mixed trivial trivial ?_
   by_cases h0:0<kl.length
   ·refine aau mixed trivial (BF lpk h0 hi hld f1) ?_;exact⟨i,M,yo rfl _ zp zp zp xa,⟨zd,hl,hsw⟩,zd⟩
   ·refine aau mixed trivial (lD lpk h0 f1) ?_;exact⟨i,M,yo rfl _ zp zp zp xa,⟨zd,hl,hsw⟩,zd⟩
  |true=>
   have e:uM p M i=nv M (kl.map Int.toNat):=by rw[hstd,hgd];rfl
   rw[e]at hsw
   refine aaY (λ(q:Nat)=>⟨aT [(1,.c (.d (.int .i64 (node:Int)))),(2,.c (.ptr 0 0)),(5,.c (.aO 1 0 N 1)),(6,.c (.d (.int .i64 (i:Int)))),(7,.c (.d kz)),(8,.c (.d (.int .i64 (q:Int))))],Mv p (nv M ((kl.map Int.toNat).take q))⟩) 11
    (λq=>q<=kl.length) (λq=>kl.length-q) 0 (yo rfl _ zp (by simp[nv]) zp xa) (ab5 _) ?_
   rintro q hq
   try simp only at hq ⊢
   have hlq:=vo ((kl.map Int.toNat).take q) M;have hgq:=sP ((kl.map Int.toNat).take q) M i hiM;rw[hgd,Bool.true_or]at hgq
   have hsn:∀h:q<kl.length,nv M ((kl.map Int.toNat).take (q+1))=(nv M ((kl.map Int.toNat).take q)).set (kl[q]).toNat true:=λh=>by
    rw[afi,fy ta];simp only[Option.toList_some,rP];exact TU ..
   obtain⟨Mq,hMq⟩:∃Mq,nv M ((kl.map Int.toNat).take q)=Mq:=⟨_,rfl⟩
   rw[hMq]at hlq hgq;simp only[hMq]at hsn⊢;have hiq:i<Mq.length:=zd
   have hld:=DS (P:=prog) (T:=4) zp hiq;rw[Bj hiq]at hgq;rw[hgq]at hld;refine aau mixed trivial trivial ?_
   by_cases hqt:q<kl.length
   ·have hqt':(q:Int)<(kl.length:Int):=by omega
    have hxk:=λlv=>ixk lv q hqt
    have hk2:=hkr _ (cn hqt);have hsn:=hsn hqt;have f14:=bP (n:=(q:Int)+1) zd zd;generalize kl[q]=x at*
    obtain⟨x,rfl⟩:∃y:Nat,x=y:=⟨x.toNat,zd⟩
    rw[adW]at hsn;have hx1:x<N:=zd
    have hbs:=EC Mq x true zd;refine aau mixed trivial (me lpk hqt hi hld hxk (lD hx1 hbs f14)) ?_;refine⟨q+1,?_,zd,zd⟩;rw[hsn];exact yo rfl _ zp zp zp xa
   have hqe:q=kl.length:=zd
   rw[hqe,aeE zp]at hMq;rw[hMq]at hsw;have hqt':¬(q:Int)<(kl.length:Int):=zd
   refine aau mixed trivial (lD lpk hqt f1) ?_;exact⟨i,Mq,yo rfl _ zp zp zp xa,⟨zd,zd,hsw⟩,zd⟩
def jc(o:Nat->Iv)(n:Nat):List CV:=nX ((List.range n).map o)
theorem sj(o:Nat->Iv)(n:Nat):(jc o n).length=n*6:=by unfold jc;rw[vY];simp
theorem C0(o:Nat->Iv)(n:Nat)(g:Key->Key):(jc o n).map (CV.dA g)=jc o n:=nS _ g
theorem CU{o':Nat->Iv}(h:∀i,i<n->o i=o' i):jc o n=jc o' n:=by
 unfold jc;rw[aen λi hi=>h i (List.mem_range.1 hi)]
theorem qp(o:Nat->Iv)(n:Nat):jc o (n+1)=jc o n++[.d (.int .i64 (cu (o n).1)),rC (cw (o n).1),rC (cU (o n).1),.d (.int .i64 (cu (o n).2)),rC (cw (o n).2),rC (cU (o n).2)]:=by
 unfold jc;rw[List.range_succ,aeD,adi,ael,<-qm]
theorem B6(o:Nat->Iv)(h:i<m):∃r,jc o m=jc o i++[.d (.int .i64 (cu (o i).1)),rC (cw (o i).1),rC (cU (o i).1),.d (.int .i64 (cu (o i).2)),rC (cw (o i).2),rC (cU (o i).2)]++r/\∀g:Nat->Iv,(∀j,j<m->j≠i->g j=o j)->jc g m=jc o i++[.d (.int .i64 (cu (g i).1)),rC (cw (g i).1),rC (cU (g i).1),.d (.int .i64 (cu (g i).2)),rC (cw (g i).2),rC (cU (g i).2)]++r:=by
 induction m with
 |zero=>omega
 |succ m ih=>
  by_cases e:i=m
  ·subst e;exact⟨[],by rw[qp,ad5],λg hg=>by rw[qp,ad5,CU λj hj=>hg j zd zd]⟩
  ·obtain⟨r,h1,h2⟩:=ih zd;refine⟨r++[.d (.int .i64 (cu (o m).1)),rC (cw (o m).1),rC (cU (o m).1),.d (.int .i64 (cu (o m).2)),rC (cw (o m).2),rC (cU (o m).2)],by rw[qp,h1,acR],λg hg=>?_⟩;rw[qp,h2 g λj hj hne=>hg j zd hne,hg m zd zd,acR]
theorem zA(o:Nat->Iv)(h:i<m):∃r,(jc o m).drop (i*6)=[.d (.int .i64 (cu (o i).1)),rC (cw (o i).1),rC (cU (o i).1),.d (.int .i64 (cu (o i).2)),rC (cw (o i).2),rC (cU (o i).2)]++r:=by
 obtain⟨r,h1,_⟩:=B6 o h;refine⟨r,?_⟩;rw[h1,acR,afA (by rw[sj])]
theorem pH(o:Nat->Iv)(h:i<m)(v:Iv):ai (jc o m) (i*6) [.d (.int .i64 (cu v.1)),rC (cw v.1),rC (cU v.1),.d (.int .i64 (cu v.2)),rC (cw v.2),rC (cU v.2)]=jc (λj=>if j=i then v else o j) m:=by
 obtain⟨r,h1,h2⟩:=B6 o h;rw[h2 (λj=>if j=i then v else o j) λj _ hne=>if_neg hne,h1];unfold ai;have hl:(jc o i).length=i*6:=sj o i;have e:=acR (jc o i) [.d (.int .i64 (cu (o i).1)),rC (cw (o i).1),rC (cU (o i).1),.d (.int .i64 (cu (o i).2)),rC (cw (o i).2),rC (cU (o i).2)] r;rw[e,List.take_left' hl,<-e,afA (by rw[adl,hl];rfl)];simp only[if_true]
theorem FD(M:Nat):gh M [CV.d (.int .i64 0),CV.d .nilsl,CV.d .nilsl,CV.d (.int .i64 0),CV.d .nilsl,CV.d .nilsl]=jc (λ_=>(0,0)) M:=by
 have h:∀M,gh M [CV.d (.int .i64 0),CV.d .nilsl,CV.d .nilsl,CV.d (.int .i64 0),CV.d .nilsl,CV.d .nilsl]++[CV.d (.int .i64 0),CV.d .nilsl,CV.d .nilsl,CV.d (.int .i64 0),CV.d .nilsl,CV.d .nilsl]=[CV.d (.int .i64 0),CV.d .nilsl,CV.d .nilsl,CV.d (.int .i64 0),CV.d .nilsl,CV.d .nilsl]++gh M [CV.d (.int .i64 0),CV.d .nilsl,CV.d .nilsl,CV.d (.int .i64 0),CV.d .nilsl,CV.d .nilsl]:=by
  intro M
  induction M with
  |zero=>rfl
  |succ M ih=>
   show([CV.d (.int .i64 0),CV.d .nilsl,CV.d .nilsl,CV.d (.int .i64 0),CV.d .nilsl,CV.d .nilsl]++gh M _)++_=_++([CV.d (.int .i64 0),CV.d .nilsl,CV.d .nilsl,CV.d (.int .i64 0),CV.d .nilsl,CV.d .nilsl]++gh M _)
   rw[acR,ih]
 induction M with
 |zero=>rfl
 |succ M ih=>
  show [CV.d (.int .i64 0),CV.d .nilsl,CV.d .nilsl,CV.d (.int .i64 0),CV.d .nilsl,CV.d .nilsl]++gh M _=jc _ (M+1);rw[<-h,ih,qp];rfl
section
variable {lv:Key->LB}{own fz:Bool}{T:TypeId}
theorem Of{k:Key}(h:lv k=.cells own fz T cs):aq prog 54 lv (.c (.aO k 0 n 6)) (.c (.d (.int .i64 (i:Int))))=some (.c (.ptr k (i*6)),[],[k],i<n):=by
 simp[aq,h]
theorem UE{k:Key}(h:lv k=.cells own fz T (jc o m))(hi:i<m):aA prog 44 lv (.c (.ptr k (i*6)))=some (cg (o i),[],[k],True):=by
 obtain⟨r,hr⟩:=zA o hi;simp[aA,h,hr]
end
theorem Fg{k:Key}(h:lv k=.cells own fz T (jc o n))(hl:n<=1000000):gq lv (.c (.aO k 0 n 6))=some (.c (.d (.sl (((List.range n).map o).map cD))),[k]):=by
 have:=ob (es:=((List.range n).map o).map cD) (sz:=6) h wc yv;rw[sC,sC,List.length_range]at this;exact this
theorem tP(o:Nat->Iv)(n:Nat)(g:Key->Key):(LB.cells own fz T (jc o n)).like (.cells own fz T (jc o n)) g:=LB.aN.2 ⟨rfl,rfl,(C0 o n g).symm,id⟩
section
variable {lv:Key->LB}{own fz:Bool}{T:TypeId}
theorem TE{k:Key}(h:lv k=.cells own fz T (jc o m))(hi:i<m):aA prog 42 lv (.c (.ptr k (i*6)))=some (bQ (o i).1,[],[k],True):=by
 obtain⟨r,hr⟩:=zA o hi;simp[aA,h,hr]
theorem TI{k:Key}(h:lv k=.cells own fz T (jc o m))(hi:i<m):aA prog 42 lv (.c (.ptr k (i*6+3)))=some (bQ (o i).2,[],[k],True):=by
 obtain⟨r,hr⟩:=zA o hi;have h3:(jc o m).drop (i*6+3)=((jc o m).drop (i*6)).drop 3:=by rw[afe]
 simp[aA,h,h3,hr]
end
def Bv(D:DV)(l:List Iv):Prop:=D=.sl (l.map cD)\/(D=.nilsl/\l=[])
theorem qj(hT:(fU prog T).map (·.2)=some 6)(h:Bv D l)(lv:Key->LB)(hi:i<l.length):aq prog T lv (.c (.d D)) (.c (.d (.int .i64 (i:Int))))=some (.c (.d (.ptr (cD l[i]))),[],[],True):=by
 rcases h with rfl|⟨-,rfl⟩
 ·refine Sm (o:=some (l.map cD)) (sz:=6) hT zd (by simp[sO];omega) ?_ rfl;show(l.map cD).getD _ []=cD l[i];rw[adW,ab6,aez,fy hi];rfl
 ·cases hi
theorem sU(l:List Iv):∃D:DV,dc (Hr l)=.d D/\Bv D l:=by
 unfold Hr
 by_cases h:l=[]
 ·rw[if_pos h];exact⟨.nilsl,rfl,.inr ⟨rfl,h⟩⟩
 ·rw[if_neg h];exact⟨.sl (l.map cD),rfl,.inl rfl⟩
theorem RP(h:Bv D l)(lv:Key->LB):eT prog 54 lv (.c (.d D))=some (.c (.d (.int .i64 l.length)),[],[],True):=by
 rcases h with rfl|⟨rfl,rfl⟩
 ·have e:=fP (P:=prog) (T:=54) (lv:=lv) (o:=some (l.map cD)) zp;rw[show(sO (some (l.map cD))).length=l.length from sC ..]at e;exact e
 ·exact fP (P:=prog) (T:=54) (lv:=lv) (o:=none) zp
theorem JF(h:Bv D [a]):(∀lv,aq prog 54 lv (.c (.d D)) (.c (.d (.int .i64 0)))=some (.c (.d (.ptr (cD a))),[],[],True)):=
 λlv=>qj zp h lv (i:=0) zp
theorem B4(h:Bv D [a,b]):(∀lv,aq prog 54 lv (.c (.d D)) (.c (.d (.int .i64 0)))=some (.c (.d (.ptr (cD a))),[],[],True))/\(∀lv,aq prog 54 lv (.c (.d D)) (.c (.d (.int .i64 1)))=some (.c (.d (.ptr (cD b))),[],[],True)):=
 ⟨λlv=>qj zp h lv (i:=0) zp,λlv=>qj zp h lv (i:=1) zp⟩
theorem Ya{c:Iv}(h:Bv D [a,b,c]):(∀lv,aq prog 54 lv (.c (.d D)) (.c (.d (.int .i64 0)))=some (.c (.d (.ptr (cD a))),[],[],True))/\(∀lv,aq prog 54 lv (.c (.d D)) (.c (.d (.int .i64 1)))=some (.c (.d (.ptr (cD b))),[],[],True))/\(∀lv,aq prog 54 lv (.c (.d D)) (.c (.d (.int .i64 2)))=some (.c (.d (.ptr (cD c))),[],[],True)):=
 ⟨λlv=>qj zp h lv (i:=0) zp,λlv=>qj zp h lv (i:=1) zp,λlv=>qj zp h lv (i:=2) zp⟩
theorem XW{c d:Iv}(h:Bv D [a,b,c,d]):(∀lv,aq prog 54 lv (.c (.d D)) (.c (.d (.int .i64 0)))=some (.c (.d (.ptr (cD a))),[],[],True))/\(∀lv,aq prog 54 lv (.c (.d D)) (.c (.d (.int .i64 1)))=some (.c (.d (.ptr (cD b))),[],[],True))/\(∀lv,aq prog 54 lv (.c (.d D)) (.c (.d (.int .i64 2)))=some (.c (.d (.ptr (cD c))),[],[],True))/\(∀lv,aq prog 54 lv (.c (.d D)) (.c (.d (.int .i64 3)))=some (.c (.d (.ptr (cD d))),[],[],True)):=
 ⟨λlv=>qj zp h lv (i:=0) zp,λlv=>qj zp h lv (i:=1) zp,λlv=>qj zp h lv (i:=2) zp,λlv=>qj zp h lv (i:=3) zp⟩
theorem L3(m:Int)(op:Int)(k:List Iv)(hD:Bv D k)(h4:4<=op)(h15:op<=15)(hk:k.length=cH op)(hg:∀a∈k,a.g):aa prog (GG m) 59 [.c (.d (.int .i64 op)),.c (.d D)] (.tup [cg (uu op k).1,.c (.d (.int .i64 (uu op k).2))]):=by
 obtain⟨⟨⟨r1,r2⟩,e⟩,hv⟩:∃v,uu op k=v:=⟨_,rfl⟩
 rw[hv];refine aa.enc func59 rfl (λlv=>bW lv _ _ _ _ _ _ _ rfl) λ_=>?_;rcases Rk (show 1<=op by omega) h15 with rfl|rfl|rfl|rfl|rfl|rfl|rfl|rfl|rfl|rfl|rfl|rfl|rfl|rfl|rfl
 ·omega
 ·omega
 ·omega
 ·obtain⟨a,rfl⟩:=FK hk;have X:=JF hD;have ga:=hg a zp;obtain⟨hr,he⟩:=acF (show(a.neg,(0:Int))=((r1,r2),e) from hv);have c1:=C3 (GG m) a;rw[hr]at c1;obtain⟨a1,a2⟩:=a;subst he;refine aau mixed c1 (mo @cD.eq_1 @jL @ai.eq_1 X) ?_;exact aal (aF.fI (κ:=0) (t:=4) (k:=0) (u:=5) ⟨rfl,rfl⟩ zp yi zp)
 ·obtain⟨a,rfl⟩:=FK hk;have X:=JF hD;have ga:=hg a zp;obtain⟨hr,he⟩:=acF (show(a.abs,(0:Int))=((r1,r2),e) from hv);have c1:=Rx (GG m) a (Iv.aC ga.1 zr);rw[hr]at c1;obtain⟨a1,a2⟩:=a;subst he;refine aau mixed c1 (mo @cD.eq_1 @jL @ai.eq_1 X) ?_;exact aal (aF.fI (κ:=0) (t:=4) (k:=0) (u:=5) ⟨rfl,rfl⟩ zp yi zp)
 ·obtain⟨a,rfl⟩:=FK hk;have X:=JF hD;have ga:=hg a zp;obtain⟨hr,he⟩:=acF (show(LX a 96,(Hu a.1:Int))=((r1,r2),e) from hv);have c1:=Nk m a 96 ga.2 ga.1.1 ga.1.2;rw[hr]at c1;rw[he]at c1;obtain⟨a1,a2⟩:=a;refine aau mixed c1 (mo @cD.eq_1 @jL @ai.eq_1 X) ?_;exact aal (aF.fI (κ:=0) (t:=4) (k:=0) (u:=5) ⟨rfl,rfl⟩ zp yi zp)
 ·obtain⟨a,rfl⟩:=FK hk;have X:=JF hD;have ga:=hg a zp;obtain⟨hr,he⟩:=acF (show(a,(0:Int))=((r1,r2),e) from hv);subst hr;subst he;refine aau mixed trivial (mo @cD.eq_1 @jL @ai.eq_1 X) ?_;exact aal (aF.fI (κ:=0) (t:=4) (k:=0) (u:=5) ⟨rfl,rfl⟩ zp yi zp)
 ·obtain⟨a,b,rfl⟩:=yM hk;have X:=B4 hD;have ga:=hg a zp;have gb:=hg b zp;obtain⟨hr,he⟩:=acF (show(a.add b,(0:Int))=((r1,r2),e) from hv);have c1:=mh (GG m) a b (Iv.aC ga.1 zr) (Iv.aC gb.1 zr);rw[hr]at c1;obtain⟨a1,a2⟩:=a;obtain⟨b1,b2⟩:=b;subst he;refine aau mixed c1 (mo @cD.eq_1 @jL @ai.eq_1 X) ?_;exact aal (aF.fI (κ:=0) (t:=4) (k:=0) (u:=5) ⟨rfl,rfl⟩ zp yi zp)
 ·obtain⟨a,b,rfl⟩:=yM hk;have X:=B4 hD;have ga:=hg a zp;have gb:=hg b zp;obtain⟨hr,he⟩:=acF (show(a.sub b,(0:Int))=((r1,r2),e) from hv);have c1:=Dm (GG m) a b (Iv.aC ga.1 zr) (Iv.aC gb.1 zr);rw[hr]at c1;obtain⟨a1,a2⟩:=a;obtain⟨b1,b2⟩:=b;subst he;refine aau mixed c1 (mo @cD.eq_1 @jL @ai.eq_1 X) ?_;exact aal (aF.fI (κ:=0) (t:=4) (k:=0) (u:=5) ⟨rfl,rfl⟩ zp yi zp)
 ·obtain⟨a,b,rfl⟩:=yM hk;have X:=B4 hD;have ga:=hg a zp;have gb:=hg b zp;obtain⟨hr,he⟩:=acF (show(a.mul b,(0:Int))=((r1,r2),e) from hv);have c1:=mA (GG m) a b (Iv.aC ga.1 zr) (Iv.aC gb.1 zr);rw[hr]at c1;obtain⟨a1,a2⟩:=a;obtain⟨b1,b2⟩:=b;subst he;refine aau mixed c1 (mo @cD.eq_1 @jL @ai.eq_1 X) ?_;exact aal (aF.fI (κ:=0) (t:=4) (k:=0) (u:=5) ⟨rfl,rfl⟩ zp yi zp)
 ·obtain⟨a,b,rfl⟩:=yM hk;have X:=B4 hD;have ga:=hg a zp;have gb:=hg b zp;obtain⟨hr,he⟩:=acF (show(nq a b,(if b.has 0 then(8:Int)else 0:Int))=((r1,r2),e) from hv);have c1:=Dp (GG m) a b (Iv.aC ga.1 zr) (Iv.aC gb.1 zr);rw[hr]at c1;rw[he]at c1;obtain⟨a1,a2⟩:=a;obtain⟨b1,b2⟩:=b;refine aau mixed c1 (mo @cD.eq_1 @jL @ai.eq_1 X) ?_;exact aal (aF.fI (κ:=0) (t:=4) (k:=0) (u:=5) ⟨rfl,rfl⟩ zp yi zp)
 ·obtain⟨a,b,rfl⟩:=yM hk;have X:=B4 hD;have ga:=hg a zp;have gb:=hg b zp;obtain⟨hr,he⟩:=acF (show((eM a.1 b.1,eM a.2 b.2),(0:Int))=((r1,r2),e) from hv);have c1:=vj (GG m) a.1 b.1 (au ga.1.1 zr) (au gb.1.1 zr);have c2:=vj (GG m) a.2 b.2 (au ga.1.2 zr) (au gb.1.2 zr)
  cases hr
  generalize eM a.1 b.1=r1 at*
  generalize eM a.2 b.2=r2 at*
  obtain⟨a1,a2⟩:=a;obtain⟨b1,b2⟩:=b;subst he;refine aau mixed (eY c1 c2) (BF @cD.eq_1 @jL @MG @ai.eq_1 X) ?_;exact aal (aF.fI (κ:=0) (t:=4) (k:=0) (u:=5) ⟨rfl,rfl⟩ zp yi zp)
 ·obtain⟨a,b,rfl⟩:=yM hk;have X:=B4 hD;have ga:=hg a zp;have gb:=hg b zp;obtain⟨hr,he⟩:=acF (show((fh a.1 b.1,fh a.2 b.2),(0:Int))=((r1,r2),e) from hv);have c1:=vg (GG m) a.1 b.1 (au ga.1.1 zr) (au gb.1.1 zr);have c2:=vg (GG m) a.2 b.2 (au ga.1.2 zr) (au gb.1.2 zr)
  cases hr
  generalize fh a.1 b.1=r1 at*
  generalize fh a.2 b.2=r2 at*
  obtain⟨a1,a2⟩:=a;obtain⟨b1,b2⟩:=b;subst he;refine aau mixed (eY c1 c2) (BF @cD.eq_1 @jL @MG @ai.eq_1 X) ?_;exact aal (aF.fI (κ:=0) (t:=4) (k:=0) (u:=5) ⟨rfl,rfl⟩ zp yi zp)
 ·obtain⟨a,b,c,rfl⟩:=Xi hk;have X:=Ya hD;have ga:=hg a zp;have gb:=hg b zp;have gc:=hg c zp;obtain⟨hr,he⟩:=acF (show((a.mul b).add c,(0:Int))=((r1,r2),e) from hv);have c1:=mA (GG m) a b (Iv.aC ga.1 zr) (Iv.aC gb.1 zr);have c2:=mh (GG m) (a.mul b) c (Iv.aC (cX ga.1 gb.1) zr) (Iv.aC gc.1 zr);rw[hr]at c2;generalize a.mul b=q at*
  obtain⟨a1,a2⟩:=a;obtain⟨b1,b2⟩:=b;obtain⟨c1',c2'⟩:=c;obtain⟨q1,q2⟩:=q;subst he;refine aau mixed (eY c1 c2) (mo @cD.eq_1 @jL @ai.eq_1 X) ?_;exact aal (aF.fI (κ:=0) (t:=4) (k:=0) (u:=5) ⟨rfl,rfl⟩ zp yi zp)
 ·obtain⟨a,b,c,d,rfl⟩:=Yt hk;have X:=XW hD;have ga:=hg a zp;have gb:=hg b zp;have gc:=hg c zp;have gd:=hg d zp
  by_cases h1:a.2<=b.1
  ·obtain⟨hr,he⟩:=acF ((if_pos h1).symm.trans hv);have c1:=fS (GG m) a.2 b.1 (au ga.1.2 zr) (au gb.1.1 zr);have g1:=gJ.2 h1;generalize bS a.2 b.1=k1 at*
   subst hr;obtain⟨a1,a2⟩:=a;obtain⟨b1,b2⟩:=b;obtain⟨q1,q2⟩:=d;subst he;refine aau mixed c1 (BF @cD.eq_1 @jL g1 @ai.eq_1 X) ?_;exact aal (aF.fI (κ:=0) (t:=4) (k:=0) (u:=5) ⟨rfl,rfl⟩ zp yi zp)
  by_cases h2:b.2<a.1
  ·obtain⟨hr,he⟩:=acF (((if_neg h1).trans (if_pos h2)).symm.trans hv);have c1:=fS (GG m) a.2 b.1 (au ga.1.2 zr) (au gb.1.1 zr);have c2:=fS (GG m) a.1 b.2 (au ga.1.1 zr) (au gb.1.2 zr);have g1:¬bS a.2 b.1<=0:=λh=>h1 (gJ.1 h)
   have g2:0<bS a.1 b.2:=by
    have:¬bS a.1 b.2<=0:=λh=>by have:=gJ.1 h;grind
    omega
   generalize bS a.2 b.1=k1 at*
   generalize bS a.1 b.2=k2 at*
   subst hr;obtain⟨a1,a2⟩:=a;obtain⟨b1,b2⟩:=b;obtain⟨p1,p2⟩:=c;subst he;refine aau mixed (eY c1 c2) (me @cD.eq_1 @jL g1 g2 @ai.eq_1 X) ?_;exact aal (aF.fI (κ:=0) (t:=4) (k:=0) (u:=5) ⟨rfl,rfl⟩ zp yi zp)
  obtain⟨hr,he⟩:=acF (((if_neg h1).trans (if_neg h2)).symm.trans hv);have c1:=fS (GG m) a.2 b.1 (au ga.1.2 zr) (au gb.1.1 zr);have c2:=fS (GG m) a.1 b.2 (au ga.1.1 zr) (au gb.1.2 zr);have c3:=NV (GG m) c d (Iv.aC gc.1 zr) (Iv.aC gd.1 zr) gc.2 gd.2;have g1:¬bS a.2 b.1<=0:=λh=>h1 (gJ.1 h)
  have g2:¬0<bS a.1 b.2:=by
   have:bS a.1 b.2<=0:=gJ.2 yn;omega
  generalize bS a.2 b.1=k1 at*
  generalize bS a.1 b.2=k2 at*
  rw[show c.join d=(r1,r2) from hr]at c3;obtain⟨a1,a2⟩:=a;obtain⟨b1,b2⟩:=b;obtain⟨p1,p2⟩:=c;obtain⟨q1,q2⟩:=d;subst he;refine aau mixed (lD c1 c2 c3) (me @cD.eq_1 @jL g1 g2 @ai.eq_1 X) ?_;exact aal (aF.fI (κ:=0) (t:=4) (k:=0) (u:=5) ⟨rfl,rfl⟩ zp yi zp)
theorem lQ(x:Iv):aA prog 44 lv (.c (.d (.ptr (cD x))))=some (cg x,[],[],True):=by simp[aA,cD,jL]
abbrev EL:List CV:=[.d (.int .i64 0),.d .nilsl,.d .nilsl,.d (.int .i64 0),.d .nilsl,.d .nilsl]
abbrev Ve(d:Nat->Iv)(M:Nat):List LB:=[.cells false false 44 (jc d M)]
abbrev dL1(d:Nat->Iv)(M:Nat)(n:Nd):Key->LB:=aM (aM (aM (λ_=>.hole) 0 (.cells false false 44 (jc d M))) 1000 (.cells true false 85 (Xt n))) 1001 (.cells true false 44 EL)
theorem NY(d:Nat->Iv)(M:Nat):cY (Ve d M) []=aM (λ_=>.hole) 0 (.cells false false 44 (jc d M)):=by
 funext k;match k with|0=>rfl|k+1=>simp[cY,aM]
theorem yp.rv{s:aJ}(hr:c.P=prog/\fn.results=#[.cell 8 44,.tmp 9])(hc:c.jd=aM (λ_=>.hole) 0 (.cells false false 44 (jc d M)))
 (h0:s.lv 0=.cells false false 44 (jc d M)) (h9:s.lv 9=.hole) (h8:s.fr 8=.c (.ptr 1001 0)) (h1:s.lv 1001=.cells true false 44 [.d (.int .i64 (cu v.1)),rC (cw v.1),rC (cU v.1),.d (.int .i64 (cu v.2)),rC (cw v.2),rC (cU v.2)]) (he:s.fr 9=.c (.d (.int .i64 e))) :
 yp c fn (.tup [cg v,.c (.d (.int .i64 e))]) (Ve d M) [] .ret s κ:=by
 refine⟨[(0,0,.cells false false 44 (jc d M))],9,?_,zp,zp,h9,?_,?_,?_,?_⟩
 ·rw[NY];rfl
 ·intro k hk;rw[hc]at hk
  match k with
  |0=>exact .inr rfl
  |k+1=>exact absurd np hk
 ·intro x hx;simp only[aZ,bw,or_false]at hx;subst hx;show(s.lv 0).like _ _;rw[h0];exact tP _ _ _
 ·exact AV.fu zp
 ·rw[hr.1,hr.2,AV.bV zp];show fq _ _ [.cell 8 44,.tmp 9]=_;simp[fq,kH,mj,h8,h1,he]
theorem uK{l:List Int}(hk:∀x∈l,0<=x/\x<i)(hi:i<M){a:Int}(ha:a∈l):∃A:Nat,a=A/\A<M:=
 ⟨a.toNat,by have:=hk a ha;omega,by have:=hk a ha;omega⟩
theorem KV(m:Int){R:DV}(hR:Bv R l)(r d:Nat->Iv)(M i:Nat)(inp:Int)(n:Nd)(hl:l.length=M)(hlr:∀j (h:j<l.length),l[j]=r j)(hi:i<M)(hk:∀x∈aP n,0<=x/\x<i)(hr:∀j,(r j).g)(hd:∀j,(d j).g)
 (ho:n.op=4\/n.op=7\/n.op=8\/n.op=9\/n.op=10\/n.op=14\/n.op=11\/n.op=6) :
 aQ prog (GG m) 63 [n.A,.c (.d (.int .i64 (i:Int))),.c (.d R),.c (.aO 0 0 M 6)] (Ve d M) (.ret (.tup [cg (yd inp r d i n).1,.c (.d (.int .i64 (yd inp r d i n).2))]) (Ve d M) []):=by
 have hR':=λlv (j:Nat) (h:j<M)=>qj (T:=54) zp hR lv (i:=j) zd
 simp only[hlr]at hR';obtain⟨⟨w,e'⟩,hv⟩:∃x,yd inp r d i n=x:=⟨_,rfl⟩
 rw[hv];have qi:=(hr i).1;have D:=λj=>(hd j).1
 have R:=λj=>(hr j).1
 obtain⟨op,a,b,c,dd,f,v⟩:=n;refine aQ.enm func63 rfl (NY d M) λ_=>aac λK hK=>aai ?_;simp
 repeat refine az ?_
 apply hK;obtain⟨lv,hlv⟩:∃lv,dL1 d M ⟨op,a,b,c,dd,f,v⟩=lv:=⟨_,rfl⟩
 show AW _ _ _ ⟨_,dL1 d M ⟨op,a,b,c,dd,f,v⟩⟩ _ _;rw[hlv];have nh:lv 1000=.cells true false 85 (Xt ⟨op,a,b,c,dd,f,v⟩):=xc
 have h0:lv 0=.cells false false 44 (jc d M):=xc
 have h9:lv 9=.hole:=xc
 have e:(∀k,k<=3->aA prog 3 lv (.c (.ptr 1000 k))=some (.c (.d (.int .i64 ([op,a,b,c].getD k 0))),[],[1000],True))/\(∀A,A<M->aA prog 44 lv (.c (.ptr 0 (A*6)))=some (cg (d A),[],[0],True))/\(∀A:Nat,aq prog 54 lv (.c (.aO 0 0 M 6)) (.c (.d (.int .i64 (A:Int))))=some (.c (.ptr 0 (A*6)),[],[0],A<M)) /\
  (∀w:Iv,aG prog 44 lv (.c (.ptr 1001 0)) (cg w)=some (.undef,[(1001,.cells true false 44 [.d (.int .i64 (cu w.1)),rC (cw w.1),rC (cU w.1),.d (.int .i64 (cu w.2)),rC (cw w.2),rC (cU w.2)])],[],True))/\i<M:=
  ⟨λk h=>by rw[<-hlv];match k,h with|0,_|1,_|2,_|3,_=>simp[aA],λA h=>UE h0 h,λA=>Of h0,λw=>by rw[<-hlv];simp[aG,AV.cells,ai],hi⟩
 simp only at ho;rcases ho with rfl|rfl|rfl|rfl|rfl|rfl|rfl|rfl
 ·obtain⟨A,rfl,hA⟩:=uK hk hi (a:=a) xi;obtain⟨rfl,rfl⟩:=acF (show((d A).neg,(0:Int))=(w,e') from hv);have c1:=C3 (GG m) (d A);refine aau mixed True.intro nh ?_;refine acn λK hK=>?_;simp[e,hR',hA,nh,lQ,-aA,-aG];refine ag.p 1002 9 c1 ?_ (hh:=h9);simp[e,hR',hA,nh,lQ,-aA,-aG]
  repeat refine az ?_
  refine hK _ _ ?_;refine wN ?_;exact aal (κ:=0) (yp.rv (κ:=0) ⟨rfl,rfl⟩ rfl xc xc zp rr zp)
 ·obtain⟨A,rfl,hA⟩:=uK hk hi (a:=a) xi;obtain⟨rfl,rfl⟩:=acF (show(d A,(0:Int))=(w,e') from hv);refine aau mixed True.intro nh ?_;refine acn λK hK=>?_;simp[e,hR',hA,nh,lQ,-aA,-aG]
  repeat refine az ?_
  refine hK _ _ ?_;refine wN ?_;exact aal (κ:=0) (yp.rv (κ:=0) ⟨rfl,rfl⟩ rfl xc xc zp rr zp)
 ·obtain⟨A,rfl,hA⟩:=uK hk hi (a:=a) xi;obtain⟨B,rfl,hB⟩:=uK hk hi (a:=b) xi;obtain⟨rfl,rfl⟩:=acF (show((d A).add (d B),(0:Int))=(w,e') from hv);have c1:=mh (GG m) (d A) (d B) (Iv.aC (D A) zr) (Iv.aC (D B) zr);refine aau mixed True.intro nh ?_;refine aci mixed λK hK=>?_;simp[e,hR',hA,hB,nh,lQ,-aA,-aG];refine ag.p 1002 9 c1 ?_ (hh:=h9);simp[e,hR',hA,hB,nh,lQ,-aA,-aG];refine⟨zt,?_⟩
  repeat refine az ?_
  refine hK _ _ ?_;refine wN ?_;exact aal (κ:=0) (yp.rv (κ:=0) ⟨rfl,rfl⟩ rfl xc xc zp rr zp)
 ·obtain⟨A,rfl,hA⟩:=uK hk hi (a:=a) xi;obtain⟨B,rfl,hB⟩:=uK hk hi (a:=b) xi;obtain⟨rfl,rfl⟩:=acF (show((d A).sub (d B),(0:Int))=(w,e') from hv);have c1:=Dm (GG m) (d A) (d B) (Iv.aC (D A) zr) (Iv.aC (D B) zr);refine aau mixed True.intro nh ?_;refine aci mixed λK hK=>?_;simp[e,hR',hA,hB,nh,lQ,-aA,-aG];refine ag.p 1002 9 c1 ?_ (hh:=h9);simp[e,hR',hA,hB,nh,lQ,-aA,-aG];refine⟨zt,?_⟩
  repeat refine az ?_
  refine hK _ _ ?_;refine wN ?_;exact aal (κ:=0) (yp.rv (κ:=0) ⟨rfl,rfl⟩ rfl xc xc zp rr zp)
 ·obtain⟨A,rfl,hA⟩:=uK hk hi (a:=a) xi;obtain⟨B,rfl,hB⟩:=uK hk hi (a:=b) xi;obtain⟨rfl,rfl⟩:=acF (show(((r A).mul (d B)).add ((r B).mul (d A)),(0:Int))=(w,e') from hv);have c1:=mA (GG m) (r A) (d B) (Iv.aC (R A) zr) (Iv.aC (D B) zr);have c2:=mA (GG m) (r B) (d A) (Iv.aC (R B) zr) (Iv.aC (D A) zr);have c3:=mh (GG m) ((r A).mul (d B)) ((r B).mul (d A)) (Iv.aC (cX (R A) (D B)) zr) (Iv.aC (cX (R B) (D A)) zr);refine aau mixed True.intro nh ?_;refine aci mixed λK hK=>?_;simp[e,hR',hA,hB,nh,lQ,-aA,-aG];refine ag.p 1002 9 c1 ?_ (hh:=h9);simp[e,hR',hA,hB,nh,lQ,-aA,-aG];refine ag.p 1002 9 c2 ?_ (hh:=h9);simp[e,hR',hA,hB,nh,lQ,-aA,-aG];refine ag.p 1002 9 c3 ?_ (hh:=h9);simp[e,hR',hA,hB,nh,lQ,-aA,-aG];refine⟨zt,?_⟩
  repeat refine az ?_
  refine hK _ _ ?_;refine wN ?_;exact aal (κ:=0) (yp.rv (κ:=0) ⟨rfl,rfl⟩ rfl xc xc zp rr zp)
 ·obtain⟨A,rfl,hA⟩:=uK hk hi (a:=a) xi;obtain⟨B,rfl,hB⟩:=uK hk hi (a:=b) xi;obtain⟨C,rfl,hC⟩:=uK hk hi (a:=c) xi;obtain⟨rfl,rfl⟩:=acF (show((((r A).mul (d B)).add ((r B).mul (d A))).add (d C),(0:Int))=(w,e') from hv);have c1:=mA (GG m) (r A) (d B) (Iv.aC (R A) zr) (Iv.aC (D B) zr);have c2:=mA (GG m) (r B) (d A) (Iv.aC (R B) zr) (Iv.aC (D A) zr);have c3:=mh (GG m) ((r A).mul (d B)) ((r B).mul (d A)) (Iv.aC (cX (R A) (D B)) zr) (Iv.aC (cX (R B) (D A)) zr);have c4:=mh (GG m) (((r A).mul (d B)).add ((r B).mul (d A))) (d C) (Iv.aC (jy (cX (R A) (D B)) (cX (R B) (D A))) zr) (Iv.aC (D C) zr);refine aau mixed True.intro nh ?_;refine aci mixed λK hK=>?_;simp[e,hR',hA,hB,hC,nh,lQ,-aA,-aG];refine ag.p 1002 9 c1 ?_ (hh:=h9);simp[e,hR',hA,hB,hC,nh,lQ,-aA,-aG];refine ag.p 1002 9 c2 ?_ (hh:=h9);simp[e,hR',hA,hB,hC,nh,lQ,-aA,-aG];refine ag.p 1002 9 c3 ?_ (hh:=h9);simp[e,hR',hA,hB,hC,nh,lQ,-aA,-aG];refine ag.p 1002 9 c4 ?_ (hh:=h9);simp[e,hR',hA,hB,hC,nh,lQ,-aA,-aG];refine⟨zt,?_⟩
  repeat refine az ?_
  refine hK _ _ ?_;refine wN ?_;exact aal (κ:=0) (yp.rv (κ:=0) ⟨rfl,rfl⟩ rfl xc xc zp rr zp)
 ·obtain⟨A,rfl,hA⟩:=uK hk hi (a:=a) xi;obtain⟨B,rfl,hB⟩:=uK hk hi (a:=b) xi;obtain⟨rfl,rfl⟩:=acF (show(nq (((r B).mul (d A)).sub ((r A).mul (d B))) ((r B).mul (r B)),(if ((r B).mul (r B)).has 0 then 8 else 0:Int))=(w,e') from hv);have c1:=mA (GG m) (r B) (d A) (Iv.aC (R B) zr) (Iv.aC (D A) zr);have c2:=mA (GG m) (r A) (d B) (Iv.aC (R A) zr) (Iv.aC (D B) zr);have s3:=uL (cX (R B) (D A)) (cX (R A) (D B));have s4:=cX (R B) (R B);have c3:=Dm (GG m) ((r B).mul (d A)) ((r A).mul (d B)) (Iv.aC (cX (R B) (D A)) zr) (Iv.aC (cX (R A) (D B)) zr);have c4:=mA (GG m) (r B) (r B) (Iv.aC (R B) zr) (Iv.aC (R B) zr);have c5:=Dp (GG m) (((r B).mul (d A)).sub ((r A).mul (d B))) ((r B).mul (r B)) (Iv.aC s3 zr) (Iv.aC s4 zr);refine aau mixed True.intro nh ?_;refine aci mixed λK hK=>?_;simp[e,hR',hA,hB,nh,lQ,-aA,-aG];refine ag.p 1002 9 c1 ?_ (hh:=h9);simp[e,hR',hA,hB,nh,lQ,-aA,-aG];refine ag.p 1002 9 c2 ?_ (hh:=h9);simp[e,hR',hA,hB,nh,lQ,-aA,-aG];refine ag.p 1002 9 c3 ?_ (hh:=h9);simp[e,hR',hA,hB,nh,lQ,-aA,-aG];refine ag.p 1002 9 c4 ?_ (hh:=h9);simp[e,hR',hA,hB,nh,lQ,-aA,-aG];refine ag.p 1002 9 c5 ?_ (hh:=h9);simp[e,hR',hA,hB,nh,lQ,-aA,-aG];refine⟨zt,?_⟩
  repeat refine az ?_
  refine hK _ _ ?_;refine wN ?_;exact aal (κ:=0) (yp.rv (κ:=0) ⟨rfl,rfl⟩ rfl xc xc zp rr zp)
 ·obtain⟨A,rfl,hA⟩:=uK hk hi (a:=a) xi;obtain⟨rfl,rfl⟩:=acF (show(nq (d A) ((r i).add (r i)),(if ((r i).add (r i)).has 0 then 8 else 0:Int))=(w,e') from hv);have c1:=mh (GG m) (r i) (r i) (Iv.aC qi zr) (Iv.aC qi zr);have c2:=Dp (GG m) (d A) ((r i).add (r i)) (Iv.aC (D A) zr) (Iv.aC (jy qi qi) zr);refine aau mixed True.intro nh ?_;refine aci mixed λK hK=>?_;simp[e,hR',hA,nh,lQ,-aA,-aG];refine ag.p 1002 9 c1 ?_ (hh:=h9);simp[e,hR',hA,nh,lQ,-aA,-aG];refine ag.p 1002 9 c2 ?_ (hh:=h9);simp[e,hR',hA,nh,lQ,-aA,-aG];refine⟨zt,?_⟩
  repeat refine az ?_
  refine hK _ _ ?_;refine wN ?_;exact aal (κ:=0) (yp.rv (κ:=0) ⟨rfl,rfl⟩ rfl xc xc zp rr zp)
abbrev HY(p:PD)(o:Nat->Iv)(N:Nat):Key->LB:=aM (aM (λ_=>.hole) 0 (.cells true false 27 p.cs)) 1 (.cells true false 44 (jc o N))
abbrev rvM(p:PD)(o:Nat->Iv)(N:Nat):List (Key×Key×LB):=[(0,0,.cells true false 27 p.cs),(1,1,.cells true false 44 (jc o N))]
theorem Lh(hc:c.jd=λ_=>.hole)(l:List (Nat×AV))(h0:lv 0=.cells true false 27 p.cs)(h1:lv 1=.cells true false 44 (jc o N))(h9:lv 9=.hole)
 (hl:∀x∈l,x.2.cG=true/\fr x.1=x.2.dA (aV (rvM p o N) 9)):Le c ⟨fr,lv⟩ ⟨aT l,HY p o N⟩:=by
 refine Le.keys (rvM p o N) 9 l rfl hc zp zp h9 ?_ hl;intro e he;simp only[aZ,bw,or_false]at he;rcases he with rfl|rfl
 ·show(lv 0).like _ _;rw[h0];exact mb p _
 ·show(lv 1).like _ _;rw[h1];exact tP o N _
abbrev UB(n:Nd):List CV:=[.d (.int .i64 n.op),.d (.int .i64 n.a),.d (.int .i64 n.b),.d (.int .i64 n.c),.d (.int .i64 n.d),.d (.int .i64 n.f),.d (.str n.v)]
abbrev Cl(p:PD)(o:Nat->Iv)(N:Nat)(n:Nd):Key->LB:=aM (HY p o N) 10 (.cells true false 85 (UB n))
abbrev YX(p:PD)(o:Nat->Iv)(N:Nat)(n:Nd)(k:Key)(l:List Iv):List (Key×Key×LB):=[(0,0,.cells true false 27 p.cs),(1,1,.cells true false 44 (jc o N)),(10,10,.cells true false 85 (UB n)),(30,k,oT l)]
theorem Kj{n:Nd}(k:Key)(hc:c.jd=λ_=>.hole)(l:List (Nat×AV))(hk:k≠0/\k≠1/\k≠10/\k≠9)(h0:lv 0=.cells true false 27 p.cs)(h1:lv 1=.cells true false 44 (jc o N))(h2:lv 10=.cells true false 85 (UB n))(h3:lv k=oT L)(h9:lv 9=.hole)
 (hl:∀x∈l,x.2.cG=true/\fr x.1=x.2.dA (aV (YX p o N n k L) 9)):Le c ⟨fr,lv⟩ ⟨aT l,aM (Cl p o N n) 30 (oT L)⟩:=by
 obtain⟨k0,k1,k2,k3⟩:=hk;refine Le.keys (YX p o N n k L) 9 l rfl hc zp kw h9 ?_ hl;intro e he;simp only[aZ,bw,or_false]at he;rcases he with rfl|rfl|rfl|rfl
 ·show(lv 0).like _ _;rw[h0];exact mb p _
 ·show(lv 1).like _ _;rw[h1];exact tP o N _
 ·show(lv 10).like _ _;rw[h2];exact LB.aN.2 ⟨rfl,rfl,zp,id⟩
 ·show(lv k).like _ _;rw[h3];unfold oT;split
  ·rfl
  ·exact LB.aN.2 ⟨rfl,rfl,(nS _ _).symm,id⟩
theorem ag.aaZ{a:AV}(κ':Nat)(kb:Key)(l:List Iv)(ha:a.pure=true)(hl:l≠[])(hl2:l.length<=1000)(hc:aa c0.P c0.G fid [a,.c (.d (.sl (l.map cD)))] X)(hX:X.pure=true)
 (hk:lv kb=.cells true false 44 (nX l)) (hh:lv 9=.hole) (hkb:(9:Key)≠kb) (hK:K X [(kb,.cells true true 44 (nX l))] [9] κ'):ag c0 fid [a,.c (.aO kb 0 l.length 6)] lv K:=by
 have hd:fO (aM lv kb (.cells true true 44 (nX l))) (.c (.aO kb 0 l.length 6))=some (.c (.d (.sl (l.map cD))),[kb]):=by
  have:=uS (lv:=aM lv kb (.cells true true 44 (nX l))) (k:=kb) (own:=true) (fz:=true) (T:=44) (l:=l) (aI _ _ _) zd hl;have e:dc (Hr l)=.d (.sl (l.map cD)):=by unfold Hr;rw[if_neg hl];rfl
  rw[e]at this;exact this
 refine ag.MD κ' 9 kb 44 (nX l) [9] hc hX hk hh hkb rfl (λi p q=>?_) (λx hx j hj=>?_) zp hK
 ·match i,p,q with
  |0,_,_=>exact .inl ⟨ha,rfl⟩
  |1,_,_=>exact .inr hd
 ·simp only[aZ,bw,or_false]at hx;rcases hx with rfl|rfl
  ·rw[dX ha]at hj;cases hj
  ·have hj:j∈jB (aM lv kb (.cells true true 44 (nX l))) 8 (.aO kb 0 l.length 6):=hj;simp only[jB,aI]at hj;rcases List.mem_cons.1 hj with rfl|hj
   ·exact .inr rfl
   ·obtain⟨y,hy,hj⟩:=List.mem_flatMap.1 hj;unfold nX at hy;obtain⟨w,_,rfl⟩:=List.mem_map.1 hy
    cases hj
theorem RB(m:Int)(z:Ev)(p:PD)(N i node:Nat){kz:DV}(o:Nat->Iv)(n:Nd)(kl:List Int)(ak:List Iv)(hak:kl.map (λk=>o k.toNat)=ak)(hi:i<N)(hN:N<=64)(hk4:kl.length<=4)(hkr:∀x∈kl,0<=x/\x<i)
 (lpk:∀lv,eT prog 92 lv (.c (.d kz))=some (.c (.d (.int .i64 (kl.length:Int))),[],[],True))
 (ixk:∀lv (q:Nat) (hq:q<kl.length),aq prog 92 lv (.c (.d kz)) (.c (.d (.int .i64 (q:Int))))=some (.c (.d (.ptr [.int .i64 kl[q]])),[],[],True))
 (hn:∀s κ,Le (⟨prog,GG m,z.w,z.F,z.W,Tryz.f25.ntmps,λ_=>.hole,z.b,z.d⟩:Ctx) s ⟨aT [(1,.c (.d D)),(2,.c (.d (.int .i64 (node:Int)))),(3,.c (.ptr 0 0)),(8,.c (.d dl)),(9,.c (.aO 1 0 N 6)),(10,.c (.d (.int .i64 (i:Int)))),(11,.c (.ptr 10 0)),(13,tT 30 ak)],aM (Cl p o N n) 30 (oT ak)⟩->Q .normal s κ) :
 AW (⟨prog,GG m,z.w,z.F,z.W,Tryz.f25.ntmps,λ_=>.hole,z.b,z.d⟩:Ctx) none (cW [1,1,1,0,1,2,3,1,0,2,1,0,2,1,5,1,5,1,5,1,5,1,1,0] Tryz.f25) ⟨aT [(1,.c (.d D)),(2,.c (.d (.int .i64 (node:Int)))),(3,.c (.ptr 0 0)),(8,.c (.d dl)),(9,.c (.aO 1 0 N 6)),(10,.c (.d (.int .i64 (i:Int)))),(11,.c (.ptr 10 0)),(12,.c (.d kz)),(13,.c (.d .nilsl))],Cl p o N n⟩ 20 Q:=by
 conv=>
  enter [3]
  whnf
 obtain⟨op,a,b,c,d,f,v⟩:=n;refine aah ?_;refine aaw ?_
 refine aaY (λ(q:Nat)=>⟨aT [(1,.c (.d D)),(2,.c (.d (.int .i64 (node:Int)))),(3,.c (.ptr 0 0)),(8,.c (.d dl)),(9,.c (.aO 1 0 N 6)),(10,.c (.d (.int .i64 (i:Int)))),(11,.c (.ptr 10 0)),(12,.c (.d kz)),(13,tT 30 (ak.take q)),(14,.c (.d (.int .i64 (q:Int))))],aM (Cl p o N ⟨op,a,b,c,d,f,v⟩) 30 (oT (ak.take q))⟩) 40
  (λq=>q<=kl.length) (λq=>kl.length-q) 0 (Kj 30 rfl _ zr zp zp zp (by simp[oT]) zp dk) (ab5 _) ?_
 rintro q hq
 try simp only at hq ⊢
 refine aac λK3 hK3=>aac λK4 hK4=>?_
 by_cases hlt:q<kl.length
 ·have hlt':(q:Int)<(kl.length:Int):=by omega
  have hx:=λlv=>ixk lv q hlt
  have f1:=bP (n:=(q:Int)+1) zd zd;have hxr:=hkr _ (cn hlt)
  have hnx:ak.take (q+1)=ak.take q++[o kl[q].toNat]:=by
   rw[<-hak,afi,aez,fy hlt];rfl
  have hll:(ak.take q).length=q:=by rw[<-hak,acM,sC];omega
  generalize kl[q]=x at*
  obtain⟨x,rfl⟩:∃y:Nat,x=y:=⟨x.toNat,zd⟩
  rw[adW]at hnx;obtain⟨l,hl⟩:∃l,ak.take q=l:=⟨_,rfl⟩
  rw[hl]at hnx hll⊢;have hxN:x<N:=zd
  have q1:(aM (Cl p o N ⟨op,a,b,c,d,f,v⟩) 30 (oT l)) 1=.cells true false 44 (jc o N):=rfl;have x0:=Of (n:=N) (i:=x) q1;rw[eq_true hxN]at x0;have x1:=UE (i:=x) q1 hxN;have x2:∀lv,aA prog 3 lv (.c (.d (.ptr [.int .i64 (x:Int)])))=some (.c (.d (.int .i64 (x:Int))),[],[],True):=λlv=>by simp[aA]
  refine abG lpk hlt (hK4 _ _ ?_);refine aaB xn (aan (hK3 _ _ (aac λK5 hK5=>aaw ?_)))
  by_cases hl0:l=[]
  ·have e1:oT l=.hole:=by subst hl0;rfl
   have e2:tT 30 l=.c (.d .nilsl):=if_pos hl0;rw[e1]at x0 x1⊢;rw[e2];refine aai ?_;simp[hx,x0,x1,x2,E4,cC,keyOf,ai,-aB,-aA]
   repeat refine az ?_
   apply hK5;refine aai ?_;simp[f1];subst hl0;refine⟨q+1,?_,zd,zd⟩;rw[hnx];refine Kj 41 rfl _ zr zp zp zp ?_ zp im;rw[aew,show oT [o x]=_ from lI [] (o x)];simp[nX,rF]
  ·have e1:oT l=.cells true false 44 (nX l):=if_neg hl0;have e2:tT 30 l=.c (.aO 30 0 l.length 6):=if_neg hl0;have hzl:=vY l;rw[e1]at x0 x1⊢;rw[e2];refine aai ?_;simp[hx,x0,x1,x2,E4,cC,keyOf,hzl,ai,-aB,-aA]
   repeat refine az ?_
   apply hK5;refine aai ?_;simp[f1];refine⟨q+1,?_,zd,zd⟩;rw[hnx];refine Kj 41 rfl _ zr zp zp zp ?_ zp pC;rw[lI,<-qm];simp[nS]
 ·have hqe:q=kl.length:=by omega
  have hlen:ak.length=kl.length:=by rw[<-hak,sC]
  rw[hqe,<-hlen,afQ];refine abG lpk hlt (hK4 _ _ ?_);refine aaD tm (aaR ?_);simp
  repeat refine az ?_
  exact hn _ _ (Kj 30 rfl _ zr zp zp zp zp zp (by unfold tT;split<;>simp[aV]))
theorem QV(m:Int)(z:Ev)(p:PD)(hp:p.ok)(hg:p.good)(N i node:Nat)(hD:Bv D is)(o:Nat->Iv)(hi:i<N)(hN:N<=p.nn)(hlen:is.length=p.ni)(ho:∀j,(o j).g)
 (hret:∀e s κ,(BZ p is o i).2=e->e≠0->s.fr 6=.c (.d .nilsl)->s.fr 7=.c (.d (.int .i64 e))->s.lv 9=.hole->Q .ret s κ)
 (hn:∀v,BZ p is o i=(v,0)->∀s κ,Le (⟨prog,GG m,z.w,z.F,z.W,Tryz.f25.ntmps,λ_=>.hole,z.b,z.d⟩:Ctx) s ⟨aT [(1,.c (.d D)),(2,.c (.d (.int .i64 (node:Int)))),(3,.c (.ptr 0 0)),(8,.c (.d dl)),(9,.c (.aO 1 0 N 6)),(10,.c (.d (.int .i64 (i:Int))))],HY p (λj=>if j=i then v else o j) N⟩->Q .normal s κ) :
 AW (⟨prog,GG m,z.w,z.F,z.W,Tryz.f25.ntmps,λ_=>.hole,z.b,z.d⟩:Ctx) none (cW [1,1,1,0,1,2,3,1,0,2,1,0,2,1,5] Tryz.f25) ⟨aT [(1,.c (.d D)),(2,.c (.d (.int .i64 (node:Int)))),(3,.c (.ptr 0 0)),(8,.c (.d dl)),(9,.c (.aO 1 0 N 6)),(10,.c (.d (.int .i64 (i:Int)))),(11,.c (.ptr 10 0))],Cl p o N (p.nd i)⟩ 20 Q:=by
 conv=>
  enter [3]
  whnf
 obtain⟨hn1,hn2,hn3,-,-,hnn,hns⟩:=eX hg.gen;have hiN:i<p.nn:=zd
 obtain⟨⟨h1,h15⟩,-,hkr⟩:=tQ hg hiN;have hin:(p.nd i).op=1->0<=(p.nd i).a/\(p.nd i).a<p.ni:=Nn (hg.nodes i hiN);have hev:BZ p is o i=BZ p is o i:=rfl
 conv at hev=>rhs;unfold BZ Wd
 have hkl:(aP (p.nd i)).length=if 1<=(p.nd i).op/\(p.nd i).op<=15 then cH (p.nd i).op else 0:=by
  unfold aP;split
  ·rw[acM,Nd.qV];exact aea (lF _)
  ·rfl
 rw[if_pos ⟨h1,h15⟩]at hkl;have hkd:=wC (GG m) (p.nd i);generalize BZ p is o i=R at*
 generalize p.nd i=n at*
 obtain⟨op,a,b,c,d,f,v⟩:=n;simp only at*
 by_cases h2:op=2
 ·subst h2;refine aah ?_;refine aaE (aah ?_);exact aal (hret _ _ _ (by rw[hev,if_pos rfl]) zr zp zp zp)
 have hset:=λv=>pH o hi v
 have hvl0:=sj o N;have hle0:i*6+6<=N*6:=zd
 by_cases h1':op=1
 ·subst h1';obtain⟨a0,a1⟩:=hin rfl;obtain⟨a,rfl⟩:∃y:Nat,a=y:=⟨a.toNat,zd⟩
  have hai:a<is.length:=zd
  have hx:=λlv=>qj (T:=54) zp hD lv hai
  have hR:R=(is[a],0):=by
   rw[hev,if_neg zr,if_pos rfl,adW,ab6,fy hai];rfl
  generalize is[a]=w at*
  have hset:=hset w;refine aah ?_;refine aax (aah ?_);refine aaE (aai ?_);simp[hx,cD,jL,hset,hvl0,hle0,hi]
  repeat refine az ?_
  exact hn _ hR _ _ (Lh rfl _ zp zp zp xa)
 by_cases h3:op=3
 ·subst h3;have c1:=E9 (GG m) v;have c2:=k9 (GG m) (cj v);have hR:R=((cj v,cj v),0):=by rw[hev,if_neg zr,if_neg zr,if_pos rfl]
  generalize cj v=w at*
  have hset:=hset (w,w);refine aah ?_;refine aax (aah ?_);refine aax (aah ?_);refine aaE (aai ?_);simp;refine ag.p 21 9 c1 ?_;simp[ai];refine ag.p 22 9 c2 ?_;simp[hset,hvl0,hle0,hi]
  repeat refine az ?_
  exact hn _ hR _ _ (Lh rfl _ zp zp zp xa)
 have h4:4<=op:=zd
 have lpk:=λlv=>Un (T:=92) zp lv (zN (aP ⟨op,a,b,c,d,f,v⟩))
 have ixk:∀lv (q:Nat) (hq:q<(aP ⟨op,a,b,c,d,f,v⟩).length),aq prog 92 lv (.c (zC (zN (aP ⟨op,a,b,c,d,f,v⟩)))) (.c (.d (.int .i64 (q:Int))))=some (.c (.d (.ptr [.int .i64 (aP ⟨op,a,b,c,d,f,v⟩)[q]])),[],[],True):=by
  intro lv q hq;have:=V6 (T:=92) zp lv (zN (aP ⟨op,a,b,c,d,f,v⟩)) (i:=q) (by rw[vh];exact hq);simp only[vh]at this;exact this
 rw[vh]at lpk;obtain⟨kz,hkz⟩:∃kz:DV,zC (zN (aP ⟨op,a,b,c,d,f,v⟩))=.d kz:=by cases zN (aP ⟨op,a,b,c,d,f,v⟩)<;>exact⟨_,rfl⟩
 simp only[hkz]at hkd lpk ixk;rw[if_neg h2,if_neg h1',if_neg h3]at hev;generalize aP ⟨op,a,b,c,d,f,v⟩=kl at*
 have hk0:kl.length≠0:=ma
 have hk4:kl.length<=4:=by rw[hkl];exact lF op
 obtain⟨ak,hak⟩:∃ak,(kl.map λk=>o k.toNat)=ak:=⟨_,rfl⟩
 have hpr:∀x∈ak,x.g:=λx hx=>by
  rw[<-hak]at hx;obtain⟨k,_,rfl⟩:=List.mem_map.1 hx;exact ho _
 have hakl:ak.length=kl.length:=by rw[<-hak,sC]
 have hsz:=HG (op:=op) (M6 hpr);have c3:=L3 m op ak (D:=.sl (ak.map cD)) (.inl rfl) h4 h15 (hakl.trans hkl) hpr;have c4:=DI m (uu op ak).1 96 (Iv.aC hsz zr);change aa _ _ _ _ (cg (hU (uu op ak).1))at c4;rw[hak]at hev;obtain⟨w,hw⟩:∃w,hU (uu op ak).1=w:=⟨_,rfl⟩
 obtain⟨e,he⟩:∃e,(uu op ak).2=e:=⟨_,rfl⟩
 obtain⟨u,hu⟩:∃u,(uu op ak).1=u:=⟨_,rfl⟩
 rw[hw,he]at hev;rw[hw,hu]at c4;rw[he,hu]at c3
 have hne:ak≠[]:=by
  intro e0;rw[e0]at hakl;exact hk0 hakl.symm
 have e1:oT ak=.cells true false 44 (nX ak):=if_neg hne;have e2:tT 30 ak=.c (.aO 30 0 ak.length 6):=if_neg hne;have hset:=hset w;have hR:R=(w,e):=hev;have n2:¬op=2:=h2;refine aaN n2 ?_;refine aax (aaN h1' ?_);refine aax (aaN h3 ?_);refine aax (abi 21 hkd ?_);refine aah ?_;refine aac λK2 hK2=>?_;refine abC (y:=cW [1,1,1,0,1,2,3,1,0,2,1,0,2,1,5,1,5,1,5,1,5,1,1,0] Tryz.f25) zt (abA (Le.fJ _) (RB m z p N i node (D:=D) (dl:=dl) (kz:=kz) o ⟨op,a,b,c,d,f,v⟩ kl ak hak hi zd hk4 hkr lpk ixk λs κ hle=>?_));rw[e1,e2]at hle;apply hK2;refine abA (κ2:=50) hle ?_;refine aaF λK hK=>?_;simp;refine ag.aaZ 60 30 ak zp hne zd c3 zp zp zp zr ?_;simp[ai]
 repeat refine az ?_
 apply hK;refine aac λK hK=>aah ?_
 by_cases he0:e=0
 ·subst he0;refine aax (aan (hK _ _ (aai ?_)));simp;refine ag.p 63 9 c4 ?_;simp[hset,hvl0,hle0,hi]
  repeat refine az ?_
  exact hn _ hR _ _ (Lh rfl _ zp zp zp xa)
 ·refine aaB (by simp[he0]<;>omega) (aah ?_);exact aal (hret _ _ _ (by rw[hR]) he0 zp zp zp)
theorem SA(m:Int)(z:Ev)(p:PD)(N i node:Nat)(o:Nat->Iv)(hi:i<N)(hs:(o i).sz 1000000)
 (hret:pq (o i)=false->∀s κ,s.fr 6=.c (.d .nilsl)->s.fr 7=.c (.d (.int .i64 3))->s.lv 9=.hole->Q .ret s κ)
 (hn:pq (o i)=true->∀s κ,Le (⟨prog,GG m,z.w,z.F,z.W,Tryz.f25.ntmps,λ_=>.hole,z.b,z.d⟩:Ctx) s ⟨aT [(1,.c (.d D)),(2,.c (.d (.int .i64 (node:Int)))),(3,.c (.ptr 0 0)),(8,.c (.d dl)),(9,.c (.aO 1 0 N 6)),(10,.c (.d (.int .i64 (i:Int))))],HY p o N⟩->Q .normal s κ) :
 AW (⟨prog,GG m,z.w,z.F,z.W,Tryz.f25.ntmps,λ_=>.hole,z.b,z.d⟩:Ctx) none (cW [1,1,1,0,1,2,3,1,0,2,1,1] Tryz.f25) ⟨aT [(1,.c (.d D)),(2,.c (.d (.int .i64 (node:Int)))),(3,.c (.ptr 0 0)),(8,.c (.d dl)),(9,.c (.aO 1 0 N 6)),(10,.c (.d (.int .i64 (i:Int))))],HY p o N⟩ 20 Q:=by
 conv=>
  enter [3]
  whnf
 have c1:=mH (GG m) (o i).1 hs.1;have c2:=mH (GG m) (o i).2 hs.2;have ebb:pq (o i) = !(eS (o i).1 ||eS (o i).2):=rfl;obtain⟨b1,hb1⟩:∃b,eS (o i).1=b:=⟨_,rfl⟩
 obtain⟨b2,hb2⟩:∃b,eS (o i).2=b:=⟨_,rfl⟩
 rw[hb1,hb2]at ebb;rw[hb1]at c1;rw[hb2]at c2;rw[ebb]at hret hn;obtain⟨lv,hlv⟩:∃lv,HY p o N=lv:=⟨_,rfl⟩
 have h1:lv 1=.cells true false 44 (jc o N):=xc
 have h9:lv 9=.hole:=xc
 have ii:=Of h1 (n:=N) (i:=i);have v1:=TE h1 hi;have v2:=TI h1 hi;rw[hlv];refine aac λK hK=>?_
 cases b1 with
 |true=>
  refine aai ?_;simp[hi,h1,ii,v1,v2,-aA];refine ag.p 21 9 c1 ?_ (hh:=h9);simp[hi,h1,ii,v1,v2,-aA]
  repeat refine az ?_
  apply hK;refine aaE (aah ?_);exact aal (hret rfl _ _ zp zp oi)
 |false=>
  refine aai ?_;simp[hi,h1,ii,v1,v2,-aA];refine ag.p 21 9 c1 ?_ (hh:=h9);simp[hi,h1,ii,v1,v2,-aA];refine ag.p 21 9 c2 ?_ (hh:=h9);simp[hi,h1,ii,v1,v2,-aA]
  repeat refine az ?_
  apply hK
  cases b2 with
  |true=>
   refine aaE (aah ?_);exact aal (hret rfl _ _ zp zp oi)
  |false=>
   refine aax (aan ?_);exact hn rfl _ _ (Lh rfl _ xc xc xc xa)
def Ue(s:(Nat->Iv)×Int)(n:Nat):AV:=if s.2=0 then .tup [.c (.d (.sl (((List.range n).map s.1).map cD))),.c (.d (.int .i64 0))]else .tup [.c (.d .nilsl),.c (.d (.int .i64 s.2))]
theorem QW(h:(jx p is dp i).2=e)(he:e≠0)(hi:i<=n):Ue (jx p is dp n) k=.tup [.c (.d .nilsl),.c (.d (.int .i64 e))]:=by
 have h1:=Kt (p:=p) (is:=is) (dp:=dp) (i:=i) bo n hi;unfold Ue;rw[h1,h,if_neg he]
theorem uj(m:Int)(p:PD)(hp:p.ok)(hg:p.good)(node:Nat)(hn:node<p.nn)(hD:Bv D is)(hlen:is.length=p.ni)(his:∀a∈is,a.sz 10000/\a.1<=a.2):
 aa prog (GG m) 25 [p.A,.c (.d D),.c (.d (.int .i64 (node:Int)))] (Ue (jx p is (iP p node) (node+1)) p.nn):=by
 obtain⟨hn1,hn2,hn3,-,-,hnn,hns⟩:=eX hg.gen;have c1:=qu m p hp hg node hn;have hdl:=sQ p node p.nn;have hib:=λlv {i:Nat} hi=>Wv (T:=82) zp lv (some (jR p node p.nn)) (i:=i) hi
 have hgd:∀{i:Nat}(hi:i<(bL (some (jR p node p.nn))).length),i<=node->(bL (some (jR p node p.nn)))[i]=iP p node i:=λ{i} hi hin=>by
  rw[<-CM p hn hin,ab6,fy (show i<(jR p node p.nn).length from hi)];rfl
 have hbl:(bL (some (jR p node p.nn))).length=p.nn:=hdl;have hln:=λlv=>s8 p lv
 obtain⟨dl,hdl2⟩:∃dl:DV,bC (some (jR p node p.nn))=.d dl:=⟨_,rfl⟩
 simp only[hdl2]at c1 hib;obtain⟨dp,hdp⟩:∃dp,iP p node=dp:=⟨_,rfl⟩
 simp only[hdp]at hgd⊢;have hg':=λi j=>tj (p:=p) (dp:=dp) his i j
 obtain⟨N,hN⟩:∃N,p.nn=N:=⟨_,rfl⟩
 simp only[hN]at hln;obtain⟨X,hX⟩:∃X,Ue (jx p is dp (node+1)) p.nn=X:=⟨_,rfl⟩
 have herr:∀i e,i<=node+1->(jx p is dp i).2=e->e≠0->X=.tup [.c (.d .nilsl),.c (.d (.int .i64 e))]:=λi e h1 h2 h3=>by
  rw[<-hX];exact QW h2 h3 h1
 have hres:(jx p is dp (node+1)).2=0->X=.tup [.c (.d (.sl (((List.range N).map (jx p is dp (node+1)).1).map cD))),.c (.d (.int .i64 0))]:=λh=>by
  rw[<-hX,hN];exact if_pos h
 rw[hX];clear hX;have hN0:node<N:=zd
 refine aa.ed func25 rfl λ_=>aah ?_;refine abi 3 c1 ?_;refine aaN hln ?_;rw[FD];refine aac λK hK=>aah ?_;refine aaw ?_
 refine aaY (λ(i:Nat)=>⟨aT [(1,.c (.d D)),(2,.c (.d (.int .i64 (node:Int)))),(3,.c (.ptr 0 0)),(8,.c (.d dl)),(9,.c (.aO 1 0 N 6)),(10,.c (.d (.int .i64 (i:Int))))],HY p (jx p is dp i).1 N⟩) 10
  (λi=>i<=node+1/\(jx p is dp i).2=0) (λi=>node+1-i) 0 (Le.keys [(0,0,.cells true false 27 p.cs),(1,3,.cells true false 44 (jc (λ_=>(0,0)) N))] 9 _ rfl rfl zp zp zp (by
   intro e he;simp only[aZ,bw,or_false]at he;rcases he with rfl|rfl
   ·exact mb p _
   ·exact tP _ N _) xa) ⟨ab5 _,rfl⟩ ?_
 rintro i ⟨hq,hE⟩
 try simp only at hq hE ⊢
 refine aac λK2 hK2=>aah ?_
 by_cases hlt:i<=node
 ·have hlt':(i:Int)<=(node:Int):=by omega
  have hqn:i<p.nn:=zd
  have hqN:i<N:=zd
  have hq1:i<(bL (some (jR p node p.nn))).length:=bd
  have hx:=λlv=>hib lv hq1
  have hgq:=hgd hq1 hlt;have hxn:=λlv=>wI p lv hp i hqn
  have f1:=bP (n:=(i:Int)+1) zd zd;have hstp:jx p is dp (i+1)=Ki p is dp (jx p is dp i) i:=rfl;have hog:=hg' i;have hnl:=λj=>Ig (p:=p) (o:=(jx p is dp i).1) hog his j
  have herr1:=herr (i+1);obtain⟨S,hS⟩:∃S,jx p is dp i=S:=⟨_,rfl⟩
  obtain⟨S',hS'⟩:∃S,jx p is dp (i+1)=S:=⟨_,rfl⟩
  rw[hS,hS']at hstp;rw[hS]at hog hE;simp only[hS]at hnl⊢;rw[hS']at herr1;obtain⟨o,e0⟩:=S;have hE:e0=0:=hE;subst hE;obtain⟨b,hb⟩:∃b,dp i=b:=⟨_,rfl⟩
  simp only at hog hnl;refine aaB xn (aan (hK2 _ _ (aac λK4 hK4=>aaw (abk hxn @ai.eq_1 ?_))));refine aac λK5 hK5=>aaw (abN hx hgq hb ?_)
  cases b with
  |false=>
   have e:S'=(o,0):=by rw[hstp];unfold Ki;rw[if_neg zp,if_pos hb]
   refine aaE (aaR (hK4 _ _ (aai ?_)));simp[f1];refine⟨i+1,?_,⟨zd,pk⟩,zd⟩;rw[hS',e];exact Lh rfl _ zp zp zp xa
  |true=>
   have hd0:¬dp i=false:=sv
   refine aax ?_;refine abC (y:=cW [1,1,1,0,1,2,3,1,0,2,1,0,2,1,5] Tryz.f25) zt (abA ?_ (QV m _ p hp hg N i node (dl:=dl) hD o hqN zd hlen hog ?_ ?_))
   ·exact Le.fJ _
   ·intro e s κ he h0 h6 h7 h9;have e2:S'.2=e:=by rw[hstp];unfold Ki;rw[if_neg zp,if_neg hd0,if_pos (by rw[he];exact h0),he]
    have hX:=herr1 e zd e2 h0;show cq _ _ X .ret s κ;rw[hX];exact cq.iJ rfl h6 h7 rfl rfl (kf _ _)
   ·intro v he s κ hle;apply hK5;refine abA (κ2:=20) hle ?_;have hv:=hnl i;rw[he]at hv;have hsv:(if i=i then v else o i)=v:=if_pos rfl;refine abC (y:=cW [1,1,1,0,1,2,3,1,0,2,1,1] Tryz.f25) zt (SA m _ p N i node (D:=D) (dl:=dl) (λj=>if j=i then v else o j) hqN (by rw[hsv];exact hv.2) ?_ ?_)
    ·intro hc s κ h6 h7 h9;have hsh:pq v=false:=by simpa using hc
     have hE2:S'.2=3:=by rw[hstp];unfold Ki;rw[if_neg zp,if_neg hd0,if_neg (by rw[he];simp),if_neg (by rw[he];simp[hsh])]
     have hX:=herr1 3 zd hE2 zr;show cq _ _ X .ret s κ;rw[hX];exact cq.iJ rfl h6 h7 rfl rfl (kf _ _)
    ·intro hsh s κ hle2;have hsh:pq v=true:=by simpa using hsh
     have e:S'=(λj=>if j=i then v else o j,0):=by
      rw[hstp];unfold Ki;rw[if_neg zp,if_neg hd0,if_neg (by rw[he];simp),if_pos (by rw[he];exact hsh),he]
     apply hK4;refine abA (κ2:=30) hle2 ?_;refine aai ?_;simp[f1];refine⟨i+1,?_,⟨zd,pk⟩,zd⟩;rw[hS',e];exact Lh rfl _ zp zp zp xa
 ·have hqe:i=node+1:=by omega
  subst hqe;have hX:=hres hE;have hlt':¬((node+1:Nat):Int)<=(node:Int):=zd
  refine aaD xn (aaR (hK _ _ (aah ?_)));refine aal (κ:=0) ?_;show cq _ _ X .ret _ _;rw[hX];exact cq.iJ (κ:=0) (X:=.c (.aO 1 0 N 6)) (Y:=.c (.d (.int .i64 0))) (ks:=[1]) rfl zp zp rfl rfl (Aq (Fg (own:=true) (fz:=false) (T:=44) zp zd))
theorem Aw(m:Int)(p:PD)(hp:p.ok)(hg:p.good)(node:Nat)(hn:node<p.nn)(hD:Bv D is)(hlen:is.length=p.ni)(his:∀a∈is,a.sz 10000/\a.1<=a.2):
 aa prog (GG m) 17 [p.A,.c (.d D),.c (.d (.int .i64 (node:Int)))] (.tup [cg (lW p is node).1,.c (.d (.int .i64 (lW p is node).2))]):=by
 have c1:=uj m p hp hg node hn hD hlen his;unfold lW;obtain⟨S,hS⟩:∃S,jx p is (iP p node) (node+1)=S:=⟨_,rfl⟩
 rw[hS]at c1⊢;obtain⟨o,e⟩:=S;have bz:bM prog 44 [] []=some (cg (0,0),[],[],True):=tD
 by_cases h0:e=0
 ·subst h0;simp only[if_pos];have c1:aa prog (GG m) 25 [p.A,.c (.d D),.c (.d (.int .i64 (node:Int)))] (.tup [.c (.d (.sl (((List.range p.nn).map o).map cD))),.c (.d (.int .i64 0))]):=c1;have hx:=λlv=>qj (T:=54) zp (l:=(List.range p.nn).map o) (.inl rfl) lv (i:=node) io
  simp only[rP,ae8]at hx;obtain⟨L,hL⟩:∃L,DV.sl (((List.range p.nn).map o).map cD)=L:=⟨_,rfl⟩
  simp only[hL]at c1 hx;generalize o node=a at*
  refine aa.enc func17 rfl (λlv=>bW lv _ _ _ _ _ _ _ rfl) λ_=>?_;refine aau mixed c1 (mo hx @cD.eq_1 @jL @ai.eq_1) ?_;exact aal (aF.fI (κ:=0) (t:=6) (k:=1) (u:=7) (a:=a) ⟨rfl,rfl⟩ zp yi zp)
 ·simp only[if_neg h0]
  have c1:aa prog (GG m) 25 [p.A,.c (.d D),.c (.d (.int .i64 (node:Int)))] (.tup [.c (.d .nilsl),.c (.d (.int .i64 e))]):=by
   have h:Ue (o,e) p.nn=.tup [.c (.d .nilsl),.c (.d (.int .i64 e))]:=if_neg h0;rw[h]at c1;exact c1
  generalize hz:((0:Rat),(0:Rat))=z at*
  refine aa.enc func17 rfl (λlv=>bW lv _ _ _ _ _ _ _ rfl) λ_=>?_;refine aau mixed c1 (lD h0 bz @ai.eq_1) ?_;exact aal (aF.fI (κ:=0) (t:=6) (k:=1) (u:=7) (a:=z) ⟨rfl,rfl⟩ zp yi zp)
def LO(op:Int):Bool:=decide (op=1) ||decide (op=3) ||decide (op=4) ||decide (op=7) ||decide (op=8) ||decide (op=9) ||decide (op=10) ||decide (op=14) ||decide (op=11) ||decide (op=6)
theorem Rp(h1:1<=op)(h15:op<=15):LO op = !Bt op:=by
 rcases Rk h1 h15 with rfl|rfl|rfl|rfl|rfl|rfl|rfl|rfl|rfl|rfl|rfl|rfl|rfl|rfl|rfl<;>decide
theorem T7(m:Int)(z:Ev)(p:PD)(N q node:Nat)(op:Int)
 (hn:∀s κ,Le (⟨prog,GG m,z.w,z.F,z.W,Tryz.f24.ntmps,λ_=>.hole,z.b,z.d⟩:Ctx) s ⟨aT [(1,.c (.d (.int .i64 (node:Int)))),(2,.c (.ptr 0 0)),(5,.c (.d dl)),(6,.c (.d (.int .i64 (q:Int)))),(26,.c (.d (.bool (LO op))))],aM (λ_=>.hole) 0 (.cells true false 27 p.cs)⟩->Q .normal s κ) :
 AW (⟨prog,GG m,z.w,z.F,z.W,Tryz.f24.ntmps,λ_=>.hole,z.b,z.d⟩:Ctx) none (cW [1,1,0,1,2,3,1,0,2,1,1,2,0] Tryz.f24) ⟨aT [(1,.c (.d (.int .i64 (node:Int)))),(2,.c (.ptr 0 0)),(5,.c (.d dl)),(6,.c (.d (.int .i64 (q:Int)))),(25,.c (.d (.int .i64 op)))],aM (λ_=>.hole) 0 (.cells true false 27 p.cs)⟩ 20 Q:=by
 conv=>
  enter [3]
  whnf
 by_cases h1:op=1
 ·subst h1;refine aau mixed trivial trivial ?_;exact hn _ _ (Le.fJ _ rfl rx)
 by_cases h3:op=3
 ·subst h3;refine aau mixed trivial trivial ?_;exact hn _ _ (Le.fJ _ rfl rx)
 by_cases h4:op=4
 ·subst h4;refine aau mixed trivial trivial ?_;exact hn _ _ (Le.fJ _ rfl rx)
 by_cases h7:op=7
 ·subst h7;refine aau mixed trivial trivial ?_;exact hn _ _ (Le.fJ _ rfl rx)
 by_cases h8:op=8
 ·subst h8;refine aau mixed trivial trivial ?_;exact hn _ _ (Le.fJ _ rfl rx)
 by_cases h9:op=9
 ·subst h9;refine aau mixed trivial trivial ?_;exact hn _ _ (Le.fJ _ rfl rx)
 by_cases h10:op=10
 ·subst h10;refine aau mixed trivial trivial ?_;exact hn _ _ (Le.fJ _ rfl rx)
 by_cases h14:op=14
 ·subst h14;refine aau mixed trivial trivial ?_;exact hn _ _ (Le.fJ _ rfl rx)
 by_cases h11:op=11
 ·subst h11;refine aau mixed trivial trivial ?_;exact hn _ _ (Le.fJ _ rfl rx)
 by_cases h6:op=6
 ·subst h6;refine aau mixed trivial trivial ?_;exact hn _ _ (Le.fJ _ rfl rx)
 refine aau mixed trivial (me h1 h3 h4 h7 h8 (BF h9 h10 h14 h11 h6)) ?_;exact hn _ _ (Le.fJ _ rfl (by simp[LO,h1,h3,h4,h7,h8,h9,h10,h14,h11,h6]))
theorem Bl(m:Int)(p:PD)(hp:p.ok)(hg:p.good)(node:Nat)(hn:node<p.nn):aa prog (GG m) 24 [p.A,.c (.d (.int .i64 (node:Int)))] (.c (.d (.bool (Aj p node)))):=by
 obtain⟨hn1,hn2,hn3,-,-,hnn,hns⟩:=eX hg.gen;have c1:=qu m p hp hg node hn;have hdl:=sQ p node p.nn;have hib:=λlv {i:Nat} hi=>Wv (T:=82) zp lv (some (jR p node p.nn)) (i:=i) hi
 have hgd:∀{i:Nat}(hi:i<(bL (some (jR p node p.nn))).length),i<=node->(bL (some (jR p node p.nn)))[i]=iP p node i:=λ{i} hi hin=>by
  rw[<-CM p hn hin,ab6,fy (show i<(jR p node p.nn).length from hi)];rfl
 have hbl:(bL (some (jR p node p.nn))).length=p.nn:=hdl;obtain⟨dl,hdl2⟩:∃dl:DV,bC (some (jR p node p.nn))=.d dl:=⟨_,rfl⟩
 simp only[hdl2]at c1 hib
 have hf:∀i,i<node+1->(iP p node i&&Bt (p.nd i).op)=true->Aj p node=false:=λi hi h=>by
  unfold Aj;rw[af2];exact⟨i,List.mem_range.2 hi,by rw[h];decide⟩
 have ht:(∀i,i<node+1->(iP p node i&&Bt (p.nd i).op)=false)->Aj p node=true:=λh=>by
  unfold Aj;rw[adG];intro i hi;rw[h i (List.mem_range.1 hi)];rfl
 obtain⟨X,hX⟩:∃X,Aj p node=X:=⟨_,rfl⟩
 simp only[hX]at hf ht⊢;obtain⟨dp,hdp⟩:∃dp,iP p node=dp:=⟨_,rfl⟩
 simp only[hdp]at hgd hf ht;obtain⟨N,hN⟩:∃N,p.nn=N:=⟨_,rfl⟩
 refine aa.ML func24 rfl λ_=>?_;refine aau mixed c1 trivial ?_
 refine aaY (λ(q:Nat)=>⟨aT [(1,.c (.d (.int .i64 (node:Int)))),(2,.c (.ptr 0 0)),(5,.c (.d dl)),(6,.c (.d (.int .i64 (q:Int))))],aM (λ_=>.hole) 0 (.cells true false 27 p.cs)⟩) 10
  (λq=>q<=node+1/\∀i,i<q->(dp i&&Bt (p.nd i).op)=false) (λq=>node+1-q) 0 (Le.fJ _) ⟨ab5 _,λi hi=>absurd hi zd⟩ ?_
 rintro q ⟨hq,hE⟩
 try simp only at hq hE ⊢
 refine aau mixed trivial trivial ?_
 by_cases hlt:q<=node
 ·have hlt':(q:Int)<=(node:Int):=by omega
  have hqn:q<p.nn:=zd
  have hq1:q<(bL (some (jR p node p.nn))).length:=bd
  have hx:=λlv=>hib lv hq1
  have hgq:=hgd hq1 hlt;have hxn:=λlv=>wI p lv hp q hqn
  have f1:=bP (n:=(q:Int)+1) zd zd;have hfq:=hf q zd;obtain⟨⟨o1,o15⟩,-,-⟩:=tQ hg hqn;have hsp:=Rp o1 o15;obtain⟨b,hb⟩:∃b,dp q=b:=⟨_,rfl⟩
  obtain⟨op,hop⟩:∃op,(p.nd q).op=op:=⟨_,rfl⟩
  rw[hb,hop]at hfq;rw[hop]at hsp
  have nx:(b&&Bt op)=false->∀i,i<q+1->(dp i&&Bt (p.nd i).op)=false:=λh i hi=>by
   by_cases e:i=q
   ·subst e;rw[hb,hop];exact h
   ·exact hE i zd
  refine aau mixed trivial (mo hlt' hx hgq hb) ?_
  cases b with
  |false=>
   refine aau mixed trivial f1 ?_;exact⟨q+1,Le.fJ _,⟨zd,eQ⟩,zd⟩
  |true=>
   refine abF mixed trivial trivial ?_;refine abF mixed trivial trivial ?_;refine abM ?_;refine abF mixed trivial (eY hxn hop) ?_;refine abF mixed trivial trivial ?_;refine abM ?_;refine abC (y:=cW [1,1,0,1,2,3,1,0,2,1,1,2,0] Tryz.f24) zt (abA ?_ (T7 m _ p N q node op (dl:=dl) λs κ hle=>?_))
   ·exact Le.fJ _
   refine wN ?_;refine abA (κ2:=20) hle ?_;obtain⟨so,hso⟩:∃so,Bt op=so:=⟨_,rfl⟩
   rw[hso]at hfq nx hsp;rw[hsp]
   cases so with
   |false=>
    refine aau mixed trivial f1 ?_;exact⟨q+1,Le.fJ _,⟨zd,eQ⟩,zd⟩
   |true=>
    have hX:=hfq rfl;refine aau mixed trivial trivial ?_;exact aaq (aD.rt rfl 4 QQ)
 ·have hX:=ht λi hi=>hE i zd
  have hlt':¬(q:Int)<=(node:Int):=zd
  refine aau mixed trivial hlt' ?_;exact aaq (aD.rt rfl 4 QQ)
theorem ag.drv(κ':Nat){x w:AV}(hx:x.pure=true)(hy:y.pure=true)(hw:w.pure=true)
 (hc:aQ c0.P c0.G 63 [x,y,w,.c (.aO 0 0 M 6)] (Ve d M) (.ret X (Ve d M) [])) (hX:X.pure=true)
 (h3:lv 3=.cells true false 44 (jc d M)) (hh:lv 9=.hole)
 (hK:K X [(3,.cells true false 44 (jc d M))] [9,3] κ'):ag c0 63 [x,y,w,.c (.aO 3 0 M 6)] lv K:=by
 obtain⟨g,hg⟩:∃g,aY [3] [] 9=g:=⟨_,rfl⟩
 have g0:g 0=3:=lk
 have ev:∀n,(jc d M).flatMap (jB lv n)=[]:=λn=>by
  rw[List.flatMap_eq_nil_iff];intro x hx;unfold jc nX at hx;obtain⟨w,_,rfl⟩:=List.mem_map.1 hx
  cases n<;>rfl
 refine ag.TR κ' 9 true [3] [] _ _ _ (us:=[x,y,w,.c (.aO 0 0 M 6)]) [9,3] hc zp zp rfl rfl rfl zp ?_ zp hh ?_ ?_ ?_ rfl ?_ ?_ zp ?_
 ·rw[hg];intro i q1 q2
  match i,q1,q2 with
  |0,_,_=>
   show(lv 3).like _ _;rw[h3];exact LB.aN.2 ⟨rfl,rfl,(C0 d M g).symm,λh=>by cases h⟩
 ·intro b hb;simp only[aZ,bw,or_false]at hb;subst hb;rfl
 ·intro b hb;simp only[afB,aew,ad5,aZ,bw,or_false]at hb;rcases hb with rfl|rfl<;>exact λh=>by cases h
 ·intro _ k hk;simp only[aZ,bw,or_false]at hk;subst hk;rw[h3];rfl
 ·rw[hg];intro i q1 q2
  match i,q1,q2 with
  |0,_,_=>exact⟨AV.fu hx,(AV.bV hx _).symm⟩
  |1,_,_=>exact⟨AV.fu hy,(AV.bV hy _).symm⟩
  |2,_,_=>exact⟨AV.fu hw,(AV.bV hw _).symm⟩
  |3,_,_=>exact⟨rfl,by show _=AV.c (.aO (g 0) 0 M 6);rw[g0];rfl⟩
 ·intro a ha k hk;simp only[aZ,bw,or_false]at ha;rcases ha with rfl|rfl|rfl|rfl
  ·rw[dX hx]at hk;cases hk
  ·rw[dX hy]at hk;cases hk
  ·rw[dX hw]at hk;cases hk
  ·have hk:k∈jB lv 8 (.aO 3 0 M 6):=hk;simp only[jB,h3,ev,aZ,bw,or_false]at hk;subst hk;simp
 ·rw[hg]
  have e:cM g true [3] (Ve d M)++cM g true [] []=[(3,.cells true false 44 (jc d M))]:=by
   simp[cM,LB.fix,C0]
  rw[e,AV.bV hX];exact hK
theorem CF:hU (0,0)=(0,0):=by
 show(ja 0 96,DW 0 96)=_;have h1:ja 0 96=0:=by unfold ja n9;exact if_pos rfl
 have h2:DW 0 96=0:=by unfold DW n9;exact if_pos rfl
 rw[h1,h2]
theorem Pj:hU (1,1)=(1,1):=zt
theorem CB(h1:x.num.natAbs<1000000000)(h2:x.den<1000000000):eS x=false:=by
 have a:=(vJ h1).2;have b:=(vJ h2).2;unfold eS s9;exact decide_eq_false zd
theorem Ga:pq (0,0)=true:=by
 have h:eS 0=false:=CB zr zr;show(!(eS 0 ||eS 0))=true;rw[h];rfl
theorem Q1:pq (1,1)=true:=by
 have h:eS 1=false:=CB zr zr;show(!(eS 1 ||eS 1))=true;rw[h];rfl
theorem OU{p:PD}{inp:Int}{r:Nat->Iv}{dp:Nat->Bool}:∀(i:Nat) {j:Nat},i<=j->(kU p inp r dp i).1 j=(0,0)
 |0,_,_=>rfl
 |i+1,j,h=>by
  have ih:=OU (p:=p) (inp:=inp) (r:=r) (dp:=dp) i (j:=j) zd;show(Ms p inp r dp (kU p inp r dp i) i).1 j=_;unfold Ms;split
  ·exact ih
  split
  ·exact ih
  split
  ·exact ih
  split
  ·show(if j=i then _ else _)=_;rw[if_neg zd];exact ih
  ·exact ih
theorem UX(h:Aj p node=true)(hi:i<=node)(hd:iP p node i=true):Bt (p.nd i).op=false:=by
 unfold Aj at h;rw[adG]at h;have:=h i (List.mem_range.2 zd);rw[hd,Bool.true_and]at this;simpa using this
theorem cq.fI{s:aJ}(hr:c.P=prog/\fn.results=#[.cell t 44,.tmp u])(ht:s.fr t=.c (.ptr k 0))
 (hk:s.lv k=.cells true false 44 [.d (.int .i64 (cu a.1)),rC (cw a.1),rC (cU a.1),.d (.int .i64 (cu a.2)),rC (cw a.2),rC (cU a.2)]) (hy:s.fr u=.c (.d (.int .i64 e))):cq c fn (.tup [cg a,.c (.d (.int .i64 e))]) .ret s κ:=
 ⟨_,_,aF.fI (κ:=κ) hr ht hk hy,bW _ _ _ _ _ _ _ _ rfl⟩
theorem NN:EL=[.d (.int .i64 (cu (((0:Rat),(0:Rat)):Iv).1)),rC (cw (((0:Rat),(0:Rat)):Iv).1),rC (cU (((0:Rat),(0:Rat)):Iv).1),.d (.int .i64 (cu (((0:Rat),(0:Rat)):Iv).2)),rC (cw (((0:Rat),(0:Rat)):Iv).2),rC (cU (((0:Rat),(0:Rat)):Iv).2)]:=zt
abbrev LP(p:PD)(o:Nat->Iv)(N:Nat):Key->LB:=aM (aM (aM (λ_=>.hole) 0 (.cells true false 27 p.cs)) 1 (.cells true false 44 EL)) 3 (.cells true false 44 (jc o N))
abbrev rsM(p:PD)(o:Nat->Iv)(N:Nat)(k:Key):List (Key×Key×LB):=[(0,0,.cells true false 27 p.cs),(1,1,.cells true false 44 EL),(3,k,.cells true false 44 (jc o N))]
theorem F9(k:Key)(hc:c.jd=λ_=>.hole)(l:List (Nat×AV))(hk:([0,1,k]:List Key).Nodup)(h0:lv 0=.cells true false 27 p.cs)(h1:lv 1=.cells true false 44 EL)(h3:lv k=.cells true false 44 (jc o N))(h9:lv 9=.hole)
 (hl:∀x∈l,x.2.cG=true/\fr x.1=x.2.dA (aV (rsM p o N k) 9)):Le c ⟨fr,lv⟩ ⟨aT l,LP p o N⟩:=by
 refine Le.keys (rsM p o N k) 9 l rfl hc zp ky h9 ?_ hl;intro e he;simp only[aZ,bw,or_false]at he;rcases he with rfl|rfl|rfl
 ·show(lv 0).like _ _;rw[h0];exact mb p _
 ·show(lv 1).like _ _;rw[h1];exact LB.aN.2 ⟨rfl,rfl,rfl,id⟩
 ·show(lv k).like _ _;rw[h3];exact tP o N _
theorem SP(m:Int)(z:Ev)(p:PD)(o:Nat->Iv)(N i node:Nat)(inp:Int){R:DV}(hi:i<N)(hs:(o i).sz 1000000)
 (hret:pq (o i)=false->∀s κ,s.fr 8=.c (.ptr 1 0)->s.fr 9=.c (.d (.int .i64 3))->s.lv 1=.cells true false 44 EL->s.lv 9=.hole->Q .ret s κ)
 (hn:pq (o i)=true->∀s κ,Le (⟨prog,GG m,z.w,z.F,z.W,Tryz.f26.ntmps,λ_=>.hole,z.b,z.d⟩:Ctx) s ⟨aT [(1,.c (.d R)),(2,.c (.d (.int .i64 (node:Int)))),(3,.c (.d (.int .i64 inp))),(4,.c (.ptr 0 0)),(8,.c (.ptr 1 0)),(10,.c (.d dl)),(11,.c (.aO 3 0 N 6)),(12,.c (.d (.int .i64 (i:Int))))],LP p o N⟩->Q .normal s κ) :
 AW (⟨prog,GG m,z.w,z.F,z.W,Tryz.f26.ntmps,λ_=>.hole,z.b,z.d⟩:Ctx) none (cW [1,1,1,0,1,2,3,1,0,2,1,1,1,1,1,1] Tryz.f26) ⟨aT [(1,.c (.d R)),(2,.c (.d (.int .i64 (node:Int)))),(3,.c (.d (.int .i64 inp))),(4,.c (.ptr 0 0)),(8,.c (.ptr 1 0)),(10,.c (.d dl)),(11,.c (.aO 3 0 N 6)),(12,.c (.d (.int .i64 (i:Int))))],LP p o N⟩ 20 Q:=by
 conv=>
  enter [3]
  whnf
 have bz:bM prog 44 [] []=some (cg (0,0),[],[],True):=tD;have z0:cg (0,0)=.agg EL:=zt
 have c1:=mH (GG m) (o i).1 hs.1;have c2:=mH (GG m) (o i).2 hs.2;have ebb:pq (o i) = !(eS (o i).1 ||eS (o i).2):=rfl;obtain⟨b1,hb1⟩:∃b,eS (o i).1=b:=⟨_,rfl⟩
 obtain⟨b2,hb2⟩:∃b,eS (o i).2=b:=⟨_,rfl⟩
 rw[hb1,hb2]at ebb;rw[hb1]at c1;rw[hb2]at c2;rw[ebb]at hret hn;obtain⟨lv,hlv⟩:∃lv,LP p o N=lv:=⟨_,rfl⟩
 have h3:lv 3=.cells true false 44 (jc o N):=xc
 have h9:lv 9=.hole:=xc
 have ii:=Of h3 (n:=N) (i:=i);have v1:=TE h3 hi;have v2:=TI h3 hi;rw[hlv];refine aac λK hK=>?_
 cases b1 with
 |true=>
  refine aai ?_;simp[hi,h3,ii,v1,v2,-aA];refine ag.p 21 9 c1 ?_ (hh:=h9);simp[hi,h3,ii,v1,v2,-aA]
  repeat refine az ?_
  apply hK;rw[<-hlv];refine aaE (abN bz z0 @ai.eq_1 ?_);exact aal (hret rfl _ _ zp zp zp zp)
 |false=>
  refine aai ?_;simp[hi,h3,ii,v1,v2,-aA];refine ag.p 21 9 c1 ?_ (hh:=h9);simp[hi,h3,ii,v1,v2,-aA];refine ag.p 21 9 c2 ?_ (hh:=h9);simp[hi,h3,ii,v1,v2,-aA]
  repeat refine az ?_
  apply hK;rw[<-hlv]
  cases b2 with
  |true=>
   refine aaE (abN bz z0 @ai.eq_1 ?_);exact aal (hret rfl _ _ zp zp zp zp)
  |false=>
   refine aax (aan ?_);exact hn rfl _ _ (F9 3 rfl _ zr zp zp zp zp xa)
theorem CI(m:Int)(p:PD)(hp:p.ok)(hg:p.good)(node:Nat)(hn:node<p.nn)(inp:Int)(hsm:Aj p node=true){r:Nat->Iv}{R:DV}(hR:Bv R ((List.range p.nn).map r))(hr:∀j,(r j).g):
 aa prog (GG m) 26 [p.A,.c (.d R),.c (.d (.int .i64 (node:Int))),.c (.d (.int .i64 inp))] (.tup [cg (if (kU p inp r (iP p node) (node+1)).2=0 then(kU p inp r (iP p node) (node+1)).1 node else(0,0)),.c (.d (.int .i64 (kU p inp r (iP p node) (node+1)).2))]):=by
 obtain⟨hn1,hn2,hn3,-,-,hnn,hns⟩:=eX hg.gen;have c1:=qu m p hp hg node hn;have hdl:=sQ p node p.nn;have hib:=λlv {i:Nat} hi=>Wv (T:=82) zp lv (some (jR p node p.nn)) (i:=i) hi
 have hgd:∀{i:Nat}(hi:i<(bL (some (jR p node p.nn))).length),i<=node->(bL (some (jR p node p.nn)))[i]=iP p node i:=λ{i} hi hin=>by
  rw[<-CM p hn hin,ab6,fy (show i<(jR p node p.nn).length from hi)];rfl
 have hbl:(bL (some (jR p node p.nn))).length=p.nn:=hdl;have hln:=λlv=>s8 p lv
 obtain⟨dl,hdl2⟩:∃dl:DV,bC (some (jR p node p.nn))=.d dl:=⟨_,rfl⟩
 simp only[hdl2]at c1 hib;have hso:=λi (hi:i<=node) hd=>UX hsm hi (i:=i) hd
 obtain⟨dp,hdp⟩:∃dp,iP p node=dp:=⟨_,rfl⟩
 simp only[hdp]at hgd hso⊢;have hg':=λi j=>Fk (p:=p) (inp:=inp) (dp:=dp) hr i j
 have hge:=λi=>OU (p:=p) (inp:=inp) (r:=r) (dp:=dp) i (j:=i) (bf _)
 obtain⟨N,hN⟩:∃N,p.nn=N:=⟨_,rfl⟩
 simp only[hN]at hln hR;have hRl:((List.range N).map r).length=N:=zp
 have hRr:∀j (h:j<((List.range N).map r).length),((List.range N).map r)[j]=r j:=λj h=>by simp
 generalize (List.range N).map r=rl at*
 obtain⟨X,hX⟩:∃X:AV,AV.tup [cg (if (kU p inp r dp (node+1)).2=0 then(kU p inp r dp (node+1)).1 node else(0,0)),.c (.d (.int .i64 (kU p inp r dp (node+1)).2))]=X:=⟨_,rfl⟩
 have herr:∀i e,i<=node+1->(kU p inp r dp i).2=e->e≠0->X=.tup [cg (0,0),.c (.d (.int .i64 e))]:=λi e h1 h2 h3=>by
  have h4:=JX (p:=p) (inp:=inp) (r:=r) (dp:=dp) (i:=i) bc (node+1) h1;rw[<-hX,h4,h2,if_neg h3]
 have hres:(kU p inp r dp (node+1)).2=0->X=.tup [cg ((kU p inp r dp (node+1)).1 node),.c (.d (.int .i64 0))]:=λh=>by
  rw[<-hX,h,if_pos rfl]
 rw[hX];clear hX;have hN0:node<N:=zd
 have bz:bM prog 44 [] []=some (cg (0,0),[],[],True):=tD;have z0:cg (0,0)=.agg EL:=zt
 refine aa.ed func26 rfl λ_=>aah ?_;refine abi 3 c1 ?_;refine aaN hln ?_;rw[FD];refine aac λK hK=>aah ?_;refine aaw ?_
 refine aaY (λ(i:Nat)=>⟨aT [(1,.c (.d R)),(2,.c (.d (.int .i64 (node:Int)))),(3,.c (.d (.int .i64 inp))),(4,.c (.ptr 0 0)),(8,.c (.ptr 1 0)),(10,.c (.d dl)),(11,.c (.aO 3 0 N 6)),(12,.c (.d (.int .i64 (i:Int))))],LP p (kU p inp r dp i).1 N⟩) 10
  (λi=>i<=node+1/\(kU p inp r dp i).2=0) (λi=>node+1-i) 0 (F9 3 rfl _ zr zp zp wr zp xa) ⟨ab5 _,rfl⟩ ?_
 rintro i ⟨hq,hE⟩
 try simp only at hq hE ⊢
 refine aac λK2 hK2=>aah ?_
 by_cases hlt:i<=node
 ·have hlt':(i:Int)<=(node:Int):=by omega
  have hqn:i<p.nn:=zd
  have hqN:i<N:=zd
  have hq1:i<(bL (some (jR p node p.nn))).length:=bd
  have hx:=λlv=>hib lv hq1
  have hgq:=hgd hq1 hlt;have hxn:=λlv=>wI p lv hp i hqn
  have f1:=bP (n:=(i:Int)+1) zd zd;have hstp:kU p inp r dp (i+1)=Ms p inp r dp (kU p inp r dp i) i:=rfl;have hog:=hg' i;have hgi:=hge i;have herr1:=herr (i+1);obtain⟨⟨o1,o15⟩,-,hkr⟩:=tQ hg hqn;have hso:=hso i hlt;obtain⟨S,hS⟩:∃S,kU p inp r dp i=S:=⟨_,rfl⟩
  obtain⟨S',hS'⟩:∃S,kU p inp r dp (i+1)=S:=⟨_,rfl⟩
  rw[hS,hS']at hstp;rw[hS]at hog hE hgi;simp only[hS];rw[hS']at herr1;obtain⟨o,e0⟩:=S;have hE:e0=0:=hE;subst hE;obtain⟨b,hb⟩:∃b,dp i=b:=⟨_,rfl⟩
  simp only at hog hgi;rw[hb]at hso;have hdv:=KV m hR r o N i inp (p.nd i) hRl hRr hqN hkr hr hog;have hdg:=Io (inp:=inp) hr hog i (p.nd i)
  have hkeep:(λj=>if j=i then((0,0):Iv)else o j)=o:=by
   funext j
   by_cases h:j=i
   ·rw[if_pos h,h,hgi]
   ·rw[if_neg h]
  have hvl0:=sj o N;have hle0:i*6+6<=N*6:=zd
  refine aaB xn (aan (hK2 _ _ (aac λK4 hK4=>aaw (abk hxn @ai.eq_1 ?_))));refine aac λK5 hK5=>aac λK6 hK6=>?_
  cases b with
  |false=>
   have e:S'=(o,0):=by rw[hstp];unfold Ms;rw[if_neg zp,if_pos hb]
   refine acm hx hgq hb (hK6 _ _ ?_);refine aaE (aaR (hK4 _ _ (aai ?_)));simp[f1];refine⟨i+1,?_,⟨zd,pk⟩,zd⟩;rw[hS',e];exact F9 3 rfl _ zr zp zp zp zp xa
  |true=>
   have hd0:¬dp i=false:=sv
   replace hso:=hso rfl
   unfold Ms at hstp;generalize p.nd i=n at*
   obtain⟨op,a,b',c',dd,f,v⟩:=n;simp only at*
   by_cases h3:op=3
   ·subst h3
    have e:S'=(o,0):=by
     have hd:yd inp r o i ⟨3,a,b',c',dd,f,v⟩=((0,0),0):=by
      show(o i,(0:Int))=_;rw[hgi]
     rw[hstp,if_neg zp,if_neg hd0,hd,if_neg zp,CF,if_pos Ga,hkeep]
    refine acm hx hgq hb (hK6 _ _ ?_);refine aaE (aaR (hK4 _ _ (aai ?_)));simp[f1];refine⟨i+1,?_,⟨zd,pk⟩,zd⟩;rw[hS',e];exact F9 3 rfl _ zr zp zp zp zp xa
   by_cases h1:op=1
   ·subst h1
    by_cases hai:a=inp
    ·subst hai;have cI:=sE m;have cP:=k9 (GG m) 1;have hset:=pH o hqN (1,1)
     have e:S'=(λj=>if j=i then(1,1)else o j,0):=by
      have hd:yd a r o i ⟨1,a,b',c',dd,f,v⟩=((1,1),0):=by
       show(if a=a then((1,1):Iv)else o i,(0:Int))=_;rw[if_pos rfl]
      rw[hstp,if_neg zp,if_neg hd0,hd,if_neg zp,Pj,if_pos Q1]
     generalize hu:(1:Rat)=u at*
     refine acm hx hgq hb (hK6 _ _ ?_);refine aax (aan (hK5 _ _ (aac λK5 hK5=>aah ?_)));refine aaE (aaF λK6 hK6=>?_);simp;refine ag.p 21 9 cI ?_;simp[ai];refine ag.p 22 9 cP ?_;simp[hset,hvl0,hle0,hqN]
     repeat refine az ?_
     apply hK6;refine aaR (hK4 _ _ (aai ?_));simp[f1];refine⟨i+1,?_,⟨zd,pk⟩,zd⟩;rw[hS',e];exact F9 3 rfl _ zr zp zp zp zp xa
    ·have e:S'=(o,0):=by
      have hd:yd inp r o i ⟨1,a,b',c',dd,f,v⟩=((0,0),0):=by
       show(if a=inp then((1,1):Iv)else o i,(0:Int))=_;rw[if_neg hai,hgi]
      rw[hstp,if_neg zp,if_neg hd0,hd,if_neg zp,CF,if_pos Ga,hkeep]
     refine AW.l4 hx hgq hb hai (hK6 _ _ ?_);refine aaE (aaR (hK4 _ _ (aai ?_)));simp[f1];refine⟨i+1,?_,⟨zd,pk⟩,zd⟩;rw[hS',e];exact F9 3 rfl _ zr zp zp zp zp xa
   have hops:op=4\/op=7\/op=8\/op=9\/op=10\/op=14\/op=11\/op=6:=by
    unfold Bt at hso;simp only[Bool.or_eq_false_iff,decide_eq_false_iff_not]at hso;omega
   have hdv:=hdv hops;obtain⟨W,hW⟩:∃W,yd inp r o i ⟨op,a,b',c',dd,f,v⟩=W:=⟨_,rfl⟩
   rw[hW]at hdv hdg
   have hstp:S'=if W.2≠0 then(o,W.2)else if pq (hU W.1)then(λj=>if j=i then hU W.1 else o j,0)else(o,3):=by
    rw[hstp,if_neg zp,if_neg hd0,hW]
   obtain⟨w,we⟩:=W;simp only at hdv hdg hstp;have cO:=DI m w 96 (Iv.aC hdg.1 zr);change aa _ _ _ _ (cg (hU w))at cO;have hos:=DB hdg.1;obtain⟨u,hu⟩:∃u,hU w=u:=⟨_,rfl⟩
   rw[hu]at cO hos hstp;have hset:=pH o hqN u;refine aai ?_;simp[hx,hgq,hb,h3,h1]
   repeat refine az ?_
   apply hK6;refine aax (aan (hK5 _ _ (aac λK5 hK5=>aaN h1 ?_)));refine aax (aan (hK5 _ _ (aaF λK5 hK5=>?_)));simp;refine ag.drv 31 zp zp zp hdv zp zp zp ?_;simp[ai]
   repeat refine az ?_
   apply hK5;refine aac λK5 hK5=>aah ?_
   by_cases hw0:we=0
   rotate_left
   ·rw[if_pos hw0]at hstp;have hX:=herr1 we zd fg hw0;refine aaB fi (abN bz z0 @ai.eq_1 ?_);refine aal (κ:=0) ?_;show cq _ _ X .ret _ 0;rw[hX];exact cq.fI (κ:=0) (k:=1) (t:=8) (u:=9) (a:=(0,0)) ⟨rfl,rfl⟩ zp (by rw[<-NN];simp[ai]) zp
   subst hw0;rw[if_neg zp]at hstp;refine aax (aan (hK5 _ _ (AW.c4 33 cO hset hvl0 hle0 hqN ?_)));refine abC (y:=cW [1,1,1,0,1,2,3,1,0,2,1,1,1,1,1,1] Tryz.f26) zt (abA (F9 3 rfl _ zr zp zp zp zp xa) (SP m _ p (λj=>if j=i then u else o j) N i node inp (R:=R) (dl:=dl) hqN (by rw[if_pos rfl];exact hos) ?_ ?_))
   ·intro hc s κ h8 h9' h1 h9;have hsh:pq u=false:=by simpa using hc
    rw[if_neg (by rw[hsh];decide)]at hstp;have hX:=herr1 3 zd fg zr;show cq _ _ X .ret s κ;rw[hX];exact cq.fI (κ:=κ) (k:=1) (t:=8) (u:=9) (a:=(0,0)) ⟨rfl,rfl⟩ h8 (by rw[h1,NN]) h9'
   ·intro hc s κ hle;have hsh:pq u=true:=by simpa using hc
    rw[if_pos hsh]at hstp;apply hK4;refine abA (κ2:=30) hle ?_;refine aai ?_;simp[f1];refine⟨i+1,?_,⟨zd,by rw[hS',hstp]⟩,zd⟩;rw[hS',hstp];exact F9 3 rfl _ zr zp zp zp zp xa
 ·have hqe:i=node+1:=by omega
  subst hqe;have hX:=hres hE;have hlt':¬((node+1:Nat):Int)<=(node:Int):=zd
  obtain⟨o,ho⟩:∃o,(kU p inp r dp (node+1)).1=o:=⟨_,rfl⟩
  rw[ho]at hX⊢;obtain⟨lv,hlv⟩:∃lv,LP p o N=lv:=⟨_,rfl⟩
  have h3:lv 3=.cells true false 44 (jc o N):=xc
  have h4:lv 1=.cells true false 44 EL:=xc
  have ii:=Of h3 (n:=N) (i:=node);have vv:=UE h3 hN0;rw[hlv];refine aaD xn (aaR (hK _ _ (aaF λK hK=>?_)));simp[ii,vv,hN0,h4,ai,-aA]
  repeat refine az ?_
  apply hK;refine aal (κ:=0) ?_;show cq _ _ X .ret _ _;rw[hX];exact cq.fI (κ:=0) (k:=1) (t:=8) (u:=9) (a:=o node) ⟨rfl,rfl⟩ zp yi zp
def Yl:Option (List Iv)->CV
 |none=>.d .nilsl
 |some l=>dc (Hr l)
abbrev RR(p:PD)(L:List Iv):Key->LB:=aM (aM (λ_=>.hole) 0 (.cells true false 27 p.cs)) 30 (oT L)
abbrev rlM(p:PD)(k:Key)(L:List Iv):List (Key×Key×LB):=[(0,0,.cells true false 27 p.cs),(30,k,oT L)]
theorem GV(L:List Iv)(g:Key->Key):(oT L).like (oT L) g:=by
 unfold oT;split
 ·rfl
 ·exact LB.aN.2 ⟨rfl,rfl,(nS _ _).symm,id⟩
theorem Vz(k:Key)(hc:c.jd=λ_=>.hole)(l:List (Nat×AV))(hk:k≠0)(h0:lv 0=.cells true false 27 p.cs)(h3:lv k=oT L)(h9:lv 9=.hole)
 (hl:∀x∈l,x.2.cG=true/\fr x.1=x.2.dA (aV (rlM p k L) 9)):Le c ⟨fr,lv⟩ ⟨aT l,RR p L⟩:=by
 refine Le.keys (rlM p k L) 9 l rfl hc zp (by simp[aeG hk]) h9 ?_ hl;intro e he;simp only[aZ,bw,or_false]at he;rcases he with rfl|rfl
 ·show(lv 0).like _ _;rw[h0];exact mb p _
 ·show(lv k).like _ _;rw[h3];exact GV _ _
theorem N8{r:Nat->Iv}{w:Iv}(h:j7 p r dp node (j+1)=(λk=>if k=j then w else o k,0))(ho:(j7 p r dp node j).1=o):
 (List.range (j+1)).map (j7 p r dp node (j+1)).1=(List.range j).map (j7 p r dp node j).1++[w]:=by
 rw[h,ho,List.range_succ,aeD,adi,ael];congr 1
 ·refine aen λk hk=>?_;have:=List.mem_range.1 hk;show(if k=j then w else o k)=o k;rw[if_neg zd]
 ·show [if j=j then w else o j]=[w]
  rw[if_pos rfl]
theorem zY(m:Int)(p:PD)(hp:p.ok)(hg:p.good)(node:Nat)(hn:node<p.nn)(hD2:Bv D is)(hlen:is.length=p.ni)(his:∀a∈is,a.sz 10000/\a.1<=a.2)(h6:is.length<=1000):
 aa prog (GG m) 72 [p.A,.c (.d D),.c (.d (.int .i64 (node:Int)))] (.tup [.c (Yl (wk p is node).1),.c (.d (.int .i64 (wk p is node).2))]):=by
 have c1:=Bl m p hp hg node hn;have c2:=uj m p hp hg node hn hD2 hlen his;have hln:=λlv=>RP hD2 lv
 have hrg:=λj=>tj (p:=p) (dp:=iP p node) his (node+1) j
 have c3:=λinp hsm=>CI m p hp hg node hn inp hsm (R:=.sl (((List.range p.nn).map (jx p is (iP p node) (node+1)).1).map cD)) (.inl rfl) hrg
 unfold wk;obtain⟨S,hS⟩:∃S,Aj p node=S:=⟨_,rfl⟩
 rw[hS]at c1⊢;simp only[hS]at c3
 cases S with
 |false=>
  simp only[if_true];clear c3;refine aa.ed func72 rfl λ_=>aah ?_;refine aac λK hK=>aac λK1 hK1=>aai ?_;simp;refine ag.p 3 9 c1 ?_;simp
  repeat refine az ?_
  apply hK1;refine aaE (aac λK1 hK1=>aai ?_);simp
  repeat refine az ?_
  apply hK1;refine aal (κ:=0) ?_;exact cq.iJ (κ:=0) rfl zp zp rfl rfl (kf _ _)
 |true=>
  simp only[agF,if_false];obtain⟨R,hR⟩:∃R,jx p is (iP p node) (node+1)=R:=⟨_,rfl⟩
  rw[hR]at c2⊢;simp only[hR]at c3 hrg;have c3:=λinp=>c3 inp trivial
  obtain⟨o,e⟩:=R
  by_cases h3:e=0
  rotate_left
  ·rw[if_pos h3]
   have c2:aa prog (GG m) 25 [p.A,.c (.d D),.c (.d (.int .i64 (node:Int)))] (.tup [.c (.d .nilsl),.c (.d (.int .i64 e))]):=by
    have h:Ue (o,e) p.nn=.tup [.c (.d .nilsl),.c (.d (.int .i64 e))]:=if_neg h3;rw[h]at c2;exact c2
   clear c3;refine aa.ed func72 rfl λ_=>aah ?_;refine aac λK hK=>abi 3 c1 ?_;refine aax (aan (hK _ _ (abi 3 c2 ?_)));refine aac λK hK=>aah ?_;refine aaB (by simp[h3]<;>omega) (aah ?_);refine aal (κ:=0) ?_;exact cq.iJ (κ:=0) rfl zp zp rfl rfl (kf _ _)
  subst h3;rw[if_neg zp];have c2:aa prog (GG m) 25 [p.A,.c (.d D),.c (.d (.int .i64 (node:Int)))] (.tup [.c (.d (.sl (((List.range p.nn).map o).map cD))),.c (.d (.int .i64 0))]):=c2;obtain⟨L,hL⟩:∃L,DV.sl (((List.range p.nn).map o).map cD)=L:=⟨_,rfl⟩
  simp only[hL]at c2 c3;obtain⟨N,hN⟩:∃N,is.length=N:=⟨_,rfl⟩
  rw[hN]at h6⊢;simp only[hN]at hln;obtain⟨dp,hdp⟩:∃dp,iP p node=dp:=⟨_,rfl⟩
  simp only[hdp]at c3⊢;obtain⟨X,hX⟩:∃X:AV,AV.tup [.c (Yl (if (j7 p o dp node N).2≠0 then(none,(j7 p o dp node N).2)else(some ((List.range N).map (j7 p o dp node N).1),0):Option (List Iv)×Int).1),.c (.d (.int .i64 (if (j7 p o dp node N).2≠0 then(none,(j7 p o dp node N).2)else(some ((List.range N).map (j7 p o dp node N).1),0):Option (List Iv)×Int).2))]=X:=⟨_,rfl⟩
  have herr:∀i e,i<=N->(j7 p o dp node i).2=e->e≠0->X=.tup [.c (.d .nilsl),.c (.d (.int .i64 e))]:=λi e h1 h2 h3=>by
   have h4:=KM (p:=p) (r:=o) (dp:=dp) (node:=node) (i:=i) bc N h1;rw[<-hX,h4,h2,if_pos h3];rfl
  have hres:(j7 p o dp node N).2=0->X=.tup [.c (dc (Hr ((List.range N).map (j7 p o dp node N).1))),.c (.d (.int .i64 0))]:=λh=>by
   rw[<-hX,if_neg (not_not_intro h)];rfl
  rw[hX];clear hX;refine aa.ed func72 rfl λ_=>aah ?_;refine aac λK hK=>abi 3 c1 ?_;refine aax (aan (hK _ _ (abi 3 c2 ?_)));refine aac λK hK=>aah ?_;refine aax (aan (hK _ _ (aah ?_)));refine aac λKZ hKZ=>aac λK1 hK1=>abS (hK1 _ _ ?_)
  refine aaw ?_
  refine aaY (λ(q:Nat)=>⟨aT [(1,.c (.d D)),(2,.c (.d (.int .i64 (node:Int)))),(3,.c (.ptr 0 0)),(8,.c (.d L)),(10,tT 30 ((List.range q).map (j7 p o dp node q).1)),(11,.c (.d (.int .i64 (q:Int))))],RR p ((List.range q).map (j7 p o dp node q).1)⟩) 40
   (λq=>q<=N/\(j7 p o dp node q).2=0) (λq=>N-q) 0 (Vz 30 rfl _ zr zp (by simp[oT]) zp dk) ⟨ab5 _,rfl⟩ ?_
  rintro q ⟨hq,hE⟩
  try simp only at hq hE ⊢
  refine aac λK2 hK2=>aac λK3 hK3=>?_
  by_cases hlt:q<N
  ·have hlt':(q:Int)<(N:Int):=by omega
   have f1:=bP (n:=(q:Int)+1) zd zd;have c4:=c3 q;have herr1:=herr (q+1);have hstp:j7 p o dp node (q+1)=if (j7 p o dp node q).2≠0 then j7 p o dp node q else if (kU p (q:Int) o dp (node+1)).2≠0 then((j7 p o dp node q).1,(kU p (q:Int) o dp (node+1)).2)else(λk=>if k=q then(kU p (q:Int) o dp (node+1)).1 node else(j7 p o dp node q).1 k,0):=rfl
   rw[if_neg (not_not_intro hE)]at hstp;have hsucc:=λ{w} h=>N8 (p:=p) (r:=o) (dp:=dp) (node:=node) (j:=q) (w:=w) h rfl
   obtain⟨l,hl⟩:∃l,(List.range q).map (j7 p o dp node q).1=l:=⟨_,rfl⟩
   have hll:l.length=q:=by rw[<-hl];simp
   simp only[hl]at hsucc⊢;obtain⟨o',ho'⟩:∃o',(j7 p o dp node q).1=o':=⟨_,rfl⟩
   simp only[ho']at hstp hsucc;obtain⟨W,hW⟩:∃W,kU p (q:Int) o dp (node+1)=W:=⟨_,rfl⟩
   rw[hW]at c4 hstp;obtain⟨w,we⟩:=W;simp only at c4 hstp;obtain⟨v,hv⟩:∃v:Iv,(if we=0 then w node else(0,0))=v:=⟨_,rfl⟩
   rw[hv]at c4;refine abG hln hlt (hK3 _ _ ?_);refine aaB xn (aan (hK2 _ _ (aac λK4 hK4=>aaw (aaF λK5 hK5=>?_))));simp;refine ag.p 41 9 c4 ?_;simp[ai]
   repeat refine az ?_
   apply hK5;refine aac λK5 hK5=>aah ?_
   by_cases hw0:we=0
   ·rw[if_pos hw0]at hv;rw[if_neg (not_not_intro hw0),hv]at hstp;subst hw0;have hsucc:=hsucc hstp;refine aax (aan (hK5 _ _ ?_))
    by_cases hl0:l=[]
    ·have e1:oT l=.hole:=by subst hl0;rfl
     have e2:tT 30 l=.c (.d .nilsl):=if_pos hl0;unfold RR;rw[e1,e2];refine aai ?_;simp[E4,cC,keyOf,ai,-aB]
     repeat refine az ?_
     apply hK4;refine aai ?_;simp[f1];subst hl0;refine⟨q+1,?_,⟨zd,fg⟩,zd⟩;rw[hsucc];refine Vz 44 rfl _ zr zp ?_ zp im;rw[aew,show oT [v]=_ from lI [] v];simp[nX,rF]
    ·have e1:oT l=.cells true false 44 (nX l):=if_neg hl0;have e2:tT 30 l=.c (.aO 30 0 l.length 6):=if_neg hl0;have hzl:=vY l;unfold RR;rw[e1,e2];refine aai ?_;simp[E4,cC,keyOf,hzl,ai,-aB]
     repeat refine az ?_
     apply hK4;refine aai ?_;simp[f1];refine⟨q+1,?_,⟨zd,fg⟩,zd⟩;rw[hsucc];refine Vz 44 rfl _ zr zp ?_ zp pC;rw[lI,<-qm];simp[nS]
   ·rw[if_pos hw0]at hstp;have hX:=herr1 we zd fg hw0;refine aaB fi (aac λK6 hK6=>aai ?_);simp
    repeat refine az ?_
    apply hK6;refine aal (κ:=0) ?_;show cq _ _ X .ret _ 0;rw[hX];exact cq.iJ (κ:=0) (X:=.c (.d .nilsl)) (Y:=.c (.d (.int .i64 we))) (ks:=[]) rfl zp zp rfl rfl (kf _ _)
  ·have hqe:q=N:=by omega
   subst hqe;have hX:=hres hE;obtain⟨l,hl⟩:∃l,(List.range q).map (j7 p o dp node q).1=l:=⟨_,rfl⟩
   have hll:l.length=q:=by rw[<-hl];simp
   rw[hl]at hX⊢;refine aby hln (hK3 _ _ ?_);refine aax (aaR ?_);simp
   repeat refine az ?_
   apply hKZ;refine aah ?_;refine aal (κ:=0) ?_;show cq _ _ X .ret _ _;rw[hX]
   by_cases hl0:l=[]
   ·have e2:tT 30 l=.c (.d .nilsl):=if_pos hl0;have e3:dc (Hr l)=.d .nilsl:=by subst hl0;rfl
    rw[e2,e3];exact cq.iJ (κ:=0) (X:=.c (.d .nilsl)) (Y:=.c (.d (.int .i64 0))) (ks:=[]) rfl zp zp rfl rfl (kf _ _)
   ·have e1:oT l=.cells true false 44 (nX l):=if_neg hl0;have e2:tT 30 l=.c (.aO 30 0 l.length 6):=if_neg hl0;rw[e2];exact cq.iJ (κ:=0) (X:=.c (.aO 30 0 l.length 6)) (Y:=.c (.d (.int .i64 0))) (ks:=[30]) rfl zp zp rfl rfl (Aq (uS (own:=true) (fz:=false) (T:=44) (by simp[e1]) zd hl0))
theorem OY(m:Int)(p:PD)(hp:p.ok)(b:Option (List Sp))(node:Int):
 aa prog (GG m) 5 [p.A,.c (dc (uh b)),.c (.d (.int .i64 node))] (.tup [cg (Qp p (bH b) node).1,.c (.d (.int .i64 (Qp p (bH b) node).2))]):=by
 have c1:=r7 m p hp b node
 have c2:gS p (bH b) node=0->∀D,Bv D (gM (bH b))->aa prog (GG m) 17 [p.A,.c (.d D),.c (.d (.int .i64 node))] (.tup [cg (lW p (gM (bH b)) node.toNat).1,.c (.d (.int .i64 (lW p (gM (bH b)) node.toNat).2))]):=λh D hD=>by
  obtain⟨hg,hl,hb,h0,h1⟩:=jZ hp h;have:=Aw m p hp hg node.toNat zd hD pc (λa ha=>⟨Iv.aC (jJ hb a ha).1 zr,(jJ hb a ha).2⟩);rw[show((node.toNat:Nat):Int)=node by omega]at this;exact this
 show aa _ _ _ _ (.tup [cg (qe p (bH b) node (lW p (gM (bH b)) node.toNat)).1,.c (.d (.int .i64 (qe p (bH b) node (lW p (gM (bH b)) node.toNat)).2))]);generalize lW p (gM (bH b)) node.toNat=r at*
 have bz:bM prog 44 [] []=some (cg (0,0),[],[],True):=tD;unfold qe;obtain⟨E,hE⟩:∃E,gS p (bH b) node=E:=⟨_,rfl⟩
 rw[hE]at c1 c2 ⊢
 by_cases h0:E=0
 ·subst h0;simp only[if_pos]at c1⊢;obtain⟨D,hD,hD2⟩:=sU (gM (bH b));rw[hD]at c1;have c2:=c2 rfl D hD2;obtain⟨a,e⟩:=r;simp only at c2⊢;obtain⟨a1,a2⟩:=a;refine aa.enc func5 rfl (λlv=>bW lv _ _ _ _ _ _ _ rfl) λ_=>?_;refine aau mixed (eY c1 c2) @ai.eq_1 ?_;exact aal (aF.fI (κ:=0) (t:=6) (k:=1) (u:=7) (a:=(a1,a2)) ⟨rfl,rfl⟩ zp yi zp)
 ·simp only[if_neg h0]at c1⊢;generalize hz:((0:Rat),(0:Rat))=z at*
  have c1:aa prog (GG m) 16 [p.A,.c (dc (uh b)),.c (.d (.int .i64 node))] (.tup [.c (.d .nilsl),.c (.d (.int .i64 E))]):=c1;refine aa.enc func5 rfl (λlv=>bW lv _ _ _ _ _ _ _ rfl) λ_=>?_;refine aau mixed c1 (lD h0 bz @ai.eq_1) ?_;exact aal (aF.fI (κ:=0) (t:=6) (k:=1) (u:=7) (a:=z) ⟨rfl,rfl⟩ zp yi zp)
theorem LZ(m:Int)(p:PD)(hp:p.ok)(b:Option (List Sp))(node inp:Int):
 aa prog (GG m) 8 [p.A,.c (dc (uh b)),.c (.d (.int .i64 node)),.c (.d (.int .i64 inp))] (.tup [cg (Sb p (bH b) node inp).1,.c (.d (.int .i64 (Sb p (bH b) node inp).2))]):=by
 have c1:=r7 m p hp b node;have bz:bM prog 44 [] []=some (cg (0,0),[],[],True):=tD;unfold Sb;obtain⟨E,hE⟩:∃E,gS p (bH b) node=E:=⟨_,rfl⟩
 rw[hE]at c1 ⊢
 by_cases h0:E=0
 rotate_left
 ·rw[if_pos h0];rw[if_neg h0]at c1;generalize hz:((0:Rat),(0:Rat))=z at*
  have c1:aa prog (GG m) 16 [p.A,.c (dc (uh b)),.c (.d (.int .i64 node))] (.tup [.c (.d .nilsl),.c (.d (.int .i64 E))]):=c1;refine aa.enc func8 rfl (λlv=>bW lv _ _ _ _ _ _ _ rfl) λ_=>?_;refine aau mixed c1 (lD h0 bz @ai.eq_1) ?_;exact aal (aF.fI (κ:=0) (t:=8) (k:=1) (u:=9) (a:=z) ⟨rfl,rfl⟩ zp yi zp)
 subst h0;obtain⟨hg,hbl,hb,n0,n1⟩:=jZ hp hE;simp only[if_pos,ne_eq,not_true,if_false]at c1⊢;obtain⟨nd,rfl⟩:∃nd:Nat,node=(nd:Int):=⟨node.toNat,zd⟩
 rw[show((nd:Int)).toNat=nd by omega];have hnd:nd<p.nn:=zd
 obtain⟨D,hD,hD2⟩:=sU (gM (bH b));rw[hD]at c1;have hln:=λlv=>RP hD2 lv
 simp only[lA]at hln;have c2:=Bl m p hp hg nd hnd;have his:∀a∈gM (bH b),a.sz 10000/\a.1<=a.2:=λa ha=>⟨Iv.aC (jJ hb a ha).1 zr,(jJ hb a ha).2⟩
 have c3:=uj m p hp hg nd hnd hD2 (by rw[lA];exact hbl) his;have hrg:=λj=>tj (p:=p) (dp:=iP p nd) his (nd+1) j
 have c4:=λhsm=>CI m p hp hg nd hnd inp hsm (R:=.sl (((List.range p.nn).map (jx p (gM (bH b)) (iP p nd) (nd+1)).1).map cD)) (.inl rfl) hrg
 unfold slB;obtain⟨S,hS⟩:∃S,Aj p nd=S:=⟨_,rfl⟩
 rw[hS]at c2⊢;simp only[hS]at c4;obtain⟨R,hR⟩:∃R,jx p (gM (bH b)) (iP p nd) (nd+1)=R:=⟨_,rfl⟩
 rw[hR]at c3⊢;simp only[hR]at c4;obtain⟨W,hW⟩:∃W,kU p inp R.1 (iP p nd) (nd+1)=W:=⟨_,rfl⟩
 rw[hW]at c4⊢;obtain⟨ln,hbn⟩:∃ln,(bH b).length=ln:=⟨_,rfl⟩
 simp only[hbn]at hln⊢;clear hrg his hE hS hR hW
 cases S with
 |false=>
  simp only[if_true];clear c3 c4;generalize hz:((0:Rat),(0:Rat))=z at*
  refine aa.enc func8 rfl (λlv=>bW lv _ _ _ _ _ _ _ rfl) λ_=>?_;refine aau mixed (eY c1 c2) (eY bz @ai.eq_1) ?_;exact aal (aF.fI (κ:=0) (t:=8) (k:=1) (u:=9) (a:=z) ⟨rfl,rfl⟩ zp yi zp)
 |true=>
  simp only[agF,if_false];have c4:=c4 rfl
  by_cases h1:inp<0
  ·rw[if_pos (.inl h1)];clear c3 c4;generalize hz:((0:Rat),(0:Rat))=z at*
   refine aa.enc func8 rfl (λlv=>bW lv _ _ _ _ _ _ _ rfl) λ_=>?_;refine aau mixed (eY c1 c2) (lD h1 bz @ai.eq_1) ?_;exact aal (aF.fI (κ:=0) (t:=8) (k:=1) (u:=9) (a:=z) ⟨rfl,rfl⟩ zp yi zp)
  by_cases h2:(ln:Int)<=inp
  ·rw[if_pos (.inr h2)];clear c3 c4;generalize hz:((0:Rat),(0:Rat))=z at*
   refine aa.enc func8 rfl (λlv=>bW lv _ _ _ _ _ _ _ rfl) λ_=>?_;refine aau mixed (eY c1 c2) (BF h1 hln h2 bz @ai.eq_1) ?_;exact aal (aF.fI (κ:=0) (t:=8) (k:=1) (u:=9) (a:=z) ⟨rfl,rfl⟩ zp yi zp)
  rw[if_neg zd];obtain⟨o,e⟩:=R;simp only
  by_cases h3:e=0
  rotate_left
  ·rw[if_pos h3]
   have c3:aa prog (GG m) 25 [p.A,.c (.d D),.c (.d (.int .i64 (nd:Int)))] (.tup [.c (.d .nilsl),.c (.d (.int .i64 e))]):=by
    have h:Ue (o,e) p.nn=.tup [.c (.d .nilsl),.c (.d (.int .i64 e))]:=if_neg h3;rw[h]at c3;exact c3
   clear c4;generalize hz:((0:Rat),(0:Rat))=z at*
   refine aa.enc func8 rfl (λlv=>bW lv _ _ _ _ _ _ _ rfl) λ_=>?_;refine aau mixed (lD c1 c2 c3) (me h1 hln h2 h3 bz @ai.eq_1) ?_;exact aal (aF.fI (κ:=0) (t:=8) (k:=1) (u:=9) (a:=z) ⟨rfl,rfl⟩ zp yi zp)
  subst h3;rw[if_neg zp];have c3:aa prog (GG m) 25 [p.A,.c (.d D),.c (.d (.int .i64 (nd:Int)))] (.tup [.c (.d (.sl (((List.range p.nn).map o).map cD))),.c (.d (.int .i64 0))]):=c3;obtain⟨L,hL⟩:∃L,DV.sl (((List.range p.nn).map o).map cD)=L:=⟨_,rfl⟩
  simp only[hL]at c3 c4;obtain⟨v,hv⟩:∃v:Iv,(if W.2=0 then W.1 nd else(0,0))=v:=⟨_,rfl⟩
  rw[hv]at c4⊢;obtain⟨we,hwe⟩:∃we,W.2=we:=⟨_,rfl⟩
  rw[hwe]at c4⊢;obtain⟨v1,v2⟩:=v;refine aa.enc func8 rfl (λlv=>bW lv _ _ _ _ _ _ _ rfl) λ_=>?_;refine aau mixed (mo c1 c2 c3 c4) (mo h1 hln h2 @ai.eq_1) ?_;exact aal (aF.fI (κ:=0) (t:=8) (k:=1) (u:=9) (a:=(v1,v2)) ⟨rfl,rfl⟩ zp yi zp)
theorem HN(G:List (List DV))(a:Iv)(h:a.sz 300):aa prog G 73 [cg a] (bQ (uk a)):=by
 have c1:=oJ G a.1 a.2 (au h.1 zr) (au h.2 zr);have c2:=iD G (a.1+a.2) (-1) (au (jg h.1 h.2) zr) zr zr;change aa _ _ _ _ (bQ (uk a))at c2;generalize uk a=y at*
 generalize a.1+a.2=t at*
 obtain⟨a1,a2⟩:=a;refine aa.enc func73 rfl (λlv=>bT lv _ _ _) λ_=>?_;refine aau mixed (eY c1 c2) @ai.eq_1 ?_;exact aal (aF.ref (k:=1) rfl zp yi rfl)
abbrev WM(w:Rat):List CV:=[.d (.int .i64 (cu w)),rC (cw w),rC (cU w)]
abbrev Mp(p:PD)(w:Rat)(L:List Iv):Key->LB:=aM (aM (aM (aM (λ_=>.hole) 0 (.cells true false 27 p.cs)) 1 (.cells true false 44 EL)) 2 (.cells true false 42 (WM w))) 30 (oT L)
abbrev rmM(p:PD)(w:Rat)(k2 k:Key)(L:List Iv):List (Key×Key×LB):=[(0,0,.cells true false 27 p.cs),(1,1,.cells true false 44 EL),(2,k2,.cells true false 42 (WM w)),(30,k,oT L)]
theorem Ub{w:Rat}(k2 k:Key)(hc:c.jd=λ_=>.hole)(l:List (Nat×AV))(hk:([0,1,k2,k]:List Key).Nodup)(h0:lv 0=.cells true false 27 p.cs)(h1:lv 1=.cells true false 44 EL)(h2:lv k2=.cells true false 42 (WM w))(h3:lv k=oT L)(h9:lv 9=.hole)
 (hl:∀x∈l,x.2.cG=true/\fr x.1=x.2.dA (aV (rmM p w k2 k L) 9)):Le c ⟨fr,lv⟩ ⟨aT l,Mp p w L⟩:=by
 refine Le.keys (rmM p w k2 k L) 9 l rfl hc zp ky h9 ?_ hl;intro e he;simp only[aZ,bw,or_false]at he;rcases he with rfl|rfl|rfl|rfl
 ·show(lv 0).like _ _;rw[h0];exact mb p _
 ·show(lv 1).like _ _;rw[h1];exact LB.aN.2 ⟨rfl,rfl,rfl,id⟩
 ·show(lv k2).like _ _;rw[h2];exact LB.aN.2 ⟨rfl,rfl,zp,id⟩
 ·show(lv k).like _ _;rw[h3];exact GV _ _
theorem ag.acB{a b:AV}(κ':Nat)(kb:Key)(l:List Iv)(ha:a.pure=true)(hb:b.pure=true)(hl:l≠[])(hl2:l.length<=1000)(hc:aa c0.P c0.G fid [a,.c (.d (.sl (l.map cD))),b] X)(hX:X.pure=true)
 (hk:lv kb=.cells true false 44 (nX l)) (hh:lv 9=.hole) (hkb:(9:Key)≠kb) (hK:K X [(kb,.cells true true 44 (nX l))] [9] κ'):ag c0 fid [a,.c (.aO kb 0 l.length 6),b] lv K:=by
 have hd:fO (aM lv kb (.cells true true 44 (nX l))) (.c (.aO kb 0 l.length 6))=some (.c (.d (.sl (l.map cD))),[kb]):=by
  have:=uS (lv:=aM lv kb (.cells true true 44 (nX l))) (k:=kb) (own:=true) (fz:=true) (T:=44) (l:=l) (aI _ _ _) zd hl;have e:dc (Hr l)=.d (.sl (l.map cD)):=by unfold Hr;rw[if_neg hl];rfl
  rw[e]at this;exact this
 refine ag.MD κ' 9 kb 44 (nX l) [9] hc hX hk hh hkb rfl (λi p q=>?_) (λx hx j hj=>?_) zp hK
 ·match i,p,q with
  |0,_,_=>exact .inl ⟨ha,rfl⟩
  |1,_,_=>exact .inr hd
  |2,_,_=>exact .inl ⟨hb,rfl⟩
 ·simp only[aZ,bw,or_false]at hx;rcases hx with rfl|rfl|rfl
  ·rw[dX ha]at hj;cases hj
  ·have hj:j∈jB (aM lv kb (.cells true true 44 (nX l))) 8 (.aO kb 0 l.length 6):=hj;simp only[jB,aI]at hj;rcases List.mem_cons.1 hj with rfl|hj
   ·exact .inr rfl
   ·obtain⟨y,hy,hj⟩:=List.mem_flatMap.1 hj;unfold nX at hy;obtain⟨w,_,rfl⟩:=List.mem_map.1 hy
    cases hj
  ·rw[dX hb]at hj;cases hj
theorem Ns(m:Int)(z:Ev)(v u r zz:Iv)(w nw:Rat)(e:Int)(b1 b2:Bool)(X:Iv×Int)(hz:((0:Rat),(0:Rat))=zz)
 (cN:aa prog (GG m) 80 [bQ w] (bQ nw)) (cA:aa prog (GG m) 79 [cg v,cg (nw,w)] (cg u)) (cO:aa prog (GG m) 60 [cg u,.c (.d (.int .i64 96))] (cg r))
 (l1:aa prog (GG m) 61 [bQ r.1] (.c (.d (.bool b1)))) (l2:aa prog (GG m) 61 [bQ r.2] (.c (.d (.bool b2))))
 (hme:X=if e≠0 then(zz,e)else if (b1 ||b2)=false then(r,0)else(zz,3))
 (hret:∀s κ,s.fr 6=.c (.ptr 1 0)->s.fr 7=.c (.d (.int .i64 X.2))->s.lv 1=.cells true false 44 [.d (.int .i64 (cu X.1.1)),rC (cw X.1.1),rC (cU X.1.1),.d (.int .i64 (cu X.1.2)),rC (cw X.1.2),rC (cU X.1.2)]->Q .ret s κ) :
 AW (⟨prog,GG m,z.w,z.F,z.W,Tryz.f28.ntmps,λ_=>.hole,z.b,z.d⟩:Ctx) none (cW [1,1,1,1,1,1,1] Tryz.f28) ⟨aT [(6,.c (.ptr 1 0)),(9,.c (.d (.int .i64 e))),(11,.c (.ptr 2 0)),(13,.c (.ptr 10 0))],aM (aM (aM (λ_=>.hole) 1 (.cells true false 44 EL)) 2 (.cells true false 42 (WM w))) 10 (.cells true false 44 [.d (.int .i64 (cu v.1)),rC (cw v.1),rC (cU v.1),.d (.int .i64 (cu v.2)),rC (cw v.2),rC (cU v.2)])⟩ 50 Q:=by
 have bz:bM prog 44 [] []=some (cg (0,0),[],[],True):=tD;rw[hz]at bz
 conv=>
  enter [3]
  whnf
 refine aau mixed trivial trivial ?_
 by_cases he:e=0
 rotate_left
 ·rw[if_pos he]at hme;subst hme;refine aau mixed trivial (lD he bz @ai.eq_1) ?_;exact aal (hret _ _ zp zp yi)
 subst he;rw[if_neg zp]at hme;refine aau mixed (lD cN cA cO) (eY @ai.eq_1 @MG) ?_
 cases b1 with
 |true=>
  have hme:X=(zz,3):=hme.trans (if_neg zp);subst hme;refine aau mixed l1 (eY @ai.eq_1 bz) ?_;exact aal (hret _ _ zp zp yi)
 |false=>
  refine aau mixed (eY l1 l2) @ai.eq_1 ?_
  cases b2 with
  |true=>
   have hme:X=(zz,3):=hme.trans (if_neg zr);subst hme;refine aau mixed trivial (eY bz @ai.eq_1) ?_;exact aal (hret _ _ zp zp yi)
  |false=>
   have hme:X=(r,0):=hme.trans (if_pos zr);subst hme;refine aau mixed trivial @ai.eq_1 ?_;exact aal (hret _ _ zp zp yi)
theorem PJ(m:Int)(p:PD)(hp:p.ok)(hg:p.good)(node:Nat)(hn:node<p.nn)(hD2:Bv D is)(hlen:is.length=p.ni)(his:∀a∈is,a.sz 300/\a.1<=a.2):
 aa prog (GG m) 28 [p.A,.c (.d D),.c (.d (.int .i64 (node:Int)))] (.tup [cg (Gg p is node).1,.c (.d (.int .i64 (Gg p is node).2))]):=by
 obtain⟨-,-,-,-,hni,-,-⟩:=eX hg.gen;have h6:is.length<=6:=zd
 have his':∀a∈is,a.sz 10000/\a.1<=a.2:=λa ha=>⟨Iv.aC (his a ha).1 zr,(his a ha).2⟩
 have c1:=zY m p hp hg node hn hD2 hlen his' zd;have hcl:=Eg λa ha=>(his a ha).1
 have c2:=λ{D'}(h:Bv D' (oV is))=>Aw m p hp hg node hn h (by rw[Bi];exact hlen) hcl
 have bz:bM prog 44 [] []=some (cg (0,0),[],[],True):=tD;have bn:bM prog 42 [] []=some (bQ 0,[],[],True):=Q8;have e1:=DX (p:=p) (is:=is) (node:=node);have e2:=Dn (p:=p) (is:=is) (node:=node);have hvg:=Cq (p:=p) (node:=node) hcl;have hms:=Nx (p:=p) (node:=node) his h6;have hdg:=Np (p:=p) (node:=node) his';have hwz:=Ek (d:=tu p is node) (λa ha=>(his a ha).1) hdg;have hmi:FT p is node=(lW p (oV is) node).1.add (-(uo is (tu p is node) is.length),uo is (tu p is node) is.length):=rfl;have hme:Gg p is node=if (wk p is node).2≠0 then((0,0),(wk p is node).2)else if (lW p (oV is) node).2≠0 then((0,0),(lW p (oV is) node).2)else if pq (hU (FT p is node))then(hU (FT p is node),0)else((0,0),3):=rfl
 obtain⟨X,hX⟩:∃X,Gg p is node=X:=⟨_,rfl⟩
 rw[hX]at hme⊢;obtain⟨z,hz⟩:∃z:Iv,((0:Rat),(0:Rat))=z:=⟨_,rfl⟩
 rw[hz]at bz hme;obtain⟨E,hE⟩:∃E,(wk p is node).2=E:=⟨_,rfl⟩
 rw[hE]at c1 e1 e2 hme
 by_cases h0:E=0
 rotate_left
 ·rw[if_pos h0]at hme;rw[e2 h0]at c1;have c1:aa prog (GG m) 72 [p.A,.c (.d D),.c (.d (.int .i64 (node:Int)))] (.tup [.c (.d .nilsl),.c (.d (.int .i64 E))]):=c1;rw[hme];clear c2 hvg hms hdg hwz hmi e1 e2 hcl his his';refine aa.enc func28 rfl (λlv=>bW lv _ _ _ _ _ _ _ rfl) λ_=>aah ?_;refine abi 3 c1 ?_;refine aac λK hK=>aah ?_;refine aaB ws (abk bz @ai.eq_1 ?_);exact aal (aF.fI (κ:=0) (t:=6) (k:=1) (u:=7) (a:=z) ⟨rfl,rfl⟩ zp yi zp)
 subst h0;rw[if_neg zp]at hme;rw[e1 rfl]at c1;obtain⟨d,hd⟩:∃d,tu p is node=d:=⟨_,rfl⟩
 rw[hd]at c1 hdg hwz hmi;obtain⟨DD,hDD,hDS⟩:=sU ((List.range is.length).map d);have c1:aa prog (GG m) 72 [p.A,.c (.d D),.c (.d (.int .i64 (node:Int)))] (.tup [.c (.d DD),.c (.d (.int .i64 0))]):=lL
 have hln:=λlv=>RP hD2 lv
 have hib:=λlv (q:Nat) (h:q<is.length)=>qj (T:=54) zp hD2 lv (i:=q) h
 have hid:=λlv (q:Nat) (h:q<is.length)=>qj (T:=54) zp hDS lv (i:=q) ta
 simp only[rP,ae8]at hid;have hgd:∀q (h:q<is.length),is.getD q (0,0)=is[q]:=λq h=>by rw[ab6,fy h];rfl
 have hsz:∀q (h:q<is.length),is[q].sz 300:=λq h=>(his _ (cn h)).1
 have hst1:∀q (h:q<is.length),uo is d (q+1)=uo is d q+xQ is[q]*(d q).size:=λq h=>by rw[<-hgd q h];rfl
 have hst2:∀q (h:q<is.length),(List.range (q+1)).map (zU is)=(List.range q).map (zU is)++[(uk is[q],uk is[q])]:=λq h=>by
  rw[List.range_succ,aeD,adi,ael,<-hgd q h];rfl
 have hcl0:oV is=(List.range is.length).map (zU is):=rfl;obtain⟨V,hV⟩:∃V,lW p (oV is) node=V:=⟨_,rfl⟩
 simp only[hV]at c2 hme hmi hvg;obtain⟨v,e⟩:=V;simp only at c2 hme hmi hvg;obtain⟨r,hr⟩:∃r,hU (FT p is node)=r:=⟨_,rfl⟩
 have hrs:r.sz 1000000:=by rw[<-hr];exact Hl hms
 obtain⟨N,hN⟩:∃N,is.length=N:=⟨_,rfl⟩
 simp only[hN]at hmi hln hib hid hst1 hst2 hsz h6 hcl0;have hWz:=hwz N;have cN:=oI (GG m) (uo is d N);have cA:=mh (GG m) v (-(uo is d N),uo is d N) (Iv.aC hvg.1 zr) ⟨fk (au hWz zd),au hWz zd⟩;rw[<-hmi]at cA;have cO:=DI m (FT p is node) 96 hms;change aa _ _ _ _ (cg (hU (FT p is node)))at cO;rw[hr]at cO hme;have cS1:=mH (GG m) r.1 hrs.1;have cS2:=mH (GG m) r.2 hrs.2;have ebb:pq r = !(eS r.1 ||eS r.2):=rfl;generalize FT p is node=u at*
 obtain⟨b1,hb1⟩:∃b,eS r.1=b:=⟨_,rfl⟩
 obtain⟨b2,hb2⟩:∃b,eS r.2=b:=⟨_,rfl⟩
 rw[hb1]at cS1;rw[hb2]at cS2
 have hme:X=if e≠0 then(z,e)else if (b1 ||b2)=false then(r,0)else(z,3):=by
  rw[hme,ebb,hb1,hb2]
  cases b1<;>cases b2<;>simp
 have tl:=λ(zz:Ev) {Q}=>Ns m zz v u r z (uo is d N) (-(uo is d N)) e b1 b2 X (Q:=Q) hz cN cA cO cS1 cS2 hme
 clear hX hE e1 e2 hcl hvg hms hmi hV hr hd hDD cN cA cO cS1 cS2 ebb hb1 hb2 hme hgd;refine aa.ed func28 rfl λ_=>aah ?_;refine abi 3 c1 ?_;refine aac λK hK=>aah ?_;refine aax (aan (hK _ _ (aah ?_)));refine abk bn @ai.eq_1 ?_;refine aac λKZ hKZ=>aah ?_;refine aaw ?_
 refine aaY (λ(q:Nat)=>⟨aT [(1,.c (.d D)),(2,.c (.d (.int .i64 (node:Int)))),(3,.c (.ptr 0 0)),(6,.c (.ptr 1 0)),(8,.c (.d DD)),(10,tT 30 ((List.range q).map (zU is))),(11,.c (.ptr 2 0)),(12,.c (.d (.int .i64 (q:Int))))],Mp p (uo is d q) ((List.range q).map (zU is))⟩) 40
  (λq=>q<=N) (λq=>N-q) 0 (Ub 3 30 rfl _ zr zp zp (by simp[uo]) (by simp[oT]) zp dk) (ab5 _) ?_
 rintro q hq
 try simp only at hq ⊢
 refine aac λK2 hK2=>aac λK3 hK3=>?_
 by_cases hlt:q<N
 ·have hlt':(q:Int)<(N:Int):=by omega
  have f1:=bP (n:=(q:Int)+1) zd zd;have hxb:=λlv=>hib lv q hlt
  have hxd:=λlv=>hid lv q hlt
  have hst1:=hst1 q hlt;have hst2:=hst2 q hlt;have hsz:=hsz q hlt;have hdq:=hdg q;have hwq:=hwz q;obtain⟨a,ha⟩:∃a,is[q]=a:=⟨_,rfl⟩
  simp only[ha]at hxb hst1 hst2 hsz;obtain⟨dq,hdq'⟩:∃dq,d q=dq:=⟨_,rfl⟩
  simp only[hdq']at hxd hst1 hdq;have d1:=HN (GG m) a hsz;have d2:=k9 (GG m) (uk a);have d3:=Lr (GG m) a hsz;have d4:=iD (GG m) (a.2-a.1) (-1) (au (Iv.FA hsz) zr) zr zr;change aa _ _ _ _ (bQ (xQ a))at d4;have d5:=Hp (GG m) dq (Iv.aC hdq.1 zr);have s6:=gu (xw hsz) (v7 hdq.1);have d6:=oR (GG m) (xQ a) dq.size (au (xw hsz) zr) (au (v7 hdq.1) zr);have d7:=oJ (GG m) (uo is d q) (xQ a*dq.size) (au hwq zd) (au s6 zr);rw[<-hst1]at d7;generalize xQ a*dq.size=y1 at*
  generalize dq.size=y2 at*
  generalize xQ a=y3 at*
  generalize a.2-a.1=y4 at*
  generalize uk a=y5 at*
  obtain⟨l,hl⟩:∃l,(List.range q).map (zU is)=l:=⟨_,rfl⟩
  have hll:l.length=q:=by rw[<-hl];simp
  rw[hl]at hst2⊢;generalize uo is d q=w1 at*
  refine abG hln hlt (hK3 _ _ ?_);refine aaB xn (aan (hK2 _ _ (aac λK4 hK4=>aaw (aac λK5 hK5=>?_))))
  by_cases hl0:l=[]
  ·have g1:oT l=.hole:=by subst hl0;rfl
   have g2:tT 30 l=.c (.d .nilsl):=if_pos hl0;unfold Mp;rw[g1,g2];refine aai ?_;simp[hxb,cD,jL,ai];refine ag.p 41 9 d1 ?_;simp[ai];refine ag.p 42 9 d2 ?_;simp[E4,cC,keyOf,ai,-aB]
   repeat refine az ?_
   apply hK5;refine aaT mixed zt rfl ?_;simp[hxd,hxb,cD,jL,ai];refine ag.p 45 9 d3 ?_;simp[hxd,cD,jL,ai];refine ag.p 46 9 d4 ?_;simp[hxd,cD,jL,ai];refine ag.p 47 9 d5 ?_;simp[ai];refine ag.p 48 9 d6 ?_;simp[ai];refine ag.p 49 9 d7 ?_;simp[ai];refine⟨zt,?_⟩
   repeat refine az ?_
   apply hK4;refine aai ?_;simp[f1];subst hl0;refine⟨q+1,?_,zd,zd⟩;rw[hst2];refine Ub 2 43 rfl _ zr zp zp zp ?_ zp im;rw[aew,show oT [(y5,y5)]=_ from lI [] (y5,y5)];simp[nX,rF]
  ·have g1:oT l=.cells true false 44 (nX l):=if_neg hl0;have g2:tT 30 l=.c (.aO 30 0 l.length 6):=if_neg hl0;have hzl:=vY l;unfold Mp;rw[g1,g2];refine aai ?_;simp[hxb,cD,jL,ai];refine ag.p 41 9 d1 ?_;simp[ai];refine ag.p 42 9 d2 ?_;simp[E4,cC,keyOf,hzl,ai,-aB]
   repeat refine az ?_
   apply hK5;refine aaT mixed zt rfl ?_;simp[hxd,hxb,cD,jL,ai];refine ag.p 45 9 d3 ?_;simp[hxd,cD,jL,ai];refine ag.p 46 9 d4 ?_;simp[hxd,cD,jL,ai];refine ag.p 47 9 d5 ?_;simp[ai];refine ag.p 48 9 d6 ?_;simp[ai];refine ag.p 49 9 d7 ?_;simp[ai];refine⟨zt,?_⟩
   repeat refine az ?_
   apply hK4;refine aai ?_;simp[f1];refine⟨q+1,?_,zd,zd⟩;rw[hst2];refine Ub 2 43 rfl _ zr zp zp zp ?_ zp pC;rw[lI,<-qm];simp[nS]
 ·have hqe:q=N:=by omega
  subst hqe;obtain⟨l,hl⟩:∃l,(List.range q).map (zU is)=l:=⟨_,rfl⟩
  rw[<-hcl0]at hl;have hll:l.length=q:=by rw[<-hl,Bi];exact hN
  simp only[hl]at c2;rw[hcl0]at hl;rw[hl];refine aby hln (hK3 _ _ ?_);refine aax (aaR (hKZ _ _ (aac λK hK=>?_)))
  by_cases hl0:l=[]
  ·have g1:oT l=.hole:=by subst hl0;rfl
   have g2:tT 30 l=.c (.d .nilsl):=if_pos hl0;have c2:=c2 (D':=.nilsl) (.inr ⟨rfl,hl0⟩);unfold Mp;rw[g1,g2];refine abI 41 c2 @ai.eq_1 (hK _ _ ?_)
   refine abC (y:=cW [1,1,1,1,1,1,1] Tryz.f28) zt (abA (Le.keys [(1,1,.cells true false 44 EL),(2,2,.cells true false 42 (WM (uo is d q))),(10,41,.cells true false 44 [.d (.int .i64 (cu v.1)),rC (cw v.1),rC (cU v.1),.d (.int .i64 (cu v.2)),rC (cw v.2),rC (cU v.2)])] 9 _ rfl rfl zp zp zp (by
    intro e he;simp only[aZ,bw,or_false]at he;rcases he with rfl|rfl|rfl
    ·exact LB.aN.2 ⟨rfl,rfl,rfl,id⟩
    ·exact LB.aN.2 ⟨rfl,rfl,zp,id⟩
    ·exact LB.aN.2 ⟨rfl,rfl,zp,id⟩) xa) (tl _ λs κ q1 q2 q3=>?_))
   exact cq.fI (κ:=κ) (k:=1) (t:=6) (u:=7) ⟨rfl,rfl⟩ q1 q3 q2
  ·have g1:oT l=.cells true false 44 (nX l):=if_neg hl0;have g2:tT 30 l=.c (.aO 30 0 l.length 6):=if_neg hl0;have c2:=c2 (D':=.sl (l.map cD)) (.inl rfl);unfold Mp;rw[g1,g2];refine aai ?_;simp;refine ag.acB 41 30 l zp zp hl0 zd c2 zp zp zp zr ?_;simp[ai]
   repeat refine az ?_
   apply hK
   refine abC (y:=cW [1,1,1,1,1,1,1] Tryz.f28) zt (abA (Le.keys [(1,1,.cells true false 44 EL),(2,2,.cells true false 42 (WM (uo is d q))),(10,41,.cells true false 44 [.d (.int .i64 (cu v.1)),rC (cw v.1),rC (cU v.1),.d (.int .i64 (cu v.2)),rC (cw v.2),rC (cU v.2)])] 9 _ rfl rfl zp zp zp (by
    intro e he;simp only[aZ,bw,or_false]at he;rcases he with rfl|rfl|rfl
    ·exact LB.aN.2 ⟨rfl,rfl,rfl,id⟩
    ·exact LB.aN.2 ⟨rfl,rfl,zp,id⟩
    ·exact LB.aN.2 ⟨rfl,rfl,zp,id⟩) xa) (tl _ λs κ q1 q2 q3=>?_))
   exact cq.fI (κ:=κ) (k:=1) (t:=6) (u:=7) ⟨rfl,rfl⟩ q1 q3 q2
theorem Og(m:Int)(p:PD)(hp:p.ok)(b:Option (List Sp))(node:Int):
 aa prog (GG m) 10 [p.A,.c (dc (uh b)),.c (.d (.int .i64 node))] (.tup [cg (tn p (bH b) node).1,.c (.d (.int .i64 (tn p (bH b) node).2))]):=by
 have c1:=r7 m p hp b node
 have c2:gS p (bH b) node=0->∀D,Bv D (gM (bH b))->aa prog (GG m) 28 [p.A,.c (.d D),.c (.d (.int .i64 node))] (.tup [cg (Gg p (gM (bH b)) node.toNat).1,.c (.d (.int .i64 (Gg p (gM (bH b)) node.toNat).2))]):=λh D hD=>by
  obtain⟨hg,hl,hb,h0,h1⟩:=jZ hp h;have:=PJ m p hp hg node.toNat zd hD pc (jJ hb);rw[show((node.toNat:Nat):Int)=node by omega]at this;exact this
 show aa _ _ _ _ (.tup [cg (qe p (bH b) node (Gg p (gM (bH b)) node.toNat)).1,.c (.d (.int .i64 (qe p (bH b) node (Gg p (gM (bH b)) node.toNat)).2))]);generalize Gg p (gM (bH b)) node.toNat=r at*
 have bz:bM prog 44 [] []=some (cg (0,0),[],[],True):=tD;unfold qe;obtain⟨E,hE⟩:∃E,gS p (bH b) node=E:=⟨_,rfl⟩
 rw[hE]at c1 c2 ⊢
 by_cases h0:E=0
 ·subst h0;simp only[if_pos]at c1⊢;obtain⟨D,hD,hD2⟩:=sU (gM (bH b));rw[hD]at c1;have c2:=c2 rfl D hD2;obtain⟨a,e⟩:=r;simp only at c2⊢;obtain⟨a1,a2⟩:=a;refine aa.enc func10 rfl (λlv=>bW lv _ _ _ _ _ _ _ rfl) λ_=>?_;refine aau mixed (eY c1 c2) @ai.eq_1 ?_;exact aal (aF.fI (κ:=0) (t:=6) (k:=1) (u:=7) (a:=(a1,a2)) ⟨rfl,rfl⟩ zp yi zp)
 ·simp only[if_neg h0]at c1⊢;generalize hz:((0:Rat),(0:Rat))=z at*
  have c1:aa prog (GG m) 16 [p.A,.c (dc (uh b)),.c (.d (.int .i64 node))] (.tup [.c (.d .nilsl),.c (.d (.int .i64 E))]):=c1;refine aa.enc func10 rfl (λlv=>bW lv _ _ _ _ _ _ _ rfl) λ_=>?_;refine aau mixed c1 (lD h0 bz @ai.eq_1) ?_;exact aal (aF.fI (κ:=0) (t:=6) (k:=1) (u:=7) (a:=z) ⟨rfl,rfl⟩ zp yi zp)
theorem ag.YQ{a b:AV}(κ':Nat)(kb:Key)(o:Nat->Iv)(n:Nat)(ha:a.pure=true)(hb:b.pure=true)(hl2:n<=1000)(hc:aa c0.P c0.G fid [a,.c (.d (.sl (((List.range n).map o).map cD))),b] X)(hX:X.pure=true)
 (hk:lv kb=.cells true false 44 (jc o n)) (hh:lv 9=.hole) (hkb:(9:Key)≠kb) (hK:K X [(kb,.cells true true 44 (jc o n))] [9] κ'):ag c0 fid [a,.c (.aO kb 0 n 6),b] lv K:=by
 have hd:fO (aM lv kb (.cells true true 44 (jc o n))) (.c (.aO kb 0 n 6))=some (.c (.d (.sl (((List.range n).map o).map cD))),[kb]):=
  Fg (own:=true) (fz:=true) (T:=44) (aI _ _ _) zd
 refine ag.MD κ' 9 kb 44 (jc o n) [9] hc hX hk hh hkb rfl (λi p q=>?_) (λx hx j hj=>?_) zp hK
 ·match i,p,q with
  |0,_,_=>exact .inl ⟨ha,rfl⟩
  |1,_,_=>exact .inr hd
  |2,_,_=>exact .inl ⟨hb,rfl⟩
 ·simp only[aZ,bw,or_false]at hx;rcases hx with rfl|rfl|rfl
  ·rw[dX ha]at hj;cases hj
  ·have hj:j∈jB (aM lv kb (.cells true true 44 (jc o n))) 8 (.aO kb 0 n 6):=hj;simp only[jB,aI]at hj;rcases List.mem_cons.1 hj with rfl|hj
   ·exact .inr rfl
   ·obtain⟨y,hy,hj⟩:=List.mem_flatMap.1 hj;unfold jc nX at hy;obtain⟨w,_,rfl⟩:=List.mem_map.1 hy
    cases hj
  ·rw[dX hb]at hj;cases hj
theorem Q4(l:List Iv):nX l=jc (λj=>l.getD j (0,0)) l.length:=by
 unfold jc;congr 1;refine age zp λi h1 h2=>?_;rw[rP,ae8,ab6,fy h1];rfl
theorem W7(h:Bv D l):cC lv 6 (.c (.d D))=some (l.length,nX l):=by
 rcases h with rfl|⟨rfl,rfl⟩
 ·rw[Hq (sz:=6) wc,sC];rfl
 ·rfl
theorem UG:0<=cu x↔0<=x:=by
 have h:=JP (x:=-x)
 have hn:cu (-x) = -cu x:=by
  unfold cu;rw[afc]
  by_cases h1:x.num=0
  ·simp[h1]
  ·rw[if_neg zd,if_neg h1]
   by_cases h2:x.num<0
   ·rw[if_neg zd,if_pos h2];rfl
   ·rw[if_pos zd,if_neg h2]
 rw[hn]at h;constructor
 ·intro h0;refine Rat.not_lt.1 λh1=>?_;have:0 < -x:=by grind
  have:=h.2 this;omega
 ·intro h0
  by_cases h1:0<=cu x
  ·exact h1
  ·have:=h.1 zd
   grind
theorem VT:cu x<=0↔x<=0:=by
 have h:=JP (x:=x);constructor
 ·intro h0;refine Rat.not_lt.1 λh1=>?_;have:=h.2 h1;omega
 ·intro h0
  by_cases h1:cu x<=0
  ·exact h1
  ·have:=h.1 zd
   grind
abbrev XZ(p:PD)(a b:Nat->Iv)(N:Nat):Key->LB:=aM (aM (aM (aM (λ_=>.hole) 0 (.cells true false 27 p.cs)) 1 (.cells true false 44 EL)) 3 (.cells true false 44 (jc a N))) 4 (.cells true false 44 (jc b N))
abbrev roM(p:PD)(a b:Nat->Iv)(N:Nat)(k3 k4:Key):List (Key×Key×LB):=[(0,0,.cells true false 27 p.cs),(1,1,.cells true false 44 EL),(3,k3,.cells true false 44 (jc a N)),(4,k4,.cells true false 44 (jc b N))]
theorem QK{a b:Nat->Iv}(k3 k4:Key)(hc:c.jd=λ_=>.hole)(l:List (Nat×AV))(hk:([0,1,k3,k4]:List Key).Nodup)(h0:lv 0=.cells true false 27 p.cs)(h1:lv 1=.cells true false 44 EL)(h2:lv k3=.cells true false 44 (jc a N))(h3:lv k4=.cells true false 44 (jc b N))(h9:lv 9=.hole)
 (hl:∀x∈l,x.2.cG=true/\fr x.1=x.2.dA (aV (roM p a b N k3 k4) 9)):Le c ⟨fr,lv⟩ ⟨aT l,XZ p a b N⟩:=by
 refine Le.keys (roM p a b N k3 k4) 9 l rfl hc zp ky h9 ?_ hl;intro e he;simp only[aZ,bw,or_false]at he;rcases he with rfl|rfl|rfl|rfl
 ·show(lv 0).like _ _;rw[h0];exact mb p _
 ·show(lv 1).like _ _;rw[h1];exact LB.aN.2 ⟨rfl,rfl,rfl,id⟩
 ·show(lv k3).like _ _;rw[h2];exact tP a N _
 ·show(lv k4).like _ _;rw[h3];exact tP b N _
theorem D6(m:Int)(p:PD)(hp:p.ok)(hg:p.good)(node:Nat)(hn:node<p.nn)(hD2:Bv D is)(hlen:is.length=p.ni)(his:∀a∈is,a.sz 300/\a.1<=a.2):
 aa prog (GG m) 30 [p.A,.c (.d D),.c (.d (.int .i64 (node:Int)))] (.tup [cg (GW p is node).1,.c (.d (.int .i64 (GW p is node).2))]):=by
 obtain⟨-,-,-,-,hni,-,-⟩:=eX hg.gen;have h6:is.length<=6:=zd
 have his':∀a∈is,a.sz 10000/\a.1<=a.2:=λa ha=>⟨Iv.aC (his a ha).1 zr,(his a ha).2⟩
 have c1:=zY m p hp hg node hn hD2 hlen his' zd;have c2:=λd up=>Aw m p hp hg node hn (D:=.sl ((tK is d up).map cD)) (is:=tK is d up) (.inl rfl) fl (A3 his)
 have bz:bM prog 44 [] []=some (cg (0,0),[],[],True):=tD;have e1:=DX (p:=p) (is:=is) (node:=node);have e2:=Dn (p:=p) (is:=is) (node:=node)
 have hme:GW p is node=if (wk p is node).2≠0 then((0,0),(wk p is node).2)else if (lW p (tK is (tu p is node) false) node).2≠0 then((0,0),(lW p (tK is (tu p is node) false) node).2)
  else if (lW p (tK is (tu p is node) true) node).2≠0 then((0,0),(lW p (tK is (tu p is node) true) node).2)else(((lW p (tK is (tu p is node) false) node).1.1,(lW p (tK is (tu p is node) true) node).1.2),0):=rfl
 obtain⟨X,hX⟩:∃X,GW p is node=X:=⟨_,rfl⟩
 rw[hX]at hme⊢;obtain⟨z,hz⟩:∃z:Iv,((0:Rat),(0:Rat))=z:=⟨_,rfl⟩
 rw[hz]at bz hme;obtain⟨E,hE⟩:∃E,(wk p is node).2=E:=⟨_,rfl⟩
 rw[hE]at c1 e1 e2 hme
 by_cases h0:E=0
 rotate_left
 ·rw[if_pos h0]at hme;rw[e2 h0]at c1;have c1:aa prog (GG m) 72 [p.A,.c (.d D),.c (.d (.int .i64 (node:Int)))] (.tup [.c (.d .nilsl),.c (.d (.int .i64 E))]):=c1;rw[hme];clear c2 e1 e2 his his';refine aa.enc func30 rfl (λlv=>bW lv _ _ _ _ _ _ _ rfl) λ_=>aah ?_;refine abi 3 c1 ?_;refine aac λK hK=>aah ?_;refine aaB ws (abk bz @ai.eq_1 ?_);exact aal (aF.fI (κ:=0) (t:=6) (k:=1) (u:=7) (a:=z) ⟨rfl,rfl⟩ zp yi zp)
 subst h0;rw[if_neg zp]at hme;rw[e1 rfl]at c1;obtain⟨d,hd⟩:∃d,tu p is node=d:=⟨_,rfl⟩
 rw[hd]at c1 hme;obtain⟨DD,hDD,hDS⟩:=sU ((List.range is.length).map d);have c1:aa prog (GG m) 72 [p.A,.c (.d D),.c (.d (.int .i64 (node:Int)))] (.tup [.c (.d DD),.c (.d (.int .i64 0))]):=lL
 have hln:=λlv=>RP hD2 lv
 have hsrc:=λlv=>W7 (lv:=lv) hD2
 have hib:=λlv (q:Nat) (h:q<is.length)=>qj (T:=54) zp hD2 lv (i:=q) h
 have hid:=λlv (q:Nat) (h:q<is.length)=>qj (T:=54) zp hDS lv (i:=q) ta
 simp only[rP,ae8]at hid;have hgd:∀q (h:q<is.length),is.getD q (0,0)=is[q]:=λq h=>by rw[ab6,fy h];rfl
 have hst:∀up q (h:q<is.length),nL is d up (q+1)=λj=>if j=q then Dj up is[q] (d q)else nL is d up q j:=λup q h=>by rw[<-hgd q h];rfl
 have hsame:∀up q (h:q<is.length),nL is d up q q=is[q]:=λup q h=>by rw[<-hgd q h];exact Hz is d up q (bf _)
 have l1:=c2 d false;have l2:=c2 d true;obtain⟨V,hV⟩:∃V,lW p (tK is d false) node=V:=⟨_,rfl⟩
 obtain⟨W,hW⟩:∃W,lW p (tK is d true) node=W:=⟨_,rfl⟩
 rw[hV]at l1 hme;rw[hW]at l2 hme;clear hV hW c2;obtain⟨v,e⟩:=V;obtain⟨w,f⟩:=W;simp only at l1 l2 hme;have kv0:∀up,nX is=jc (nL is d up 0) is.length:=λup=>Q4 is
 have iren:=λg=>nS is g
 clear hX hE e1 e2 his his' hDS hd hDD hgd;have l1:aa prog (GG m) 17 [p.A,.c (.d (.sl (((List.range is.length).map (nL is d false is.length)).map cD))),.c (.d (.int .i64 (node:Int)))] (.tup [cg v,.c (.d (.int .i64 e))]):=l1;have l2:aa prog (GG m) 17 [p.A,.c (.d (.sl (((List.range is.length).map (nL is d true is.length)).map cD))),.c (.d (.int .i64 (node:Int)))] (.tup [cg w,.c (.d (.int .i64 f))]):=l2;obtain⟨N,hN⟩:∃N,is.length=N:=⟨_,rfl⟩
 simp only[hN]at kv0 l1 l2 hln hsrc hib hid hst hsame h6;obtain⟨IK,hIK⟩:∃IK,nX is=IK:=⟨_,rfl⟩
 simp only[hIK]at kv0 hsrc iren;have kvf:=kv0 false;have kvt:=kv0 true;refine aa.ed func30 rfl λ_=>aah ?_;refine abi 3 c1 ?_;refine aac λK hK=>aah ?_;refine aax (aan (hK _ _ (aaF λK hK=>?_)));simp[hsrc,gh,ic,keyOf]
 repeat refine az ?_
 apply hK;refine aac λKZ hKZ=>aah ?_;refine aaw ?_
 refine aaY (λ(q:Nat)=>⟨aT [(1,.c (.d D)),(2,.c (.d (.int .i64 (node:Int)))),(3,.c (.ptr 0 0)),(6,.c (.ptr 1 0)),(8,.c (.d DD)),(10,.c (.aO 3 0 N 6)),(11,.c (.aO 4 0 N 6)),(12,.c (.d (.int .i64 (q:Int))))],XZ p (nL is d false q) (nL is d true q) N⟩) 10
  (λq=>q<=N) (λq=>N-q) 0 (QK 4 6 rfl _ zr zp zp (by simp;exact kvf) (by simp;exact kvt) zp xa) (ab5 _) ?_
 rintro q hq
 try simp only at hq ⊢
 refine aac λK2 hK2=>aac λK3 hK3=>?_
 by_cases hlt:q<N
 ·have hlt':(q:Int)<(N:Int):=by omega
  have f1:=bP (n:=(q:Int)+1) zd zd;have hxb:=λlv=>hib lv q hlt
  have hxd:=λlv=>hid lv q hlt
  have hs1:=hst false q hlt;have hs2:=hst true q hlt;have hm1:=hsame false q hlt;have hm2:=hsame true q hlt;obtain⟨a,ha⟩:∃a,is[q]=a:=⟨_,rfl⟩
  simp only[ha]at hxb hs1 hs2 hm1 hm2;obtain⟨s,hs⟩:∃s,d q=s:=⟨_,rfl⟩
  simp only[hs]at hxd hs1 hs2;have d1:=k9 (GG m) a.1;have d2:=k9 (GG m) a.2;have g1:=wz (GG m) s.1;have g2:=wz (GG m) s.2;have p1:=UG (x:=s.1);have p2:=VT (x:=s.2);obtain⟨y1,hy1⟩:∃y,cu s.1=y:=⟨_,rfl⟩
  obtain⟨y2,hy2⟩:∃y,cu s.2=y:=⟨_,rfl⟩
  rw[hy1]at p1;rw[hy2]at p2;have hvf:=sj (nL is d false q) N;have hvt:=sj (nL is d true q) N;have hle0:q*6+6<=N*6:=zd
  refine abG hln hlt (hK3 _ _ ?_);refine aaB xn (aan (hK2 _ _ (aac λK4 hK4=>aaw (aaw (aaF λK5 hK5=>?_)))));simp[hxd,cD,jL,ai];refine ag.p 16 9 g1 ?_;simp[ai,hy1]
  repeat refine az ?_
  apply hK5
  by_cases u1:0<=y1
  ·have i1:∀up,Dj up a s=if up then(a.2,a.2)else(a.1,a.1):=λup=>if_pos (p1.1 u1)
   have i1f:Dj false a s=(a.1,a.1):=i1 false;have i1t:Dj true a s=(a.2,a.2):=i1 true;have t1:=pH (nL is d false q) hlt (a.1,a.1);have t2:=pH (nL is d true q) hlt (a.2,a.2);rw[i1f]at hs1;rw[i1t]at hs2;rw[<-hs1]at t1;rw[<-hs2]at t2;refine aaB (by simp[u1]<;>omega) ?_;refine aaT mixed zt rfl ?_;simp[hxb,cD,jL];refine ag.p 21 9 d1 ?_;simp[hxb,cD,jL];refine ag.p 22 9 d2 ?_;simp[t1,t2,hvf,hvt,hle0,hlt];refine⟨zt,?_⟩
   repeat refine az ?_
   apply hK4;refine aai ?_;simp[f1];exact⟨q+1,QK 3 4 rfl _ zr zp zp zp zp zp xa,zd,zd⟩
  ·have nl:¬0<=s.1:=λh=>u1 (p1.2 h)
   refine aaD (by simp[u1]<;>omega) (aaF λK6 hK6=>?_);simp[hxd,cD,jL,ai];refine ag.p 16 9 g2 ?_;simp[ai,hy2]
   repeat refine az ?_
   apply hK6
   by_cases u2:y2<=0
   ·have i1:∀up,Dj up a s=if up then(a.1,a.1)else(a.2,a.2):=λup=>(if_neg nl).trans (if_pos (p2.1 u2))
    have i1f:Dj false a s=(a.2,a.2):=i1 false;have i1t:Dj true a s=(a.1,a.1):=i1 true;have t1:=pH (nL is d false q) hlt (a.2,a.2);have t2:=pH (nL is d true q) hlt (a.1,a.1);rw[i1f]at hs1;rw[i1t]at hs2;rw[<-hs1]at t1;rw[<-hs2]at t2;refine aaB (by simp[u2]<;>omega) ?_;refine aaT mixed zt rfl ?_;simp[hxb,cD,jL];refine ag.p 21 9 d2 ?_;simp[hxb,cD,jL];refine ag.p 22 9 d1 ?_;simp[t1,t2,hvf,hvt,hle0,hlt];refine⟨zt,?_⟩
    repeat refine az ?_
    apply hK4;refine aai ?_;simp[f1];exact⟨q+1,QK 3 4 rfl _ zr zp zp zp zp zp xa,zd,zd⟩
   ·have nu:¬s.2<=0:=λh=>u2 (p2.2 h)
    have i1:∀up,Dj up a s=a:=λup=>(if_neg nl).trans (if_neg nu)
    rw[i1]at hs1 hs2
    have t1:jc (nL is d false q) N=jc (nL is d false (q+1)) N:=CU λj _=>by
     rw[hs1];show _=if j=q then a else _
     by_cases h:j=q
     ·rw[if_pos h,h,hm1]
     ·rw[if_neg h]
    have t2:jc (nL is d true q) N=jc (nL is d true (q+1)) N:=CU λj _=>by
     rw[hs2];show _=if j=q then a else _
     by_cases h:j=q
     ·rw[if_pos h,h,hm2]
     ·rw[if_neg h]
    refine aaD (by simp[u2]<;>omega) (aan (hK4 _ _ (aai ?_)));simp[f1];exact⟨q+1,QK 3 4 rfl _ zr zp zp (by simp[t1]) (by simp[t2]) zp xa,zd,zd⟩
 ·have hqe:q=N:=by omega
  subst hqe;refine aby hln (hK3 _ _ ?_);refine aax (aaR (hKZ _ _ (aaF λK hK=>?_)));simp;refine ag.YQ 20 3 (nL is d false q) q zp zp zd l1 zp zp zp zr ?_;simp
  repeat refine az ?_
  apply hK;refine aac λK hK=>aah ?_
  by_cases he:e=0
  rotate_left
  ·rw[if_pos he]at hme;refine aaB fx (abk bz @ai.eq_1 ?_);rw[hme];exact aal (cq.fI (κ:=0) (t:=6) (k:=1) (u:=7) (a:=z) ⟨rfl,rfl⟩ zp yi zp)
  subst he;rw[if_neg zp]at hme;refine aax (aan (hK _ _ (aaF λK hK=>?_)));simp;refine ag.YQ 30 4 (nL is d true q) q zp zp zd l2 zp zp zp zr ?_;simp
  repeat refine az ?_
  apply hK;refine aac λK hK=>aah ?_
  by_cases hf:f=0
  rotate_left
  ·rw[if_pos hf]at hme;refine aaB (by simp[hf]<;>omega) (abk bz @ai.eq_1 ?_);rw[hme];exact aal (cq.fI (κ:=0) (t:=6) (k:=1) (u:=7) (a:=z) ⟨rfl,rfl⟩ zp yi zp)
  subst hf;rw[if_neg zp]at hme;refine aax (aan (hK _ _ (abk @MG @ai.eq_1 ?_)));rw[hme];exact aal (cq.fI (κ:=0) (t:=6) (k:=1) (u:=7) (a:=(v.1,w.2)) ⟨rfl,rfl⟩ zp yi zp)
theorem DH(m:Int)(p:PD)(hp:p.ok)(b:Option (List Sp))(node:Int):
 aa prog (GG m) 12 [p.A,.c (dc (uh b)),.c (.d (.int .i64 node))] (.tup [cg (uw p (bH b) node).1,.c (.d (.int .i64 (uw p (bH b) node).2))]):=by
 have c1:=r7 m p hp b node
 have c2:gS p (bH b) node=0->∀D,Bv D (gM (bH b))->aa prog (GG m) 30 [p.A,.c (.d D),.c (.d (.int .i64 node))] (.tup [cg (GW p (gM (bH b)) node.toNat).1,.c (.d (.int .i64 (GW p (gM (bH b)) node.toNat).2))]):=λh D hD=>by
  obtain⟨hg,hl,hb,h0,h1⟩:=jZ hp h;have:=D6 m p hp hg node.toNat zd hD pc (jJ hb);rw[show((node.toNat:Nat):Int)=node by omega]at this;exact this
 show aa _ _ _ _ (.tup [cg (qe p (bH b) node (GW p (gM (bH b)) node.toNat)).1,.c (.d (.int .i64 (qe p (bH b) node (GW p (gM (bH b)) node.toNat)).2))]);generalize GW p (gM (bH b)) node.toNat=r at*
 have bz:bM prog 44 [] []=some (cg (0,0),[],[],True):=tD;unfold qe;obtain⟨E,hE⟩:∃E,gS p (bH b) node=E:=⟨_,rfl⟩
 rw[hE]at c1 c2 ⊢
 by_cases h0:E=0
 ·subst h0;simp only[if_pos]at c1⊢;obtain⟨D,hD,hD2⟩:=sU (gM (bH b));rw[hD]at c1;have c2:=c2 rfl D hD2;obtain⟨a,e⟩:=r;simp only at c2⊢;obtain⟨a1,a2⟩:=a;refine aa.enc func12 rfl (λlv=>bW lv _ _ _ _ _ _ _ rfl) λ_=>?_;refine aau mixed (eY c1 c2) @ai.eq_1 ?_;exact aal (aF.fI (κ:=0) (t:=6) (k:=1) (u:=7) (a:=(a1,a2)) ⟨rfl,rfl⟩ zp yi zp)
 ·simp only[if_neg h0]at c1⊢;generalize hz:((0:Rat),(0:Rat))=z at*
  have c1:aa prog (GG m) 16 [p.A,.c (dc (uh b)),.c (.d (.int .i64 node))] (.tup [.c (.d .nilsl),.c (.d (.int .i64 E))]):=c1;refine aa.enc func12 rfl (λlv=>bW lv _ _ _ _ _ _ _ rfl) λ_=>?_;refine aau mixed c1 (lD h0 bz @ai.eq_1) ?_;exact aal (aF.fI (κ:=0) (t:=6) (k:=1) (u:=7) (a:=z) ⟨rfl,rfl⟩ zp yi zp)
def Ti(s:Rat):DV:=.sl [dY s]
abbrev oh(c s r:Rat):AV:=.agg [.d (.bool (decide (c.num<0))),nC (aW c.num.natAbs),nC (bB c.den),.d (Ti s),.d (.bool (decide (r.num<0))),nC (aW r.num.natAbs),nC (bB r.den)]
def um(c s r:Rat):List DV:=dY c++[Ti s]++dY r
section
variable (a b c d e f g h:CV) (lv:Key->LB) (κ:Key)
theorem abV:bM prog 218 [0] [.agg [a,b,c]]=some (.agg [a,b,c,.d .nilsl,.d (.bool false),.d .nilsl,.d .nilsl],[],[],True):=zt
theorem aaP:bM prog 218 [2] [.agg [a,b,c]]=some (.agg [.d (.bool false),.d .nilsl,.d .nilsl,.d .nilsl,a,b,c],[],[],True):=zt
theorem XE:bM prog 218 [0,2] [.agg [a,b,c],.agg [d,e,f]]=some (.agg [a,b,c,.d .nilsl,d,e,f],[],[],True):=zt
theorem aa1:bM prog 218 [0,1] [.agg [a,b,c],.c d]=some (.agg [a,b,c,d,.d (.bool false),.d .nilsl,.d .nilsl],[],[],True):=zt
theorem RL:iq prog 218 [a,b,c,d,e,f,g]=some (.agg [a,b,c,d,e,f,g]):=zt
theorem ZE:ic (λi=>some (i*3,3)) (gh 1 [CV.d (.bool false),.d .nilsl,.d .nilsl]) [(0,.agg [a,b,c])]=some [a,b,c]:=zt
end
theorem N4:i64.wrap 1=1:=zt
theorem YY:i64.wrap 2=2:=zt
theorem XJ:i64.wrap 3=3:=zt
theorem Wu(lv:Key->LB)(s:Rat):eT prog 156 lv (.c (.d (Ti s)))=some (.c (.d (.int .i64 1)),[],[],True):=xl [s] lv
theorem Yw(lv:Key->LB)(s:Rat):aq prog 156 lv (.c (.d (Ti s))) (.c (.d (.int .i64 0)))=some (.c (.d (.ptr (dY s))),[],[],True):=CZ [s] lv 0 s rfl
theorem SQ{j:Key}{o f:Bool}(h:lv j=.cells o f T [.d (.bool (decide (S.num<0))),nC (aW S.num.natAbs),nC (bB S.den)]):
 gq lv (.agg [.d (.bool (decide (C.num<0))),nC (aW C.num.natAbs),nC (bB C.den),.aO j 0 1 3,.d (.bool (decide (R.num<0))),nC (aW R.num.natAbs),nC (bB R.den)])=some (oh C S R,[j]):=by
 have e:=ob (own:=o) (fz:=f) (T:=T) (es:=[dY S]) (sz:=3) (k:=j) (h.trans (by simp[dY,gT])) (by simp[dY]) zp;have e:(fX lv 8 (.aO j 0 1 3)).map (λp=>(AV.c (.d p.1),p.2))=some (.c (.d (.sl [dY S])),[j]):=e;obtain⟨⟨x,ks⟩,e1,e2⟩:=Option.map_eq_some_iff.1 e;have d:∀x:DV,fX lv 8 (.d x)=some (x,[]):=λ_=>rfl
 cases e2
 simp only[gT];show(ji (fX lv 8) _).map _=_;simp[ji,e1,d];exact⟨iA _,iA _,rfl,iA _,iA _⟩
theorem cq.fm{s:aJ}(hr:c.P=prog/\fn.results=#[.cell t 218])(ht:s.fr t=.c (.ptr k 0))
 (hk:s.lv k=.cells true false 218 [.d (.bool (decide (C.num<0))),nC (aW C.num.natAbs),nC (bB C.den),.aO j 0 1 3,.d (.bool (decide (R.num<0))),nC (aW R.num.natAbs),nC (bB R.den)]) (hj:s.lv j=.cells true false 34 [.d (.bool (decide (S.num<0))),nC (aW S.num.natAbs),nC (bB S.den)]):cq c fn (oh C S R) .ret s κ:=
 ⟨_,[j],by rw[hr.2];simp[fq,kH,mj,ht,hk,hr.1,RL],SQ hj⟩
theorem Dh(lv:Key->LB)(C S R:Rat):gq lv (oh C S R)=some (oh C S R,[]):=by
 unfold oh;simp only[gT];rfl
theorem aF.fm{s:aJ}(hr:c.P=prog/\fn.results=#[.cell t 218])(ht:s.fr t=.c (.ptr k 0))
 (hk:s.lv k=.cells true false 218 [.d (.bool (decide (C.num<0))),nC (aW C.num.natAbs),nC (bB C.den),.d (Ti S),.d (.bool (decide (R.num<0))),nC (aW R.num.natAbs),nC (bB R.den)]):aF c fn (oh C S R) .ret s κ:=
 aF.cell hr.2 ht hk (by rw[hr.1,ady,RL])
theorem uN(lv:Key->LB)(C S R:Rat)(n:Int):gq lv (.tup [oh C S R,.c (.d (.int .i64 n))])=some (.tup [oh C S R,.c (.d (.int .i64 n))],[]):=by
 unfold oh;simp only[gT];rfl
theorem aF.fm2{s:aJ}{y:CV}(hr:c.P=prog/\fn.results=#[.cell t 218,.tmp u])(ht:s.fr t=.c (.ptr k 0))
 (hk:s.lv k=.cells true false 218 [.d (.bool (decide (C.num<0))),nC (aW C.num.natAbs),nC (bB C.den),.d (Ti S),.d (.bool (decide (R.num<0))),nC (aW R.num.natAbs),nC (bB R.den)]) (hy:s.fr u=.c y):aF c fn (.tup [oh C S R,.c y]) .ret s κ:=
 aF.ox hr.2 ht hk (by rw[hr.1,ady,RL]) hy rfl rfl
abbrev lN(x:Rat):Prop:=bF x 100
theorem eV(h:lN x){L:Nat}(hL:100<=L):bF x L:=au h hL
theorem zI(G:List (List DV)){c:Rat}(hs:lN s)(hr:lN r):aa prog G 245 [oh c s r] (bu (r+b9 s)):=by
 have c1:=qn G s;have c2:=gL G r (b9 s) (eV hr zr) (eV (fH hs) zr);generalize b9 s=a at*
 generalize r+a=z at*
 refine aa.enc func245 rfl (λlv=>bZ lv _ _ _) λ_=>?_;refine abW mixed (eY c1 c2) (me N4 @Wu @Yw @dY.eq_1 @iA @ai.eq_1) ?_;exact aal (aF.num (κ:=0) (t:=2) (k:=1) ⟨rfl,rfl⟩ zp yi)
theorem MS(G:List (List DV)){c:Rat}(hc:lN c)(hs:lN s)(hr:lN r):aa prog G 200 [oh c s r] (eo (c-(r+b9 s),c+(r+b9 s))):=by
 have c1:=zI G (c:=c) hs hr;have hz:bF (r+b9 s) 201:=jg hr (fH hs);generalize r+b9 s=z at*
 have c2:=r9 G c z (eV hc zr) (au hz zr);have c3:=gL G c z (eV hc zr) (au hz zr);generalize c-z=u at*
 generalize c+z=v at*
 refine aa.enc func200 rfl (λlv=>jA lv _ _ _ _ _ _) λ_=>?_;refine aau mixed (lD c1 c2 c3) (eY @DZ @ai.eq_1) ?_;exact aal (aF.iv (κ:=0) (t:=2) (k:=1) (a:=(u,v)) ⟨rfl,rfl⟩ zp yi)
theorem RQ(G:List (List DV)){c:Rat}(h1:lN c)(h2:lN s)(h3:lN r)(h4:lN c')(h5:lN s')(h6:lN r'):
 aa prog G 339 [oh c s r,oh c' s' r'] (oh (c+c') (s+s') (r+r')):=by
 have c1:=gL G c c' (eV h1 zr) (eV h4 zr);have c2:=gL G s s' (eV h2 zr) (eV h5 zr);have c3:=gL G r r' (eV h3 zr) (eV h6 zr);generalize c+c'=C at*
 generalize s+s'=S at*
 generalize r+r'=R at*
 refine aa.ed func339 rfl λ_=>?_;change AW _ _ _ _ 20 _;refine abW mixed (lD c1 c2 c3) (me XE ZE N4 @Wu @Yw (me @dY.eq_1 @iA @ai.eq_1 @cC.eq_1 @cC.eq_2 (mo @cC.eq_3 @cC.eq_4 @keyOf.eq_1 @keyOf.eq_2))) ?_;exact aal (cq.fm (κ:=0) ⟨rfl,rfl⟩ rfl rfl rfl)
theorem Px(G:List (List DV)){c m lo hi:Rat}(h1:lN c)(h2:lN s)(h3:lN r)(h4:lN m)(h5:Iv.z (lo,hi)):
 aa prog G 345 [oh c s r,bu m,bu lo,bu hi] (oh (m*c+uk (lo,hi)) (m*s) (b9 m*r+xQ (lo,hi))):=by
 have c1:=gI G m c (eV h4 zr) (eV h1 zr);have c2:=wS G (lo,hi) (Iv.aC h5 zr);have c3:=gL G (m*c) (uk (lo,hi)) (au (gu h4 h1) zr) (au (PZ h5) zr);have c4:=qn G m;have c5:=gI G (b9 m) r (eV (fH h4) zr) (eV h3 zr);have c6:=AH G (lo,hi) h5;have c7:=zb G (hi-lo) (au (Iv.FA h5) zr);have c8:=gL G (b9 m*r) (xQ (lo,hi)) (au (gu (fH h4) h3) zr) (au (xw h5) zr);have c9:=gI G m s (eV h4 zr) (eV h2 zr);change aa _ _ _ _ (bu (xQ (lo,hi)))at c7;simp only at c6;generalize b9 m*r+xQ (lo,hi)=R at*
 generalize xQ (lo,hi)=w at*
 generalize hi-lo=v at*
 generalize m*c+uk (lo,hi)=C at*
 generalize uk (lo,hi)=u at*
 generalize b9 m*r=t at*
 generalize b9 m=a at*
 generalize m*c=b at*
 generalize m*s=S at*
 refine aa.ed func345 rfl λ_=>?_;change AW _ _ _ _ 20 _;refine abW mixed (me c1 c2 c3 c4 c5 (mo c6 c7 c8 c9)) (me XE @DZ ZE N4 @Wu (me @Yw @dY.eq_1 @iA @ai.eq_1 @cC.eq_1 (BF @cC.eq_2 @cC.eq_3 @cC.eq_4 @keyOf.eq_1 @keyOf.eq_2))) ?_;exact aal (cq.fm (κ:=0) ⟨rfl,rfl⟩ rfl rfl rfl)
theorem Lt(G:List (List DV)){c m:Rat}(h1:lN c)(h2:lN s)(h3:lN r)(h4:lN m):aa prog G 343 [oh c s r,bu m] (oh (m*c+uk (0,0)) (m*s) (b9 m*r+xQ (0,0))):=by
 have c1:aa prog G 49 [.c (.d (.int .i64 0))] (bu 0):=mD G 0 zr zr;have c2:=Px G h1 h2 h3 h4 (lo:=0) (hi:=0) ⟨gQ _ zr,gQ _ zr⟩;generalize m*c+uk (0,0)=C at*
 generalize m*s=S at*
 generalize b9 m*r+xQ (0,0)=R at*
 generalize (0:Rat)=o at*
 refine aa.enc func343 rfl (λlv=>Dh lv _ _ _) λ_=>?_;refine aau mixed (eY c1 c2) @ai.eq_1 ?_;exact aal (aF.fm (κ:=0) (t:=4) (k:=2) ⟨rfl,rfl⟩ zp yi)
theorem QC(G:List (List DV)){c:Rat}(h1:lN c)(h2:lN s)(h3:lN r)(hC:-1*c+uk (0,0)=C)(hS:-1*s=S)(hR:b9 (-1)*r+xQ (0,0)=R):aa prog G 337 [oh c s r] (oh C S R):=by
 have c1:aa prog G 49 [.c (.d (.int .i64 (-1)))] (bu (-1)):=mD G (-1) zr zr;have c2:=Lt G h1 h2 h3 (m:=-1) (fk (ki _ zr));rw[hC,hS,hR]at c2;generalize (-1:Rat)=o at*
 refine aa.enc func337 rfl (λlv=>Dh lv _ _ _) λ_=>?_;refine aau mixed (eY c1 c2) @ai.eq_1 ?_;exact aal (aF.fm (κ:=0) (t:=2) (k:=1) ⟨rfl,rfl⟩ zp yi)
theorem Rs(G:List (List DV)){c:Rat}(h1:lN c)(h2:lN s)(h3:lN r)(h4:lN c')(h5:lN s')(h6:lN r')(hn:aa prog G 337 [oh c' s' r'] (oh C S R))(k1:lN C)(k2:lN S)(k3:lN R):
 aa prog G 340 [oh c s r,oh c' s' r'] (oh (c+C) (s+S) (r+R)):=by
 have c2:=RQ G h1 h2 h3 k1 k2 k3;generalize c+C=C' at*
 generalize s+S=S' at*
 generalize r+R=R' at*
 refine aa.enc func340 rfl (λlv=>Dh lv _ _ _) λ_=>?_;refine aau mixed (eY hn c2) @ai.eq_1 ?_;exact aal (aF.fm (κ:=0) (t:=4) (k:=2) ⟨rfl,rfl⟩ zp yi)
theorem QJ(G:List (List DV)){c:Rat}(h1:lN c)(h2:lN s)(h3:lN r)(h4:lN c')(h5:lN s')(h6:lN r'):
 aa prog G 341 [oh c s r,oh c' s' r'] (oh (c*c') (c*s'+c' * s) (b9 c*r'+b9 c' * r+(r+b9 s)*(r'+b9 s'))):=by
 have z1:bF (c*s') 200:=gu h1 h5;have z2:bF (c' * s) 200:=gu h4 h2;have z3:bF (b9 c*r') 200:=gu (fH h1) h6;have z4:bF (b9 c' * r) 200:=gu (fH h4) h3;have z5:bF (b9 c*r'+b9 c' * r) 401:=jg z3 z4;have z6:bF (r+b9 s) 201:=jg h3 (fH h2);have z7:bF (r'+b9 s') 201:=jg h6 (fH h5);have z8:bF ((r+b9 s)*(r'+b9 s')) 402:=gu z6 z7;have c1:=gI G c c' (eV h1 zr) (eV h4 zr);have c2:=gI G c s' (eV h1 zr) (eV h5 zr);have c3:=gI G c' s (eV h4 zr) (eV h2 zr);have c4:=gL G (c*s') (c' * s) (au z1 zr) (au z2 zr);have d1:=qn G c;have d2:=gI G (b9 c) r' (eV (fH h1) zr) (eV h6 zr);have d3:=qn G c';have d4:=gI G (b9 c') r (eV (fH h4) zr) (eV h3 zr);have d5:=gL G (b9 c*r') (b9 c' * r) (au z3 zr) (au z4 zr);have d6:=zI G (c:=c) h2 h3;have d7:=zI G (c:=c') h5 h6;have d8:=gI G (r+b9 s) (r'+b9 s') (au z6 zr) (au z7 zr);have d9:=gL G (b9 c*r'+b9 c' * r) ((r+b9 s)*(r'+b9 s')) (au z5 zr) (au z8 zr);clear z1 z2 z3 z4 z5 z6 z7 z8;generalize b9 c*r'+b9 c' * r+(r+b9 s)*(r'+b9 s')=R at*
 generalize b9 c*r'+b9 c' * r=w at*
 generalize (r+b9 s)*(r'+b9 s')=v at*
 generalize r+b9 s=p at*
 generalize r'+b9 s'=q at*
 generalize b9 c*r'=t at*
 generalize b9 c' * r=u at*
 generalize b9 c=a at*
 generalize b9 c'=b at*
 generalize c*s'+c' * s=S at*
 generalize c*s'=x at*
 generalize c' * s=y at*
 generalize c*c'=C at*
 refine aa.ed func341 rfl λ_=>?_;change AW _ _ _ _ 20 _;refine abW mixed (me c1 c2 c3 c4 d1 (me d2 d3 d4 d5 d6 (lD d7 d8 d9))) (me abV ZE N4 @Wu @Yw (me @dY.eq_1 @iA @ai.eq_1 @cC.eq_1 @cC.eq_2 (mo @cC.eq_3 @cC.eq_4 @keyOf.eq_1 @keyOf.eq_2))) ?_;exact aal (cq.fm (κ:=0) ⟨rfl,rfl⟩ rfl rfl rfl)
def p8(a:Iv):DV:=.sl [iQ a]
theorem flp(lv:Key->LB)(a:Iv):eT prog 267 lv (.c (.d (p8 a)))=some (.c (.d (.int .i64 1)),[],[],True):=by simp[p8,eT,jU,keyOf]
theorem acC(lv:Key->LB)(a:Iv):aq prog 267 lv (.c (.d (p8 a))) (.c (.d (.int .i64 0)))=some (.c (.d (.ptr (iQ a))),[],[],True):=by simp[p8,iQ]
theorem RM(G:List (List DV))(a:Iv)(x:Rat):aQ prog G 331 [.c (.d (p8 a)),bu x] [] (.ret (.agg [.d (.bool (decide (x.num<0))),nC (aW x.num.natAbs),nC (bB x.den),.aO 1000 0 1 3,.d (.bool false),.d .nilsl,.d .nilsl]) [] [.cells true false 34 [.d (.bool false),.d .nilsl,.d .nilsl]]):=by
 refine aQ.enn func331 rfl λ_=>?_;refine aau mixed trivial (mo @flp @aa1 @ai.eq_1 @gh.eq_1) ?_;refine aal (κ:=0) ⟨[(1000,2,.cells true false 34 [.d (.bool false),.d .nilsl,.d .nilsl])],9,Ku _,zp,zp,zp,?_,by simp[AV.cG],?_⟩
 ·intro e he;rw[List.mem_singleton.1 he];exact LB.aN.2 ⟨rfl,rfl,rfl,id⟩
 ·show fq _ _ [.cell 4 218]=_;simp[fq,kH,mj,aV,RL,ai]
theorem Rz(G:List (List DV))(a:Iv)(h:a.z):aa prog G 332 [.c (.d (p8 a)),.c (.d (.int .i64 0))] (oh (uk a) (xQ a) 0):=by
 have c1:=wS G a (Iv.aC h zr);have c2:=RM G a (uk a);have c3:=AH G a h;have c4:=zb G (a.2-a.1) (au (Iv.FA h) zr);change aa _ _ _ _ (bu (xQ a))at c4;have hx:=λlv=>acC lv a
 generalize xQ a=w at*
 generalize a.2-a.1=v at*
 generalize uk a=u at*
 generalize p8 a=D at*
 refine aa.ed func332 rfl λ_=>?_;change AW _ _ _ _ 20 _;refine aau mixed trivial trivial ?_;refine acn λKX hKX=>?_;simp[hx,iQ,iA];refine ag.p 1 9 c1 ?_;simp[hx,iQ,iA];refine ag.Uc 5 9 [3] [.cells true false 34 [.d (.bool false),.d .nilsl,.d .nilsl]] c2 zp zp zp rfl zp zp zp ?_;simp[aY,cM,LB.dA,LB.fix]
 repeat refine az ?_
 refine hKX _ _ ?_;refine wN ?_;refine aau mixed (eY c3 c4) (mo hx @iQ.eq_1 @iA @ai.eq_1) ?_;exact aal (cq.fm (κ:=0) ⟨rfl,rfl⟩ rfl rfl rfl)
theorem ag.VH{us:List AV}{sz:Nat}{es:List (List DV)}(κ':Nat)(k:Key)(hk:lv k=.cells true false T (es.flatten.map CV.d))(hs:∀e∈es,e.length=sz)
 (hc:aa c.P c.G f (us++[.c (.d (.sl es))]) X) (hX:X.pure=true) (hh:lv 9=.hole) (h9:(9:Key)≠k) (hK:K X [(k,.cells true true T (es.flatten.map CV.d))] [9] κ') (hus:∀a∈us,a.pure=true:=by simp) (hn:n=es.length:=by rfl) (hl:es.length<=1000:=by simp):ag c f (us++[.c (.aO k 0 n sz)]) lv K:=by
 subst hn;refine ag.MD κ' 9 k T _ [9] hc hX hk hh h9 zp (λi p q=>?_) (λa ha j hj=>?_) zp hK
 ·by_cases hi:i<us.length
  ·rw[aeF hi,aeF hi];exact .inl ⟨hus _ (cn hi),rfl⟩
  ·have hi:i=us.length:=by simp at p;omega
   subst hi;rw[List.getElem_concat_length rfl,List.getElem_concat_length rfl];exact .inr (ob (aI _ _ _) hs zd)
 ·rcases List.mem_append.1 ha with ha|ha
  ·rw[dX (hus a ha)]at hj;cases hj
  ·rw[List.mem_singleton.1 ha]at hj;simp only[ql,jB,aI,aZ,aeO,aeA]at hj;rcases hj with rfl|⟨y,⟨z,_,rfl⟩,hj⟩
   ·exact .inr rfl
   ·cases hj
def fl3(x y z:Rat):DV:=.sl [dY x,dY y,dY z]
theorem KW(m:Int){y z:Rat}(hx:bF x 1000000)(hy:bF y 1000000)(hz:bF z 1000000)(h1:eS x=false)(h2:eS y=false)(h3:eS z=false):aa prog (GG m) 54 [.c (.d (fl3 x y z))] (.c (.d (.bool true))):=by
 have c1:=EU m [x,y,z] zp (by simp[hx,hy,hz]);rw[show IM [x,y,z] 0 = -1 by simp[IM,h1,h2,h3]]at c1;change aa _ _ _ [.c (.d (fl3 x y z)),_] _ at c1;generalize fl3 x y z=D at*
 have c2:aa prog (GG m) 114 [.c (.d D),.c (.d (.func (.func 115) [] []))] (.c (.d (.bool false))):=by
  refine aa.en func114 rfl λ_=>?_;refine aau mixed c1 trivial ?_;exact aaq (aD.rt rfl 4 zp)
 refine aa.en func54 rfl λ_=>?_;refine aau mixed c2 trivial ?_;exact aaq (aD.rt rfl 2 zp)
theorem xk(m:Int)(B:DV){c:Rat}(hc:lN c)(hs:lN s)(hr:lN r)(h1:eS c=false)(h2:eS r=false)(h3:eS s=false):aa prog (GG m) 334 [.c (.d B),oh c s r] (.c (.d (.bool true))):=by
 have c1:=KW m (eV hc zr) (eV hr zr) (eV hs zr) h1 h2 h3;have hsr:∀lv,cC lv 3 (.c (.d (Ti s)))=some (1,[.d (.bool (decide (s.num<0))),nC (aW s.num.natAbs),nC (bB s.den)]):=λlv=>by simp[cC,Ti,dY,iA]
 refine aa.en func334 rfl λ_=>?_;refine aau mixed trivial trivial ?_;refine acn λKX hKX=>?_;simp[hsr,keyOf,JC,ai];refine ag.VH 5 2 (us:=[]) (T:=34) (sz:=3) (es:=[dY c,dY r,dY s]) (by simp[dY,gT]) (by simp[dY]) c1 rfl zp zr ?_;simp
 repeat refine az ?_
 refine hKX _ _ ?_;refine wN ?_;exact aaq (aD.rt rfl 4 zp)
theorem ag.cut{x:AV}{cs':List CV}(κ':Nat)(k:Key)
 (hc:aQ c.P c.G f [x,.c (.ptr 0 0)] [.cells false false T cs] (.ret X [.cells false false T cs'] [])) (hK:K X [(k,.cells true false T cs')] [9,k] κ')
 (hk:lv k=.cells true false T cs:=by simp) (hh:lv 9=.hole:=by simp) (h9:(9:Key)≠k:=by decide) (hx:x.pure=true:=by simp) (hX:X.pure=true:=by simp) (hcs:∀y∈cs,y.pure=true:=by simp) (hcs':∀y∈cs',y.pure=true:=by simp):ag c f [x,.c (.ptr k 0)] lv K:=by
 have r0:∀g,(LB.cells false false T cs').dA g=.cells false false T cs':=λg=>LB.bV hcs' g
 refine ag.Tz κ' 9 true [k] _ _ [9,k] hc zp (by simpa using h9) rfl rfl zp ?_ hh (by simp[LB.pass]) zp ?_ rfl ?_ ?_ zp ?_
 ·intro i p q;have hi:i=0:=by simp at p;omega
  subst hi;have e:=LB.bV (own:=true) (fz:=false) (T:=T) hcs;exact⟨true,cs,hk,by have:=e (aY [k] [] 9);simp only[LB.dA,LB.cells.injEq]at this;exact this.2.2.2.symm,λh=>by cases h⟩
 ·intro _ k' hk';rw[List.mem_singleton.1 hk',hk];rfl
 ·intro i p q
  match i,p,q with
  |0,_,_=>exact⟨AV.fu hx,(AV.bV hx _).symm⟩
  |1,_,_=>exact⟨rfl,rfl⟩
 ·intro a ha j hj;simp only[aZ,bw,or_false]at ha;rcases ha with rfl|rfl
  ·rw[dX hx]at hj;cases hj
  ·simp only[ql,jB,hk,aZ,aeO]at hj;rcases hj with rfl|⟨y,hy,hj⟩
   ·simp
   ·have:=hcs y hy
    cases y<;>simp_all [CV.pure,jB]
 ·rw[AV.bV hX]
  have e:cM (aY [k] [] 9) true [k] [.cells false false T cs']=[(k,.cells true false T cs')]:=by
   simp only[cM,agv,List.zipWith_nil_left,r0,LB.fix,Bool.false_or]
  rw[e];exact hK
abbrev Zo(b:Bool)(p q:Option (List Nat))(r:Rat):List CV:=[.d (.bool b),nC p,nC q,.d .nilsl,.d (.bool (decide (r.num<0))),nC (aW r.num.natAbs),nC (bB r.den)]
theorem KA(G:List (List DV))(b:Bool)(p q:Option (List Nat)){n d e:Rat}(h1:bF n 10000)(h2:bF r 100000)(hd:ja n 96=d)(hz:bF d 100000)(he:r+(n-d)=e):
 aQ prog G 346 [bu n,.c (.ptr 0 0)] [.cells false false 218 (Zo b p q r)] (.ret (bu d) [.cells false false 218 (Zo b p q e)] []):=by
 have c1:=Fo G n 96 h1;rw[hd]at c1;have c2:=r9 G n d (au h1 zr) (au hz zr);have c3:=gL G r (n-d) (au h2 zr) (au (by rw[afs];exact jg h1 (fk hz)) zr);rw[he]at c3;clear hd he hz h1 h2;generalize n-d=v at*
 refine aQ.enm func346 rfl (uE _) λ_=>?_;refine aau mixed (lD c1 c2 c3) @ai.eq_1 ?_;refine aal ⟨[(0,0,.cells false false 218 (Zo b p q e))],9,uE _,zp,zp,zp,?_,?_,zp,?_⟩
 ·intro k hk
  match k with
  |0=>exact .inr rfl
  |k+1=>exact absurd np hk
 ·intro x hx;rw[List.mem_singleton.1 hx];exact LB.aN.2 ⟨rfl,rfl,zp,id⟩
 ·show fq _ _ [.cell 3 34]=_;simp[fq,kH,mj,ai,j5]
theorem kK.st{r:Option Nat}{ops:Array Oper}{o:Oper}{os:List Oper}{s:aJ}{acc:List Tw}{K:aJ->List Tw->Prop}{x:AV}{us:List (Key×LB)}{rds:List Key}(κ:Nat)(hd:dW c.n [o]=true)(hg:o.guard=none)(h1:dg c.P o.op (o.op.operands.toList.map (s.val c.G)) s.lv κ=some (x,us,rds,True))
 (h:kK c r ops os (aJ.put ⟨s.fr,b8 s.lv us⟩ o.dst x) (acc++[⟨⟨x,us,rds⟩,s.lv,none⟩]) K):kK c r ops (o::os) s acc K:=
 kK.Qo (dh.plain (λd hd'=>by simp only[dW,ae1,aff,afg,hd']at hd;grind) sT h1 trivial) h
theorem Kc(G:List (List DV)){c:Rat}(h1:lN c)(h2:lN s)(h3:lN r)(k1:ja c 96=c)(k2:ja s 96=s)(k3:DW r 96=r):aa prog G 336 [oh c s r] (oh c s r):=by
 have e:∀x:Rat,r+(x-x)=r:=λx=>by rw[Rat.sub_self,Rat.add_zero]
 have c1:=KA G false none none (eV h1 zr) (eV h3 zr) k1 (eV h1 zr) (e c);have c2:=KA G (decide (c.num<0)) (aW c.num.natAbs) (bB c.den) (eV h2 zr) (eV h3 zr) k2 (eV h2 zr) (e s);have c3:=Nw G r 96 (eV h3 zr);rw[k3]at c3;refine aa.ed func336 rfl λ_=>?_;change AW _ _ _ _ 20 _;refine aau mixed trivial (eY @aaP @ai.eq_1) ?_;refine acn λKX hKX=>?_;simp[ai,oQ,lK,lZ,mZ,cQ,wQ,xg,oS];refine ag.cut 24 22 c1 ?_ (hk:=by simp;rfl);simp[ai]
 repeat refine az ?_
 refine hKX _ _ ?_;refine wN ?_;refine abW mixed trivial (me @N4 @Wu @Yw @dY.eq_1 @iA @ai.eq_1) ?_;obtain⟨B,hB⟩:∃B,LB.cells true false 218 (Zo (decide (c.num<0)) (aW c.num.natAbs) (bB c.den) r)=B:=⟨_,rfl⟩
 refine AW.Pv 30 mixed zt ?_;refine kK.read 26 22 B rfl rfl (x:=.c (.ptr 22 3)) (by simp[dg,Op.operands]) (by simp[dg,Op.operands,<-hB]) ?_;refine kK.read 26 22 B rfl rfl (x:=.c (.d .nilsl)) (by simp[dg,Op.operands]) (by simp[dg,Op.operands,<-hB]) ?_;refine kK.op (κ:=26) rfl rfl ?_;simp only[m7];refine kK.op (κ:=26) rfl rfl ?_;simp;refine kK.op (κ:=26) rfl rfl ?_;simp[oQ,lK,lZ,mZ,cQ,wQ,oS];refine⟨zp,?_⟩;refine ag.cut 27 22 c2 ?_;simp;refine kK.st 27 rfl rfl (x:=.c (.aO 27 0 1 3)) (us:=[(27,.cells true false 34 [.d (.bool (decide (s.num<0))),nC (aW s.num.natAbs),nC (bB s.den)])]) (rds:=[]) (by simp[dg,Op.operands,ZE]) ?_;refine kK.op (κ:=28) rfl rfl ?_;simp[cC,keyOf];refine kK.op (κ:=29) rfl rfl ?_;simp;refine kK.op (κ:=29) rfl rfl ?_;simp[ai];refine kK.done ⟨da,?_,?_⟩
 ·intro p' hp' q' hq' W' B' hs' hw';simp[Z4,List.zipIdx]at hp';simp[wrt,List.zipIdx]at hq'
  rcases hp' with rfl|rfl<;>cases hs'<;>rcases hq' with rfl|rfl|rfl|rfl<;>first
   |(exfalso;simp at hw';done)
   |exact .inr ⟨.inl rfl,.inl rfl⟩
   |exact .inl zt
 refine wN ?_;refine abW mixed c3 (lD @N4 @Wu @ai.eq_1) ?_;exact aal (cq.fm (κ:=0) ⟨rfl,rfl⟩ rfl rfl rfl)
def TL(a b a' c s r:Rat):DV:=.sl [um a b a',um c s r]
section
variable (lv:Key->LB) (a b a' c s r:Rat)
theorem abo:aq prog 264 lv (.c (.d (TL a b a' c s r))) (.c (.d (.int .i64 0)))=some (.c (.d (.ptr (um a b a'))),[],[],True):=by simp[TL,um,dY]
theorem aaI:aq prog 264 lv (.c (.d (TL a b a' c s r))) (.c (.d (.int .i64 1)))=some (.c (.d (.ptr (um c s r))),[],[],True):=by simp[TL,um,dY]
end
theorem Pq(G:List (List DV))(B:DV){a b a' c:Rat}(hop:op=9/\f=340\/op=10/\f=341)(h:aa prog G f [oh a b a',oh c s r] (oh C S R))(ht:aa prog G 336 [oh C S R] (oh C S R)):
 aa prog G 333 [.c (.d B),.c (.d (.int .i64 op)),.c (.d (TL a b a' c s r))] (.tup [oh C S R,.c (.d (.int .i64 0))]):=by
 have c1:aa prog G 335 [.c (.d B),.c (.d (.int .i64 op)),.c (.d (TL a b a' c s r))] (.tup [oh C S R,.c (.d (.int .i64 0))]):=by
  have i0:=λlv=>abo lv a b a' c s r
  have i1:=λlv=>aaI lv a b a' c s r
  generalize TL a b a' c s r=L at*
  rcases hop with⟨rfl,rfl⟩|⟨rfl,rfl⟩
  ·refine aa.enc func335 rfl (λlv=>uN lv _ _ _ _) λ_=>?_;refine aau mixed h (me i0 i1 @um.eq_1 @dY.eq_1 @iA @ai.eq_1) ?_;exact aal (aF.fm2 (κ:=0) (t:=6) (k:=0) (u:=7) ⟨rfl,rfl⟩ zp yi zp)
  ·refine aa.enc func335 rfl (λlv=>uN lv _ _ _ _) λ_=>?_;refine aau mixed h (me i0 i1 @um.eq_1 @dY.eq_1 @iA @ai.eq_1) ?_;exact aal (aF.fm2 (κ:=0) (t:=6) (k:=0) (u:=7) ⟨rfl,rfl⟩ zp yi zp)
 generalize TL a b a' c s r=L at*
 refine aa.enc func333 rfl (λlv=>uN lv _ _ _ _) λ_=>?_;refine aau mixed (eY c1 ht) @ai.eq_1 ?_;exact aal (aF.fm2 (κ:=0) (t:=6) (k:=0) (u:=7) ⟨rfl,rfl⟩ zp yi zp)
def oZ:PD:=⟨some [[.int .i64 5,.int .i64 11]],0,some [[.int .i64 0,.str [49],.str [50]]],some [[.int .i64 1,.int .i64 0,.int .i64 0,.int .i64 0,.int .i64 0,.int .i64 0,.str []],[.int .i64 10,.int .i64 0,.int .i64 0,.int .i64 0,.int .i64 0,.int .i64 0,.str []],[.int .i64 9,.int .i64 1,.int .i64 0,.int .i64 0,.int .i64 0,.int .i64 0,.str []]],3,3,none,2⟩
theorem mY:oZ.ok:=by
 refine⟨?_,?_,?_,?_⟩<;>simp[oZ,sO,Xo,ZL,is7]
theorem vR:oZ.good:=vf mY zt
def MF(a b:Int):DV:=.sl [[.int .i64 a],[.int .i64 b]]
def Me:DV:=.sl [[.bool true],[.bool true],[.bool true]]
section
variable (lv:Key->LB) (a b:Int)
theorem Yg:eT prog 92 lv (.c (.d (MF a b)))=some (.c (.d (.int .i64 2)),[],[],True):=ui
theorem Tn:aq prog 92 lv (.c (.d (MF a b))) (.c (.d (.int .i64 0)))=some (.c (.d (.ptr [.int .i64 a])),[],[],True):=ui
theorem TA:aq prog 92 lv (.c (.d (MF a b))) (.c (.d (.int .i64 1)))=some (.c (.d (.ptr [.int .i64 b])),[],[],True):=ui
theorem QF:eT prog 82 lv (.c (.d Me))=some (.c (.d (.int .i64 3)),[],[],True):=ui
theorem JT:aq prog 82 lv (.c (.d Me)) (.c (.d (.int .i64 0)))=some (.c (.d (.ptr [.bool true])),[],[],True):=ui
theorem Kv:aq prog 82 lv (.c (.d Me)) (.c (.d (.int .i64 1)))=some (.c (.d (.ptr [.bool true])),[],[],True):=ui
theorem KJ:aq prog 82 lv (.c (.d Me)) (.c (.d (.int .i64 2)))=some (.c (.d (.ptr [.bool true])),[],[],True):=ui
end
theorem fl7(a b c d e f g:CV):ic (λi=>some (i*7,7)) (gh 1 [.d (.bool false),.d .nilsl,.d .nilsl,.d .nilsl,.d (.bool false),.d .nilsl,.d .nilsl]) [(0,.agg [a,b,c,d,e,f,g])]=some [a,b,c,d,e,f,g]:=zt
theorem XN(a:Iv):lS prog "vernier/ranges.short" (.c (.d (.iface 267 (p8 a))))=some (334,[.c (.d (p8 a))],[]):=zt
theorem WV(a:Iv):lS prog "vernier/ranges.input" (.c (.d (.iface 267 (p8 a))))=some (332,[.c (.d (p8 a))],[]):=zt
theorem TM(a:Iv):lS prog "vernier/ranges.operate" (.c (.d (.iface 267 (p8 a))))=some (333,[.c (.d (p8 a))],[]):=zt
theorem UK(m:Int)(z:Ev){i:Int}{k:Key}{f:Nat->AV}(κ':Nat)(h2:f 2=.c (.d (.iface 267 (p8 a))))(h8:f 8=.c (.aO k 0 3 7))(h9:f 9=.c (.d (.int .i64 i)))(h12:f 12=.c (.d (.int .i64 0)))
 (hx:aq prog 264 lv (.c (.aO k 0 3 7)) (.c (.d (.int .i64 i)))=some (.c (.ptr k j),[],[k],True)) (hl:aA prog 218 lv (.c (.ptr k j))=some (oh C S R,[],[k],True)) (hn:lv 9=.hole)
 (c1:aa prog (GG m) 334 [.c (.d (p8 a)),oh C S R] (.c (.d (.bool true)))) (hQ:∀g,(∀t,t<90->g t=f t)->g 103=.c (.d (.bool false))->Q .normal ⟨g,lv⟩ κ') :
 AW (⟨prog,GG m,z.w,z.F,z.W,Tryz.f244.ntmps,λ_=>.hole,z.b,z.d⟩:Ctx) none (cW [1,1,0,1,2,3,1,1,0,2,1,1,1,1,0,0] Tryz.f244) ⟨f,lv⟩ κ Q:=by
 conv=>
  enter [3]
  whnf
 refine AW.MR mixed zt ?_;refine xV.run 9 zt ?_;simp[h2,h8,h9,h12,hx,hl,oQ,lK,lZ,mZ,cQ,-aA];refine xV.stepG (x:=.c (.d (.func (.method "vernier/ranges.short") [.iface 267 (p8 a)] []))) (us:=[]) (rds:=[]) κ' zt xr ?_ ?_
 ·have hm:(wH prog 267 "vernier/ranges.short").isSome=true:=by kernel_rfl
  simp[Am.ij,Op.operands,FY,hm]
 refine xV.run 4 zt ?_;simp[XN];refine ag.p κ' 9 c1 ?_ (hh:=hn);simp;refine xV.done ?_;refine⟨zt,?_⟩
 repeat refine az ?_
 refine hQ _ (λt ht=>?_) zp
 repeat rw[bt _ _ zd]
abbrev xI:Iv:=(1,2)
theorem mc(h:(Nat.ble (nl x.num.natAbs) 100&&Nat.ble (nl x.den) 100)=true):lN x:=by
 rw[adS]at h;exact⟨ae2 h.1,ae2 h.2⟩
theorem ndX(p:PD)(lv:Key->LB)(hp:p.ok)(i:Nat)(j:Int){e:List DV}(he:(p.nd i).e=e)(hi:i<p.nn:=by decide)(hj:(i:Int)=j:=by rfl):aq prog 24 lv (.c (dc p.nodes)) (.c (.d (.int .i64 j)))=some (.c (.d (.ptr e)),[],[],True):=by
 subst he;subst hj;exact wI p lv hp i hi
theorem OJ(m:Int):aa prog (GG m) 244 [oZ.A,.c (.d (.int .i64 2)),.c (.d (.iface 267 (p8 xI)))] (.tup [.c (.d (.sl [um (3/2) (1/2) 0,um (9/4) (3/2) (1/4),um (3/4) 1 (1/4)])),.c (.d (.int .i64 0))]):=by
 have d1:=pJ m oZ mY vR 2 zr;rw[show bC (some (jR oZ 2 (2+1)))=.d Me by kernel_rfl]at d1;have d1:aa prog (GG m) 42 [oZ.A,.c (.d (.int .i64 2))] (.c (.d Me)):=d1;have k1:=vq m ⟨10,0,0,0,0,0,[]⟩;rw[show zC (js ⟨10,0,0,0,0,0,[]⟩)=.d (MF 0 0) by kernel_rfl]at k1;have k2:=vq m ⟨9,1,0,0,0,0,[]⟩;rw[show zC (js ⟨9,1,0,0,0,0,[]⟩)=.d (MF 1 0) by kernel_rfl]at k2;have x0:=λlv=>ndX oZ lv mY 0 0 (show(oZ.nd 0).e=[.int .i64 1,.int .i64 0,.int .i64 0,.int .i64 0,.int .i64 0,.int .i64 0,.str []] by kernel_rfl)
 have x1:=λlv=>ndX oZ lv mY 1 1 (show(oZ.nd 1).e=[.int .i64 10,.int .i64 0,.int .i64 0,.int .i64 0,.int .i64 0,.int .i64 0,.str []] by kernel_rfl)
 have x2:=λlv=>ndX oZ lv mY 2 2 (show(oZ.nd 2).e=[.int .i64 9,.int .i64 1,.int .i64 0,.int .i64 0,.int .i64 0,.int .i64 0,.str []] by kernel_rfl)
 have i1:=Rz (GG m) xI ⟨au (mc zt) zr,au (mc zt) zr⟩;rw[show uk xI=3/2 by kernel_rfl,show xQ xI=1/2 by kernel_rfl]at i1;have s0:lN (0:Rat):=mc zt;have s1:lN (1:Rat):=mc zt;have s2:lN (1/2:Rat):=mc zt;have s3:lN (3/2:Rat):=mc zt;have s4:lN (1/4:Rat):=mc zt;have s5:lN (3/4:Rat):=mc zt;have s6:lN (9/4:Rat):=mc zt;have o1:=QJ (GG m) s3 s2 s0 s3 s2 s0;have o2:=Rs (GG m) s6 s3 s4 s3 s2 s0 (QC (GG m) (C:=-(3/2)) (S:=-(1/2)) (R:=0) s3 s2 s0 zt zt zt) (fk s3) (fk s2) s0;rw[show(3/2:Rat)*(3/2)=9/4 by kernel_rfl,show(3/2:Rat)*(1/2)+3/2*(1/2)=3/2 by kernel_rfl,show b9 (3/2)*0+b9 (3/2)*0+(0+b9 (1/2))*(0+b9 (1/2))=1/4 by kernel_rfl]at o1;rw[show(9/4:Rat)+-(3/2)=3/4 by kernel_rfl,show(3/2:Rat)+-(1/2)=1 by kernel_rfl,show(1/4:Rat)+0=1/4 by kernel_rfl]at o2;have p1:=Pq (GG m) (p8 xI) (op:=10) (.inr ⟨rfl,rfl⟩) o1 (Kc (GG m) s6 s3 s4 zt zt zt);have p2:=Pq (GG m) (p8 xI) (op:=9) (.inl ⟨rfl,rfl⟩) o2 (Kc (GG m) s5 s1 s4 zt zt zt);have h1:=xk m (p8 xI) s3 s2 s0 zt zt zt;have h2:=xk m (p8 xI) s6 s3 s4 zt zt zt;have h3:=xk m (p8 xI) s5 s1 s4 zt zt zt;clear o1 o2;generalize oZ=p at*
 generalize (9/4:Rat)=q9 at*
 generalize (3/2:Rat)=q3 at*
 generalize (1/2:Rat)=q2 at*
 generalize (1/4:Rat)=q4 at*
 generalize (3/4:Rat)=q5 at*
 generalize (1:Rat)=q1 at*
 generalize (0:Rat)=q0 at*
 refine aa.ed func244 rfl λ_=>?_;change AW _ _ _ _ 20 _;refine abW mixed (eY d1 i1) (me @N4 @YY @XJ @QF @JT (me @Kv @KJ x0 x1 x2 (lD @WV @gh.eq_1 @ai.eq_1))) ?_;refine abC (y:=cW [1,1,0,1,2,3,1,1,0,2,1,1,1,1,0,0] Tryz.f244) zt (UK m _ 24 (a:=xI) (i:=0) (k:=21) (j:=0) (C:=q3) (S:=q2) (R:=q0) zp zp zp zp zp zp zp h1 ?_);intro g hg h103;refine wN ?_;refine abW mixed k1 (me hg h103 @N4 @YY @XJ (me @QF @JT @Kv @KJ x0 (me x1 x2 @Yg @Tn @TA (me @ai.eq_1 @cC.eq_1 @cC.eq_2 @cC.eq_3 @cC.eq_4 (lD @keyOf.eq_1 @keyOf.eq_2 @fl7))))) ?_;refine acn λKX hKX=>?_;simp[hg,h103,TM];refine ag.VH 32 29 (us:=[.c (.d (p8 xI)),.c (.d (.int .i64 10))]) (T:=218) (sz:=7) (es:=[um q3 q2 q0,um q3 q2 q0]) bv (by simp[um,dY]) p1 zp zp zr ?_;simp[ai]
 repeat refine az ?_
 refine hKX _ _ ?_;refine wN ?_;refine abM (abM ?_);refine abC (y:=cW [1,1,0,1,2,3,1,1,0,2,1,1,1,1,0,0] Tryz.f244) zt (UK m _ 40 (a:=xI) (i:=1) (k:=21) (j:=7) (C:=q9) (S:=q3) (R:=q4) po po po zp zp zp zp h2 ?_);intro g2 hg2 i103;refine wN ?_;refine abW mixed k2 (me hg2 hg i103 @N4 @YY (me @XJ @QF @JT @Kv @KJ (me x0 x1 x2 @Yg @Tn (me @TA @ai.eq_1 @cC.eq_1 @cC.eq_2 @cC.eq_3 (mo @cC.eq_4 @keyOf.eq_1 @keyOf.eq_2 @fl7))))) ?_;refine acn λKX hKX=>?_;simp[hg2,hg,i103,TM];refine ag.VH 48 45 (us:=[.c (.d (p8 xI)),.c (.d (.int .i64 9))]) (T:=218) (sz:=7) (es:=[um q9 q3 q4,um q3 q2 q0]) bv (by simp[um,dY]) p2 zp zp zr ?_;simp[ai]
 repeat refine az ?_
 refine hKX _ _ ?_;refine wN ?_;refine abM (abM ?_);refine abC (y:=cW [1,1,0,1,2,3,1,1,0,2,1,1,1,1,0,0] Tryz.f244) zt (UK m _ 50 (a:=xI) (i:=2) (k:=21) (j:=14) (C:=q5) (S:=q1) (R:=q4) (by simp[hg2,hg]) (by simp[hg2,hg]) (by simp[hg2,hg]) zp zp zp zp h3 ?_);intro g3 hg3 j103;refine wN ?_;refine abW mixed trivial (me hg3 hg2 hg j103 @N4 (me @YY @XJ @QF @JT @Kv @KJ)) ?_;exact aal (cq.iJ (κ:=0) (X:=.c (.aO 21 0 3 7)) (Y:=.c (.d (.int .i64 0))) (ks:=[21]) rfl (by simp[hg3,hg2,hg]) zp rfl rfl (Aq (ob (own:=true) (fz:=false) (T:=218) (es:=[um q3 q2 q0,um q9 q3 q4,um q5 q1 q4]) (sz:=7) bv (by simp[um,dY]) zp)))
theorem eb1(a b:CV):bM prog 119 [0,1] [.c a,.c b]=some (.agg [a,b],[],[],True):=zt
theorem eb2(a b:CV):bM prog 121 [1,2] [.c a,.c b]=some (.agg [.d (.int .i64 0),a,b],[],[],True):=zt
theorem eb3(a:CV):bM prog 85 [0] [.c a]=some (.agg [a,.d (.int .i64 0),.d (.int .i64 0),.d (.int .i64 0),.d (.int .i64 0),.d (.int .i64 0),.d (.str [])],[],[],True):=zt
theorem eb4(a b:CV):bM prog 85 [0,1] [.c a,.c b]=some (.agg [a,b,.d (.int .i64 0),.d (.int .i64 0),.d (.int .i64 0),.d (.int .i64 0),.d (.str [])],[],[],True):=zt
theorem eb5(a b c d e f:CV):bM prog 27 [0,2,3,4,5,7] [.c a,.c b,.c c,.c d,.c e,.c f]=some (.agg [a,.d (.int .i64 0),b,c,d,e,.d .nilsl,f],[],[],True):=zt
theorem ef1(x y a b:CV):ic (λi=>some (i*2,2)) (gh 1 [x,y]) [(0,.agg [a,b])]=some [a,b]:=zt
theorem ef2(x y z a b c:CV):ic (λi=>some (i*3,3)) (gh 1 [x,y,z]) [(0,.agg [a,b,c])]=some [a,b,c]:=zt
abbrev nz(a b:Int):AV:=.agg [.d (.int .i64 a),.d (.int .i64 b),.d (.int .i64 0),.d (.int .i64 0),.d (.int .i64 0),.d (.int .i64 0),.d (.str [])]
abbrev nzL:List CV:=((sO oZ.nodes).flatten).map CV.d
theorem ef3:ic (λi=>some (i*7,7)) (gh 3 [CV.d (DV.int i64 0),CV.d (DV.int i64 0),CV.d (DV.int i64 0),CV.d (DV.int i64 0),CV.d (DV.int i64 0),CV.d (DV.int i64 0),CV.d (DV.str [])]) [(0,nz 1 0),(1,nz 10 0),(2,nz 9 1)]=some nzL:=zt
theorem HS(G:List (List DV)):aa prog G 31 [] oZ.A:=by
 refine aa.ed func31 rfl λ_=>?_;refine aau mixed trivial (me @eb1 @eb2 @eb3 @eb4 @eb5 (mo @ef1 @ef2 ef3 @ai.eq_1)) ?_;refine aal ?_;exact⟨.agg [.aO 1 0 1 2,.d (.int .i64 0),.aO 2 0 1 3,.aO 3 0 3 7,.d (.int .i64 3),.d (.int .i64 3),.d .nilsl,.d (.int .i64 2)],[1,2,3],zt,zt⟩
theorem LI(m:Int):aa prog (GG m) 199 [oZ.A,.c (.d (p8 xI)),.c (.d (.int .i64 2))] (.tup [oh (3/4) 1 (1/4),.c (.d (.int .i64 0))]):=by
 have c1:=OJ m;obtain⟨L,hL⟩:∃L,DV.sl [um (3/2) (1/2) 0,um (9/4) (3/2) (1/4),um (3/4) 1 (1/4)]=L:=⟨_,rfl⟩
 have hx:∀lv,aq prog 264 lv (.c (.d L)) (.c (.d (.int .i64 2)))=some (.c (.d (.ptr (um (3/4) 1 (1/4)))),[],[],True):=λlv=>by rw[<-hL];simp[um,dY]
 rw[hL]at c1;clear hL;have hm:qH (.c (.d (p8 xI)))=some (p8 xI):=rfl;generalize oZ=p at*
 generalize p8 xI=B at*
 generalize (3/4:Rat)=q5 at*
 generalize (1/4:Rat)=q4 at*
 generalize (1:Rat)=q1 at*
 refine aa.enc func199 rfl (λlv=>uN lv _ _ _ _) λ_=>?_;refine aau mixed c1 (me hm hx @um.eq_1 @dY.eq_1 @iA @ai.eq_1) ?_;exact aal (aF.fm2 (κ:=0) (t:=6) (k:=1) (u:=7) ⟨rfl,rfl⟩ zp yi zp)
theorem GC(m:Int):aa prog (GG m) 152 [oZ.A,.c (.d (p8 xI)),.c (.d (.int .i64 2))] (.tup [eo (-1/2,2),.c (.d (.int .i64 0))]):=by
 have c1:=LI m;have c2:=MS (GG m) (c:=3/4) (s:=1) (r:=1/4) (mc zt) (mc zt) (mc zt);rw[show((3/4:Rat)-(1/4+b9 1),(3/4:Rat)+(1/4+b9 1))=(-1/2,2) by kernel_rfl]at c2;generalize oZ=p at*
 generalize p8 xI=B at*
 generalize (-1/2:Rat)=q6 at*
 generalize (3/4:Rat)=q5 at*
 generalize (1/4:Rat)=q4 at*
 generalize (1:Rat)=q1 at*
 generalize (2:Rat)=q7 at*
 refine aa.enc func152 rfl (λlv=>bY lv _ _ _ _ _ _ _ rfl) λ_=>?_;refine aau mixed (eY c1 c2) @ai.eq_1 ?_;exact aal (aF.kP (κ:=0) (t:=6) (k:=1) (u:=7) (a:=(q6,q7)) ⟨rfl,rfl⟩ zp yi zp)
theorem ef4(f x y z:CV):ic (λi=>some (i,1)) [f,f,f] [(0,.c x),(1,.c y),(2,.c z)]=some [x,y,z]:=zt
theorem SG(h:(Nat.ble (nl a.1.num.natAbs) 100&&Nat.ble (nl a.1.den) 100)=true:=by kernel_rfl)(h':(Nat.ble (nl a.2.num.natAbs) 100&&Nat.ble (nl a.2.den) 100)=true:=by kernel_rfl):a.sz 100:=⟨mc h,mc h'⟩
theorem C7(G:List (List DV)){c:Iv}(ha:a.sz 100)(hb:b.sz 100)(e:a.meet b=c)(f:nV c.1 c.2=c)(g:decide (c.1<=c.2)=true):aa prog G 153 [eo a,eo b] (.tup [eo c,.c (.d (.bool true))]):=by
 have:=Rr G a b (Iv.aC ha zr) (Iv.aC hb zr)
 rwa[e,f,g]at this
theorem St(m:Int):aa prog (GG m) 84 [oZ.A,.c (.d (p8 xI)),.c (.d (.int .i64 2))] (.tup [eo (0,2),.c (.d (.int .i64 0))]):=by
 have hD:y9 (p8 xI) [xI]:=.inl rfl
 have hs:∀a∈[xI],a.sz 300/\a.1<=a.2:=λa ha=>by
  rw[List.mem_singleton.1 ha];exact⟨⟨au (mc zt) zr,au (mc zt) zr⟩,zr⟩
 have c1:=uC m oZ mY vR 2 zr hD rfl λa ha=>⟨Iv.aC (hs a ha).1 zr,(hs a ha).2⟩
 have c2:=GC m;have c3:=JM m oZ mY vR 2 zr rfl hD rfl hs;have c4:=xS m oZ mY vR 2 zr rfl hD rfl hs;rw[show lW oZ [xI] 2=((-1,3),0) by kernel_rfl]at c1;rw[show Gg oZ [xI] 2=((-3/4,9/4),0) by kernel_rfl]at c3;rw[show GW oZ [xI] 2=((0,2),0) by kernel_rfl]at c4;have c1:aa prog (GG m) 15 [oZ.A,.c (.d (p8 xI)),.c (.d (.int .i64 2))] (.tup [eo (-1,3),.c (.d (.int .i64 0))]):=c1;have c3:aa prog (GG m) 27 [oZ.A,.c (.d (p8 xI)),.c (.d (.int .i64 2))] (.tup [eo (-3/4,9/4),.c (.d (.int .i64 0))]):=c3;have c4:aa prog (GG m) 29 [oZ.A,.c (.d (p8 xI)),.c (.d (.int .i64 2))] (.tup [eo (0,2),.c (.d (.int .i64 0))]):=c4;have m1:=C7 (GG m) (a:=(-1,3)) (b:=(-1/2,2)) (c:=(-1/2,2)) SG SG zt zt zt;have m2:=C7 (GG m) (a:=(-1/2,2)) (b:=(-3/4,9/4)) (c:=(-1/2,2)) SG SG zt zt zt;have m3:=C7 (GG m) (a:=(-1/2,2)) (b:=(0,2)) (c:=(0,2)) SG SG zt zt zt;clear hs hD;generalize ((-1,3):Iv)=i1 at*
 generalize ((-1/2,2):Iv)=i2 at*
 generalize ((-3/4,9/4):Iv)=i3 at*
 generalize ((0,2):Iv)=i4 at*
 generalize oZ=p at*
 generalize p8 xI=B at*
 obtain⟨u1,v1⟩:=i1;obtain⟨u2,v2⟩:=i2;obtain⟨u3,v3⟩:=i3;obtain⟨u4,v4⟩:=i4;refine aa.enc func84 rfl (λlv=>bY lv _ _ _ _ _ _ _ rfl) λ_=>?_;change AW _ _ _ _ 20 _;refine abW mixed (me c1 c2 c3 c4 m1 (eY m2 m3)) (BF @N4 @YY @XJ @ai.eq_1 @ef4) ?_;exact aal (aF.kP (κ:=0) (t:=6) (k:=21) (u:=7) (a:=(u4,v4)) ⟨rfl,rfl⟩ zp yi zp)
theorem AW.snk{r:Option Nat}{x:Code}{s:aJ}(k t:Nat)(hk:s.lv k=.cells true false T cs)
 (hd:fO (aM s.lv k (.cells true true T cs)) (s.fr t)=some (y,[k])) (h:AW c r x ⟨aM s.fr t y,aM s.lv k (.cells true true T cs)⟩ κ Q):AW c r x s κ Q:=λF β a w hS=>by
 have h1:=hS.freeze hk;refine h _ β a w (h1.ux.with h1.size h1.defers λu=>?_)
 by_cases e:u=t
 ·subst e;show(Vw.mk _ _ _ _).av _ (aM s.fr u y u);rw[aI];exact h1.ux.fO (λ_ h=>h) hd (λk' hk'=>by rw[List.mem_singleton.1 hk'];exact .inr rfl) (h1.fr u)
 ·show(Vw.mk _ _ _ _).av _ (aM s.fr t y u);rw[bt _ _ e];exact h1.fr u
abbrev xB:List Sp:=[([49],[50])]
theorem S0(m:Int):aa prog (GG m) 32 [oZ.A,.c (dc (uh (some xB))),.c (.d (.int .i64 2))] (.tup [eo (0,2),.c (.d (.int .i64 0))]):=by
 have c1:=Dg m oZ mY (some xB) 2 84 zt ((0,2),0) λ_ D hD _=>by
  have h:=St m;rw[show dc (iO (gM (bH (some xB))))=.d (p8 xI) by kernel_rfl]at hD
  cases hD;exact h
 rw[show qe oZ (bH (some xB)) 2 ((0,2),0)=((0,2),0) by kernel_rfl]at c1;generalize oZ=p at*
 generalize ((0,2):Iv)=i at*
 obtain⟨u,v⟩:=i;simp only at c1;refine aa.enc func32 rfl (λlv=>bY lv _ _ _ _ _ _ _ rfl) λ_=>?_;refine aau mixed c1 @ai.eq_1 ?_;exact aal (aF.kP (κ:=0) (t:=6) (k:=1) (u:=7) (a:=(u,v)) ⟨rfl,rfl⟩ zp yi zp)
theorem DF(m:Int){s t:List UInt8}(h:a.sz 100)(hs:ug a.1=s)(ht:ug a.2=t):aa prog (GG m) 18 [eo a,.c (.d (.str s)),.c (.d (.str t))] (.c (.d (.bool true))):=by
 have c1:=Jx m a (Iv.aC h zr);rw[hs,ht]at c1;clear hs ht h;obtain⟨u,v⟩:=a;refine aa.en func18 rfl λ_=>?_;refine aau mixed c1 (eY @Zb @Xd) ?_;exact aaq (aD.rt rfl 6 zp)
theorem Uy(m:Int):aa prog (GG m) 13 [] (.c (.d (.bool true))):=by
 have c0:=HS (GG m);have c1:=J6 m oZ mY (some xB) 2;have c2:=S0 m;have c3:=JK m oZ mY (some xB) 2;have c4:=Tc m [50] [49];rw[show Qp oZ (bH (some xB)) 2=((-1,3),0) by kernel_rfl]at c1;rw[show tn oZ (bH (some xB)) 2=((-3/4,9/4),0) by kernel_rfl]at c3;rw[show od [50] [49]=7 by kernel_rfl]at c4;have t1:=DF m (a:=(-1,3)) (s:=[45,49]) (t:=[51]) SG zt zt;have t2:=DF m (a:=(0,2)) (s:=[48]) (t:=[50]) SG zt zt;have t3:=DF m (a:=(-3/4,9/4)) (s:=[45,51,47,52]) (t:=[57,47,52]) SG zt zt;simp only at c1 c3;generalize ((-1,3):Iv)=i1 at*
 generalize ((-3/4,9/4):Iv)=i3 at*
 generalize ((0,2):Iv)=i4 at*
 generalize v8 [50] [49]=i2 at*
 generalize oZ=p at*
 obtain⟨u1,v1⟩:=i1;obtain⟨u2,v2⟩:=i2;obtain⟨u3,v3⟩:=i3;obtain⟨u4,v4⟩:=i4;refine aa.en func13 rfl λ_=>?_;change AW _ _ _ _ 20 _;refine abW mixed c0 (lD @Zb @ef1 @ai.eq_1) ?_;refine AW.snk 20 2 (T:=72) (cs:=[.d (.str [49]),.d (.str [50])]) (y:=.c (dc (uh (some xB)))) zp zt ?_;refine abW mixed (me c1 c2 c3 c4 t1 (eY t2 t3)) (eY @Zb @ai.eq_1) ?_;exact aaq (aD.rt rfl 0 zp)
def okV(r:Iv×Int):Prop:=r.1.z/\(r.2≠0->r.1=(0,0))
theorem kr(e:Int):okV ((0,0),e):=⟨nY zr,λ_=>rfl⟩
theorem J7(h:v.z):okV (v,0):=⟨h,λh=>absurd rfl h⟩
theorem CY{b:List Sp}{node:Int}{r:Iv×Int}(h:gS p b node=0->okV r):okV (qe p b node r):=by
 unfold qe
 by_cases h0:gS p b node=0
 ·rw[if_pos h0];exact h h0
 ·rw[if_neg h0];exact kr _
theorem YM{b:List Sp}(h:pZ b 0=0):∀a∈gM b,a.sz 10000/\a.1<=a.2:=λa ha=>⟨Iv.aC (jJ h a ha).1 zr,(jJ h a ha).2⟩
theorem Us(his:∀a∈is,a.sz 10000/\a.1<=a.2):okV (lW p is node):=by
 refine⟨(Cq his).1,λh=>?_⟩;unfold lW at h⊢;exact if_neg h
theorem Vj(hp:p.ok)(b:List Sp)(node:Int):okV (Qp p b node):=CY λh=>Us (YM (jZ hp h).2.2.1)
theorem Ud(hp:p.ok)(b:List Sp)(node inp:Int):okV (Sb p b node inp):=by
 unfold Sb
 by_cases h0:gS p b node=0
 rotate_left
 ·rw[if_pos h0];exact kr _
 rw[if_neg (not_not_intro h0)];have hg:=YM (jZ hp h0).2.2.1;split
 ·exact kr _
 split
 ·exact kr _
 unfold slB;split
 ·exact kr _
 ·have hd:=λi j=>Fk (p:=p) (inp:=inp) (dp:=iP p node.toNat) (r:=(jx p (gM b) (iP p node.toNat) (node.toNat+1)).1) (λj=>tj hg _ j) i j
  refine⟨?_,λh=>if_neg h⟩;show(if _ then _ else _:Iv).z;split
  ·exact(hd _ _).1
  ·exact nY zr
theorem VS(hp:p.ok)(b:List Sp)(node:Int):okV (tn p b node):=CY λ_=>by
 unfold Gg;split
 ·exact kr _
 split
 ·exact kr _
 split
 ·rename_i h
  exact J7 (ID h)
 ·exact kr _
theorem Uj(hp:p.ok)(b:List Sp)(node:Int):okV (uw p b node):=CY λh=>by
 have hi:=jJ (jZ hp h).2.2.1;unfold GW;split
 ·exact kr _
 split
 ·exact kr _
 split
 ·exact kr _
 ·exact J7 ⟨(Cq (A3 hi)).1.1,(Cq (A3 hi)).1.2⟩
abbrev O9(p:PD)(b:Option (List Sp))(node inp sp:Int):AV:=.agg [dc p.f,.d (.int .i64 p.mode),dc p.ins,dc p.nodes,.d (.int .i64 p.head),.d (.int .i64 p.tail),dc p.states,.d (.int .i64 p.res),dc (uh b),.d (.int .i64 node),.d (.int .i64 inp),.d (.int .i64 sp)]
theorem zF(m:Int)(p:PD)(hp:p.ok)(b:Option (List Sp))(node inp sp:Int):aa prog (GG m) 3 [O9 p b node inp sp] (.c (.d (.bool true))):=by
 have aw:=Uy m;have n1:=J6 m p hp b node;have r1:=OY m p hp b node;have k1:=Vj hp (bH b) node;have n2:=Pa m p hp b node inp;have r2:=LZ m p hp b node inp;have k2:=Ud hp (bH b) node inp;have n3:=JK m p hp b node;have r3:=Og m p hp b node;have k3:=VS hp (bH b) node;have n4:=E2 m p hp b node;have r4:=DH m p hp b node;have k4:=Uj hp (bH b) node;generalize Qp p (bH b) node=v1 at*
 generalize Sb p (bH b) node inp=v2 at*
 generalize tn p (bH b) node=v3 at*
 generalize uw p (bH b) node=v4 at*
 obtain⟨v1,e1⟩:=v1;obtain⟨v2,e2⟩:=v2;obtain⟨v3,e3⟩:=v3;obtain⟨v4,e4⟩:=v4;have a1:=vC m v1 e1 k1.1 k1.2;have a2:=vC m v2 e2 k2.1 k2.2;have a3:=vC m v3 e3 k3.1 k3.2;have a4:=vC m v4 e4 k4.1 k4.2;simp only at n1 n2 n3 n4 r1 r2 r3 r4;clear k1 k2 k3 k4;refine aa.en func3 rfl λ_=>aah ?_;refine abx 3 n1 @ai.eq_1 ?_;refine abx 6 r1 @ai.eq_1 ?_;refine aac λK hK=>abi 9 a1 ?_;refine aax (aan (hK _ _ (abx 11 n2 @ai.eq_1 ?_)));refine abx 13 r2 @ai.eq_1 ?_;refine aac λK hK=>abi 15 a2 ?_;refine aax (aan (hK _ _ (abx 17 n3 @ai.eq_1 ?_)));refine abx 19 r3 @ai.eq_1 ?_;refine aac λK hK=>abi 21 a3 ?_;refine aax (aan (hK _ _ (abx 23 n4 @ai.eq_1 ?_)));refine abx 25 r4 @ai.eq_1 ?_;refine aaF λK hK=>?_;simp;refine ag.p 27 9 a4 ?_;simp;refine ag.p 28 9 aw ?_;simp
 repeat refine az ?_
 apply hK;exact aaq (aD.rt rfl 2 zp)
end Go.Am
