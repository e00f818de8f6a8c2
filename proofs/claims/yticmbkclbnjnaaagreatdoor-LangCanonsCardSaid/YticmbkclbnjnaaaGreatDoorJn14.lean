/- Helpers. -/
import Derived.Test.YticmbkclbnjnaaaGreatDoorJn13

set_option linter.all false
set_option maxHeartbeats 8000000
set_option maxRecDepth 100000
open Go.Proofs.Tryz
namespace Go.Am
open Go.Am.Ty Go.Proofs N
variable {lv:Key->LB}{L:List Nd}{k:Key}{av:List Int}
theorem Su(h:lv k=nH L)(hL:L.length<=10000):∃ks,cP lv 8 (nS k L)=some (sD (if L=[]then none else some (L.map Nd.e)),ks):=by
 by_cases h0:L=[]
 ·subst h0;exact⟨[],rfl⟩
 ·rw[show nH L=_ from if_neg h0]at h;unfold nS;rw[if_neg h0,if_neg h0];have e:=qS (lv:=lv) (k:=k) (own:=true) (fz:=false) (T:=40) (es:=L.map Nd.e) (sz:=7) (by rw[AE];exact h) (λe he=>by obtain⟨n,_,rfl⟩:=List.mem_map.1 he;rfl) (by grind);rw[ac5]at e;exact⟨_,e⟩
theorem P2{L:List (Int×Int)}(h:lv k=Mv L)(hL:L.length<=1000):∃ks,cP lv 8 (xj k L)=some (sD (if L=[]then none else some (L.map zw)),ks):=by
 by_cases h0:L=[]
 ·subst h0;exact⟨[],rfl⟩
 ·rw[show Mv L=_ from if_neg h0]at h;unfold xj;rw[if_neg h0,if_neg h0];have e:=qS (lv:=lv) (k:=k) (own:=true) (fz:=false) (T:=44) (es:=L.map zw) (sz:=2) (by rw[<-List.flatMap_def];exact h) (λe he=>by obtain⟨n,_,rfl⟩:=List.mem_map.1 he;rfl) (by grind);rw[ac5]at e;exact⟨_,e⟩
theorem LG(p:PD){S:List (Int×Int)}{k1 k2 k3:Key}{o3 f3:Bool}{T3:TypeId}(hd tl r n:Int)(h7:lv k1=nH L)(h11:lv k2=Mv S)(h2:lv k3=.cells o3 f3 T3 (zK av))(hL:L.length<=10000)(hS:S.length<=1000)(hA:av.length<=1000):
 ∃ks,eJ lv (.tup [.agg [eG p.f,.d (.int .i64 p.mode),eG p.ins,nS k1 L,.d (.int .i64 hd),.d (.int .i64 tl),xj k2 S,.d (.int .i64 r)],.c (.aE k3 0 av.length 1),.c (.d (.int .i64 n))]) =
  some (.tup [(⟨p.f,p.mode,p.ins,(if L=[]then none else some (L.map Nd.e)),hd,tl,(if S=[]then none else some (S.map zw)),r⟩:PD).A,.c (zC (some av)),.c (.d (.int .i64 n))],ks):=by
 obtain⟨ks1,e1⟩:=Su h7 hL;obtain⟨ks2,e2⟩:=P2 h11 hS;have e3:=qS (lv:=lv) (k:=k3) (own:=o3) (fz:=f3) (T:=T3) (es:=zD av) (sz:=1) (by rw[h2,J8]) (λe he=>by unfold zD at he;grind) (by unfold zD;grind);rw[show(zD av).length=av.length from by unfold zD;simp]at e3;have f1:∀x:DV,cP lv 8 (.d x)=some (x,[]):=λx=>rfl
 refine⟨ks1++ks2++[k3],?_⟩;simp only[eJ,jj,fu,sN,fO,f1,e1,e2,e3,adm,adv,adM,ac4,adP,PD.A,PD.cs,adq];rfl
def Gd(p:PD)(av lf:List Int)(j:Nat):List (Int×Int):=Hq (λj=>(av.getD (p.st j).1.toNat 0,av.getD (p.st j).2.toNat 0)) lf j
theorem SZ(lv:Key->LB)(κ:Key)(h:lv κ=.hole)(a b:Int):ai prog 25 1 [0] lv κ [.agg [.d (.int .i64 a),.d (.int .i64 b)]]=some (.c (.aE κ 0 1 2),[(κ,.cells true false 44 (Bb [(a,b)]))],[],True):=VB lv κ h _ _
theorem Kj(n:Int×Int):(Bb [n]).length=2:=by rfl
theorem MY(n:Int×Int):List.take 2 (Bb [n])=Bb [n]:=adQ (by rw[Kj];simp)
theorem QC(k:Key):xj k []=CV.d .nilsl:=rfl
theorem SM:Mv []=LB.hole:=rfl
theorem Xi(m:Int)(p:PD)(V:NS)(lf:List Int)(z:Ev){M fr hd qh qt i:Nat}(S:List (Int×Int))(hp:p.ok)(hg:p.good)(hal:av.length=p.nn)(hV:jn p V)(hl:LF V.2 lf)(hL:L.length<=3020)
 (hS:S=Gd p av lf p.ns) :
 AW (⟨prog,GG m,z.w,z.F,z.W,Tryz.f7.ntmps,λ_=>.hole,z.b⟩:Ctx) none (cW [1,1,1,1,1,1,1,1,1,1,1,1,1] Tryz.f7) ⟨aJ [(1,.c (.ptr 0 0)),(2,.c (.ptr 1 0)),(6,.c (.d (.sl (bD V.1)))),(7,.c (.d (.sl (bD V.2)))),(8,.c (.ptr 2 0)),(9,.c (.aE 3 0 p.ns 1)),(10,.c (.d (.int .i64 (M:Nat)))),(12,.c (.aE 4 0 p.nn 1)),(14,.c (.d (.int .i64 (fr:Nat)))),(15,.c (.d (.int .i64 (hd:Nat)))),(16,.c (.d (.int .i64 (i:Nat))))],oY p lf (.cells true false 3 (zK av)) L [] (qh:Nat) (qt:Nat) 0 .hole⟩ 20 (iR (⟨prog,GG m,z.w,z.F,z.W,Tryz.f7.ntmps,λ_=>.hole,z.b⟩:Ctx) Tryz.f7 (if 64<L.length then .tup [nL.A,.c (.d .nilsl),.c (.d (.int .i64 3))]else .tup [(⟨p.nz.f,p.mode,p.nz.ins,(if L=[]then none else some (L.map Nd.e)),((if M=0 then L.length else qh:Nat):Int),((if M=0 then L.length else qt:Nat):Int),(if S=[]then none else some (S.map zw)),av.getD p.res.toNat 0⟩:PD).A,.c (zC (some av)),.c (.d (.int .i64 0))])):=by
 obtain⟨⟨a1,a2,a3,a4⟩,-,⟨c1,c2,c3⟩,-⟩:=eW.1 hg.gen;obtain⟨hr0,hr1,-⟩:=hg.res;have hV2:V.2.length=p.ns:=hV.2;obtain⟨ks,hlen⟩:=CK 5 (L:=L) (by omega)
 conv=>
  enter [3]
  whnf
 by_cases hbig:64<L.length
 ·have hb':(64:Int)<(L.length:Int):=by omega
  rw[if_pos hbig];refine aae λK hK=>acv hlen hbig ?_;refine abA (acv @ZQ @aj.eq_1 ?_);refine aaV (iR.EN (κ:=0) (k:=1) (off:=0) (own:=true) (fz:=false) (T:=27) (U:=27) (cs:=nL.cs) (X:=nL.A) (y:=.c (.d .nilsl)) (z:=.c (.d (.int .i64 3))) (ks:=[]) rfl (by simp) (by simp) (by rfl) (by simp) (by simp) (by simp) rfl rfl ?_);rfl
 rw[if_neg hbig];obtain⟨h1,e1⟩:∃h1:Nat,(if M=0 then L.length else qh)=h1:=⟨_,rfl⟩
 obtain⟨h2,e2⟩:∃h2:Nat,(if M=0 then L.length else qt)=h2:=⟨_,rfl⟩
 rw[e1,e2];refine aae λK hK=>acv hlen hbig ?_;refine abg (aaE (hK _ _ (aae λK hK=>?_)))
 have k1:∀(s:az) (κ:Nat),Le (⟨prog,GG m,z.w,z.F,z.W,Tryz.f7.ntmps,λ_=>.hole,z.b⟩:Ctx) s ⟨aJ [(1,.c (.ptr 0 0)),(2,.c (.ptr 1 0)),(7,.c (.d (.sl (bD V.2)))),(8,.c (.ptr 2 0)),(12,.c (.aE 4 0 p.nn 1))],oY p lf (.cells true false 3 (zK av)) L [] (h1:Nat) (h2:Nat) 0 .hole⟩->K s κ:=by
  intro s κ hle;apply hK;refine acU (κ2:=20) hle ?_;refine aae λK hK=>aar ?_;refine abd ?_
  refine aco (λ(j:Nat)=>⟨aJ [(1,.c (.ptr 0 0)),(2,.c (.ptr 1 0)),(7,.c (.d (.sl (bD V.2)))),(8,.c (.ptr 2 0)),(12,.c (.aE 4 0 p.nn 1)),(19,.c (.d (.int .i64 (j:Nat))))],oY p lf (.cells true false 3 (zK av)) L (Gd p av lf j) (h1:Nat) (h2:Nat) 0 .hole⟩) 20
   (λj=>j<=p.ns) (λj=>p.ns-j) 0 (m9 rfl 3 4 5 6 7 _ (by decide) (by simp) (by simp) (by rfl) (by simp) (λg=>⟨true,_,by simp,(aX _ _).symm,id⟩) (λg=>by simp;exact bY _ g) (λg=>by rfl) (λg=>by simp;rfl) (by simp) (by simp[aQ])) (ac1 _) ?_
  rintro j hj
  try simp only at hj
  have hst:Gd p av lf (j+1)=if 0<=lf.getD j 0 then Gd p av lf j++[(av.getD (p.st j).1.toNat 0,av.getD (p.st j).2.toNat 0)]else Gd p av lf j:=rfl
  have hSl:(Gd p av lf j).length<=j:=by
   unfold Gd;rw[rJ _ hl _ (by omega)];exact ab8 aej (by grind)
  refine aae λK3 hK3=>acf @Eb ?_
  by_cases hjt:j<p.ns
  ·have hjt':(j:Int)<(p.ns:Int):=by omega
   have hjV:j<V.2.length:=by omega
   have hwj:=bE (n:=(j:Int)+1) (by omega) (by omega);have hxv:=λlv=>Ct (T:=62) (by simp) lv V.2 hjV
   have hiff:=(hl.iff hjV).trans (Ai hjV);obtain⟨s1,s2,s3,s4⟩:=vS hg hjt;have hx:=λlv=>Tt hp lv j hjt
   obtain⟨q1,hq1⟩:∃q:Nat,(p.st j).1=q:=⟨(p.st j).1.toNat,by omega⟩
   obtain⟨q2,hq2⟩:∃q:Nat,(p.st j).2=q:=⟨(p.st j).2.toNat,by omega⟩
   have hl1:q1<av.length:=by omega
   have hl2:q2<av.length:=by omega
   have hn1:(q1:Int)<(p.nn:Int):=by omega
   have hn2:(q2:Int)<(p.nn:Int):=by omega
   have ld1:=dh (P:=prog) (T:=3) (by simp) hl1;have ld2:=dh (P:=prog) (T:=3) (by simp) hl2;have hg1:av.getD q1 0=av[q1]:=by rw[ac2,bp hl1];rfl
   have hg2:av.getD q2 0=av[q2]:=by rw[ac2,bp hl2];rfl
   obtain⟨T,hT⟩:∃T,Gd p av lf j=T:=⟨_,rfl⟩
   rw[hT]at hst hSl;simp only[hT];rw[hq1,hq2,ac9,ac9,hg1,hg2]at hst;obtain⟨x1,hx1⟩:∃x,av[q1]=x:=⟨_,rfl⟩
   obtain⟨x2,hx2⟩:∃x,av[q2]=x:=⟨_,rfl⟩
   rw[hx1]at ld1 hst;rw[hx2]at ld2 hst;obtain⟨b,hb⟩:∃b,V.2[j]=b:=⟨_,rfl⟩
   simp only[hb]at hxv hiff;refine abz (by simp<;>omega) (aaE (hK3 _ _ (aae λK5 hK5=>abd (aae λK6 hK6=>?_))))
   cases b with
   |false=>
    rw[if_neg (λh=>by grind)]at hst;refine acC hxv (hK6 _ _ ?_);refine abg (aaE (hK5 _ _ (aaJ ?_)));simp[hwj];refine⟨j+1,?_,by omega,by omega⟩;rw[hst];exact(m9 rfl 3 4 5 6 7 _ (by decide) (by simp) (by rfl) (by rfl) (by simp) (λg=>⟨true,_,by simp,(aX _ _).symm,id⟩) (λg=>by simp;exact bY _ g) (λg=>by simp;exact F6 _ g) (λg=>by simp;rfl) (by simp) (by simp[aQ]))
   |true=>
    rw[if_pos (hiff.2 rfl)]at hst;refine acC hxv (hK6 _ _ ?_);refine abA ?_
    by_cases hT0:T=[]
    ·subst hT0;refine acs mixed (by kernel_rfl) rfl ?_;simp[QC,SM,hx,hq1,hq2,hn1,hn2,ld1,ld2,YS,SZ,dS,keyOf,Kj,MY,aj,-ai];refine⟨by kernel_rfl,?_⟩;apply hK5;refine aaJ ?_;simp[hwj];refine⟨j+1,?_,by omega,by omega⟩;rw[hst];exact(m9 rfl 3 4 5 21 7 _ (by decide) (by simp) (by rfl) (by rfl) (by simp) (λg=>⟨true,_,by simp,(aX _ _).symm,id⟩) (λg=>by simp;exact bY _ g) (λg=>by simp;exact F6 [(x1,x2)] g) (λg=>by simp;rfl) (by simp) (by simp[aQ]))
    ·have n5:xj 6 T=.aE 6 0 T.length 2:=if_neg hT0;have n6:Mv T=.cells true false 44 (Bb T):=if_neg hT0;have hTb:(T.length:Int)<=9223372036854775807:=by omega
     refine acs mixed (by kernel_rfl) rfl ?_;simp[n5,n6,hx,hq1,hq2,hn1,hn2,ld1,ld2,YS,SZ,dS,keyOf,MY,Kw,aj,-ai]
     repeat refine aL ?_
     refine⟨by kernel_rfl,?_⟩;apply hK5;refine aaJ ?_;simp[hwj];refine⟨j+1,?_,by omega,by omega⟩;rw[hst];exact(m9 rfl 3 4 5 21 7 _ (by decide) (by simp) (by rfl) (by simp[nS,xj,hT0]) (by simp) (λg=>⟨true,_,by simp,(aX _ _).symm,id⟩) (λg=>by simp;exact bY _ g) (λg=>by simp;exact(by rw[Oc,KM];exact⟨true,_,by simp;try rfl,by simp[DC],id⟩)) (λg=>by simp;rfl) (by simp) (by simp[aQ,O3]))
  have hje:j=p.ns:=by omega
  subst hje;refine abg (abX (hK _ _ ?_));have hS':=hS.symm;rw[hS']at hSl;rw[hS'];have hql:p.res.toNat<av.length:=by omega
  obtain⟨q,hq⟩:∃q:Nat,p.res=q:=⟨p.res.toNat,by omega⟩
  rw[hq,ac9]at hql;have hqn:(q:Int)<(p.nn:Int):=by omega
  have ld:=dh (P:=prog) (T:=3) (by simp) hql;have hgq:av.getD q 0=av[q]:=by rw[ac2,bp hql];rfl
  obtain⟨x,hx⟩:∃x,av[q]=x:=⟨_,rfl⟩
  rw[hx]at ld;have hxr:av.getD p.res.toNat 0=x:=by rw[hq,ac9,hgq,hx]
  rw[hxr];refine adi hq hqn ld @aj.eq_1 ?_;refine acf @aj.eq_1 ?_;have hd:=LG (lv:=au (au (oY p lf (.cells true false 3 (zK av)) L S (h1:Nat) (h2:Nat) 0 .hole) 2 (.cells true false 27 (qE p (nS 5 L) (h1:Nat) (h2:Nat) (xj 6 S) x))) 1 (.cells true false 27 (qE p (nS 5 L) (h1:Nat) (h2:Nat) (xj 6 S) x))) p.nz (k1:=5) (k2:=6) (k3:=4) (L:=L) (S:=S) (av:=av) (o3:=true) (f3:=false) (T3:=3) (h1:Nat) (h2:Nat) x 0 (by simp) (by simp) (by simp) (by omega) (by omega) (by omega);rw[hal]at hd;refine aaV (iR.Ns (κ:=0) (k:=1) (off:=0) (own:=true) (fz:=false) (T:=27) (U:=27) (cs:=qE p (nS 5 L) (h1:Nat) (h2:Nat) (xj 6 S) x) (X:=.agg (qE p (nS 5 L) (h1:Nat) (h2:Nat) (xj 6 S) x)) (y:=.c (.aE 4 0 p.nn 1)) (z:=.c (.d (.int .i64 0))) rfl (by simp) (by simp) (by rfl) (by simp) (by simp) (by simp) rfl rfl hd)
 refine aae λK1 hK1=>?_
 by_cases eM:M=0
 ·rw[if_pos eM]at e1 e2;subst e1;subst e2;refine acC eM (hK1 _ _ ?_);refine abA (aaJ ?_);simp[hlen,aj];exact k1 _ _ (m9 rfl 3 4 5 6 7 _ (by decide) (by rfl) (by rfl) (by rfl) (by rfl) (λg=>⟨true,_,by simp,(aX _ _).symm,id⟩) (λg=>by simp[nS,xj];exact bY _ g) (λg=>by rfl) (λg=>by simp;rfl) (by rfl) (by simp[aQ,nS,xj]))
 ·rw[if_neg eM]at e1 e2;subst e1;subst e2;refine acC eM (hK1 _ _ ?_);refine abg (aaE ?_);simp;exact k1 _ _ (m9 rfl 3 4 5 6 7 _ (by decide) (by simp) (by rfl) (by rfl) (by simp) (λg=>⟨true,_,by simp,(aX _ _).symm,id⟩) (λg=>by simp;exact bY _ g) (λg=>by rfl) (λg=>by simp;rfl) (by simp) (by simp[aQ]))
theorem HR(m:Int)(p:PD)(hp:p.ok)(h0:(gj p).2.2=0):aa prog (GG m) 7 [p.A] (Jz p (cF p)):=by
 have h:=Cv m p hp;have hg:=u7 hp h0;rw[h0]at h;have hv:=ry hg;have hV:=vo hv;have hnd:=HB m p hp hg;rw[<-Ru hv]at hnd;have hnd:aa prog (GG m) 20 [p.A] (.tup [.c (.d (.sl (bD (cF p).1))),.c (.d (.sl (bD (cF p).2)))]):=hnd;have hcd:=Nf (GG m) p hp (NX h0);obtain⟨⟨a1,a2,a3,a4⟩,-,⟨c1,c2,c3⟩,-⟩:=eW.1 hg.gen;obtain⟨hr0,hr1,-⟩:=hg.res;have hsn:=BP m p hp hg (cF p) hV.len;have hb:=G0 hg;have hl:=gQ (cF p).2;have hend:=Ui (M:=(cF p).2.count true) hg hV hl;have hEI:=Qd (M:=(cF p).2.count true) hg hV hl (aU p.nn)
 have hsl:(jW p (bA (cF p).2 0) p.ns).length=(cF p).2.count true:=by
  rw[rJ _ hl _ (by rw[hV.len.2];exact aU _),adQ (by rw[hV.len.2];exact aU _)]
 unfold Jz yP;have hcC:gk p (cF p)=(bn p (cF p) (bA (cF p).2 0) 3).1:=rfl;have hcV:kD p (cF p)=(bn p (cF p) (bA (cF p).2 0) 3).2:=rfl;have hcL:uO p (cF p)=Hq (λj=>((kD p (cF p)).getD (p.st j).1.toNat 0,(kD p (cF p)).getD (p.st j).2.toNat 0)) (bA (cF p).2 0) p.ns:=rfl;rw[<-hend.1]at hcC;rw[<-hend.2]at hcV;clear hend;generalize uO p (cF p)=cL at*
 generalize gk p (cF p)=cC at*
 generalize kD p (cF p)=cV at*
 have hV2:(cF p).2.length=p.ns:=hV.len.2;have hV1:(cF p).1.length=p.nn:=hV.len.1;generalize cF p=V at*
 have hlb:∀x∈bA V.2 0,-1<=x/\x<=100:=λx hx=>by have:=qP V.2 0 x hx;omega
 have hM:V.2.count true<=4:=ab8 aej (by omega);have e0:nS 5 []=CV.d .nilsl:=rfl;have e1:nH []=LB.hole:=rfl;have e2:xj 6 []=CV.d .nilsl:=rfl;have e3:Mv []=LB.hole:=rfl;refine aa.ed func7 rfl λz=>aar ?_;refine acF 2 h ?_;refine aae λK hK=>aar ?_;refine abg (aaE (hK _ _ (acF 2 hnd ?_)));refine acF 2 hcd ?_;refine acv @Eb @aj.eq_1 ?_;refine aar ?_;refine aae λK hK=>aar ?_;refine abd ?_
 refine aco (λ(j:Nat)=>⟨aJ [(1,.c (.ptr 0 0)),(2,.c (.ptr 1 0)),(6,.c (.d (.sl (bD V.1)))),(7,.c (.d (.sl (bD V.2)))),(8,.c (.ptr 2 0)),(9,.c (.aE 3 0 p.ns 1)),(10,.c (.d (.int .i64 ((V.2.take j).count true:Nat)))),(11,.c (.d (.int .i64 j)))],oY p (bA (V.2.take j) 0++List.replicate (p.ns-j) 0) .hole [] [] 0 0 0 .hole⟩) 20
  (λj=>j<=p.ns) (λj=>p.ns-j) 0 (m9 rfl 4 5 6 7 8 _ (by decide) (by simp) (by rfl) (by rfl) (by simp[DX,bA]) (λg=>by simp;rfl) (λg=>by simp;rfl) (λg=>by simp;rfl) (λg=>by simp;rfl) (by simp) (by simp[aQ])) (ac1 _) ?_
 rintro j hj
 try simp only at hj
 have hAl:(bA (V.2.take j) 0).length=j:=by rw[ja,ac7];omega
 have hcl:(V.2.take j).count true<=j:=ab8 aej (by rw[ac7];omega);refine aae λK3 hK3=>acf @Eb ?_
 by_cases hjt:j<p.ns
 ·have hjt':(j:Int)<(p.ns:Int):=by omega
  have hjV:j<V.2.length:=by omega
  have hwj:=bE (n:=(j:Int)+1) (by omega) (by omega);have hw1:=bE (n:=((V.2.take j).count true:Int)+1) (by omega) (by omega);have hxv:=λlv=>Ct (T:=62) (by simp) lv V.2 hjV
  have htk:V.2.take (j+1)=V.2.take j++[V.2[j]]:=by rw[aew,bp hjV];rfl
  have hlf1:=rH (V.2.take j) V.2[j] 0;rw[<-htk]at hlf1;have hct:(V.2.take (j+1)).count true=(V.2.take j).count true+if V.2[j]=true then 1 else 0:=by rw[htk,List.count_append];cases V.2[j]<;>rfl
  obtain⟨b,hb'⟩:∃b,V.2[j]=b:=⟨_,rfl⟩
  simp only[hb']at hxv hlf1 hct;obtain⟨A,hA⟩:∃A,bA (V.2.take j) 0=A:=⟨_,rfl⟩
  rw[hA]at hAl hlf1;simp only[hA];obtain⟨q,hq⟩:∃q,p.ns-j=q+1:=⟨p.ns-j-1,by omega⟩
  have hq2:p.ns-(j+1)=q:=by omega
  have hset:∀x y:Int,(A++x::List.replicate q 0).set j y=A++y::List.replicate q 0:=λx y=>by
   rw[List.set_append_right _ _ (by omega),hAl,aes];rfl
  have hlen:∀x:Int,(A++x::List.replicate q 0).length=p.ns:=λx=>by simp;omega
  have hz1:∀x y:Int,aj (zK (A++x::List.replicate q 0)) j [CV.d (.int .i64 y)]=zK (A++y::List.replicate q 0):=λx y=>by rw[Ap _ _ _ (by rw[hlen];omega),hset]
  rw[hq,afi];refine abz (by simp<;>omega) (aaE (hK3 _ _ (aae λK5 hK5=>abd (acv hjt' hz1 ?_))));refine acf hxv ?_
  cases b with
  |true=>
   refine abA (acv hjt' hz1 ?_);refine acC hw1 (hK5 _ _ ?_);refine aaJ ?_;simp[hwj];refine⟨j+1,?_,by omega,by omega⟩;rw[hlf1,hq2,adq];exact m9 rfl 3 4 5 6 7 _ (by decide) (by simp) (by simp) (by simp) (by simp) (λg=>by simp;rfl) (λg=>by simp;rfl) (λg=>by simp;rfl) (λg=>by simp;rfl) (by simp) (by simp[aQ,hct])
  |false=>
   refine abg (aaE (hK5 _ _ (aaJ ?_)));simp[hwj];refine⟨j+1,?_,by omega,by omega⟩;rw[hlf1,hq2,adq];exact m9 rfl 3 4 5 6 7 _ (by decide) (by simp) (by simp) (by simp) (by simp) (λg=>by simp;rfl) (λg=>by simp;rfl) (λg=>by simp;rfl) (λg=>by simp;rfl) (by simp) (by simp[aQ,hct])
 have hje:j=p.ns:=by omega
 subst hje;refine abg (abX (hK _ _ ?_));have htk:V.2.take p.ns=V.2:=adQ (by omega);simp only[htk,aes,afL,adv];obtain⟨M,hMe⟩:∃M,V.2.count true=M:=⟨_,rfl⟩
 have hlfl:(bA V.2 0).length=p.ns:=by rw[ja];omega
 rw[hMe]at hM hsl hcC hcV hEI⊢;generalize bA V.2 0=lf at*
 refine acv @nR @aj.eq_1 ?_;refine aae λK hK=>aar ?_;refine abd ?_
 refine aco (λ(j:Nat)=>⟨aJ [(1,.c (.ptr 0 0)),(2,.c (.ptr 1 0)),(6,.c (.d (.sl (bD V.1)))),(7,.c (.d (.sl (bD V.2)))),(8,.c (.ptr 2 0)),(9,.c (.aE 3 0 p.ns 1)),(10,.c (.d (.int .i64 (M:Nat)))),(12,.c (.aE 4 0 p.nn 1)),(13,.c (.d (.int .i64 (j:Nat))))],oY p lf (.cells true false 3 (zK (List.replicate p.nn 0))) (C7 p j) [] (0:Nat) (0:Nat) 0 .hole⟩) 20
  (λj=>j<=p.ni) (λj=>p.ni-j) 0 (m9 rfl 3 20 5 6 7 _ (by decide) (by simp) (by simp) (by rfl) (by simp) (λg=>⟨true,_,by simp[DX],(aX _ _).symm,id⟩) (λg=>by simp;rfl) (λg=>by simp;rfl) (λg=>by simp;rfl) (by simp) (by simp[aQ])) (ac1 _) ?_
 rintro j hj
 try simp only at hj
 have hil:=tL p j;refine aae λK3 hK3=>acf @ME ?_
 by_cases hjt:j<p.ni
 ·have hjt':(j:Int)<(p.ni:Int):=by omega
  have hwj:=bE (n:=(j:Int)+1) (by omega) (by omega);have hxi:=λlv=>Yk p lv hp j hjt
  have hnx:C7 p (j+1)=C7 p j++[⟨1,j,0,0,0,(p.Bc j).f,[]⟩]:=rfl;obtain⟨L,hL⟩:∃L,C7 p j=L:=⟨_,rfl⟩
  rw[hL]at hil hnx;simp only[hL];have hLb:(L.length:Int)<=9223372036854775807:=by omega
  refine abz (by simp<;>omega) (aaE (hK3 _ _ (aae λK5 hK5=>abd ?_)))
  by_cases hL0:L=[]
  ·subst hL0;refine acs mixed (by kernel_rfl) rfl ?_;simp[e0,e1,hxi,RR,S7,dS,keyOf,vm,qc,aj,-ai];refine⟨by kernel_rfl,?_⟩;apply hK5;refine aaJ ?_;simp[hwj];refine⟨j+1,?_,by omega,by omega⟩;rw[hnx];exact m9 rfl 3 4 21 6 7 _ (by decide) (by simp) (by simp) (by rfl) (by simp) (λg=>⟨true,_,by simp,(aX _ _).symm,id⟩) (λg=>by rw[uj];simp) (λg=>by simp;rfl) (λg=>by simp;rfl) (by simp) (by simp[aQ])
  ·have n5:nS 5 L=.aE 5 0 L.length 7:=if_neg hL0;have n6:nH L=.cells true false 40 (iQ L):=if_neg hL0;refine acs mixed (by kernel_rfl) rfl ?_;simp[n5,n6,hxi,RR,S7,dS,keyOf,qc,mI,aj,-ai]
   repeat refine aL ?_
   refine⟨by kernel_rfl,?_⟩;apply hK5;refine aaJ ?_;simp[hwj];refine⟨j+1,?_,by omega,by omega⟩;rw[hnx];exact m9 rfl 3 4 21 6 7 _ (by decide) (by simp) (by simp) (by simp[nS,xj]) (by simp) (λg=>⟨true,_,by simp,(aX _ _).symm,id⟩) (λg=>by rw[uj,qY];simp) (λg=>by simp;rfl) (λg=>by simp;rfl) (by simp) (by simp[aQ])
 have hje:j=p.ni:=by omega
 subst hje;refine abg (abX (hK _ _ (aar ?_)));refine aar ?_
 have hN0:rs p V lf M 0=⟨⟨C7 p p.ni,[],[]⟩,List.replicate p.nn 0,0,0,0,0⟩:=by
  show(⟨qw p ⟨[],[],[]⟩ p.ni,_,_,_,_,_⟩:RS)=_;rw[ya]
 refine aae λK hK=>aar ?_;refine abd ?_
 refine aco (λ(i:Nat)=>⟨aJ [(1,.c (.ptr 0 0)),(2,.c (.ptr 1 0)),(6,.c (.d (.sl (bD V.1)))),(7,.c (.d (.sl (bD V.2)))),(8,.c (.ptr 2 0)),(9,.c (.aE 3 0 p.ns 1)),(10,.c (.d (.int .i64 (M:Nat)))),(12,.c (.aE 4 0 p.nn 1)),(14,.c (.d (.int .i64 ((rs p V lf M i).fr:Nat)))),(15,.c (.d (.int .i64 ((rs p V lf M i).hd:Nat)))),(16,.c (.d (.int .i64 (i:Nat))))],oY p lf (.cells true false 3 (zK (rs p V lf M i).av)) (rs p V lf M i).c.L [] ((rs p V lf M i).qh:Nat) ((rs p V lf M i).qt:Nat) 0 .hole⟩) 20
  (λi=>i<=p.nn) (λi=>p.nn-i) 0 (by rw[hN0];exact m9 rfl 3 4 5 6 7 _ (by decide) (by simp) (by simp) (by simp[nS,xj,CS.L]) (by simp) (λg=>⟨true,_,by simp,(aX _ _).symm,id⟩) (λg=>by simp[CS.L];exact bY _ g) (λg=>by simp;rfl) (λg=>by simp;rfl) (by simp) (by simp[aQ])) (ac1 _) ?_
 rintro i hi
 try simp only at hi
 have hi':(i:Int)<=(p.nn:Int):=by omega
 have hwi:=bE (n:=(i:Int)+1) (by omega) (by omega);have hI:=GI (M:=M) hg hV hl i hi;have hI1:=hI.one hg hV hl;have hI2:=hI1.two hg hV hl;have hLn:=Pg (M:=M) hg hV hl i hi;have hN:rs p V lf M (i+1)=rsN p V lf i (Qo p lf M i (yS p lf M i (rs p V lf M i))):=rfl
 have hEq:∀_:i=p.nn,cC=(Qo p lf M i (yS p lf M i (rs p V lf M i))).c/\cV=(Qo p lf M i (yS p lf M i (rs p V lf M i))).av/\RI p V lf M (sx p i) i (Qo p lf M i (yS p lf M i (rs p V lf M i))):=λe=>by
  rw[e];exact⟨hcC,hcV,hEI⟩
 obtain⟨s0,hS⟩:∃s,rs p V lf M i=s:=⟨_,rfl⟩
 simp only[hS]at hI hI1 hI2 hLn hN hEq⊢;obtain⟨s1,hS1⟩:∃s,yS p lf M i s0=s:=⟨_,rfl⟩
 rw[hS1]at hI1 hI2 hN hEq;obtain⟨s2,hS2⟩:∃s,Qo p lf M i s1=s:=⟨_,rfl⟩
 rw[hS2]at hI2 hN hEq;have x1n:i≠p.head.toNat->s1=s0:=λe=>by rw[<-hS1];exact if_neg e
 have x1y:i=p.head.toNat->s1=⟨eN p lf 1 s0.c,s0.av,(if M=0 then s0.fr else s0.c.L.length),s0.c.L.length,s0.c.L.length,s0.qt⟩:=λe=>by rw[<-hS1];exact if_pos e
 have x2n:i≠p.tail.toNat->s2=s1:=λe=>by rw[<-hS2];exact if_neg e
 have x2y:i=p.tail.toNat->s2=⟨eN p lf 2 s1.c,s1.av,(if M=0 then s1.fr else s1.c.L.length),s1.hd,s1.qh,s1.c.L.length⟩:=λe=>by rw[<-hS2];exact if_pos e
 have L1y:i=p.head.toNat->s1.c.L=s0.c.L++jW p lf p.ns:=λe=>by
  have e1:sy p i=0:=if_pos (by omega);rw[e1]at hI;rw[x1y e];show(eN p lf (0+1) s0.c).L=_;rw[(hI.ci.Q6 hg hV hl (by omega) hI.em).2.1];exact(CS.qW (by omega) (CS.kq hI.em) _).2.1
 have L2y:i=p.tail.toNat->s2.c.L=s1.c.L++jW p lf p.ns:=λe=>by
  have e1:sz p i=1:=by unfold sz;rw[if_neg (by omega),if_pos (by omega)]
  rw[e1]at hI1;rw[x2y e];show(eN p lf (1+1) s1.c).L=_;rw[(hI1.ci.Q6 hg hV hl (by omega) hI1.em).2.1];exact(CS.qW (by omega) (CS.kq hI1.em) _).2.1
 have hav1:s1.av=s0.av:=by
  by_cases e:i=p.head.toNat
  ·rw[x1y e]
  ·rw[x1n e]
 have hav2:s2.av=s0.av:=by
  by_cases e:i=p.tail.toNat
  ·rw[x2y e];omega
  ·rw[x2n e];omega
 have hqt1:s1.qt=s0.qt:=by
  by_cases e:i=p.head.toNat
  ·rw[x1y e]
  ·rw[x1n e]
 have hhd2:s2.hd=s1.hd/\s2.qh=s1.qh:=by
  by_cases e:i=p.tail.toNat
  ·rw[x2y e];simp
  ·rw[x2n e];simp
 have hal:s0.av.length=p.nn:=hI.ci.len;have hStl:(jW p lf p.ns).length<=4:=by omega
 have hL0:s0.c.L.length<=3000:=by omega
 have hL1:s1.c.L.length<=3010:=by
  by_cases e:i=p.head.toNat
  ·rw[L1y e,ac8];omega
  ·rw[x1n e];omega
 have hL2:s2.c.L.length<=3020:=by
  by_cases e:i=p.tail.toNat
  ·rw[L2y e,ac8];omega
  ·rw[x2n e];omega
 have hSe:∀_:M≠0,jW p lf p.ns≠[]:=λh e=>by rw[e]at hsl;exact h hsl.symm
 have hS0:∀_:M=0,jW p lf p.ns=[]:=λh=>aeA (by omega)
 have hne0:M≠0->p.head.toNat<=i->s0.c.L≠[]:=λhM0 hih he=>by
  obtain⟨a,ha⟩:∃a,cS V.2 a:=by
   have:0<V.2.count true:=by omega
   obtain⟨a,ha,hb⟩:=List.mem_iff_getElem.1 (List.count_pos_iff.1 this);exact⟨a,(Ai ha).2 hb⟩
  obtain⟨q1,q2,-⟩:=hV.st hg ha;have q3:=vS hg q1;obtain⟨k,m',-,hk,-⟩:=hI.ci.ats _ (by omega) (.inl q2);rw[he]at hk;cases hk
 have hne1:M≠0->p.head.toNat<=i->s1.c.L≠[]:=λhM0 hih he=>by
  refine hne0 hM0 hih ?_
  by_cases e:i=p.head.toNat
  ·rw[L1y e]at he;exact(List.append_eq_nil_iff.1 he).1
  ·rwa[x1n e]at he
 obtain⟨St,hSt⟩:∃S,jW p lf p.ns=S:=⟨_,rfl⟩
 rw[hSt]at L1y L2y hStl hSe hS0;have hsn':=λh:M≠0=>show aa prog (GG m) 22 [p.A,.c (.d (.sl (bD V.2)))] (.c (eG (some (St.map Nd.e)))) by rwa[hSt,if_neg (hSe h)]at hsn
 refine aae λK3 hK3=>acf @nR ?_;refine abz (by simp<;>omega) (aaE (hK3 _ _ (aae λK5 hK5=>abd ?_)));refine acU (κ2:=20) (s2:=⟨aJ [(1,.c (.ptr 0 0)),(2,.c (.ptr 1 0)),(6,.c (.d (.sl (bD V.1)))),(7,.c (.d (.sl (bD V.2)))),(8,.c (.ptr 2 0)),(9,.c (.aE 3 0 p.ns 1)),(10,.c (.d (.int .i64 (M:Nat)))),(12,.c (.aE 4 0 p.nn 1)),(14,.c (.d (.int .i64 (s0.fr:Nat)))),(15,.c (.d (.int .i64 (s0.hd:Nat)))),(16,.c (.d (.int .i64 (i:Nat))))],oY p lf (.cells true false 3 (zK s0.av)) s0.c.L [] (s0.qh:Nat) (s0.qt:Nat) 0 .hole⟩) (m9 rfl 3 4 5 6 7 _ (by decide) (by simp) (by rfl) (by rfl) (by simp) (λg=>⟨true,_,by simp,(aX _ _).symm,id⟩) (λg=>by simp;exact bY _ g) (λg=>by rfl) (λg=>by simp;rfl) (by simp) (by simp[aQ])) ?_;refine aae λK6 hK6=>?_
 have k6:∀(s:az) (κ:Nat),Le (⟨prog,GG m,z.w,z.F,z.W,Tryz.f7.ntmps,λ_=>.hole,z.b⟩:Ctx) s ⟨aJ [(1,.c (.ptr 0 0)),(2,.c (.ptr 1 0)),(6,.c (.d (.sl (bD V.1)))),(7,.c (.d (.sl (bD V.2)))),(8,.c (.ptr 2 0)),(9,.c (.aE 3 0 p.ns 1)),(10,.c (.d (.int .i64 (M:Nat)))),(12,.c (.aE 4 0 p.nn 1)),(14,.c (.d (.int .i64 (s0.fr:Nat)))),(15,.c (.d (.int .i64 (s1.hd:Nat)))),(16,.c (.d (.int .i64 (i:Nat))))],oY p lf (.cells true false 3 (zK s0.av)) s0.c.L [] (s1.qh:Nat) (s0.qt:Nat) 0 .hole⟩->K6 s κ:=by
  intro s κ hle;refine hK6 _ _ (acU (κ2:=20) hle (aae λK7 hK7=>?_))
  have k7:∀(s:az) (κ:Nat),Le (⟨prog,GG m,z.w,z.F,z.W,Tryz.f7.ntmps,λ_=>.hole,z.b⟩:Ctx) s ⟨aJ [(1,.c (.ptr 0 0)),(2,.c (.ptr 1 0)),(6,.c (.d (.sl (bD V.1)))),(7,.c (.d (.sl (bD V.2)))),(8,.c (.ptr 2 0)),(9,.c (.aE 3 0 p.ns 1)),(10,.c (.d (.int .i64 (M:Nat)))),(12,.c (.aE 4 0 p.nn 1)),(14,.c (.d (.int .i64 (s1.fr:Nat)))),(15,.c (.d (.int .i64 (s1.hd:Nat)))),(16,.c (.d (.int .i64 (i:Nat))))],oY p lf (.cells true false 3 (zK s0.av)) s1.c.L [] (s1.qh:Nat) (s0.qt:Nat) 0 .hole⟩->K7 s κ:=by
   intro s κ hle;refine hK7 _ _ (acU (κ2:=20) hle (aae λK8 hK8=>?_))
   have k8:∀(s:az) (κ:Nat),Le (⟨prog,GG m,z.w,z.F,z.W,Tryz.f7.ntmps,λ_=>.hole,z.b⟩:Ctx) s ⟨aJ [(1,.c (.ptr 0 0)),(2,.c (.ptr 1 0)),(6,.c (.d (.sl (bD V.1)))),(7,.c (.d (.sl (bD V.2)))),(8,.c (.ptr 2 0)),(9,.c (.aE 3 0 p.ns 1)),(10,.c (.d (.int .i64 (M:Nat)))),(12,.c (.aE 4 0 p.nn 1)),(14,.c (.d (.int .i64 (s1.fr:Nat)))),(15,.c (.d (.int .i64 (s1.hd:Nat)))),(16,.c (.d (.int .i64 (i:Nat))))],oY p lf (.cells true false 3 (zK s0.av)) s1.c.L [] (s1.qh:Nat) (s2.qt:Nat) 0 .hole⟩->K8 s κ:=by
    intro s κ hle;refine hK8 _ _ (acU (κ2:=20) hle (aae λK9 hK9=>?_))
    have k9:∀(s:az) (κ:Nat),Le (⟨prog,GG m,z.w,z.F,z.W,Tryz.f7.ntmps,λ_=>.hole,z.b⟩:Ctx) s ⟨aJ [(1,.c (.ptr 0 0)),(2,.c (.ptr 1 0)),(6,.c (.d (.sl (bD V.1)))),(7,.c (.d (.sl (bD V.2)))),(8,.c (.ptr 2 0)),(9,.c (.aE 3 0 p.ns 1)),(10,.c (.d (.int .i64 (M:Nat)))),(12,.c (.aE 4 0 p.nn 1)),(14,.c (.d (.int .i64 (s2.fr:Nat)))),(15,.c (.d (.int .i64 (s1.hd:Nat)))),(16,.c (.d (.int .i64 (i:Nat))))],oY p lf (.cells true false 3 (zK s0.av)) s2.c.L [] (s1.qh:Nat) (s2.qt:Nat) 0 .hole⟩->K9 s κ:=by
     intro s κ hle;refine hK9 _ _ (acU (κ2:=20) hle ?_);refine aae λK10 hK10=>aae λK1 hK1=>?_
     by_cases e:i=p.nn
     ·obtain⟨q1,q2,q3⟩:=hEq e;have e':((i:Int)=(p.nn:Int))=True:=eq_true (by omega);have es:sx p i=2:=by unfold sx;rw[if_neg (by omega),if_neg (by omega)]
      rw[es]at q3;have q4:=(q3.hd (by omega)).2;have q5:=q3.qt rfl;rw[hhd2.2]at q4;refine acJ @nR e' (hK1 _ _ ?_);refine abA (abX (hK _ _ ?_));refine acU (κ2:=20) (s2:=⟨aJ [(1,.c (.ptr 0 0)),(2,.c (.ptr 1 0)),(6,.c (.d (.sl (bD V.1)))),(7,.c (.d (.sl (bD V.2)))),(8,.c (.ptr 2 0)),(9,.c (.aE 3 0 p.ns 1)),(10,.c (.d (.int .i64 (M:Nat)))),(12,.c (.aE 4 0 p.nn 1)),(14,.c (.d (.int .i64 (s2.fr:Nat)))),(15,.c (.d (.int .i64 (s1.hd:Nat)))),(16,.c (.d (.int .i64 (i:Nat))))],oY p lf (.cells true false 3 (zK s0.av)) s2.c.L [] (s1.qh:Nat) (s2.qt:Nat) 0 .hole⟩) (m9 rfl 3 4 5 6 7 _ (by decide) (by simp) (by rfl) (by rfl) (by simp) (λg=>⟨true,_,by simp,(aX _ _).symm,id⟩) (λg=>by simp;exact bY _ g) (λg=>by rfl) (λg=>by simp;rfl) (by simp) (by simp[aQ])) ?_;refine adk (y:=cW [1,1,1,1,1,1,1,1,1,1,1,1,1] Tryz.f7) (by kernel_rfl) ?_;have ht:=Xi m p V lf z (M:=M) (fr:=s2.fr) (hd:=s1.hd) (qh:=s1.qh) (qt:=s2.qt) (i:=i) (L:=s2.c.L) (av:=s0.av) cL hp hg hal hV.len hl hL2 (by rw[hcL,q2,hav2];rfl);rw[q4,q5,<-hav2,<-q1,<-q2]at ht;rw[<-hav2,<-q2,q4,q5,<-q1]
      by_cases eM:M=0
      ·simp only[if_pos eM]at ht⊢;exact ht
      ·simp only[if_neg eM]at ht⊢;exact ht
     ·have hin:i<p.nn:=by omega
      have e':((i:Int)=(p.nn:Int))=False:=eq_false (by omega);have hi2:(i:Int)<(p.nn:Int):=by omega
      have hxn:=λlv=>Er p lv hp i hin
      have hz:=Ap s0.av i (-1) (by omega);have hle1:i+1<=s0.av.length:=by omega
      have hoff:=CS.NH s2.c
      have hot:s2.c.off (sx p i)<=s2.c.L.length:=by
       have:=Ky p i;obtain e|e|e:sx p i=0\/sx p i=1\/sx p i=2:=by omega
       all_goals rw[e]
       ·exact ac1 _
       ·omega
       ·omega
      have hfr:s2.fr<=3020:=by
       by_cases q:M=0
       ·rw[hI2.f0 q];omega
       ·rw[hI2.f1 q];omega
      have hhd:s1.hd<=s2.c.L.length:=by
       rw[<-hhd2.1]
       by_cases q:sx p i=0
       ·rw[hI2.h0 q];omega
       ·rw[(hI2.hd (by omega)).1];omega
      refine acJ @nR e' (hK1 _ _ ?_);refine abg (aaE (hK10 _ _ (acv hxn @aj.eq_1 ?_)));refine acv hi2 hz ?_;refine acU (κ2:=20) (s2:=⟨aJ [(1,.c (.ptr 0 0)),(2,.c (.ptr 1 0)),(6,.c (.d (.sl (bD V.1)))),(7,.c (.d (.sl (bD V.2)))),(8,.c (.ptr 2 0)),(9,.c (.aE 3 0 p.ns 1)),(10,.c (.d (.int .i64 (M:Nat)))),(12,.c (.aE 4 0 p.nn 1)),(14,.c (.d (.int .i64 (s2.fr:Nat)))),(15,.c (.d (.int .i64 (s1.hd:Nat)))),(16,.c (.d (.int .i64 (i:Nat)))),(17,.c (.ptr 7 0))],oY p lf (.cells true false 3 (zK (s0.av.set i (-1)))) s2.c.L [] (s1.qh:Nat) (s2.qt:Nat) 0 (bX (p.nd i))⟩) (m9 rfl 3 4 5 6 20 _ (by decide) (by simp) (by rfl) (by rfl) (by simp) (λg=>⟨true,_,by simp,(aX _ _).symm,id⟩) (λg=>by simp;exact bY _ g) (λg=>by rfl) (λg=>⟨true,_,by rfl,rfl,id⟩) (by simp) (by simp[aQ])) ?_;refine adk (y:=cW [1,1,1,1,1,1,1,1,1,1,1,1,0,1,2,3,1,0,2,1,1,1,1,1,1,1] Tryz.f7) (by kernel_rfl) (XY m p V lf z hg hin hal hV.len hlfl hlb hL2 hfr hhd (Ky p i) hI2.ci.up ?_ ?_ ?_)
      ·intro h2 h0;refine hI2.f1 λhM0=>?_;have ha:=(jh hg hin).2.1 h2;have:=(hl.iff (a:=(p.nd i).a.toNat) (by omega)).1 h0;exact yL this (by omega)
      ·intro hv mm;rw[<-hhd2.1];exact Vp hg hV hl hMe hin hv hI2 mm
      ·intro c' av' e1' e2' s κ hle
       have hN':rs p V lf M (i+1)=⟨c',av',s2.fr,s1.hd,s1.qh,s2.qt⟩:=by
        rw[hN,<-hhd2.1,<-hhd2.2,<-e1',<-e2',<-hav2];rfl
       refine hK5 _ _ (acU (κ2:=20) hle ?_);refine aaJ ?_;simp[hwi];refine⟨i+1,?_,by omega,by omega⟩;rw[hN'];exact(m9 rfl 3 4 5 6 7 _ (by decide) (by simp) (by rfl) (by rfl) (by simp) (λg=>⟨true,_,by simp,(aX _ _).symm,id⟩) (λg=>by simp;exact bY _ g) (λg=>by rfl) (λg=>by simp;rfl) (by simp) (by simp[aQ]))
    refine adk (y:=cW [1,1,1,1,1,1,1,1,1,1,1,1,0,1,2,3,1,0,2,1,1,1,0] Tryz.f7) (by kernel_rfl) (rg4 m p V lf z (by omega) hL1 hStl hSe (λq e=>hne1 q (by omega)) hM hsn' (λe eM s κ hle=>k9 _ _ ?_) λe s κ hle=>k9 _ _ ?_)
    ·rw[L2y e,show s2.fr=s1.c.L.length by rw[x2y e];exact if_neg eM];exact hle
    ·by_cases e2':i=p.tail.toNat
     ·have eM:M=0:=e.resolve_left (λq=>q e2');rw[L2y e2',hS0 eM,adv,show s2.fr=s1.fr by rw[x2y e2'];exact if_pos eM];exact hle
     ·have q:=x2n e2';rw[show s2.fr=s1.fr by rw[q],show s2.c=s1.c by rw[q]];exact hle
   refine adk (y:=cW [1,1,1,1,1,1,1,1,1,1,1,1,0,1,2,3,1,0,2,1,1,0] Tryz.f7) (by kernel_rfl) (rg3 m p V lf z (by omega) hL1 (λe s κ hle=>k8 _ _ ?_) λe s κ hle=>k8 _ _ ?_)
   ·rw[show s2.qt=s1.c.L.length by rw[x2y e]];exact hle
   ·rw[show s2.qt=s0.qt by rw[x2n e,hqt1]];exact hle
  refine adk (y:=cW [1,1,1,1,1,1,1,1,1,1,1,1,0,1,2,3,1,0,2,1,0] Tryz.f7) (by kernel_rfl) (rg2 m p V lf z (by omega) (by omega) hStl hSe (λq e=>hne0 q (by omega)) hM hsn' (λe eM s κ hle=>k7 _ _ ?_) λe s κ hle=>k7 _ _ ?_)
  ·rw[L1y e,show s1.fr=s0.c.L.length by rw[x1y e];exact if_neg eM];exact hle
  ·by_cases e2':i=p.head.toNat
   ·have eM:M=0:=e.resolve_left (λq=>q e2');rw[L1y e2',hS0 eM,adv,show s1.fr=s0.fr by rw[x1y e2'];exact if_pos eM];exact hle
   ·have q:=x1n e2';rw[show s1.fr=s0.fr by rw[q],show s1.c=s0.c by rw[q]];exact hle
 refine adk (y:=cW [1,1,1,1,1,1,1,1,1,1,1,1,0,1,2,3,1,0,2,0] Tryz.f7) (by kernel_rfl) (rg1 m p V lf z (by omega) (by omega) (λe s κ hle=>k6 _ _ ?_) λe s κ hle=>k6 _ _ ?_)
 ·rw[show s1.hd=s0.c.L.length by rw[x1y e],show s1.qh=s0.c.L.length by rw[x1y e]];exact hle
 ·rw[show s1.hd=s0.hd by rw[x1n e],show s1.qh=s0.qh by rw[x1n e]];exact hle
theorem zH(G:List (List DV))(p q:PD)(hp:p.ok)(hq:q.ok):aa prog G 8 [p.A,q.A] (.c (.d (.bool (ji p q)))):=by
 refine aD.kK 0 (by simp) (λV v h=>PD.WC h) λhr=>?_;obtain⟨hr0,hr2,hr3,hr6⟩:=hr;have lp0:∀(lv:Key->LB) (o:Option (List (List DV))),dm prog 22 lv (pV o)=some (.c (.d (.int .i64 (sO o).length)),[],[],True):=λlv o=>cE (by simp)
 have lp2:∀(lv:Key->LB) (o:Option (List (List DV))),dm prog 23 lv (pV o)=some (.c (.d (.int .i64 (sO o).length)),[],[],True):=λlv o=>cE (by simp)
 have lp3:∀(lv:Key->LB) (o:Option (List (List DV))),dm prog 24 lv (pV o)=some (.c (.d (.int .i64 (sO o).length)),[],[],True):=λlv o=>cE (by simp)
 have lp6:∀(lv:Key->LB) (o:Option (List (List DV))),dm prog 25 lv (pV o)=some (.c (.d (.int .i64 (sO o).length)),[],[],True):=λlv o=>cE (by simp)
 refine aa.en func8 rfl λ_=>aar ?_;refine aae λK hK=>aae λK1 hK1=>?_
 by_cases h1:p.mode=q.mode
 rotate_left
 ·refine acC h1 (hK1 _ _ ?_);refine abA (aar ?_);exact aaV (aq.rt rfl 4 (by simp[ji,h1]))
 by_cases h2:p.head=q.head
 rotate_left
 ·refine acJ h1 h2 (hK1 _ _ ?_);refine abA (aar ?_);exact aaV (aq.rt rfl 4 (by simp[ji,h2]))
 by_cases h3:p.tail=q.tail
 rotate_left
 ·refine acZ h1 h2 h3 (hK1 _ _ ?_);refine abA (aar ?_);exact aaV (aq.rt rfl 4 (by simp[ji,h3]))
 by_cases h4:p.res=q.res
 rotate_left
 ·refine acY h1 h2 h3 h4 (hK1 _ _ ?_);refine abA (aar ?_);exact aaV (aq.rt rfl 4 (by simp[ji,h4]))
 refine acY h1 h2 h3 h4 (hK1 _ _ ?_);refine abg (aaE (hK _ _ (aae λK hK=>aae λK1 hK1=>?_)))
 by_cases l1:(sO p.f).length=(sO q.f).length
 rotate_left
 ·have L1:¬((sO p.f).length:Int)=((sO q.f).length:Int):=by omega
  refine aaJ ?_;simp[lp0,L1];apply hK1;refine abA (aar ?_);have:=oX l1;exact aaV (aq.rt rfl 4 (by simp[ji,this]))
 by_cases l2:(sO p.ins).length=(sO q.ins).length
 rotate_left
 ·have L2:¬((sO p.ins).length:Int)=((sO q.ins).length:Int):=by omega
  refine aaJ ?_;simp[lp0,lp2,l1,L2];apply hK1;refine abA (aar ?_);have:=oX l2;exact aaV (aq.rt rfl 4 (by simp[ji,this]))
 by_cases l3:(sO p.nodes).length=(sO q.nodes).length
 rotate_left
 ·have L3:¬((sO p.nodes).length:Int)=((sO q.nodes).length:Int):=by omega
  refine aaJ ?_;simp[lp0,lp2,lp3,l1,l2,L3];apply hK1;refine abA (aar ?_);have:=oX l3;exact aaV (aq.rt rfl 4 (by simp[ji,this]))
 by_cases l4:(sO p.states).length=(sO q.states).length
 rotate_left
 ·have L4:¬((sO p.states).length:Int)=((sO q.states).length:Int):=by omega
  refine aaJ ?_;simp[lp0,lp2,lp3,lp6,l1,l2,l3,L4];apply hK1;refine abA (aar ?_);have:=oX l4;exact aaV (aq.rt rfl 4 (by simp[ji,this]))
 refine aaJ ?_;simp[lp0,lp2,lp3,lp6,l1,l2,l3,l4];apply hK1;refine abg (aaE (hK _ _ (aae λK hK=>aar ?_)));refine abd ?_
 refine aco (λ(i:Nat)=>⟨aJ [(2,.c (.ptr 0 0)),(3,.c (.ptr 1 0)),(5,.c (.d (.int .i64 i)))],au (au (λ_=>.hole) 0 (.cells true false 27 p.cs)) 1 (.cells true false 27 q.cs)⟩) 2
  (λi=>i<=(sO p.f).length/\∀j (hj:j<i) (h1:j<(sO p.f).length) (h2:j<(sO q.f).length),um (sO p.f)[j] (sO q.f)[j]=true)
  (λi=>(sO p.f).length-i) 0 (Le.mk' _ (by simp_all) (by simp) (by simp)) (by simp) ?_
 rintro i ⟨hi,hall⟩;refine aae λK3 hK3=>acf lp0 ?_
 by_cases hi2:i<(sO p.f).length
 ·have hi3:i<(sO q.f).length:=by omega
  have he:=hp.f _ (aZ hi2);have he':=hq.f _ (aZ hi3);have hx:∀lv:Key->LB,ak prog 22 lv (pV p.f) (.c (.d (.int .i64 (i:Int))))=some (.c (.d (.ptr (sO p.f)[i])),[],[],True):=λlv=>jZ (sz:=2) (by simp) hi2 (oo he)
  have hy:∀lv:Key->LB,ak prog 22 lv (pV q.f) (.c (.d (.int .i64 (i:Int))))=some (.c (.d (.ptr (sO q.f)[i])),[],[],True):=λlv=>jZ (sz:=2) (by simp) hi3 (oo he')
  have l1:∀lv:Key->LB,bh prog 60 lv (.c (.d (.ptr (sO p.f)[i])))=some (.agg ((sO p.f)[i].map .d),[],[],True):=λlv=>X9 he
  have l2:∀lv:Key->LB,bh prog 60 lv (.c (.d (.ptr (sO q.f)[i])))=some (.agg ((sO q.f)[i].map .d),[],[],True):=λlv=>X9 he'
  have b1:bh prog 22 (au (au (λ_=>.hole) 0 (.cells true false 27 p.cs)) 1 (.cells true false 27 q.cs)) (.c (.ptr 0 0))=some (pV p.f,[],[0],True):=by simp
  have b2:bh prog 22 (au (au (λ_=>.hole) 0 (.cells true false 27 p.cs)) 1 (.cells true false 27 q.cs)) (.c (.ptr 1 0))=some (pV q.f,[],[1],True):=by simp
  have hnb:=nb (T:=60) (by kernel_rfl) ⟨_,rfl⟩ (Yj he he');simp only[PD.cs]at b1 b2;refine abz (by simp_all) (aaE (hK3 _ _ (aae λK5 hK5=>abd (aae λK6 hK6=>?_))));refine acV mixed (by kernel_rfl) rfl rfl ?_;simp[hx,hy,l1,l2,b1,b2,hnb,-bh];apply hK6
  by_cases hq:um (sO p.f)[i] (sO q.f)[i]=true
  ·refine abD (by simp_all) (aaE (hK5 _ _ ?_));have e3:=bE (n:=(i:Int)+1) (by omega) (by omega);refine aaJ ?_;simp[e3];refine⟨i+1,Le.mk' _ (by simp) (by simp) (by simp),⟨by omega,?_⟩,by omega⟩
   grind
  ·have hq':um (sO p.f)[i] (sO q.f)[i]=false:=by simpa using hq
   refine abz (by simp_all) (aar ?_);have:=rB hi2 hi3 hq';exact aaV (aq.rt rfl 4 (by simp[ji,this]))
 refine abD (by simp_all) (abX (hK _ _ ?_));have f1:=oF.2 ⟨l1,λj hj=>hall j (by omega) hj (by omega)⟩;clear hall hi2 hi;refine aae λK hK=>aar ?_;refine abd ?_
 refine aco (λ(i:Nat)=>⟨aJ [(2,.c (.ptr 0 0)),(3,.c (.ptr 1 0)),(6,.c (.d (.int .i64 i)))],au (au (λ_=>.hole) 0 (.cells true false 27 p.cs)) 1 (.cells true false 27 q.cs)⟩) 2
  (λi=>i<=(sO p.ins).length/\∀j (hj:j<i) (h1:j<(sO p.ins).length) (h2:j<(sO q.ins).length),um (sO p.ins)[j] (sO q.ins)[j]=true)
  (λi=>(sO p.ins).length-i) 0 (Le.mk' _ (by rfl) (by simp) (by simp)) (by simp) ?_
 rintro i ⟨hi,hall⟩;refine aae λK3 hK3=>acf lp2 ?_
 by_cases hi2:i<(sO p.ins).length
 ·have hi3:i<(sO q.ins).length:=by omega
  have he:=hp.ins _ (aZ hi2);have he':=hq.ins _ (aZ hi3);have hx:∀lv:Key->LB,ak prog 23 lv (pV p.ins) (.c (.d (.int .i64 (i:Int))))=some (.c (.d (.ptr (sO p.ins)[i])),[],[],True):=λlv=>jZ (sz:=3) (by simp) hi2 (vq he)
  have hy:∀lv:Key->LB,ak prog 23 lv (pV q.ins) (.c (.d (.int .i64 (i:Int))))=some (.c (.d (.ptr (sO q.ins)[i])),[],[],True):=λlv=>jZ (sz:=3) (by simp) hi3 (vq he')
  have l1:∀lv:Key->LB,bh prog 38 lv (.c (.d (.ptr (sO p.ins)[i])))=some (.agg ((sO p.ins)[i].map .d),[],[],True):=λlv=>Xr he
  have l2:∀lv:Key->LB,bh prog 38 lv (.c (.d (.ptr (sO q.ins)[i])))=some (.agg ((sO q.ins)[i].map .d),[],[],True):=λlv=>Xr he'
  have b1:bh prog 23 (au (au (λ_=>.hole) 0 (.cells true false 27 p.cs)) 1 (.cells true false 27 q.cs)) (.c (.ptr 0 2))=some (pV p.ins,[],[0],True):=by simp
  have b2:bh prog 23 (au (au (λ_=>.hole) 0 (.cells true false 27 p.cs)) 1 (.cells true false 27 q.cs)) (.c (.ptr 1 2))=some (pV q.ins,[],[1],True):=by simp
  have hnb:=nb (T:=38) (by kernel_rfl) ⟨_,rfl⟩ (Yv he he');simp only[PD.cs]at b1 b2;refine abz (by simp_all) (aaE (hK3 _ _ (aae λK5 hK5=>abd (aae λK6 hK6=>?_))));refine acV mixed (by kernel_rfl) rfl rfl ?_;simp[hx,hy,l1,l2,b1,b2,hnb,-bh];apply hK6
  by_cases hq:um (sO p.ins)[i] (sO q.ins)[i]=true
  ·refine abD (by simp_all) (aaE (hK5 _ _ ?_));have e3:=bE (n:=(i:Int)+1) (by omega) (by omega);refine aaJ ?_;simp[e3];refine⟨i+1,Le.mk' _ (by simp) (by simp) (by simp),⟨by omega,?_⟩,by omega⟩
   grind
  ·have hq':um (sO p.ins)[i] (sO q.ins)[i]=false:=by simpa using hq
   refine abz (by simp_all) (aar ?_);have:=rB hi2 hi3 hq';exact aaV (aq.rt rfl 4 (by simp[ji,this]))
 refine abD (by simp_all) (abX (hK _ _ ?_));have f2:=oF.2 ⟨l2,λj hj=>hall j (by omega) hj (by omega)⟩;clear hall hi2 hi;refine aae λK hK=>aar ?_;refine abd ?_
 refine aco (λ(i:Nat)=>⟨aJ [(2,.c (.ptr 0 0)),(3,.c (.ptr 1 0)),(7,.c (.d (.int .i64 i)))],au (au (λ_=>.hole) 0 (.cells true false 27 p.cs)) 1 (.cells true false 27 q.cs)⟩) 2
  (λi=>i<=(sO p.nodes).length/\∀j (hj:j<i) (h1:j<(sO p.nodes).length) (h2:j<(sO q.nodes).length),um (sO p.nodes)[j] (sO q.nodes)[j]=true)
  (λi=>(sO p.nodes).length-i) 0 (Le.mk' _ (by rfl) (by simp) (by simp)) (by simp) ?_
 rintro i ⟨hi,hall⟩;refine aae λK3 hK3=>acf lp3 ?_
 by_cases hi2:i<(sO p.nodes).length
 ·have hi3:i<(sO q.nodes).length:=by omega
  have he:=hp.nodes _ (aZ hi2);have he':=hq.nodes _ (aZ hi3);have hx:∀lv:Key->LB,ak prog 24 lv (pV p.nodes) (.c (.d (.int .i64 (i:Int))))=some (.c (.d (.ptr (sO p.nodes)[i])),[],[],True):=λlv=>jZ (sz:=7) (by simp) hi2 (KN he)
  have hy:∀lv:Key->LB,ak prog 24 lv (pV q.nodes) (.c (.d (.int .i64 (i:Int))))=some (.c (.d (.ptr (sO q.nodes)[i])),[],[],True):=λlv=>jZ (sz:=7) (by simp) hi3 (KN he')
  have l1:∀lv:Key->LB,bh prog 40 lv (.c (.d (.ptr (sO p.nodes)[i])))=some (.agg ((sO p.nodes)[i].map .d),[],[],True):=λlv=>XC he
  have l2:∀lv:Key->LB,bh prog 40 lv (.c (.d (.ptr (sO q.nodes)[i])))=some (.agg ((sO q.nodes)[i].map .d),[],[],True):=λlv=>XC he'
  have b1:bh prog 24 (au (au (λ_=>.hole) 0 (.cells true false 27 p.cs)) 1 (.cells true false 27 q.cs)) (.c (.ptr 0 3))=some (pV p.nodes,[],[0],True):=by simp
  have b2:bh prog 24 (au (au (λ_=>.hole) 0 (.cells true false 27 p.cs)) 1 (.cells true false 27 q.cs)) (.c (.ptr 1 3))=some (pV q.nodes,[],[1],True):=by simp
  have hnb:=nb (T:=40) (by kernel_rfl) ⟨_,rfl⟩ (TI he he');simp only[PD.cs]at b1 b2;refine abz (by simp_all) (aaE (hK3 _ _ (aae λK5 hK5=>abd (aae λK6 hK6=>?_))));refine acV mixed (by kernel_rfl) rfl rfl ?_;simp[hx,hy,l1,l2,b1,b2,hnb,-bh];apply hK6
  by_cases hq:um (sO p.nodes)[i] (sO q.nodes)[i]=true
  ·refine abD (by simp_all) (aaE (hK5 _ _ ?_));have e3:=bE (n:=(i:Int)+1) (by omega) (by omega);refine aaJ ?_;simp[e3];refine⟨i+1,Le.mk' _ (by simp) (by simp) (by simp),⟨by omega,?_⟩,by omega⟩
   grind
  ·have hq':um (sO p.nodes)[i] (sO q.nodes)[i]=false:=by simpa using hq
   refine abz (by simp_all) (aar ?_);have:=rB hi2 hi3 hq';exact aaV (aq.rt rfl 4 (by simp[ji,this]))
 refine abD (by simp_all) (abX (hK _ _ ?_));have f3:=oF.2 ⟨l3,λj hj=>hall j (by omega) hj (by omega)⟩;clear hall hi2 hi;refine aae λK hK=>aar ?_;refine abd ?_
 refine aco (λ(i:Nat)=>⟨aJ [(2,.c (.ptr 0 0)),(3,.c (.ptr 1 0)),(8,.c (.d (.int .i64 i)))],au (au (λ_=>.hole) 0 (.cells true false 27 p.cs)) 1 (.cells true false 27 q.cs)⟩) 2
  (λi=>i<=(sO p.states).length/\∀j (hj:j<i) (h1:j<(sO p.states).length) (h2:j<(sO q.states).length),um (sO p.states)[j] (sO q.states)[j]=true)
  (λi=>(sO p.states).length-i) 0 (Le.mk' _ (by rfl) (by simp) (by simp)) (by simp) ?_
 rintro i ⟨hi,hall⟩;refine aae λK3 hK3=>acf lp6 ?_
 by_cases hi2:i<(sO p.states).length
 ·have hi3:i<(sO q.states).length:=by omega
  have he:=hp.states _ (aZ hi2);have he':=hq.states _ (aZ hi3);have hx:∀lv:Key->LB,ak prog 25 lv (pV p.states) (.c (.d (.int .i64 (i:Int))))=some (.c (.d (.ptr (sO p.states)[i])),[],[],True):=λlv=>jZ (sz:=2) (by simp) hi2 (oo he)
  have hy:∀lv:Key->LB,ak prog 25 lv (pV q.states) (.c (.d (.int .i64 (i:Int))))=some (.c (.d (.ptr (sO q.states)[i])),[],[],True):=λlv=>jZ (sz:=2) (by simp) hi3 (oo he')
  have l1:∀lv:Key->LB,bh prog 44 lv (.c (.d (.ptr (sO p.states)[i])))=some (.agg ((sO p.states)[i].map .d),[],[],True):=λlv=>WU he
  have l2:∀lv:Key->LB,bh prog 44 lv (.c (.d (.ptr (sO q.states)[i])))=some (.agg ((sO q.states)[i].map .d),[],[],True):=λlv=>WU he'
  have b1:bh prog 25 (au (au (λ_=>.hole) 0 (.cells true false 27 p.cs)) 1 (.cells true false 27 q.cs)) (.c (.ptr 0 6))=some (pV p.states,[],[0],True):=by simp
  have b2:bh prog 25 (au (au (λ_=>.hole) 0 (.cells true false 27 p.cs)) 1 (.cells true false 27 q.cs)) (.c (.ptr 1 6))=some (pV q.states,[],[1],True):=by simp
  have hnb:=nb (T:=44) (by kernel_rfl) ⟨_,rfl⟩ (X0 he he');simp only[PD.cs]at b1 b2;refine abz (by simp_all) (aaE (hK3 _ _ (aae λK5 hK5=>abd (aae λK6 hK6=>?_))));refine acV mixed (by kernel_rfl) rfl rfl ?_;simp[hx,hy,l1,l2,b1,b2,hnb,-bh];apply hK6
  by_cases hq:um (sO p.states)[i] (sO q.states)[i]=true
  ·refine abD (by simp[hq]<;>omega) (aaE (hK5 _ _ ?_));have e3:=bE (n:=(i:Int)+1) (by omega) (by omega);refine aaJ ?_;simp[e3];refine⟨i+1,Le.mk' _ (by simp) (by simp) (by simp),⟨by omega,?_⟩,by omega⟩
   grind
  ·have hq':um (sO p.states)[i] (sO q.states)[i]=false:=by simpa using hq
   refine abz (by simp[hq']<;>omega) (aar ?_);have:=rB hi2 hi3 hq';exact aaV (aq.rt rfl 4 (by simp[ji,this]))
 refine abD (by simp_all) (abX (hK _ _ ?_));have f4:=oF.2 ⟨l4,λj hj=>hall j (by omega) hj (by omega)⟩;clear hall hi2 hi;refine aar ?_;exact aaV (aq.rt rfl 4 (by simp[ji,h1,h2,h3,h4,f1,f2,f3,f4]))
theorem Nt:nL.ok:=⟨λ_ h=>(by cases h),λ_ h=>(by cases h),λ_ h=>(by cases h),λ_ h=>(by cases h)⟩
theorem Nb{p:PD}(hg:p.good){V:NS}(hV:mW p V)(hb:(gk p V).L.length<=64)(m:Int):aa prog (GG m) 8 [(kC p V).A,(yP p V).A] (.c (.d (.bool true))):=by
 have ho:=(Sk hg hV hb).ok
 have e1:(kC p V).head=(yP p V).head:=by
  rw[Dn hg hV];unfold yP;simp only
 have e2:(kC p V).tail=(yP p V).tail:=by
  rw[DA hg hV];unfold yP;simp only
 have e3:(yP p V).states=(kC p V).states:=(qG hV).symm;have h2:(yP p V).ok:=⟨ho.f,ho.ins,ho.nodes,by rw[e3];exact ho.states⟩
 have:=zH (GG m) _ _ ho h2;rw[show ji (kC p V) (yP p V)=ji (kC p V) (kC p V) by unfold ji;rw[<-e1,<-e2,e3];rfl,A4 ho]at this;omega
theorem Bv(m:Int)(p:PD)(hp:p.ok):aa prog (GG m) 3 [p.A] (.c (.d (.bool true))):=by
 have hgr:=NY (GG m) p hp;have hsh:=OH m
 cases hgb:qq p with
 |true=>
  rw[hgb]at hgr;refine aa.en func3 rfl λ_=>aar ?_;refine aae λK hK=>acF 1 hgr ?_;refine abA (acF 1 hsh ?_);exact aaV (aq.rt (t:=2) rfl 9 (by simp))
 |false=>
 rw[hgb]at hgr
 have all:∀(q t:PD) (o:Option (List Int)) (e:Int),(zL o).length<=1000->aa prog (GG m) 6 [p.A] (.tup [q.A,.c (zC o),.c (.d (.int .i64 e))])->aa prog (GG m) 7 [p.A] (.tup [t.A,.c (zC o),.c (.d (.int .i64 e))])->aa prog (GG m) 8 [q.A,t.A] (.c (.d (.bool true)))->aa prog (GG m) 3 [p.A] (.c (.d (.bool true))):=by
  intro q t o e hlen c1 c2 c3;have c4:=SC (GG m) o o rfl hlen;have f1:=nq o;have p1:=qX o;generalize zC o=w at*
  refine aa.en func3 rfl λ_=>aar ?_;refine aae λK hK=>acF 1 hgr ?_;refine abg (aaE (hK _ _ (abU λK hK=>?_)));simp;refine ag.pure 1 9 c1 (by simp;exact p1) (by simp) (by rfl) ?_;simp[aj];apply hK;refine abU λK hK=>?_;simp;refine ag.pure 2 9 c2 (by simp;exact p1) (by simp) (by rfl) ?_;simp[aj];apply hK;refine abU λK hK=>?_;simp;refine ag.p 3 9 c3 ?_;simp;refine ag.pure 3 9 c4 (by simp) (by simp[p1]) (by rfl) ?_;simp;refine ag.p 3 9 hsh ?_;simp;apply hK;exact aaV (aq.rt (t:=2) rfl 9 (by simp))
 have h00:aa prog (GG m) 8 [nL.A,nL.A] (.c (.d (.bool true))):=by
  have:=zH (GG m) nL nL Nt Nt;rwa[A4 Nt]at this
 by_cases h0:(gj p).2.2=0
 rotate_left
 ·exact all nL nL none _ (by simp[zL]) (LP m p hp h0) (F7 m p hp h0) h00
 have hg:=u7 hp h0;have hV:=vo (ry hg);have hc1:=OB m p hp h0;have hc2:=HR m p hp h0
 by_cases hbig:64<(gk p (cF p)).L.length
 ·rw[show Rr p (cF p)=.tup [nL.A,.c (.d .nilsl),.c (.d (.int .i64 3))] from if_pos hbig]at hc1;rw[show Jz p (cF p)=.tup [nL.A,.c (.d .nilsl),.c (.d (.int .i64 3))] from if_pos hbig]at hc2;exact all nL nL none 3 (by simp[zL]) hc1 hc2 h00
 rw[show Rr p (cF p)=.tup [(kC p (cF p)).A,.c (zC (some (kD p (cF p)))),.c (.d (.int .i64 0))] from if_neg hbig]at hc1;rw[show Jz p (cF p)=.tup [(yP p (cF p)).A,.c (zC (some (kD p (cF p)))),.c (.d (.int .i64 0))] from if_neg hbig]at hc2;have hav:(kD p (cF p)).length=p.nn:=(TM hg hV).len;have hnn:=(eW.1 hg.gen).1.2.2.1;exact all _ _ (some (kD p (cF p))) 0 (by show(kD p (cF p)).length<=_;omega) hc1 hc2 (Nb hg hV (by omega) m)
end Go.Am
