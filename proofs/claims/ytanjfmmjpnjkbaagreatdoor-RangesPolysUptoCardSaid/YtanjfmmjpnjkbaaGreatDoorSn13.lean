/- Helpers: an abstract machine for Go functions, and walks of functions of the program. -/
import Derived.Test.YtanjfmmjpnjkbaaGreatDoorSn12

set_option linter.all false
set_option maxHeartbeats 8000000
set_option maxRecDepth 100000
namespace Go.Am
open Go.Am.Ty Go.Proofs N
variable {n i k x:Nat}{lv:Key->LB}{c c0:Ctx}{r:Option Nat}{fid:FuncId}{K:AV->List (Key×LB)->List Key->Nat->Prop}{a X:AV}{ops:Array Oper}{o:Oper}{s s1:aB}{Q:Ex->aB->Nat->Prop}{cs:List CV}{l:List Tm}
def qF(f:Sq):Nat->LB
 |0=>.hole
 |n+1=>.cells true true 27 (qK f (n+1))
theorem LC(f:Sq)(h:n≠0):AV.c (bV (Nc ((List.range n).map f)))=jD ((List.range n).map f):=by
 unfold Nc;rw[if_neg (by simp[h])];rfl
theorem ag.atQ(κ':Nat)(kb:Key)(f:Sq)(N:Nat)(ha:a.pure=true)(hc:aa c0.P c0.G fid [a,.c (bV (Nc ((List.range N).map f)))] X)(hX:X.pure=true)(hN:N<=1000000000000)
 (hk:lv kb=qB f N) (hh:lv 9=.hole) (hkb:(9:Key)≠kb) (hK:∀GC rds,bg lv GC=az lv kb (qF f N)->K X GC rds κ'):ag c0 fid [a,qS kb N] lv K:=by
 cases N with
 |zero=>
  refine ag.pure κ' 9 hc hX (λb hb=>?_) hh (hK _ _ ?_)
  ·simp only[aY,cy,or_false]at hb;rcases hb with rfl|rfl
   ·exact ha
   ·rfl
  ·exact(mF hk).symm
 |succ n=>
  rw[LC f (Nat.succ_ne_zero n)]at hc
  have hd:eZ (az lv kb (.cells true true 27 (qK f (n+1)))) (.c (.aH kb 0 (n+1) 3))=some (jD ((List.range (n+1)).map f),[kb]):=by
   have:=Jv (lv:=az lv kb (.cells true true 27 (qK f (n+1)))) (k:=kb) (own:=true) (fz:=true) (T:=27) (c:=f) (M:=n+1) (aA _ _ _) (by omega);exact this
  refine ag.Ya κ' 9 kb 27 (qK f (n+1)) [9] hc hX hk hh hkb rfl (λi p q=>?_) (λb hb j hj=>?_) (by simp) (hK _ _ rfl)
  ·match i,p,q with
   |0,_,_=>exact .inl ⟨ha,rfl⟩
   |1,_,_=>exact .inr hd
  ·simp only[aY,cy,or_false]at hb;rcases hb with rfl|rfl
   ·rw[kW ha]at hj;cases hj
   ·have hj:j∈jb (az lv kb (.cells true true 27 (qK f (n+1)))) 8 (.aH kb 0 (n+1) 3):=hj;simp only[jb,aA,GY,aY,cy,or_false]at hj;exact .inr hj
theorem ag.ac9(κ':Nat)(f:Sq)(n:Nat)(ok:Bool)(ha:a.pure=true)(hc:aI c0.P c0.G fid [a] [] (.ret (.tup [qS 1000 n,Ez 1001 n,.c (.d (.bool ok))]) [] (nB2 f n)))
 (h0:lv 50=.hole) (h1:lv 51=.hole) (hh:lv 9=.hole) (hK:∀GC rds,bg lv GC=az (az lv 50 (qB f n)) 51 (RJ f n)->K (.tup [qS 50 n,Ez 51 n,.c (.d (.bool ok))]) GC rds κ'):ag c0 fid [a] lv K:=by
 have hx:∀b∈[a],b.pure=true:=λb hb=>by rw[List.mem_singleton.1 hb];exact ha
 cases n with
 |zero=>
  refine ag.Yq κ' 9 [] [] hc hx (by simp) (by simp) rfl (by simp) hh (by simp) ?_;refine hK _ _ ?_;rw[show qB f 0=.hole from rfl,show RJ f 0=.hole from rfl,mF h0,mF h1];rfl
 |succ n=>
  refine ag.Yq κ' 9 [50,51] [.cells true false 27 (qK f (n+1)),.cells true false 55 (iT f (n+1))] hc hx (by simp) (by simp) rfl (by intro k hk;simp only[aY,cy,or_false]at hk;rcases hk with rfl|rfl;exact h0;exact h1) hh (by simp) ?_
  have e:cF (aQ [] [50,51] 9) true [50,51] [.cells true false 27 (qK f (n+1)),.cells true false 55 (iT f (n+1))]=[(50,.cells true false 27 (qK f (n+1))),(51,.cells true false 55 (iT f (n+1)))]:=by
   simp[cF,LB.fix,fm,uN]
  rw[e];exact hK _ _ rfl
theorem acq(k j:Key)(n i:Nat)(x:AV):ux 0 (.tup [qS k n,Ez j i,x])=some (qS k n,[],[],True):=by cases n<;>rfl
theorem ac7(k j:Key)(n i:Nat)(x:AV):ux 1 (.tup [qS k n,Ez j i,x])=some (Ez j i,[],[],True):=by cases i<;>rfl
theorem NG{xs:List Rat}{l:List Tm}{n:Nat}(hz:∀x∈xs,br x 300)(hok:∀t∈l,GM n t):∀i,i<=l.length->br (Du xs l i) (1+5201*i)
 |0,_=>by rw[zX];exact gS _ (by decide)
 |i+1,h=>by
  rw[zn xs (show i<l.length by omega)];have h1:=NG hz hok i (by omega);have hto:=hok _ (aT (show i<l.length by omega));have hc0:br (cE (l[i]'(by omega))).1 (300+301*0):=fS _;have h2:=xq (ks:=(cE (l[i]'(by omega))).2) hz hc0;have hs:=hto.sum;exact au (o3 h1 h2) (by omega)
theorem Jm{L:Nat}:∀{l:List Rat}{m:Rat},(∀x∈l,br x L)->br m L->br (lP l m) L
 |[],_,_,h=>h
 |x::l,m,hl,h=>Jm (l:=l) (m:=iJ x m) (λy hy=>hl y (aew _ hy)) (IK (hl x (aen ..)) h)
theorem Jr{L:Nat}:∀{l:List Rat}{m:Rat},(∀x∈l,br x L)->br m L->br (lO l m) L
 |[],_,_,h=>h
 |x::l,m,hl,h=>Jr (l:=l) (m:=jz m x) (λy hy=>hl y (aew _ hy)) (JO h (hl x (aen ..)))
theorem AW.nm{x:Code}{fr:Nat->AV}{κ:Nat}(h:∀lv',lv'=lv->AW c r x ⟨fr,lv'⟩ κ Q):AW c r x ⟨fr,lv⟩ κ Q:=h _ rfl
def J7(pl:Sq)(q:Nat):Sq:=λp=>if p<q then pl p else 0
def RU(f:Nat->Nat)(N M:Nat)(pl:Sq)(q i:Nat):Sq:=λp=>if p=q then sm i (λk=>pl k*Mn f N q k)else J7 (uW f N M pl) q p
theorem NB(f:Nat->Nat)(N M:Nat)(pl:Sq)(q:Nat):RU f N M pl q 0=J7 (uW f N M pl) q:=by
 funext p;unfold RU
 by_cases h:p=q
 ·subst h;rw[if_pos rfl];exact(if_neg (Nat.lt_irrefl _)).symm
 ·rw[if_neg h]
theorem RL(f:Nat->Nat)(N M:Nat)(pl:Sq)(q:Nat):RU f N M pl q M=J7 (uW f N M pl) (q+1):=by
 funext p;unfold RU J7
 by_cases h:p=q
 ·subst h;rw[if_pos rfl,if_pos (by omega)];rfl
 ·rw[if_neg h]
  by_cases h2:p<q
  ·rw[if_pos h2,if_pos (by omega)]
  ·rw[if_neg h2,if_neg (by omega)]
theorem N4(f:Nat->Nat)(N M:Nat)(pl:Sq)(q i:Nat):(λj=>if j=q then sm i (λk=>pl k*Mn f N q k)+pl i*Mn f N q i else RU f N M pl q i j)=RU f N M pl q (i+1):=by
 funext p;unfold RU
 by_cases h:p=q
 ·subst h;rw[if_pos rfl,if_pos rfl];rfl
 ·rw[if_neg h,if_neg h,if_neg h]
theorem SV(lv:Key->LB)(y:Rat):aF Tryz.prog 55 lv (.c (.d (.ptr (jk y))))=some (cC y,[],[],True):=by
 simp[aF,jk,VU]
theorem Yn(M:Nat)(f:Sq)(h:∀k,k<M->br (f k) 10001000)(i:Nat)(hi:i<=M):br (sm i f) (1+10001001*i):=by
 induction i with
 |zero=>exact gS _ (by omega)
 |succ i ih=>exact au (o3 (ih (by omega)) (h i hi)) (by omega)
theorem W2(m:Int)(z:Ev)(f:Nat->Nat)(N M:Nat)(pl:Sq)(hN:N<=1048576)(hf:∀j,j<N->f j<=16)(hM:bH ((List.range N).map f)=M)(hM6:M<=600)(hpl:∀k,k<M->br (pl k) 10000000)
 (hs:∀i k,i<M->k<M->∀q,q<=N->br (uP q λp=>Bz (f p) (qj ((List.range N).map f) i p) (qj ((List.range N).map f) k p)) 1000) :
 AW (⟨Tryz.prog,GG m,z.w,z.F,z.W,Tryz.f21.ntmps,λ_=>.hole,z.b,z.d⟩:Ctx) none (cW [1,1,1,1,1,1,1,1,1,1] Tryz.f21)
  ⟨aU [(9,bQ f N),(10,.c (.d (.int .i64 (M:Int)))),(13,fG ((List.range M).map pl))],λ_=>.hole⟩ 20
  (gG (⟨Tryz.prog,GG m,z.w,z.F,z.W,Tryz.f21.ntmps,λ_=>.hole,z.b,z.d⟩:Ctx) Tryz.f21 (.tup [bQ f N,fG ((List.range M).map (uW f N M pl)),.c (.d (.int .i64 0))])):=by
 conv=>
  enter [3]
  whnf
 obtain⟨L,hL⟩:∃L,(List.range N).map f=L:=⟨_,rfl⟩
 have hle:=λi (hi:i<M) (j:Nat) (hj:j<N)=>(show qj L i j<=f j from by
  have h:=Cp L i (by rw[<-hL,hM];exact hi) j;have e:L.getD j 0=f j:=by rw[<-hL,adS];simp[hj]
  rw[e]at h;exact h)
 simp only[hL]at hs
 have cch:∀i,i<M->aa Tryz.prog (GG m) 61 [bQ f N,.c (.d (.int .i64 (i:Int)))] (bQ (qj L i) N):=λi hi=>by
  have h:=wA (GG m) f N i hN hf (by rw[hM];exact hi) (by omega);rw[hL]at h;exact h
 have cw:∀i k,i<M->k<M->aa Tryz.prog (GG m) 63 [bQ f N,bQ (qj L i) N,bQ (qj L k) N] (cC (Mn f N i k)):=λi k hi hk=>by
  have h:=Er m f (qj L i) (qj L k) N hN hf (hle i hi) (hle k hk) (hs i k hi hk);unfold Mn;rw[hL];exact h
 have hw:∀i k,i<M->k<M->br (Mn f N i k) 1000:=λi k hi hk=>by
  have h:=hs i k hi hk N (bh _);unfold Mn;rw[hL];exact h
 have hS:=λq (hq:q<M)=>Yn M (λk=>pl k*Mn f N q k) (λk hk=>ke (hpl k hk) (hw q k hq hk))
 have hix:=λlv {i:Nat}(hi:i<M)=>abz pl M lv hi
 have e0:=NB f N M pl;have e9:=RL f N M pl;have es:=N4 f N M pl;have eat:∀q i,RU f N M pl q i q=sm i (λk=>pl k*Mn f N q k):=λq i=>if_pos rfl
 obtain⟨W,hW⟩:∃W:Nat->Nat->Rat,∀i k,Mn f N i k=W i k:=⟨_,λ_ _=>rfl⟩
 obtain⟨P,hP⟩:∃P:DV,fG ((List.range M).map pl)=.c (.d P):=⟨_,rfl⟩
 obtain⟨A,hA⟩:∃A:DV,bQ f N=.c (.d A):=⟨_,rfl⟩
 obtain⟨X,hX⟩:∃X:Nat->DV,∀i,bQ (qj L i) N=.c (.d (X i)):=⟨_,λ_=>rfl⟩
 have hdr:∀lv:Key->LB,lv 20=(.cells true false 55 (iT (uW f N M pl) M))->dI lv (.tup [.c (.d A),.c (.aH 20 0 M 3),.c (.d (.int .i64 0))])=some (.tup [.c (.d A),fG ((List.range M).map (uW f N M pl)),.c (.d (.int .i64 0))],[]++[20]):=λlv h20=>Ua (lv:=lv) (e:=0) (ks:=[]) (by rw[<-hA];rfl) (ym h20 (by omega))
 have hpA:J7 (uW f N M pl) 0=λ_=>0:=by funext p;exact if_neg (by omega)
 have hpE:iT (J7 (uW f N M pl) M) M=iT (uW f N M pl) M:=Ca λp hp=>if_pos hp
 generalize uW f N M pl=O at *
 simp only[hW]at cw hw hS es eat;simp only[hX,hA]at cch cw;simp only[hA,hP]at hix ⊢;clear hW hX hA hP hle hf hN;refine aah ?_;rw[EE,<-hpA];refine aaa λK hK=>aah ?_;refine aaE ?_
 refine abr (λ(q:Nat)=>⟨aU [(9,.c (.d A)),(10,.c (.d (.int .i64 (M:Int)))),(13,.c (.d P)),(19,.c (.aH 20 0 M 3)),(20,.c (.d (.int .i64 (q:Int))))],
  az (λ_=>.hole) 20 (.cells true false 55 (iT (J7 O q) M))⟩) 30
  (λq=>q<=M) (λq=>M-q) 0 (Le.eY _) (aa2 _) ?_
 rintro q hq
 try simp only at hq ⊢
 by_cases hlt:q<M
 ·have hlt':(q:Int)<(M:Int):=by omega
  have cc:=cch q hlt;have f1:=bB (n:=(q:Int)+1) (by omega) (by omega);have e0:=e0 q;have e9:=e9 q;have es:=es q;have eat:=eat q;have cw:=λk (hk:k<M)=>cw q k hlt hk
  have hw:=λk (hk:k<M)=>hw q k hlt hk
  have hS:=hS q hlt;generalize RU f N M pl q=U at *
  generalize W q=W at *
  refine aaa λK2 hK2=>abf hlt' ?_;refine abl (aav (hK2 _ _ (aaa λK5 hK5=>aaE (acH 30 cc ?_))));generalize X q=Xq at *
  refine aah ?_;refine aaE ?_;rw[<-e0]
  refine abr (λ(i:Nat)=>⟨aU [(9,.c (.d A)),(10,.c (.d (.int .i64 (M:Int)))),(13,.c (.d P)),(19,.c (.aH 20 0 M 3)),(20,.c (.d (.int .i64 (q:Int)))),(21,.c (.d Xq)),(22,.c (.d (.int .i64 (i:Int))))],
   az (λ_=>.hole) 20 (.cells true false 55 (iT (U i) M))⟩) 30
   (λi=>i<=M) (λi=>M-i) 0 (Le.eY _) (aa2 _) ?_
  rintro i hi
  try simp only at hi ⊢
  by_cases hil:i<M
  ·have hil':(i:Int)<(M:Int):=by omega
   have f2:=bB (n:=(i:Int)+1) (by omega) (by omega);have hx:=λlv=>hix lv hil
   have c1:=cch i hil;have c2:=cw i hil;have c3:=j6 (GG m) (pl i) (W i) (au (hpl i hil) (by decide)) (au (hw i hil) (by decide));have z3:=ke (hpl i hil) (hw i hil);have z4:=hS i (by omega);have c4:=uk (GG m) (sm i λk=>pl k*W k) (pl i*W i) (au z4 (by omega)) (au z3 (by decide));have es:=es i;have eat:=eat i;generalize X i=Xi at *
   generalize sm i (λk=>pl k*W k)=S at *
   generalize pl i*W i=y at *
   generalize W i=w at *
   generalize pl i=p at *
   refine aaa λK8 hK8=>abf hil' ?_;refine abl (aav (hK8 _ _ (aaa λK11 hK11=>aaE ?_)));refine AW.nm λlv hlv=>?_;have q20:lv 20=(.cells true false 55 (iT (U i) M)):=by rw[hlv];rfl
   have q9:lv 9=.hole:=by rw[hlv];rfl
   have x1:=ixR (n:=M) (i:=q) q20;rw[eq_true hlt]at x1;have x2:=ldR (i:=q) q20 hlt;rw[eat]at x2;have x3:=stR (i:=q) q20 hlt (S+y);rw[es]at x3;have x5:=SV lv p;refine abx mixed (by kernel_rfl) rfl ?_;simp[x1,x2,x5,hx,q20,-aF,-aK];refine ag.p 50 9 c1 ?_ (hh:=q9);simp[-aF,-aK];refine ag.p 50 9 c2 ?_ (hh:=q9);simp[-aF,-aK];refine ag.p 50 9 c3 ?_ (hh:=q9);simp[-aF,-aK];refine ag.p 50 9 c4 ?_ (hh:=q9);simp[x1,x3,q20,-aF,-aK];refine⟨by kernel_rfl,?_⟩
   repeat refine aj ?_
   apply hK11;refine aar ?_;simp[f2];rw[hlv];exact⟨i+1,Le.eY _,by omega,by omega⟩
  ·have hie:i=M:=by omega
   rw[hie,e9];refine aaa λK8 hK8=>aah ?_;refine aba (abn (hK5 _ _ (aar ?_)));simp[f1];exact⟨q+1,Le.eY _,by omega,by omega⟩
 ·have hqe:q=M:=by omega
  rw[hqe,hpE];refine aaa λK2 hK2=>aah ?_;refine aba (abn (hK _ _ (aah ?_)));exact aaH (κ:=0) (gG.Kk (κ:=0) (X:=.c (.d A)) (Y:=.c (.aH 20 0 M 3)) (Z:=.c (.d (.int .i64 0))) (ks:=[]++[20]) rfl (by simp) (by simp) (by simp) rfl rfl rfl (hdr _ rfl))
theorem Qn(r:List UInt8):cM r≠7:=by
 unfold cM dG
 (repeat' split)<;>decide
theorem Ol{s:Sp}(h:oF s.1 s.2=0\/oF s.1 s.2=7):Mi s=0:=by
 have h1:=Qn s.1;have h2:=Qn s.2;unfold oF at h;unfold Mi
 by_cases e1:cM s.1=0
 ·rw[if_pos e1];rw[if_neg (not_not_intro e1)]at h
  by_cases e2:cM s.2=0
  ·exact e2
  ·rw[if_pos e2]at h;rcases h with h|h
   ·exact h
   ·exact absurd h h2
 ·rw[if_pos e1]at h;rcases h with h|h
  ·exact absurd h e1
  ·exact absurd h h1
theorem Ys{s:Sp}(h:oF s.1 s.2≠0)(h7:oF s.1 s.2≠7):Mi s=oF s.1 s.2:=by
 unfold oF at *
 unfold Mi
 by_cases e1:cM s.1=0
 ·rw[if_pos e1];rw[if_neg (not_not_intro e1)]at h h7 ⊢
  by_cases e2:cM s.2=0
  ·rw[if_neg (not_not_intro e2)]at h h7;split at h<;>simp_all
  ·rw[if_pos e2]
 ·rw[if_neg e1,if_pos e1]
theorem Ib:∀(l:List Sp) (w:Int),w=0\/w=7->pV l w=if fE l≠0 then fE l else if w=7 then 7 else gE l
 |[],w,hw=>by
  rcases hw with rfl|rfl<;>rfl
 |s::l,w,hw=>by
  by_cases h7:oF s.1 s.2=7
  ·have hc:=Ol (.inr h7);have e1:fE (s::l)=fE l:=by rw[fE,if_neg (not_not_intro hc)]
   have e2:gE (s::l)=7:=by rw[gE,if_pos (by rw[h7];decide),h7]
   rw[pV,if_pos h7,Ib l 7 (.inr rfl),e1,e2,if_pos rfl];simp
  ·by_cases h0:oF s.1 s.2=0
   ·have hc:=Ol (.inl h0);rw[pV,if_neg h7,if_neg (not_not_intro h0),Ib l w hw,fE,if_neg (not_not_intro hc),gE,if_neg (not_not_intro h0)]
   ·have hc:=Ys h0 h7;have e1:fE (s::l)=oF s.1 s.2:=by rw[fE,if_pos (by rw[hc];exact h0),hc]
    rw[pV,if_neg h7,if_pos h0,e1,if_pos h0]
theorem WU(l:List Sp):Rq l=pV l 0:=by
 rw[Ib l 0 (.inl rfl),if_neg (show ¬(0:Int)=7 by decide)];rfl
theorem HT(G:List (List DV))(b:Option (List Sp))(hb:(bp b).length<=1048576):aa Tryz.prog G 60 [.c (bV (wh b))] (.tup [.c (bV (if pV (bp b) 0=0 then El (eD (bp b))else none)),.c (.d (.int .i64 (pV (bp b) 0)))]):=by
 have h:=KL G b hb;rw[WU]at h;exact h
theorem Wr{a:Iv}{p:Nat}(hp:p<=16)(hz:a.z):br (shr p a.1 (a.2-a.1) k) 10000:=by
 have h:=Jw (k:=k) (TL 1 (by decide)) (by decide) hp hz;rw[Rat.one_mul]at h;exact au h (by omega)
theorem Tc(m:Int)(z:Ev)(bt:Option (List Tm))(is:List Iv)(f k:Nat->Nat)(N M q i:Nat)(g:Sq)(hil:is.length=N)(hiz:∀a∈is,a.z)(hN:N<=1048576)(hq:q<M)(hM6:M<=600)(hi:i<(aV bt).length)(hto:GM N (aV bt)[i])(hg:br (g q) 5000000)
 (hQ:∀s κ,Le (⟨Tryz.prog,GG m,z.w,z.F,z.W,Tryz.f21.ntmps,λ_=>.hole,z.b,z.d⟩:Ctx) s ⟨aU [(0,.c (bV (lB bt))),(7,.c (bV (El is))),(9,bQ f N),(10,.c (.d (.int .i64 (M:Int)))),(13,.c (.aH 0 0 M 3)),(14,.c (.d (.int .i64 (q:Int)))),(15,bQ k N),(16,.c (.d (.int .i64 (i:Int))))],az (λ_=>.hole) 0 (.cells true false 55 (iT (λj=>if j=q then g q+Mm is (cE (aV bt)[i]) k N else g j) M))⟩->Q .normal s κ) :
 AW (⟨Tryz.prog,GG m,z.w,z.F,z.W,Tryz.f21.ntmps,λ_=>.hole,z.b,z.d⟩:Ctx) none (cW [1,1,1,1,1,1,1,1,1,0,1,2,3,1,0,2,1,1,2,3,1,0,2] Tryz.f21)
  ⟨aU [(0,.c (bV (lB bt))),(7,.c (bV (El is))),(9,bQ f N),(10,.c (.d (.int .i64 (M:Int)))),(13,.c (.aH 0 0 M 3)),(14,.c (.d (.int .i64 (q:Int)))),(15,bQ k N),(16,.c (.d (.int .i64 (i:Int))))],az (λ_=>.hole) 0 (.cells true false 55 (iT (g) M))⟩ 20 Q:=by
 conv=>
  enter [3]
  whnf
 have hx:=λlv=>FR lv bt hi
 have hlb:=λlv=>abM lv is
 have hxk:=λlv {j:Nat}(hj:j<N)=>Lj k N lv hj
 obtain⟨A,hA⟩:∃A:DV,bQ f N=.c (.d A):=⟨_,rfl⟩
 obtain⟨K0,hK0⟩:∃A:DV,bQ k N=.c (.d A):=⟨_,rfl⟩
 simp only[hA,hK0]at hxk hQ ⊢;clear hA hK0;generalize (aV bt)[i]=t at *
 have hlen:=hto.len;have hpos:=hto.pos;have hip:=λlv {j:Nat}(hj:j<(jx t.2).length)=>F9 lv t.2 hj
 have cp:=vW (GG m) t.1;have e2:(cE t).2=(jx t.2).map Int.toNat:=rfl;have e1:(cE t).1=cT t.1:=rfl;have hsz:=λj (hj:j<=N)=>KA is (cE t) k (by rw[e2,ab0];omega) hiz (fS t.1) hto.sum j (by omega)
 have hz0:=EU is (cE t) k;have hss:=λ{j:Nat}(h1:j<is.length) (h2:j<(cE t).2.length)=>EA is (cE t) k h1 h2
 have hs16:∀{j:Nat}(h2:j<(cE t).2.length),(cE t).2[j]<=16:=λ{j} h2=>by
  have h3:=mJ h2;have h4:=lS (cE t).2 (j+1);have h5:=hto.sum;omega
 obtain⟨V,hV⟩:∃V:Nat->Rat,∀j,Mm is (cE t) k j=V j:=⟨_,λ_=>rfl⟩
 simp only[hV]at hsz hz0 hss hQ;rw[e1]at hz0;simp only[e2]at hss hs16;rw[<-hz0]at cp;rw[hil]at hlb;refine aaF λK6 hK6=>?_;simp[hx,wo];refine ag.p 30 9 cp ?_;simp[ai]
 repeat refine aj ?_
 apply hK6;refine aaa λK6 hK6=>aah ?_;refine aaE ?_
 refine abr (λ(j:Nat)=>⟨aU [(0,.c (bV (lB bt))),(7,.c (bV (El is))),(9,.c (.d A)),(10,.c (.d (.int .i64 (M:Int)))),(13,.c (.aH 0 0 M 3)),(14,.c (.d (.int .i64 (q:Int)))),(15,.c (.d K0)),(16,.c (.d (.int .i64 (i:Int)))),(17,.c (.ptr 30 0)),(18,.c (.d (.int .i64 (j:Int))))],
  az (az (λ_=>.hole) 0 (.cells true false 55 (iT (g) M))) 30 (.cells true false 55 [.d (.int .i64 (dY (V j))),rC (dZ (V j)),rC (eL (V j))])⟩) 40
  (λj=>j<=N) (λj=>N-j) 0 (Le.eY _) (aa2 _) ?_
 rintro j hj
 try simp only at hj ⊢
 by_cases hjl:j<N
 ·have hjl':(j:Int)<(N:Int):=by omega
  have hjb:j<is.length:=by omega
  have hjp:j<(jx t.2).length:=by omega
  have hxb:=λlv=>ab1 lv is hjb
  have hxp:=λlv=>hip lv hjp
  have xk:=λlv=>hxk lv hjl
  have f1:=bB (n:=(j:Int)+1) (by omega) (by omega);have hst:=hss hjb (by rw[ab0];exact hjp);have hp16:=hs16 (j:=j) (by rw[ab0];exact hjp);rw[ab5]at hst hp16;have hp0:=hpos _ (aT hjp);have hza:=hiz _ (aT hjb);generalize (jx t.2)[j]=p at *
  obtain⟨p,rfl⟩:∃n:Nat,p=n:=⟨p.toNat,by omega⟩
  rw[aeA]at hst hp16;generalize is[j]=a at *
  have cs:=GP m a p (k j) hp16 hza;have zs:=Wr (k:=k j) hp16 hza;have cm:=j6 (GG m) (V j) (shr p a.1 (a.2-a.1) (k j)) (au (hsz j (by omega)) (by decide)) (au zs (by decide));rw[hst]at cm;generalize shr p a.1 (a.2-a.1) (k j)=y at *
  obtain⟨a1,a2⟩:=a;refine aaa λK8 hK8=>ace hlb hjl' ?_;refine abl (aav (hK8 _ _ (aaa λK11 hK11=>aaE ?_)));refine abx mixed (by kernel_rfl) rfl ?_;simp[hxb,ED,VU,hx,wo,hxp,xk];refine ag.p 50 9 cs ?_;simp[ai];refine ag.p 60 9 cm ?_;simp[ai];refine⟨by kernel_rfl,?_⟩
  repeat refine aj ?_
  apply hK11;refine aar ?_;simp[f1];exact⟨j+1,Le.eY _ (by simp[ai]),by omega,by omega⟩
 ·have hje:j=N:=by omega
  subst hje;have ca:=uk (GG m) (g q) (V j) (au hg (by decide)) (au (hsz j (bh _)) (by decide));generalize V j=v at *
  refine aaa λK8 hK8=>abf hlb ?_;refine aba (abn (hK6 _ _ ?_));obtain⟨lv,hlv⟩:∃lv,az (az (λ_=>LB.hole) 0 (.cells true false 55 (iT (g) M))) 30 (.cells true false 55 [.d (.int .i64 (dY v)),rC (dZ v),rC (eL v)])=lv:=⟨_,rfl⟩
  have q0:lv 0=(.cells true false 55 (iT (g) M)):=by rw[<-hlv];rfl
  have q30:lv 30=.cells true false 55 [.d (.int .i64 (dY v)),rC (dZ v),rC (eL v)]:=by rw[<-hlv];rfl
  have q9:lv 9=.hole:=by rw[<-hlv];rfl
  have x1:=ixR (n:=M) (i:=q) q0;rw[eq_true hq]at x1;have x2:=ldR (i:=q) q0 hq;have x3:=stR (i:=q) q0 hq (g q+v);have x4:aF Tryz.prog 55 lv (.c (.ptr 30 0))=some (cC v,[],[30],True):=by simp[aF,q30]
  rw[hlv];refine abx mixed (by kernel_rfl) rfl ?_;simp[x1,x2,x4,q0,q30,-aF,-aK];refine ag.p 50 9 ca ?_ (hh:=q9);simp[x1,x3,q0,-aF,-aK];refine⟨by kernel_rfl,?_⟩
  repeat refine aj ?_
  rw[<-hlv]
  exact hQ _ _ (Le.keys [(0,0,(.cells true false 55 (iT (λp=>if p=q then g q+v else g p) M)))] 9 _ rfl rfl (by simp) (by simp) rfl (by
   intro e he;simp only[aY,cy,or_false]at he;subst he;exact LB.aC.2 ⟨rfl,rfl,(uN _ _ _).symm,id⟩) (by simp[b6]))
def Mg(ts:List hO)(is:List Iv)(N:Nat)(L:List Nat)(q i:Nat):Sq:=λp=>if p=q then CX ts is N (qj L q) i else J7 (λk=>CX ts is N (qj L k) ts.length) q p
theorem Oc(ts:List hO)(is:List Iv)(N:Nat)(L:List Nat)(q:Nat):Mg ts is N L q 0=J7 (λk=>CX ts is N (qj L k) ts.length) q:=by
 funext p;unfold Mg
 by_cases h:p=q
 ·subst h;rw[if_pos rfl];exact(if_neg (Nat.lt_irrefl _)).symm
 ·rw[if_neg h]
theorem RT(ts:List hO)(is:List Iv)(N:Nat)(L:List Nat)(q:Nat):Mg ts is N L q ts.length=J7 (λk=>CX ts is N (qj L k) ts.length) (q+1):=by
 funext p;unfold Mg J7
 by_cases h:p=q
 ·subst h;rw[if_pos rfl,if_pos (by omega)]
 ·rw[if_neg h]
  by_cases h2:p<q
  ·rw[if_pos h2,if_pos (by omega)]
  ·rw[if_neg h2,if_neg (by omega)]
theorem Pn(ts:List hO)(is:List Iv)(N:Nat)(L:List Nat)(q:Nat)(h:i<ts.length):(λj=>if j=q then Mg ts is N L q i q+Mm is ts[i] (qj L q) N else Mg ts is N L q i j)=Mg ts is N L q (i+1):=by
 have hs:=D5 ts is N (qj L q) h;funext p;unfold Mg
 by_cases h:p=q
 ·subst h;rw[if_pos rfl,if_pos rfl,if_pos rfl,hs]
 ·rw[if_neg h,if_neg h,if_neg h]
theorem M4(m:Int)(z:Ev)(bt:Option (List Tm))(is:List Iv)(f:Nat->Nat)(N M:Nat){R:AV}(hil:is.length=N)(hiz:∀a∈is,a.z)(hN:N<=1048576)(hf:∀j,j<N->f j<=16)(hM:bH ((List.range N).map f)=M)(hM6:M<=600)(h200:(aV bt).length<=200)(hok:∀t∈aV bt,GM N t)
 (hR:R=.tup [bQ f N,fG ((List.range M).map (uW f N M λk=>CX ((aV bt).map cE) is N (qj ((List.range N).map f) k) (aV bt).length)),.c (.d (.int .i64 0))]) :
 AW (⟨Tryz.prog,GG m,z.w,z.F,z.W,Tryz.f21.ntmps,λ_=>.hole,z.b,z.d⟩:Ctx) none (cW [1,1,1,1,1,1,1,1] Tryz.f21)
  ⟨aU [(0,.c (bV (lB bt))),(7,.c (bV (El is))),(9,bQ f N),(10,.c (.d (.int .i64 (M:Int))))],λ_=>.hole⟩ 0
  (gG (⟨Tryz.prog,GG m,z.w,z.F,z.W,Tryz.f21.ntmps,λ_=>.hole,z.b,z.d⟩:Ctx) Tryz.f21 R):=by
 conv=>
  enter [3]
  whnf
 have hlp:=λlv=>Fg lv bt
 obtain⟨ts,hts⟩:∃ts,(aV bt).map cE=ts:=⟨_,rfl⟩
 have htl:ts.length=(aV bt).length:=by rw[<-hts,ab0]
 have htg:∀{i:Nat}(h:i<(aV bt).length) (h2:i<ts.length),ts[i]=cE (aV bt)[i]:=λ{i} h h2=>by subst hts;exact ab5 _
 have htz:∀t∈ts,br t.1 300/\t.2.sum<=16/\t.2.length=N:=λt ht=>by
  rw[<-hts]at ht;obtain⟨u,hu,rfl⟩:=List.mem_map.1 ht;exact⟨fS u.1,(hok u hu).sum,by show((jx u.2).map Int.toNat).length=N;rw[ab0];exact(hok u hu).len⟩
 obtain⟨L,hL⟩:∃L,(List.range N).map f=L:=⟨_,rfl⟩
 have hgN:=λq i (hi:i<=ts.length)=>U4 ts is N (qj L q) hil hiz htz i hi
 have hdl:=λq (hq:q<M) (j:Nat) (hj:j<N)=>(show qj L q j<=f j from by
  have h:=Cp L q (by rw[<-hL,hM];exact hq) j;have e:L.getD j 0=f j:=by rw[<-hL,adS];simp[hj]
  rw[e]at h;exact h)
 have cch:=λq (hq:q<M)=>wA (GG m) f N q hN hf (by rw[hM];exact hq) (by omega)
 rw[hts,<-htl,hL]at hR;simp only[hL]at cch;rw[<-htl]at h200;obtain⟨A,hA⟩:∃A:DV,bQ f N=.c (.d A):=⟨_,rfl⟩
 rw[hA];refine aah ?_;have hpA:J7 (λk=>CX ts is N (qj L k) ts.length) 0=λ_=>0:=by funext p;exact if_neg (by omega)
 rw[EE,<-hpA];refine aaa λK hK=>aah ?_;refine aaE ?_
 refine abr (λ(q:Nat)=>⟨aU [(0,.c (bV (lB bt))),(7,.c (bV (El is))),(9,.c (.d A)),(10,.c (.d (.int .i64 (M:Int)))),(13,.c (.aH 0 0 M 3)),(14,.c (.d (.int .i64 (q:Int))))],
  az (λ_=>.hole) 0 (.cells true false 55 (iT (J7 (λk=>CX ts is N (qj L k) ts.length) q) M))⟩) 20
  (λq=>q<=M) (λq=>M-q) 0 (Le.eY _) (aa2 _) ?_
 rintro q hq
 try simp only at hq ⊢
 by_cases hlt:q<M
 ·have hlt':(q:Int)<(M:Int):=by omega
  have cc:=cch q hlt;have f1:=bB (n:=(q:Int)+1) (by omega) (by omega);have e0:=Oc ts is N L q;have e9:=RT ts is N L q;have es:=λ{i:Nat}(h:i<ts.length)=>Pn ts is N L q h
  have cc:aa Tryz.prog (GG m) 61 [bQ f N,.c (.d (.int .i64 (q:Int)))] (bQ (qj L q) N):=cc
  have hgq:∀i,i<=ts.length->br (Mg ts is N L q i q) 5000000:=λi hi=>by
   unfold Mg;rw[if_pos rfl];exact au (hgN q i hi) (by omega)
  have DC:=λ(i:Nat) (hi:i<(aV bt).length) {Q:Ex->aB->Nat->Prop}=>Tc m z bt is f (qj L q) N M q i (Mg ts is N L q i) (Q:=Q) hil hiz hN hlt hM6 hi (hok _ (aT hi)) (hgq i (by omega))
  obtain⟨K0,hK0⟩:∃K0:DV,bQ (qj L q) N=.c (.d K0):=⟨_,rfl⟩
  simp only[hA,hK0]at cc DC;refine aaa λK2 hK2=>abf hlt' ?_;refine abl (aav (hK2 _ _ (aaa λK5 hK5=>aaE (acH 30 cc ?_))));refine aah ?_;refine aaE ?_;rw[<-e0]
  refine abr (λ(i:Nat)=>⟨aU [(0,.c (bV (lB bt))),(7,.c (bV (El is))),(9,.c (.d A)),(10,.c (.d (.int .i64 (M:Int)))),(13,.c (.aH 0 0 M 3)),(14,.c (.d (.int .i64 (q:Int)))),(15,.c (.d K0)),(16,.c (.d (.int .i64 (i:Int))))],
   az (λ_=>.hole) 0 (.cells true false 55 (iT (Mg ts is N L q i) M))⟩) 30
   (λi=>i<=ts.length) (λi=>ts.length-i) 0 (Le.eY _) (aa2 _) ?_
  rintro i hi
  try simp only at hi ⊢
  by_cases hil2:i<ts.length
  ·have hi':i<(aV bt).length:=by omega
   have hil':(i:Int)<((aV bt).length:Int):=by omega
   have f2:=bB (n:=(i:Int)+1) (by omega) (by omega);have es:=es hil2;rw[htg hi' hil2]at es;refine aaa λK8 hK8=>ace hlp hil' ?_;refine abl (aav (hK8 _ _ (aaa λK11 hK11=>aaE ?_)));refine adI (y:=cW [1,1,1,1,1,1,1,1,1,0,1,2,3,1,0,2,1,1,2,3,1,0,2] Tryz.f21) (by kernel_rfl) (adE (Le.eY _) (DC i hi' λs κ hle=>?_));rw[es]at hle;apply hK11;refine adE (κ2:=40) hle ?_;refine aar ?_;simp[f2];exact⟨i+1,Le.eY _,by omega,by omega⟩
  ·have hie:i=ts.length:=by omega
   have hil':¬(i:Int)<((aV bt).length:Int):=by omega
   rw[hie,e9];rw[hie]at hil';refine aaa λK8 hK8=>ace hlp hil' ?_;refine aba (abn (hK5 _ _ (aar ?_)));simp[f1];exact⟨q+1,Le.eY _,by omega,by omega⟩
 ·have hqe:q=M:=by omega
  have hpe:iT (J7 (λk=>CX ts is N (qj L k) ts.length) q) M=iT (λk=>CX ts is N (qj L k) ts.length) M:=Ca λp hp=>if_pos (by omega)
  rw[hpe,hqe]
  have out:=W2 m z f N M (λk=>CX ts is N (qj L k) ts.length) hN hf hM hM6 (λk hk=>au (hgN k ts.length (bh _)) (by omega)) (λi k hi hk q hq=>by
   rw[hL];exact Z7 f (qj L i) (qj L k) q N hq (by rw[hM];exact hM6) hf (hdl i hi) (hdl k hk))
  rw[<-hR]at out;rw[hA]at out;refine aaa λK2 hK2=>aah ?_;refine aba (abn (hK _ _ ?_));refine AW.sink 0 13 (T:=55) (cs:=iT (λk=>CX ts is N (qj L k) ts.length) M) (y:=fG ((List.range M).map λk=>CX ts is N (qj L k) ts.length)) (by simp) (by simp;exact ym (own:=true) (fz:=true) (T:=55) (by simp) (by omega)) ?_;refine adI (y:=cW [1,1,1,1,1,1,1,1,1,1] Tryz.f21) (by kernel_rfl) (adE (Le.keys [] 9 _ rfl rfl (by simp) (by simp) rfl (by intro e he;cases he) (by simp[b6,fG])) out)
def wP(l:List Tm)(b:List Sp):AV:=if sY l b=0 then .tup [bQ (gX (l.map cE)) b.length,fG (oE (l.map cE) (eD b)),.c (.d (.int .i64 0))]else .tup [.c (.d .nilsl),.c (.d .nilsl),.c (.d (.int .i64 (sY l b)))]
def R9(ts:List hO)(j:Nat):Nat->Nat:=λp=>if p<j then gX ts p else 0
def NV(ts:List hO)(j i:Nat):Nat->Nat:=λp=>if p=j then gX (ts.take i) p else R9 ts j p
theorem O8(ts:List hO)(j:Nat):NV ts j 0=R9 ts j:=by
 funext p;unfold NV
 by_cases h:p=j
 ·subst h;rw[if_pos rfl];exact(if_neg (Nat.lt_irrefl _)).symm
 ·rw[if_neg h]
theorem TV(ts:List hO)(j:Nat):NV ts j ts.length=R9 ts (j+1):=by
 funext p;unfold NV R9
 by_cases h:p=j
 ·subst h;rw[if_pos rfl,if_pos (by omega),afs]
 ·rw[if_neg h]
  by_cases h2:p<j
  ·rw[if_pos h2,if_pos (by omega)]
  ·rw[if_neg h2,if_neg (by omega)]
theorem VQ(ts:List hO)(j i:Nat):NV ts j i j=gX (ts.take i) j:=if_pos rfl
theorem M6(ts:List hO)(j:Nat)(h:i<ts.length){v:Nat}(hv:max (gX (ts.take i) j) (ts[i].2.getD j 0)=v):(λp=>if p=j then v else NV ts j i p)=NV ts j (i+1):=by
 funext p;unfold NV
 by_cases h2:p=j
 ·subst h2;rw[if_pos rfl,if_pos rfl,<-hv,afi,fy h];exact(Ge _ _ _).symm
 ·rw[if_neg h2,if_neg h2,if_neg h2]
theorem Rs{P d M:Nat}(h:P*(d+1)=M):min (min P 601*(d+1)) 601=min M 601:=by
 by_cases h6:P<=601
 ·rw[aeM h6,h]
 ·rw[Nat.min_eq_right (by omega:601<=P),<-h];have h1:601<=601*(d+1):=ae1 _ (by omega);have h2:601<=P*(d+1):=Ju (by omega) (ae1 P (by omega));rw[Nat.min_eq_right h1,Nat.min_eq_right h2]
theorem Bl(m:Int)(bt:Option (List Tm))(b:Option (List Sp))(hl:(aV bt).length<=9223372036854775807)(hp:∀t∈aV bt,(jx t.2).length<=9223372036854775807)(hb:(bp b).length<=1048576):
 aa Tryz.prog (GG m) 21 [.c (bV (lB bt)),.c (bV (wh b))] (wP (aV bt) (bp b)):=by
 have cb:=HT (GG m) b hb;have ct:=By (GG m) bt (bp b).length hl hp;have hlb:=λlv=>S3 lv b
 by_cases h0:pV (bp b) 0=0
 rotate_left
 ·have e1:sY (aV bt) (bp b)=pV (bp b) 0:=if_pos h0;rw[show wP (aV bt) (bp b)=.tup [.c (.d .nilsl),.c (.d .nilsl),.c (.d (.int .i64 (pV (bp b) 0)))] by unfold wP;rw[e1,if_neg h0]];rw[if_neg h0]at cb;generalize pV (bp b) 0=e at *
  refine aa.ed Tryz.func21 rfl λ_=>aah ?_;refine acH 1 cb ?_;refine aaa λK hK=>aah ?_;refine abd (by simp[h0]<;>omega) (aav (hK _ _ (aaa λK hK=>aaa λK1 hK1=>aar ?_)));simp
  repeat refine aj ?_
  apply hK1;refine aaX (by simp[h0]<;>omega) (aaa λK1 hK1=>aar ?_);simp
  repeat refine aj ?_
  apply hK1;exact aaH (κ:=0) (gG.Kk (κ:=0) rfl (by simp) (by simp) (by simp) rfl rfl rfl (pP _ _))
 rw[h0,if_pos rfl]at cb
 by_cases h1:we (aV bt) (bp b).length=0
 rotate_left
 ·have e1:sY (aV bt) (bp b)=we (aV bt) (bp b).length:=by unfold sY;rw[if_neg (not_not_intro h0),if_pos h1]
  rw[show wP (aV bt) (bp b)=.tup [.c (.d .nilsl),.c (.d .nilsl),.c (.d (.int .i64 (we (aV bt) (bp b).length)))] by unfold wP;rw[e1,if_neg h1]];generalize we (aV bt) (bp b).length=e at *
  refine aa.ed Tryz.func21 rfl λ_=>aaa λK hK=>aar ?_;simp
  repeat refine aj ?_
  apply hK;refine aaa λK hK=>aar ?_;simp;refine ag.p 1 9 cb ?_;simp
  repeat refine aj ?_
  apply hK;refine aaa λK hK=>aaF λK1 hK1=>?_;simp
  repeat refine aj ?_
  apply hK1;refine abl (aar ?_);simp[hlb];refine ag.p 2 9 ct ?_;simp[hlb]
  repeat refine aj ?_
  apply hK;refine aaa λK hK=>aaF λK1 hK1=>?_;simp
  repeat refine aj ?_
  apply hK1;refine aaX (by simp[h1]<;>omega) (aaF λK1 hK1=>?_);simp
  repeat refine aj ?_
  apply hK1;exact aaH (κ:=0) (gG.Kk (κ:=0) rfl (by simp) (by simp) (by simp) rfl rfl rfl (pP _ _))
 rw[h1]at ct;obtain⟨N,hN⟩:∃N,(bp b).length=N:=⟨_,rfl⟩
 obtain⟨h200,hok⟩:=vJ h1;have hlp:=λlv=>Fg lv bt
 have hix:=λlv {i:Nat}(hi:i<(aV bt).length)=>FR lv bt hi
 have hil:(eD (bp b)).length=N:=by rw[pW,hN]
 have hiz:=PO (bp b);have hdg:=Zg hok
 have hpw:∀t∈(aV bt).map cE,∀j,t.2.getD j 0<=16:=λt ht j=>by
  obtain⟨u,hu,rfl⟩:=List.mem_map.1 ht;have hs:=(hok u hu).sum
  by_cases hj:j<(cE u).2.length
  ·rw[adS,fy hj];have h3:=mJ hj;have h4:=lS (cE u).2 (j+1);show(cE u).2[j]<=16;omega
  ·rw[adS,agn (by omega)];exact aa2 _
 rw[hN]at hb hok ct hlb h1;obtain⟨ts,hts⟩:∃ts,(aV bt).map cE=ts:=⟨_,rfl⟩
 have htl:ts.length=(aV bt).length:=by rw[<-hts,ab0]
 have htg:∀{i:Nat}(h:i<(aV bt).length) (h2:i<ts.length),ts[i]=cE (aV bt)[i]:=λ{i} h h2=>by subst hts;exact ab5 _
 have hl2:∀t∈ts,t.2.length=N:=λt ht=>by
  rw[<-hts]at ht;obtain⟨u,hu,rfl⟩:=List.mem_map.1 ht;show((jx u.2).map Int.toNat).length=N;rw[ab0];exact(hok u hu).len
 obtain⟨R,hR⟩:∃R,wP (aV bt) (bp b)=R:=⟨_,rfl⟩
 rw[hR]
 have hR1:600<xg ts N->R=.tup [.c (.d .nilsl),.c (.d .nilsl),.c (.d (.int .i64 3))]:=λh=>by
  rw[<-hR];unfold wP sY;rw[h0,if_neg (not_not_intro rfl),hts,hN,h1,if_neg (not_not_intro rfl),if_pos h];rfl
 have hR2:¬600<xg ts N->R=.tup [bQ (gX ts) N,fG (oE ts (eD (bp b))),.c (.d (.int .i64 0))]:=λh=>by
  rw[<-hR];unfold wP sY;rw[h0,if_neg (not_not_intro rfl),hts,hN,h1,if_neg (not_not_intro rfl),if_neg h];rfl
 clear hR;rw[hts]at hdg hpw;generalize eD (bp b)=is at *
 have hd0:(λ_=>0:Nat->Nat)=R9 ts 0:=by funext p;exact(if_neg (by omega)).symm
 have hN0:((N:Nat):Int)<=1048576:=by omega
 have hlen:=kK ts N;refine aa.ed Tryz.func21 rfl λ_=>aah ?_;refine acA 1 cb @ai.eq_1 ?_;refine aaa λK hK=>aah ?_;refine abl (adq 2 ct hlb (hK _ _ ?_));refine aaa λK hK=>aaa λK1 hK1=>aar ?_;simp
 repeat refine aj ?_
 apply hK1;refine aba (aav ?_);simp
 repeat refine aj ?_
 apply hK;refine aaa λK hK=>aar ?_;simp[hlb]
 repeat refine aj ?_
 apply hK;rw[Ie,hd0];refine aah ?_;refine aaa λK hK=>aah ?_;refine aaE ?_
 refine abr (λ(j:Nat)=>⟨aU [(0,.c (bV (lB bt))),(1,.c (bV (wh b))),(7,.c (bV (El is))),(9,.c (.aH 2 0 N 1)),(10,.c (.d (.int .i64 ((min (bH ((jZ ts N).take j)) 601:Nat):Int)))),(11,.c (.d (.int .i64 (j:Int))))],az (λ_=>.hole) 2 (.cells true false 3 (jK (R9 ts j) N))⟩) 20
  (λj=>j<=N) (λj=>N-j) 0 (Le.eY _ (by simp) (by simp[bH])) (aa2 _) ?_
 rintro j hj
 try simp only at hj ⊢
 by_cases hjl:j<N
 ·have hjl':(j:Int)<(N:Int):=by omega
  have f1:=bB (n:=(j:Int)+1) (by omega) (by omega);have e0:=O8 ts j;have e9:=TV ts j;have hs2:=nc (l:=jZ ts N) (i:=j) (by rw[hlen];exact hjl);rw[nt]at hs2;have hmn:=Rs hs2.symm;have hdj:=hdg j;have hat:R9 ts (j+1) j=gX ts j:=if_pos (by omega);obtain⟨mn,hmn1⟩:∃mn,min (bH ((jZ ts N).take j)) 601=mn:=⟨_,rfl⟩
  obtain⟨mn2,hmn2⟩:∃mn,min (bH ((jZ ts N).take (j+1))) 601=mn:=⟨_,rfl⟩
  rw[hmn1,hmn2]at hmn;have hm6:mn<=601:=by omega
  rw[hmn1];refine aaa λK2 hK2=>ace hlb hjl' ?_;refine abl (aav (hK2 _ _ (aaa λK5 hK5=>aaE (aaa λK6 hK6=>aah ?_))));refine aaE ?_;rw[<-e0]
  refine abr (λ(i:Nat)=>⟨aU [(0,.c (bV (lB bt))),(1,.c (bV (wh b))),(7,.c (bV (El is))),(9,.c (.aH 2 0 N 1)),(10,.c (.d (.int .i64 ((mn:Nat):Int)))),(11,.c (.d (.int .i64 (j:Int)))),(12,.c (.d (.int .i64 (i:Int))))],az (λ_=>.hole) 2 (.cells true false 3 (jK (NV ts j i) N))⟩) 20
   (λi=>i<=ts.length) (λi=>ts.length-i) 0 (Le.eY _) (aa2 _) ?_
  rintro i hi
  try simp only at hi ⊢
  by_cases hil2:i<ts.length
  ·have hi':i<(aV bt).length:=by omega
   have hil':(i:Int)<((aV bt).length:Int):=by omega
   have f2:=bB (n:=(i:Int)+1) (by omega) (by omega);have hx:=λlv=>hix lv hi'
   have hto:=hok _ (aT hi');have hst:=λ{v:Nat}=>M6 ts j hil2 (v:=v)
   have hgt:ts[i].2=(jx (aV bt)[i].2).map Int.toNat:=by rw[htg hi' hil2];rfl
   rw[hgt]at hst;generalize (aV bt)[i]=t at *
   have hplen:=hto.len;have hjp:j<(jx t.2).length:=by omega
   have hpos:=hto.pos _ (aT hjp);have hxp:=λlv=>F9 lv t.2 hjp
   have hgd:((jx t.2).map Int.toNat).getD j 0=(jx t.2)[j].toNat:=by rw[adS,aeP,fy hjp];rfl
   rw[hgd]at hst;generalize (jx t.2)[j]=k at *
   obtain⟨k,rfl⟩:∃n:Nat,k=n:=⟨k.toNat,by omega⟩
   rw[aeA]at hst;have x2:=MN (f:=NV ts j i) hjl;have hset:=λv=>G0 (NV ts j i) hjl v
   rw[VQ]at x2;obtain⟨v,hv⟩:∃v,max (gX (ts.take i) j) k=v:=⟨_,rfl⟩
   have hset:=(hset v).trans (congrArg (λg=>jK g N) (hst hv));have hmx:(if gX (ts.take i) j<k then(k:Int)else(gX (ts.take i) j:Int))=(v:Int):=by rw[<-hv];split<;>omega
   have hjN:j+1<=N:=hjl;refine aaa λK8 hK8=>ace hlp hil' ?_;refine abl (aav (hK8 _ _ (aaa λK11 hK11=>aaE ?_)));refine abx mixed (by kernel_rfl) rfl ?_;simp[hx,wo,hxp,x2,hmx,hset,zI,hjN,hjl,dF];refine⟨by kernel_rfl,?_⟩
   repeat refine aj ?_
   apply hK11;refine aar ?_;simp[f2];exact⟨i+1,Le.eY _,by omega,by omega⟩
  ·have hie:i=ts.length:=by omega
   have hil':¬(i:Int)<((aV bt).length:Int):=by omega
   rw[hie,e9];rw[hie]at hil';have x2:=MN (f:=R9 ts (j+1)) hjl;rw[hat]at x2;generalize gX ts j=d at *
   have f3:=bB (n:=(d:Int)+1) (by omega) (by omega);have hmb:mn*(d+1)<=601*17:=aeK hm6 (by omega)
   have f4:IntKind.i64.wrap ((mn:Int)*((d:Int)+1))=((mn*(d+1):Nat):Int):=by
    have e:(mn:Int)*((d:Int)+1)=((mn*(d+1):Nat):Int):=by simp
    rw[e];exact bB (by omega) (by omega)
   generalize mn*(d+1)=pr at *
   have hmi:(if (601:Int)<(pr:Int)then(601:Int)else(pr:Int))=(mn2:Int):=by rw[<-hmn];split<;>omega
   refine aaa λK8 hK8=>ace hlp hil' ?_;refine aba (abn (hK6 _ _ (aar ?_)));simp[x2,f3,f4,hmi,dF]
   repeat refine aj ?_
   apply hK5;refine aar ?_;simp[f1];subst hmn2;exact⟨j+1,Le.eY _,by omega,by omega⟩
 ·have hje:j=N:=by omega
  have hM0:bH ((jZ ts N).take j)=xg ts N:=by rw[hje,ae6 (by rw[hlen];exact bh _)];rfl
  have hdN:jK (R9 ts j) N=jK (gX ts) N:=Ci λp hp=>if_pos (by omega)
  rw[hM0,hdN,hje];refine aaa λK2 hK2=>abf hlb ?_;refine aba (abn (hK _ _ ?_))
  by_cases h6:600<xg ts N
  ·have h6':min (xg ts N) 601=601:=by omega
   rw[h6',hR1 h6];refine aaa λK hK=>aah ?_;refine abl (aah ?_);exact aaH (κ:=0) (gG.Kk (κ:=0) rfl (by simp) (by simp) (by simp) rfl rfl rfl (pP _ _))
  ·have h6':min (xg ts N) 601=xg ts N:=by omega
   have hRe:=hR2 h6;have hMe:xg ts N=bH ((List.range N).map (gX ts)):=rfl;obtain⟨M,hM⟩:∃M,xg ts N=M:=⟨_,rfl⟩
   have hMi:¬(600:Int)<(M:Int):=by omega
   have key:=λz=>M4 m z bt is (gX ts) N M (R:=R) hil hiz hb (λj _=>hdg j) (by rw[<-hMe];exact hM) (by omega) h200 hok (by
    rw[hRe];unfold oE;rw[hil,hM,hts,<-htl];congr 4;refine aes λq hq=>?_;rw[<-hM];exact(U3 ts is N hil hl2 q (by rw[hM];exact List.mem_range.1 hq)).symm)
   rw[h6',hM];refine aaa λK hK=>abf hMi ?_;refine aba (aav (hK _ _ ?_));refine AW.sink 2 9 (T:=3) (cs:=jK (gX ts) N) (y:=bQ (gX ts) N) (by simp) (by simp;exact Cu (own:=true) (fz:=true) (T:=3) (by simp) (by omega)) ?_;refine adI (y:=cW [1,1,1,1,1,1,1,1] Tryz.f21) (by kernel_rfl) (adE (Le.keys [] 9 _ rfl rfl (by simp) (by simp) rfl (by intro e he;cases he) (by simp[b6,bQ])) (key _))
def fH(n:Nat):List UInt8:=if n=0 then[48]else(aG 10 n).reverse.map λd=>UInt8.ofNat (48+d)
def YV:List UInt8->List UInt8->Bool
 |[],[]=>true
 |a::l,b::m=>Nat.beq a.toNat b.toNat&&YV l m
 |_,_=>false
theorem HG:∀{l m:List UInt8},YV l m=true->l=m
 |[],[],_=>rfl
 |a::l,b::m,h=>by
  simp only[YV,rP]at h;rw[UInt8.toNat_inj.1 (ae8 h.1),HG h.2]
 |[],_::_,h=>by cases h
 |_::_,[],h=>by cases h
noncomputable def smT(G:List (List DV)):Bool:=(List.range 100).all λi=>match Wd (RD Tryz.prog G Yk 0 40 179 [.c (.d (.int .i64 (.ofNat i)))] .leaf 0 [] Bj .uR)with
 |some (.c (.d (.str s)))=>YV s (fH i)
 |_=>false
theorem V7(m:Int):smT (GG m)=true:=by kernel_rfl
theorem Oj(m:Int)(i:Nat)(hi:i<100):aa Tryz.prog (GG m) 179 [.c (.d (.int .i64 i))] (.c (.d (.str (fH i)))):=by
 have h:=List.all_eq_true.1 (V7 m) i (List.mem_range.2 hi);split at h
 ·rename_i s hs
  have:=aa.gM (BX m 40) hs;rw[HG h]at this;exact this
 ·cases h
theorem MH(G:List (List DV))(b:Bool):aa Tryz.prog G 218 [.c (.d (.bool b))] (.c (.d (.int .i64 (if b then 1 else 0)))):=by
 cases b with
 |true=>
  refine aa.en Tryz.func218 rfl λ_=>aah ?_;refine aaa λK hK=>aah ?_;refine abl (aah ?_);exact abe (aN.rt rfl 2 (by simp))
 |false=>
  refine aa.en Tryz.func218 rfl λ_=>aah ?_;refine aaa λK hK=>aah ?_;refine aba (aav (hK _ _ (aah ?_)));exact abe (aN.rt rfl 2 (by simp))
theorem C9(G:List (List DV))(x:Nat)(hx:x<=64):aa Tryz.prog G 216 [.c (.d (.int .i64 x))] (.c (.d (.int .i64 ((x*78913/262144:Nat):Int)))):=by
 have w1:=bB (n:=(x:Int)*78913) (by omega) (by omega);have e1:Int.fdiv ((x:Int)*78913) 262144=((x*78913/262144:Nat):Int):=by rw[aeO _ (by omega)];omega
 refine aa.en Tryz.func216 rfl λ_=>aah ?_;refine aaF λK hK=>?_;simp[w1,IntKind.bits,e1,-Int.natCast_ediv]
 repeat refine aj ?_
 apply hK;exact abe (aN.rt rfl 2 (by simp))
theorem AD(G:List (List DV))(n:Nat)(hn:n<4294967296):aa Tryz.prog G 217 [.c (.d (.int .u64 n))] (.c (.d (.int .i64 (bF n)))):=by
 have h0:¬(4294967296:Int)<=n:=by omega
 have w16:IntKind.i64.wrap 16=16:=bB (by omega) (by omega);refine aa.en Tryz.func217 rfl λ_=>aah ?_;refine aaa λK hK=>abf h0 ?_;refine abd (by simp[h0]<;>omega) (aav (hK _ _ (aaa λK hK=>aah ?_)))
 have step2:∀(x m:Nat) (fr:Nat->AV) (κ:Nat),x<65536->m<=16->bF n=m+bF x->fr 0=.c (.d (.int .u64 x))->fr 2=.c (.d (.int .i64 m))->K ⟨fr,λ_=>.hole⟩ κ:=by
  intro x m fr κ hx hm hb f0 f2
  repeat refine aj ?_
  apply hK;refine aaa λK hK=>abf f0 ?_
  have step3:∀(x m:Nat) (fr:Nat->AV) (κ:Nat),x<256->m<=24->bF n=m+bF x->fr 0=.c (.d (.int .u64 x))->fr 2=.c (.d (.int .i64 m))->K ⟨fr,λ_=>.hole⟩ κ:=by
   intro x m fr κ hx hm hb f0 f2
   repeat refine aj ?_
   apply hK;refine aaa λK hK=>?_;have e1:IntKind.u8.wrap (x:Int)=x:=cj ⟨by simp only[wG];omega,by simp only[og];omega⟩
   have hbl:bF x<=8:=by
    by_cases h0:x=0
    ·subst h0;decide
    ·have:=jX h0;apply aeL;intro hc;have h9:2^8<=2^(bF x-1):=ael (by decide) (by omega);omega
   refine aar ?_;simp[f0,f2,e1];rw[ZG (x:=x) (hx:=hx)]
   ·have e2:=bB (n:=(bF x:Int)) (by omega) (by omega);have e3:=bB (n:=(m:Int)+bF x) (by omega) (by omega);rw[e2,e3]
    repeat refine aj ?_
    apply hK;exact abe (aN.rt rfl 0 (by simp[hb]))
   ·kernel_rfl
  by_cases h:256<=x
  ·refine aaX (by simp[h]<;>omega) ?_;have e1:Int.fdiv (x:Int) 256=((x/256:Nat):Int):=by rw[aeO _ (by omega)];omega
   have e2:=bB (n:=(m:Int)+8) (by omega) (by omega);refine aaF λK1 hK1=>?_;simp[f0,IntKind.bits,e1,-Int.natCast_ediv]
   repeat refine aj ?_
   apply hK1;refine aar ?_;simp[f2,e2];refine step3 (x/256) (m+8) _ _ (by omega) (by omega) ?_ (by simp) (by simp);have:=kV (n:=x) (k:=8) (by omega);rw[hb,this];simp;omega
  ·refine abd (by simp[h]<;>omega) (aav ?_);simp;exact step3 x m _ _ (by omega) (by omega) hb (by simp[f0]) (by simp[f2])
 by_cases h:65536<=n
 ·refine aaX (by simp[h]<;>omega) ?_;have e1:Int.fdiv (n:Int) 65536=((n/65536:Nat):Int):=by rw[aeO _ (by omega)];omega
  refine aaF λK1 hK1=>?_;simp[IntKind.bits,e1,-Int.natCast_ediv]
  repeat refine aj ?_
  apply hK1;refine aar ?_;simp[w16];refine step2 (n/65536) 16 _ _ (by omega) (by omega) ?_ (by simp) (by simp);have:=kV (n:=n) (k:=16) (by omega);rw[this];simp;omega
 ·refine abd (by simp[h]<;>omega) (aav ?_);simp;exact step2 n 0 _ _ (by omega) (by omega) (by simp) (by simp) (by simp)
def Ic:List DV:=[.int .u64 1,.int .u64 10,.int .u64 100,.int .u64 1000,.int .u64 10000,.int .u64 100000,.int .u64 1000000,.int .u64 10000000,.int .u64 100000000,.int .u64 1000000000,.int .u64 10000000000,.int .u64 100000000000,.int .u64 1000000000000,.int .u64 10000000000000,.int .u64 100000000000000,.int .u64 1000000000000000,.int .u64 10000000000000000,.int .u64 100000000000000000,.int .u64 1000000000000000000,.int .u64 10000000000000000000]
theorem GGp(m:Int):(GG m)[2]?=some Ic:=rfl
theorem ixP{l:Nat}(h:l<=9):∃rest,∀lv:Key->LB,aq Tryz.prog 274 lv (.c (.d (.ptr Ic))) (.c (.d (.int .i64 (l:Int))))=some (.c (.d (.ptr (.int .u64 ((10^l:Nat):Int)::rest))),[],[],True):=by
 have ha:Ag Tryz.prog 274=some (20,135,1):=by kernel_rfl
 have key:∀(l:Nat) (rest:List DV),l<20->Ic.drop l=.int .u64 ((10^l:Nat):Int)::rest->∃rest,∀lv:Key->LB,aq Tryz.prog 274 lv (.c (.d (.ptr Ic))) (.c (.d (.int .i64 (l:Int))))=some (.c (.d (.ptr (.int .u64 ((10^l:Nat):Int)::rest))),[],[],True):=by
  intro l rest g2 g3;refine⟨rest,λlv=>?_⟩;unfold aq;rw[ha];show some (AV.c (.d (.ptr (Ic.drop ((l:Int).toNat*1)))),([]:List (Key×LB)),([]:List Key),(0<=(l:Int)/\(l:Int)<((20:Nat):Int)/\(l:Int).toNat*1<=Ic.length))=_;rw[aeA,afC,g3,eq_true (show 0<=(l:Int)/\(l:Int)<((20:Nat):Int)/\l<=Ic.length from⟨by omega,by omega,by show l<=20;omega⟩)]
 have h:l=0\/l=1\/l=2\/l=3\/l=4\/l=5\/l=6\/l=7\/l=8\/l=9:=by omega
 rcases h with rfl|rfl|rfl|rfl|rfl|rfl|rfl|rfl|rfl|rfl<;>exact key _ _ (by decide) rfl
def jB(n:Nat):Nat:=(aG 10 n).length
theorem I4(h1:10^k<=n)(h2:n<10^(k+1)):jB n=k+1:=by
 have g1:=bS (B:=10) (by decide) h2;have g2:=nU (B:=10) (n:=n) (by decide);have g3:k<(aG 10 n).length:=(agz (a:=10) (by decide)).1 (ae9 h1 g2);unfold jB;omega
theorem wZ(n:Nat):n<10^jB n:=nU (by decide)
theorem l10:∀b,b<=30->1<=b->2^b<=10^(b*78913/262144+1)/\b*78913/262144<=9/\(b*78913/262144=0\/10^(b*78913/262144-1)<=2^(b-1)):=by decide
theorem E5(h0:n≠0)(hn:n<1000000000):bF n*78913/262144<=9/\jB n=bF n*78913/262144+if 10^(bF n*78913/262144)<=n then 1 else 0:=by
 have b1:1<=bF n:=by unfold bF;rw[if_neg h0];omega
 have b2:bF n<=30:=by
  have:=jX h0;apply aeL;intro hc;have h9:2^30<=2^(bF n-1):=ael (by decide) (by omega);omega
 obtain⟨g1,g2,g3⟩:=l10 (bF n) b2 b1;have g4:=Ce n;have g5:=jX h0;generalize bF n*78913/262144=l at *
 refine⟨g2,?_⟩;split
 ·rename_i h;exact I4 h (by omega)
 ·rename_i h
  have h:n<10^l:=Nat.not_le.1 h
  cases l with
  |zero=>exact absurd h (by simpa using h0)
  |succ l=>
   rcases g3 with g3|g3
   ·omega
   ·rw[aeI];exact I4 (by simp only[agj]at g3;omega) h
theorem CN(m:Int)(n:Nat)(h0:n≠0)(hn:n<1000000000):aa Tryz.prog (GG m) 180 [.c (.d (.int .u64 n))] (.c (.d (.int .i64 (jB n)))):=by
 have c1:=AD (GG m) n (by omega)
 have hb:bF n<=64:=by
  have:=jX h0;apply aeL;intro hc;have h9:2^64<=2^(bF n-1):=ael (by decide) (by omega);omega
 have c2:=C9 (GG m) (bF n) hb;obtain⟨hl,hd⟩:=E5 h0 hn;rw[hd];generalize bF n*78913/262144=l at *
 generalize bF n=b at *
 obtain⟨rest,hx⟩:=ixP hl;have hg:=GGp m;have c3:=MH (GG m) (decide (((10^l:Nat):Int)<=n));have hc:decide (((10^l:Nat):Int)<=(n:Int))=decide (10^l<=n):=decide_eq_decide.2 (by omega);rw[hc]at c3;have hv:(if decide (10^l<=n)=true then(1:Int)else 0)=((if 10^l<=n then 1 else 0:Nat):Int):=by by_cases h:10^l<=n<;>simp[h]
 rw[hv]at c3;have hu:(if 10^l<=n then 1 else 0:Nat)<=1:=by split<;>omega
 generalize (if 10^l<=n then 1 else 0:Nat)=u at *
 have w:=bB (n:=(l:Int)+u) (by omega) (by omega);rw[<-hc]at c3;generalize ((10^l:Nat):Int)=t at *
 refine aa.en Tryz.func180 rfl λ_=>aah ?_;refine aaF λK hK=>?_;simp;refine ag.p 0 9 c1 ?_;simp;refine ag.p 0 9 c2 ?_;simp
 repeat refine aj ?_
 apply hK;refine AW.c3 0 c3 hg hx w ?_;exact abe (aN.rt rfl 2 (by simp))
def dB(d:Nat):CV:=.d (.int .u8 ((48+d:Nat):Int))
@[simp]theorem aax(d:Nat):(dB d).pure=true:=rfl
def dL:Nat->Nat->List Nat
 |0,_=>[]
 |k+1,n=>dL k (n/10)++[n%10]
theorem Cw(f:List UInt8){a:Nat}(hx:x<100)(ha:a=2*x)(hf:(List.range 100).all (λi=>(f[2*i]?.getD 0).toNat == 48+i/10)=true):CV.d (.int .u8 ((f[a]?.getD 0).toNat:Int))=dB (x/10):=by
 subst ha;have:=List.all_eq_true.1 hf x (List.mem_range.2 hx);unfold dB;rw[show(f[2*x]?.getD 0).toNat=48+x/10 by simpa using this]
theorem CA(f:List UInt8){a:Nat}(hx:x<100)(ha:a=2*x+1)(hf:(List.range 100).all (λi=>(f[2*i+1]?.getD 0).toNat == 48+i%10)=true):CV.d (.int .u8 ((f[a]?.getD 0).toNat:Int))=dB (x%10):=by
 subst ha;have:=List.all_eq_true.1 hf x (List.mem_range.2 hx);unfold dB;rw[show(f[2*x+1]?.getD 0).toNat=48+x%10 by simpa using this]
theorem fb3(G:List (List DV))(n:Nat)(hn:n<1000)(c0 c1 c2:CV)(r:List CV):
 aI Tryz.prog G 181 [.c (.aH 0 0 3 1),.c (.d (.int .u64 n))] [.cells false false 234 (c0::c1::c2::r)]
  (.ret (.tup []) [.cells false false 234 ((dL 3 n).map dB++r)] []):=by
 have wl:∀k:Nat,k<1000->IntKind.i64.wrap (k:Int)=k:=λk h=>bB (by omega) (by omega)
 have wl0:IntKind.i64.wrap 0=0:=wl 0 (by decide);have wl1:IntKind.i64.wrap 1=1:=wl 1 (by decide);have wl2:IntKind.i64.wrap 2=2:=wl 2 (by decide);have wl3:IntKind.i64.wrap 3=3:=wl 3 (by decide);have wl4:IntKind.i64.wrap 4=4:=wl 4 (by decide);have wl5:IntKind.i64.wrap 5=5:=wl 5 (by decide);have wl6:IntKind.i64.wrap 6=6:=wl 6 (by decide);have wl7:IntKind.i64.wrap 7=7:=wl 7 (by decide);have wl8:IntKind.i64.wrap 8=8:=wl 8 (by decide);have w12:IntKind.u32.wrap (n:Int)=n:=bN (by omega) (by omega);obtain⟨v,hv⟩:∃q,n/100=q:=⟨_,rfl⟩
 obtain⟨p5,hp5⟩:∃q,n%100=q:=⟨_,rfl⟩
 have dv:(n:Int).tdiv 100=(v:Int):=by rw[aev (by omega)];omega
 have dp5:(n:Int).tmod 100=(p5:Int):=by rw[aep (by omega)];omega
 have ev:IntKind.u32.wrap (v:Int)=v:=bN (by omega) (by omega);obtain⟨p5a,hp5a⟩:∃a,p5*2=a:=⟨_,rfl⟩
 obtain⟨p5b,hp5b⟩:∃a,p5a+1=a:=⟨_,rfl⟩
 have p51:IntKind.u32.wrap ((p5:Int)*2)=(p5a:Int):=by rw[bN (by omega) (by omega)];omega
 have p52:IntKind.u32.wrap ((p5a:Int)+1)=(p5b:Int):=by rw[bN (by omega) (by omega)];omega
 have p53:(p5a:Int)<200:=by omega
 have p54:(p5b:Int)<200:=by omega
 have w48:IntKind.u32.wrap (48+(v:Int))=((48+v:Nat):Int):=by rw[bN (by omega) (by omega)];omega
 have w49:IntKind.u8.wrap ((48+v:Nat):Int)=((48+v:Nat):Int):=cj ⟨by simp only[wG];omega,by simp only[og];omega⟩;refine aI.Rv Tryz.func181 rfl λ_=>aah ?_;refine aaa λK hK=>aaE ?_;refine abr (λ(_:Unit)=>⟨aU [(0,.c (.aH 0 0 3 1)),(1,.c (.d (.int .u64 n))),(4,.c (.d (.int .i64 3)))],az (λ_=>.hole) 0 (.cells false false 234 (c0::c1::c2::r))⟩) 1000 (λ_=>True) (λ_=>0) () (Le.eY _) trivial ?_;rintro _ -
 refine aaa λK2 hK2=>aah ?_;refine aba (abn (hK _ _ (abf w12 ?_)));refine aaa λK hK=>aah ?_;refine aba (aav (hK _ _ (aaa λK hK=>aah ?_)));refine abl (ace dp5 p51 ?_);refine aaF λK1 hK1=>?_;simp[dv,ev]
 repeat refine aj ?_
 apply hK1;refine aaa λK1 hK1=>?_;refine abx mixed (by kernel_rfl) rfl ?_;simp[p52,p53,p54,wl0,wl1,wl2,wl3,wl4,wl5,wl6,wl7,wl8,ai];rw[Cw _ (x:=p5) (a:=p5a) (by omega) (by omega),CA _ (x:=p5) (a:=p5b) (by omega) (by omega)];rotate_left
 ·kernel_rfl
 ·kernel_rfl
 repeat refine aj ?_
 refine⟨by kernel_rfl,?_⟩
 repeat refine aj ?_
 apply hK1;refine aar ?_;simp[wl0,wl1,wl2,wl3,wl4,wl5,wl6,wl7,wl8]
 repeat refine aj ?_
 apply hK;refine aah ?_;refine abl (aar ?_);simp[w48,w49,ai]
 repeat refine aj ?_
 have ed:dL 3 n=[v,p5/10,p5%10]:=by
  show [n/10/10%10,n/10%10,n%10]=_;simp only[ad8,and_true];refine⟨?_,?_,?_⟩<;>omega
 refine sV.none (.inl rfl) rfl (by simp) ?_;rw[ed];have e48:CV.d (.int .u8 (IntKind.u8.wrap (48+(v:Int))))=dB v:=by unfold dB;rw[<-w49];rfl
 simp[e48]
theorem fb4(G:List (List DV))(n:Nat)(hn:n<10000)(c0 c1 c2 c3:CV)(r:List CV):
 aI Tryz.prog G 181 [.c (.aH 0 0 4 1),.c (.d (.int .u64 n))] [.cells false false 234 (c0::c1::c2::c3::r)]
  (.ret (.tup []) [.cells false false 234 ((dL 4 n).map dB++r)] []):=by
 have wl:∀k:Nat,k<1000->IntKind.i64.wrap (k:Int)=k:=λk h=>bB (by omega) (by omega)
 have wl0:IntKind.i64.wrap 0=0:=wl 0 (by decide);have wl1:IntKind.i64.wrap 1=1:=wl 1 (by decide);have wl2:IntKind.i64.wrap 2=2:=wl 2 (by decide);have wl3:IntKind.i64.wrap 3=3:=wl 3 (by decide);have wl4:IntKind.i64.wrap 4=4:=wl 4 (by decide);have wl5:IntKind.i64.wrap 5=5:=wl 5 (by decide);have wl6:IntKind.i64.wrap 6=6:=wl 6 (by decide);have wl7:IntKind.i64.wrap 7=7:=wl 7 (by decide);have wl8:IntKind.i64.wrap 8=8:=wl 8 (by decide);have w12:IntKind.u32.wrap (n:Int)=n:=bN (by omega) (by omega);obtain⟨t,ht⟩:∃q,n/10000=q:=⟨_,rfl⟩
 obtain⟨s,hs⟩:∃q,n%10000=q:=⟨_,rfl⟩
 have dt:(n:Int).tdiv 10000=(t:Int):=by rw[aev (by omega)];omega
 have ds:(n:Int).tmod 10000=(s:Int):=by rw[aep (by omega)];omega
 have et:IntKind.u32.wrap (t:Int)=t:=bN (by omega) (by omega);obtain⟨p1,hp1⟩:∃q,s/100=q:=⟨_,rfl⟩
 obtain⟨p0,hp0⟩:∃q,s%100=q:=⟨_,rfl⟩
 have dp1:(s:Int).tdiv 100=(p1:Int):=by rw[aev (by omega)];omega
 have dp0:(s:Int).tmod 100=(p0:Int):=by rw[aep (by omega)];omega
 have ep1:IntKind.u32.wrap (p1:Int)=p1:=bN (by omega) (by omega);obtain⟨p0a,hp0a⟩:∃a,p0*2=a:=⟨_,rfl⟩
 obtain⟨p0b,hp0b⟩:∃a,p0a+1=a:=⟨_,rfl⟩
 have p01:IntKind.u32.wrap ((p0:Int)*2)=(p0a:Int):=by rw[bN (by omega) (by omega)];omega
 have p02:IntKind.u32.wrap ((p0a:Int)+1)=(p0b:Int):=by rw[bN (by omega) (by omega)];omega
 have p03:(p0a:Int)<200:=by omega
 have p04:(p0b:Int)<200:=by omega
 obtain⟨p1a,hp1a⟩:∃a,p1*2=a:=⟨_,rfl⟩
 obtain⟨p1b,hp1b⟩:∃a,p1a+1=a:=⟨_,rfl⟩
 have p11:IntKind.u32.wrap ((p1:Int)*2)=(p1a:Int):=by rw[bN (by omega) (by omega)];omega
 have p12:IntKind.u32.wrap ((p1a:Int)+1)=(p1b:Int):=by rw[bN (by omega) (by omega)];omega
 have p13:(p1a:Int)<200:=by omega
 have p14:(p1b:Int)<200:=by omega
 refine aI.Rv Tryz.func181 rfl λ_=>aah ?_;refine aaa λK hK=>aaE ?_;refine abr (λ(_:Unit)=>⟨aU [(0,.c (.aH 0 0 4 1)),(1,.c (.d (.int .u64 n))),(4,.c (.d (.int .i64 4)))],az (λ_=>.hole) 0 (.cells false false 234 (c0::c1::c2::c3::r))⟩) 1000 (λ_=>True) (λ_=>0) () (Le.eY _) trivial ?_;rintro _ -
 refine aaa λK2 hK2=>aah ?_;refine aba (abn (hK _ _ (abf w12 ?_)));refine aaa λK hK=>aah ?_;refine abl (abf ds ?_);refine ace dt et ?_;refine ads dp1 dp0 ep1 p11 p01 ?_;refine aaa λK1 hK1=>?_;refine abx mixed (by kernel_rfl) rfl ?_;simp[p02,p03,p04,wl0,wl1,wl2,wl3,wl4,wl5,wl6,wl7,wl8,ai];rw[Cw _ (x:=p0) (a:=p0a) (by omega) (by omega),CA _ (x:=p0) (a:=p0b) (by omega) (by omega)];rotate_left
 ·kernel_rfl
 ·kernel_rfl
 repeat refine aj ?_
 refine⟨by kernel_rfl,?_⟩
 repeat refine aj ?_
 apply hK1;refine aaa λK1 hK1=>?_;refine abx mixed (by kernel_rfl) rfl ?_;simp[p12,p13,p14,wl0,wl1,wl2,wl3,wl4,wl5,wl6,wl7,wl8,ai];rw[Cw _ (x:=p1) (a:=p1a) (by omega) (by omega),CA _ (x:=p1) (a:=p1b) (by omega) (by omega)];rotate_left
 ·kernel_rfl
 ·kernel_rfl
 repeat refine aj ?_
 refine⟨by kernel_rfl,?_⟩
 repeat refine aj ?_
 apply hK1;refine aar ?_;simp[wl0,wl1,wl2,wl3,wl4,wl5,wl6,wl7,wl8]
 repeat refine aj ?_
 apply hK;refine aaa λK hK=>aah ?_;refine aba (aav (hK _ _ (aah ?_)));refine aba (aav ?_)
 have ed:dL 4 n=[p1/10,p1%10,p0/10,p0%10]:=by
  show [n/10/10/10%10,n/10/10%10,n/10%10,n%10]=_;simp only[ad8,and_true];refine⟨?_,?_,?_,?_⟩<;>omega
 refine sV.none (.inl rfl) rfl (by simp) ?_;rw[ed];simp
theorem fb5(G:List (List DV))(n:Nat)(hn:n<100000)(c0 c1 c2 c3 c4:CV)(r:List CV):
 aI Tryz.prog G 181 [.c (.aH 0 0 5 1),.c (.d (.int .u64 n))] [.cells false false 234 (c0::c1::c2::c3::c4::r)]
  (.ret (.tup []) [.cells false false 234 ((dL 5 n).map dB++r)] []):=by
 have wl:∀k:Nat,k<1000->IntKind.i64.wrap (k:Int)=k:=λk h=>bB (by omega) (by omega)
 have wl0:IntKind.i64.wrap 0=0:=wl 0 (by decide);have wl1:IntKind.i64.wrap 1=1:=wl 1 (by decide);have wl2:IntKind.i64.wrap 2=2:=wl 2 (by decide);have wl3:IntKind.i64.wrap 3=3:=wl 3 (by decide);have wl4:IntKind.i64.wrap 4=4:=wl 4 (by decide);have wl5:IntKind.i64.wrap 5=5:=wl 5 (by decide);have wl6:IntKind.i64.wrap 6=6:=wl 6 (by decide);have wl7:IntKind.i64.wrap 7=7:=wl 7 (by decide);have wl8:IntKind.i64.wrap 8=8:=wl 8 (by decide);have w12:IntKind.u32.wrap (n:Int)=n:=bN (by omega) (by omega);obtain⟨t,ht⟩:∃q,n/10000=q:=⟨_,rfl⟩
 obtain⟨s,hs⟩:∃q,n%10000=q:=⟨_,rfl⟩
 have dt:(n:Int).tdiv 10000=(t:Int):=by rw[aev (by omega)];omega
 have ds:(n:Int).tmod 10000=(s:Int):=by rw[aep (by omega)];omega
 have et:IntKind.u32.wrap (t:Int)=t:=bN (by omega) (by omega);obtain⟨p1,hp1⟩:∃q,s/100=q:=⟨_,rfl⟩
 obtain⟨p0,hp0⟩:∃q,s%100=q:=⟨_,rfl⟩
 have dp1:(s:Int).tdiv 100=(p1:Int):=by rw[aev (by omega)];omega
 have dp0:(s:Int).tmod 100=(p0:Int):=by rw[aep (by omega)];omega
 have ep1:IntKind.u32.wrap (p1:Int)=p1:=bN (by omega) (by omega);obtain⟨p0a,hp0a⟩:∃a,p0*2=a:=⟨_,rfl⟩
 obtain⟨p0b,hp0b⟩:∃a,p0a+1=a:=⟨_,rfl⟩
 have p01:IntKind.u32.wrap ((p0:Int)*2)=(p0a:Int):=by rw[bN (by omega) (by omega)];omega
 have p02:IntKind.u32.wrap ((p0a:Int)+1)=(p0b:Int):=by rw[bN (by omega) (by omega)];omega
 have p03:(p0a:Int)<200:=by omega
 have p04:(p0b:Int)<200:=by omega
 obtain⟨p1a,hp1a⟩:∃a,p1*2=a:=⟨_,rfl⟩
 obtain⟨p1b,hp1b⟩:∃a,p1a+1=a:=⟨_,rfl⟩
 have p11:IntKind.u32.wrap ((p1:Int)*2)=(p1a:Int):=by rw[bN (by omega) (by omega)];omega
 have p12:IntKind.u32.wrap ((p1a:Int)+1)=(p1b:Int):=by rw[bN (by omega) (by omega)];omega
 have p13:(p1a:Int)<200:=by omega
 have p14:(p1b:Int)<200:=by omega
 have w48:IntKind.u32.wrap (48+(t:Int))=((48+t:Nat):Int):=by rw[bN (by omega) (by omega)];omega
 have w49:IntKind.u8.wrap ((48+t:Nat):Int)=((48+t:Nat):Int):=cj ⟨by simp only[wG];omega,by simp only[og];omega⟩;refine aI.Rv Tryz.func181 rfl λ_=>aah ?_;refine aaa λK hK=>aaE ?_;refine abr (λ(_:Unit)=>⟨aU [(0,.c (.aH 0 0 5 1)),(1,.c (.d (.int .u64 n))),(4,.c (.d (.int .i64 5)))],az (λ_=>.hole) 0 (.cells false false 234 (c0::c1::c2::c3::c4::r))⟩) 1000 (λ_=>True) (λ_=>0) () (Le.eY _) trivial ?_;rintro _ -
 refine aaa λK2 hK2=>aah ?_;refine aba (abn (hK _ _ (abf w12 ?_)));refine aaa λK hK=>aah ?_;refine abl (abf ds ?_);refine ace dt et ?_;refine ads dp1 dp0 ep1 p11 p01 ?_;refine aaa λK1 hK1=>?_;refine abx mixed (by kernel_rfl) rfl ?_;simp[p02,p03,p04,wl0,wl1,wl2,wl3,wl4,wl5,wl6,wl7,wl8,ai];rw[Cw _ (x:=p0) (a:=p0a) (by omega) (by omega),CA _ (x:=p0) (a:=p0b) (by omega) (by omega)];rotate_left
 ·kernel_rfl
 ·kernel_rfl
 repeat refine aj ?_
 refine⟨by kernel_rfl,?_⟩
 repeat refine aj ?_
 apply hK1;refine aaa λK1 hK1=>?_;refine abx mixed (by kernel_rfl) rfl ?_;simp[p12,p13,p14,wl0,wl1,wl2,wl3,wl4,wl5,wl6,wl7,wl8,ai];rw[Cw _ (x:=p1) (a:=p1a) (by omega) (by omega),CA _ (x:=p1) (a:=p1b) (by omega) (by omega)];rotate_left
 ·kernel_rfl
 ·kernel_rfl
 repeat refine aj ?_
 refine⟨by kernel_rfl,?_⟩
 repeat refine aj ?_
 apply hK1;refine aar ?_;simp[wl0,wl1,wl2,wl3,wl4,wl5,wl6,wl7,wl8]
 repeat refine aj ?_
 apply hK;refine aaa λK hK=>aah ?_;refine aba (aav (hK _ _ (aah ?_)));refine abl (aar ?_);simp[w48,w49,ai]
 repeat refine aj ?_
 have ed:dL 5 n=[t,p1/10,p1%10,p0/10,p0%10]:=by
  show [n/10/10/10/10%10,n/10/10/10%10,n/10/10%10,n/10%10,n%10]=_;simp only[ad8,and_true];refine⟨?_,?_,?_,?_,?_⟩<;>omega
 refine sV.none (.inl rfl) rfl (by simp) ?_;rw[ed];have e48:CV.d (.int .u8 (IntKind.u8.wrap (48+(t:Int))))=dB t:=by unfold dB;rw[<-w49];rfl
 simp[e48]
theorem fb6(G:List (List DV))(n:Nat)(hn:n<1000000)(c0 c1 c2 c3 c4 c5:CV)(r:List CV):
 aI Tryz.prog G 181 [.c (.aH 0 0 6 1),.c (.d (.int .u64 n))] [.cells false false 234 (c0::c1::c2::c3::c4::c5::r)]
  (.ret (.tup []) [.cells false false 234 ((dL 6 n).map dB++r)] []):=by
 have wl:∀k:Nat,k<1000->IntKind.i64.wrap (k:Int)=k:=λk h=>bB (by omega) (by omega)
 have wl0:IntKind.i64.wrap 0=0:=wl 0 (by decide);have wl1:IntKind.i64.wrap 1=1:=wl 1 (by decide);have wl2:IntKind.i64.wrap 2=2:=wl 2 (by decide);have wl3:IntKind.i64.wrap 3=3:=wl 3 (by decide);have wl4:IntKind.i64.wrap 4=4:=wl 4 (by decide);have wl5:IntKind.i64.wrap 5=5:=wl 5 (by decide);have wl6:IntKind.i64.wrap 6=6:=wl 6 (by decide);have wl7:IntKind.i64.wrap 7=7:=wl 7 (by decide);have wl8:IntKind.i64.wrap 8=8:=wl 8 (by decide);have w12:IntKind.u32.wrap (n:Int)=n:=bN (by omega) (by omega);obtain⟨t,ht⟩:∃q,n/10000=q:=⟨_,rfl⟩
 obtain⟨s,hs⟩:∃q,n%10000=q:=⟨_,rfl⟩
 have dt:(n:Int).tdiv 10000=(t:Int):=by rw[aev (by omega)];omega
 have ds:(n:Int).tmod 10000=(s:Int):=by rw[aep (by omega)];omega
 have et:IntKind.u32.wrap (t:Int)=t:=bN (by omega) (by omega);obtain⟨p1,hp1⟩:∃q,s/100=q:=⟨_,rfl⟩
 obtain⟨p0,hp0⟩:∃q,s%100=q:=⟨_,rfl⟩
 have dp1:(s:Int).tdiv 100=(p1:Int):=by rw[aev (by omega)];omega
 have dp0:(s:Int).tmod 100=(p0:Int):=by rw[aep (by omega)];omega
 have ep1:IntKind.u32.wrap (p1:Int)=p1:=bN (by omega) (by omega);obtain⟨p0a,hp0a⟩:∃a,p0*2=a:=⟨_,rfl⟩
 obtain⟨p0b,hp0b⟩:∃a,p0a+1=a:=⟨_,rfl⟩
 have p01:IntKind.u32.wrap ((p0:Int)*2)=(p0a:Int):=by rw[bN (by omega) (by omega)];omega
 have p02:IntKind.u32.wrap ((p0a:Int)+1)=(p0b:Int):=by rw[bN (by omega) (by omega)];omega
 have p03:(p0a:Int)<200:=by omega
 have p04:(p0b:Int)<200:=by omega
 obtain⟨p1a,hp1a⟩:∃a,p1*2=a:=⟨_,rfl⟩
 obtain⟨p1b,hp1b⟩:∃a,p1a+1=a:=⟨_,rfl⟩
 have p11:IntKind.u32.wrap ((p1:Int)*2)=(p1a:Int):=by rw[bN (by omega) (by omega)];omega
 have p12:IntKind.u32.wrap ((p1a:Int)+1)=(p1b:Int):=by rw[bN (by omega) (by omega)];omega
 have p13:(p1a:Int)<200:=by omega
 have p14:(p1b:Int)<200:=by omega
 obtain⟨v,hv⟩:∃q,t/100=q:=⟨_,rfl⟩
 obtain⟨p5,hp5⟩:∃q,t%100=q:=⟨_,rfl⟩
 have dv:(t:Int).tdiv 100=(v:Int):=by rw[aev (by omega)];omega
 have dp5:(t:Int).tmod 100=(p5:Int):=by rw[aep (by omega)];omega
 have ev:IntKind.u32.wrap (v:Int)=v:=bN (by omega) (by omega);obtain⟨p5a,hp5a⟩:∃a,p5*2=a:=⟨_,rfl⟩
 obtain⟨p5b,hp5b⟩:∃a,p5a+1=a:=⟨_,rfl⟩
 have p51:IntKind.u32.wrap ((p5:Int)*2)=(p5a:Int):=by rw[bN (by omega) (by omega)];omega
 have p52:IntKind.u32.wrap ((p5a:Int)+1)=(p5b:Int):=by rw[bN (by omega) (by omega)];omega
 have p53:(p5a:Int)<200:=by omega
 have p54:(p5b:Int)<200:=by omega
 refine aI.Rv Tryz.func181 rfl λ_=>aah ?_;refine aaa λK hK=>aaE ?_;refine abr (λ(_:Unit)=>⟨aU [(0,.c (.aH 0 0 6 1)),(1,.c (.d (.int .u64 n))),(4,.c (.d (.int .i64 6)))],az (λ_=>.hole) 0 (.cells false false 234 (c0::c1::c2::c3::c4::c5::r))⟩) 1000 (λ_=>True) (λ_=>0) () (Le.eY _) trivial ?_;rintro _ -
 refine aaa λK2 hK2=>aah ?_;refine aba (abn (hK _ _ (abf w12 ?_)));refine aaa λK hK=>aah ?_;refine abl (abf ds ?_);refine ace dt et ?_;refine ads dp1 dp0 ep1 p11 p01 ?_;refine aaa λK1 hK1=>?_;refine abx mixed (by kernel_rfl) rfl ?_;simp[p02,p03,p04,wl0,wl1,wl2,wl3,wl4,wl5,wl6,wl7,wl8,ai];rw[Cw _ (x:=p0) (a:=p0a) (by omega) (by omega),CA _ (x:=p0) (a:=p0b) (by omega) (by omega)];rotate_left
 ·kernel_rfl
 ·kernel_rfl
 repeat refine aj ?_
 refine⟨by kernel_rfl,?_⟩
 repeat refine aj ?_
 apply hK1;refine aaa λK1 hK1=>?_;refine abx mixed (by kernel_rfl) rfl ?_;simp[p12,p13,p14,wl0,wl1,wl2,wl3,wl4,wl5,wl6,wl7,wl8,ai];rw[Cw _ (x:=p1) (a:=p1a) (by omega) (by omega),CA _ (x:=p1) (a:=p1b) (by omega) (by omega)];rotate_left
 ·kernel_rfl
 ·kernel_rfl
 repeat refine aj ?_
 refine⟨by kernel_rfl,?_⟩
 repeat refine aj ?_
 apply hK1;refine aar ?_;simp[wl0,wl1,wl2,wl3,wl4,wl5,wl6,wl7,wl8]
 repeat refine aj ?_
 apply hK;refine aaa λK hK=>aah ?_;refine abl (ace dp5 p51 ?_);refine aaF λK1 hK1=>?_;simp[dv,ev]
 repeat refine aj ?_
 apply hK1;refine aaa λK1 hK1=>?_;refine abx mixed (by kernel_rfl) rfl ?_;simp[p52,p53,p54,wl0,wl1,wl2,wl3,wl4,wl5,wl6,wl7,wl8,ai];rw[Cw _ (x:=p5) (a:=p5a) (by omega) (by omega),CA _ (x:=p5) (a:=p5b) (by omega) (by omega)];rotate_left
 ·kernel_rfl
 ·kernel_rfl
 repeat refine aj ?_
 refine⟨by kernel_rfl,?_⟩
 repeat refine aj ?_
 apply hK1;refine aar ?_;simp[wl0,wl1,wl2,wl3,wl4,wl5,wl6,wl7,wl8]
 repeat refine aj ?_
 apply hK;refine aah ?_;refine aba (aav ?_)
 have ed:dL 6 n=[p5/10,p5%10,p1/10,p1%10,p0/10,p0%10]:=by
  show [n/10/10/10/10/10%10,n/10/10/10/10%10,n/10/10/10%10,n/10/10%10,n/10%10,n%10]=_;simp only[ad8,and_true];refine⟨?_,?_,?_,?_,?_,?_⟩<;>omega
 refine sV.none (.inl rfl) rfl (by simp) ?_;rw[ed];simp
theorem fb7(G:List (List DV))(n:Nat)(hn:n<10000000)(c0 c1 c2 c3 c4 c5 c6:CV)(r:List CV):
 aI Tryz.prog G 181 [.c (.aH 0 0 7 1),.c (.d (.int .u64 n))] [.cells false false 234 (c0::c1::c2::c3::c4::c5::c6::r)]
  (.ret (.tup []) [.cells false false 234 ((dL 7 n).map dB++r)] []):=by
 have wl:∀k:Nat,k<1000->IntKind.i64.wrap (k:Int)=k:=λk h=>bB (by omega) (by omega)
 have wl0:IntKind.i64.wrap 0=0:=wl 0 (by decide);have wl1:IntKind.i64.wrap 1=1:=wl 1 (by decide);have wl2:IntKind.i64.wrap 2=2:=wl 2 (by decide);have wl3:IntKind.i64.wrap 3=3:=wl 3 (by decide);have wl4:IntKind.i64.wrap 4=4:=wl 4 (by decide);have wl5:IntKind.i64.wrap 5=5:=wl 5 (by decide);have wl6:IntKind.i64.wrap 6=6:=wl 6 (by decide);have wl7:IntKind.i64.wrap 7=7:=wl 7 (by decide);have wl8:IntKind.i64.wrap 8=8:=wl 8 (by decide);have w12:IntKind.u32.wrap (n:Int)=n:=bN (by omega) (by omega);obtain⟨t,ht⟩:∃q,n/10000=q:=⟨_,rfl⟩
 obtain⟨s,hs⟩:∃q,n%10000=q:=⟨_,rfl⟩
 have dt:(n:Int).tdiv 10000=(t:Int):=by rw[aev (by omega)];omega
 have ds:(n:Int).tmod 10000=(s:Int):=by rw[aep (by omega)];omega
 have et:IntKind.u32.wrap (t:Int)=t:=bN (by omega) (by omega);obtain⟨p1,hp1⟩:∃q,s/100=q:=⟨_,rfl⟩
 obtain⟨p0,hp0⟩:∃q,s%100=q:=⟨_,rfl⟩
 have dp1:(s:Int).tdiv 100=(p1:Int):=by rw[aev (by omega)];omega
 have dp0:(s:Int).tmod 100=(p0:Int):=by rw[aep (by omega)];omega
 have ep1:IntKind.u32.wrap (p1:Int)=p1:=bN (by omega) (by omega);obtain⟨p0a,hp0a⟩:∃a,p0*2=a:=⟨_,rfl⟩
 obtain⟨p0b,hp0b⟩:∃a,p0a+1=a:=⟨_,rfl⟩
 have p01:IntKind.u32.wrap ((p0:Int)*2)=(p0a:Int):=by rw[bN (by omega) (by omega)];omega
 have p02:IntKind.u32.wrap ((p0a:Int)+1)=(p0b:Int):=by rw[bN (by omega) (by omega)];omega
 have p03:(p0a:Int)<200:=by omega
 have p04:(p0b:Int)<200:=by omega
 obtain⟨p1a,hp1a⟩:∃a,p1*2=a:=⟨_,rfl⟩
 obtain⟨p1b,hp1b⟩:∃a,p1a+1=a:=⟨_,rfl⟩
 have p11:IntKind.u32.wrap ((p1:Int)*2)=(p1a:Int):=by rw[bN (by omega) (by omega)];omega
 have p12:IntKind.u32.wrap ((p1a:Int)+1)=(p1b:Int):=by rw[bN (by omega) (by omega)];omega
 have p13:(p1a:Int)<200:=by omega
 have p14:(p1b:Int)<200:=by omega
 obtain⟨v,hv⟩:∃q,t/100=q:=⟨_,rfl⟩
 obtain⟨p5,hp5⟩:∃q,t%100=q:=⟨_,rfl⟩
 have dv:(t:Int).tdiv 100=(v:Int):=by rw[aev (by omega)];omega
 have dp5:(t:Int).tmod 100=(p5:Int):=by rw[aep (by omega)];omega
 have ev:IntKind.u32.wrap (v:Int)=v:=bN (by omega) (by omega);obtain⟨p5a,hp5a⟩:∃a,p5*2=a:=⟨_,rfl⟩
 obtain⟨p5b,hp5b⟩:∃a,p5a+1=a:=⟨_,rfl⟩
 have p51:IntKind.u32.wrap ((p5:Int)*2)=(p5a:Int):=by rw[bN (by omega) (by omega)];omega
 have p52:IntKind.u32.wrap ((p5a:Int)+1)=(p5b:Int):=by rw[bN (by omega) (by omega)];omega
 have p53:(p5a:Int)<200:=by omega
 have p54:(p5b:Int)<200:=by omega
 have w48:IntKind.u32.wrap (48+(v:Int))=((48+v:Nat):Int):=by rw[bN (by omega) (by omega)];omega
 have w49:IntKind.u8.wrap ((48+v:Nat):Int)=((48+v:Nat):Int):=cj ⟨by simp only[wG];omega,by simp only[og];omega⟩;refine aI.Rv Tryz.func181 rfl λ_=>aah ?_;refine aaa λK hK=>aaE ?_;refine abr (λ(_:Unit)=>⟨aU [(0,.c (.aH 0 0 7 1)),(1,.c (.d (.int .u64 n))),(4,.c (.d (.int .i64 7)))],az (λ_=>.hole) 0 (.cells false false 234 (c0::c1::c2::c3::c4::c5::c6::r))⟩) 1000 (λ_=>True) (λ_=>0) () (Le.eY _) trivial ?_;rintro _ -
 refine aaa λK2 hK2=>aah ?_;refine aba (abn (hK _ _ (abf w12 ?_)));refine aaa λK hK=>aah ?_;refine abl (abf ds ?_);refine ace dt et ?_;refine ads dp1 dp0 ep1 p11 p01 ?_;refine aaa λK1 hK1=>?_;refine abx mixed (by kernel_rfl) rfl ?_;simp[p02,p03,p04,wl0,wl1,wl2,wl3,wl4,wl5,wl6,wl7,wl8,ai];rw[Cw _ (x:=p0) (a:=p0a) (by omega) (by omega),CA _ (x:=p0) (a:=p0b) (by omega) (by omega)];rotate_left
 ·kernel_rfl
 ·kernel_rfl
 repeat refine aj ?_
 refine⟨by kernel_rfl,?_⟩
 repeat refine aj ?_
 apply hK1;refine aaa λK1 hK1=>?_;refine abx mixed (by kernel_rfl) rfl ?_;simp[p12,p13,p14,wl0,wl1,wl2,wl3,wl4,wl5,wl6,wl7,wl8,ai];rw[Cw _ (x:=p1) (a:=p1a) (by omega) (by omega),CA _ (x:=p1) (a:=p1b) (by omega) (by omega)];rotate_left
 ·kernel_rfl
 ·kernel_rfl
 repeat refine aj ?_
 refine⟨by kernel_rfl,?_⟩
 repeat refine aj ?_
 apply hK1;refine aar ?_;simp[wl0,wl1,wl2,wl3,wl4,wl5,wl6,wl7,wl8]
 repeat refine aj ?_
 apply hK;refine aaa λK hK=>aah ?_;refine abl (ace dp5 p51 ?_);refine aaF λK1 hK1=>?_;simp[dv,ev]
 repeat refine aj ?_
 apply hK1;refine aaa λK1 hK1=>?_;refine abx mixed (by kernel_rfl) rfl ?_;simp[p52,p53,p54,wl0,wl1,wl2,wl3,wl4,wl5,wl6,wl7,wl8,ai];rw[Cw _ (x:=p5) (a:=p5a) (by omega) (by omega),CA _ (x:=p5) (a:=p5b) (by omega) (by omega)];rotate_left
 ·kernel_rfl
 ·kernel_rfl
 repeat refine aj ?_
 refine⟨by kernel_rfl,?_⟩
 repeat refine aj ?_
 apply hK1;refine aar ?_;simp[wl0,wl1,wl2,wl3,wl4,wl5,wl6,wl7,wl8]
 repeat refine aj ?_
 apply hK;refine aah ?_;refine abl (aar ?_);simp[w48,w49,ai]
 repeat refine aj ?_
 have ed:dL 7 n=[v,p5/10,p5%10,p1/10,p1%10,p0/10,p0%10]:=by
  show [n/10/10/10/10/10/10%10,n/10/10/10/10/10%10,n/10/10/10/10%10,n/10/10/10%10,n/10/10%10,n/10%10,n%10]=_;simp only[ad8,and_true];refine⟨?_,?_,?_,?_,?_,?_,?_⟩<;>omega
 refine sV.none (.inl rfl) rfl (by simp) ?_;rw[ed];have e48:CV.d (.int .u8 (IntKind.u8.wrap (48+(v:Int))))=dB v:=by unfold dB;rw[<-w49];rfl
 simp[e48]
theorem fb8(G:List (List DV))(n:Nat)(hn:n<100000000)(c0 c1 c2 c3 c4 c5 c6 c7:CV)(r:List CV):
 aI Tryz.prog G 181 [.c (.aH 0 0 8 1),.c (.d (.int .u64 n))] [.cells false false 234 (c0::c1::c2::c3::c4::c5::c6::c7::r)]
  (.ret (.tup []) [.cells false false 234 ((dL 8 n).map dB++r)] []):=by
 have wl:∀k:Nat,k<1000->IntKind.i64.wrap (k:Int)=k:=λk h=>bB (by omega) (by omega)
 have wl0:IntKind.i64.wrap 0=0:=wl 0 (by decide);have wl1:IntKind.i64.wrap 1=1:=wl 1 (by decide);have wl2:IntKind.i64.wrap 2=2:=wl 2 (by decide);have wl3:IntKind.i64.wrap 3=3:=wl 3 (by decide);have wl4:IntKind.i64.wrap 4=4:=wl 4 (by decide);have wl5:IntKind.i64.wrap 5=5:=wl 5 (by decide);have wl6:IntKind.i64.wrap 6=6:=wl 6 (by decide);have wl7:IntKind.i64.wrap 7=7:=wl 7 (by decide);have wl8:IntKind.i64.wrap 8=8:=wl 8 (by decide);obtain⟨u,hu⟩:∃q,n/100000000=q:=⟨_,rfl⟩
 obtain⟨z,hz⟩:∃q,n%100000000=q:=⟨_,rfl⟩
 have du:(n:Int).tdiv 100000000=(u:Int):=by rw[aev (by omega)];omega
 have dz:(n:Int).tmod 100000000=(z:Int):=by rw[aep (by omega)];omega
 have eu:IntKind.u64.wrap (u:Int)=u:=dj (by omega) (by omega);obtain⟨y,hy⟩:∃q,z/10000=q:=⟨_,rfl⟩
 obtain⟨x,hx⟩:∃q,z%10000=q:=⟨_,rfl⟩
 have dy:(z:Int).tdiv 10000=(y:Int):=by rw[aev (by omega)];omega
 have dx:(z:Int).tmod 10000=(x:Int):=by rw[aep (by omega)];omega
 have ey:IntKind.u32.wrap (y:Int)=y:=bN (by omega) (by omega);obtain⟨p1,hp1⟩:∃q,x/100=q:=⟨_,rfl⟩
 obtain⟨p0,hp0⟩:∃q,x%100=q:=⟨_,rfl⟩
 have dp1:(x:Int).tdiv 100=(p1:Int):=by rw[aev (by omega)];omega
 have dp0:(x:Int).tmod 100=(p0:Int):=by rw[aep (by omega)];omega
 have ep1:IntKind.u32.wrap (p1:Int)=p1:=bN (by omega) (by omega);obtain⟨p3,hp3⟩:∃q,y/100=q:=⟨_,rfl⟩
 obtain⟨p2,hp2⟩:∃q,y%100=q:=⟨_,rfl⟩
 have dp3:(y:Int).tdiv 100=(p3:Int):=by rw[aev (by omega)];omega
 have dp2:(y:Int).tmod 100=(p2:Int):=by rw[aep (by omega)];omega
 have ep3:IntKind.u32.wrap (p3:Int)=p3:=bN (by omega) (by omega);obtain⟨p0a,hp0a⟩:∃a,p0*2=a:=⟨_,rfl⟩
 obtain⟨p0b,hp0b⟩:∃a,p0a+1=a:=⟨_,rfl⟩
 have p01:IntKind.u32.wrap ((p0:Int)*2)=(p0a:Int):=by rw[bN (by omega) (by omega)];omega
 have p02:IntKind.u32.wrap ((p0a:Int)+1)=(p0b:Int):=by rw[bN (by omega) (by omega)];omega
 have p03:(p0a:Int)<200:=by omega
 have p04:(p0b:Int)<200:=by omega
 obtain⟨p1a,hp1a⟩:∃a,p1*2=a:=⟨_,rfl⟩
 obtain⟨p1b,hp1b⟩:∃a,p1a+1=a:=⟨_,rfl⟩
 have p11:IntKind.u32.wrap ((p1:Int)*2)=(p1a:Int):=by rw[bN (by omega) (by omega)];omega
 have p12:IntKind.u32.wrap ((p1a:Int)+1)=(p1b:Int):=by rw[bN (by omega) (by omega)];omega
 have p13:(p1a:Int)<200:=by omega
 have p14:(p1b:Int)<200:=by omega
 obtain⟨p2a,hp2a⟩:∃a,p2*2=a:=⟨_,rfl⟩
 obtain⟨p2b,hp2b⟩:∃a,p2a+1=a:=⟨_,rfl⟩
 have p21:IntKind.u32.wrap ((p2:Int)*2)=(p2a:Int):=by rw[bN (by omega) (by omega)];omega
 have p22:IntKind.u32.wrap ((p2a:Int)+1)=(p2b:Int):=by rw[bN (by omega) (by omega)];omega
 have p23:(p2a:Int)<200:=by omega
 have p24:(p2b:Int)<200:=by omega
 obtain⟨p3a,hp3a⟩:∃a,p3*2=a:=⟨_,rfl⟩
 obtain⟨p3b,hp3b⟩:∃a,p3a+1=a:=⟨_,rfl⟩
 have p31:IntKind.u32.wrap ((p3:Int)*2)=(p3a:Int):=by rw[bN (by omega) (by omega)];omega
 have p32:IntKind.u32.wrap ((p3a:Int)+1)=(p3b:Int):=by rw[bN (by omega) (by omega)];omega
 have p33:(p3a:Int)<200:=by omega
 have p34:(p3b:Int)<200:=by omega
 have wz:IntKind.u32.wrap (z:Int)=z:=bN (by omega) (by omega);have w12:IntKind.u32.wrap (u:Int)=u:=bN (by omega) (by omega);refine aI.Rv Tryz.func181 rfl λ_=>aah ?_;refine aaa λK hK=>aaE ?_;refine abr (λ(b:Int×Int×List CV)=>⟨aU [(0,.c (.aH 0 0 8 1)),(1,.c (.d (.int .u64 b.1))),(4,.c (.d (.int .i64 b.2.1)))],az (λ_=>.hole) 0 (.cells false false 234 b.2.2)⟩) 1000 (λb=>b=((n:Int),8,(c0::c1::c2::c3::c4::c5::c6::c7::r))\/b=((u:Int),0,(dB (p3/10)::dB (p3%10)::dB (p2/10)::dB (p2%10)::dB (p1/10)::dB (p1%10)::dB (p0/10)::dB (p0%10)::r))) (λb=>b.2.1.toNat) ((n:Int),8,(c0::c1::c2::c3::c4::c5::c6::c7::r)) (Le.eY _) (.inl rfl) ?_;rintro b (rfl|rfl)
 ·refine aaa λK2 hK2=>aah ?_;refine abl (aav (hK2 _ _ (aaE (ace dz wz ?_))));refine ace du eu ?_;refine adG dy dx ey ?_;refine ads dp1 dp0 ep1 p11 p01 ?_;refine ads dp3 dp2 ep3 p31 p21 ?_;refine aaa λK5 hK5=>?_;refine abx mixed (by kernel_rfl) rfl ?_;simp[p02,p03,p04,wl0,wl1,wl2,wl3,wl4,wl5,wl6,wl7,wl8,ai];rw[Cw _ (x:=p0) (a:=p0a) (by omega) (by omega),CA _ (x:=p0) (a:=p0b) (by omega) (by omega)];rotate_left
  ·kernel_rfl
  ·kernel_rfl
  repeat refine aj ?_
  refine⟨by kernel_rfl,?_⟩
  repeat refine aj ?_
  apply hK5;refine aaa λK5 hK5=>?_;refine abx mixed (by kernel_rfl) rfl ?_;simp[p12,p13,p14,wl0,wl1,wl2,wl3,wl4,wl5,wl6,wl7,wl8,ai];rw[Cw _ (x:=p1) (a:=p1a) (by omega) (by omega),CA _ (x:=p1) (a:=p1b) (by omega) (by omega)];rotate_left
  ·kernel_rfl
  ·kernel_rfl
  repeat refine aj ?_
  refine⟨by kernel_rfl,?_⟩
  repeat refine aj ?_
  apply hK5;refine aaa λK5 hK5=>?_;refine abx mixed (by kernel_rfl) rfl ?_;simp[p22,p23,p24,wl0,wl1,wl2,wl3,wl4,wl5,wl6,wl7,wl8,ai];rw[Cw _ (x:=p2) (a:=p2a) (by omega) (by omega),CA _ (x:=p2) (a:=p2b) (by omega) (by omega)];rotate_left
  ·kernel_rfl
  ·kernel_rfl
  repeat refine aj ?_
  refine⟨by kernel_rfl,?_⟩
  repeat refine aj ?_
  apply hK5;refine aaa λK5 hK5=>?_;refine abx mixed (by kernel_rfl) rfl ?_;simp[p32,p33,p34,wl0,wl1,wl2,wl3,wl4,wl5,wl6,wl7,wl8,ai];rw[Cw _ (x:=p3) (a:=p3a) (by omega) (by omega),CA _ (x:=p3) (a:=p3b) (by omega) (by omega)];rotate_left
  ·kernel_rfl
  ·kernel_rfl
  repeat refine aj ?_
  refine⟨by kernel_rfl,?_⟩
  repeat refine aj ?_
  apply hK5;refine aar ?_;simp[wl0,wl1,wl2,wl3,wl4,wl5,wl6,wl7,wl8];refine⟨(u:Int),0,(dB (p3/10)::dB (p3%10)::dB (p2/10)::dB (p2%10)::dB (p1/10)::dB (p1%10)::dB (p0/10)::dB (p0%10)::r),Le.eY _,.inr ⟨rfl,rfl,rfl⟩,by decide⟩
 refine aaa λK2 hK2=>aah ?_;refine aba (abn (hK _ _ (abf w12 ?_)));refine aaa λK hK=>aah ?_;refine aba (aav (hK _ _ (aaa λK hK=>aah ?_)));refine aba (aav (hK _ _ (aah ?_)));refine aba (aav ?_)
 have ed:dL 8 n=[p3/10,p3%10,p2/10,p2%10,p1/10,p1%10,p0/10,p0%10]:=by
  show [n/10/10/10/10/10/10/10%10,n/10/10/10/10/10/10%10,n/10/10/10/10/10%10,n/10/10/10/10%10,n/10/10/10%10,n/10/10%10,n/10%10,n%10]=_;simp only[ad8,and_true];refine⟨?_,?_,?_,?_,?_,?_,?_,?_⟩<;>omega
 refine sV.none (.inl rfl) rfl (by simp) ?_;rw[ed];simp
theorem fb9(G:List (List DV))(n:Nat)(hn:n<1000000000)(c0 c1 c2 c3 c4 c5 c6 c7 c8:CV)(r:List CV):
 aI Tryz.prog G 181 [.c (.aH 0 0 9 1),.c (.d (.int .u64 n))] [.cells false false 234 (c0::c1::c2::c3::c4::c5::c6::c7::c8::r)]
  (.ret (.tup []) [.cells false false 234 ((dL 9 n).map dB++r)] []):=by
 have wl:∀k:Nat,k<1000->IntKind.i64.wrap (k:Int)=k:=λk h=>bB (by omega) (by omega)
 have wl0:IntKind.i64.wrap 0=0:=wl 0 (by decide);have wl1:IntKind.i64.wrap 1=1:=wl 1 (by decide);have wl2:IntKind.i64.wrap 2=2:=wl 2 (by decide);have wl3:IntKind.i64.wrap 3=3:=wl 3 (by decide);have wl4:IntKind.i64.wrap 4=4:=wl 4 (by decide);have wl5:IntKind.i64.wrap 5=5:=wl 5 (by decide);have wl6:IntKind.i64.wrap 6=6:=wl 6 (by decide);have wl7:IntKind.i64.wrap 7=7:=wl 7 (by decide);have wl8:IntKind.i64.wrap 8=8:=wl 8 (by decide);obtain⟨u,hu⟩:∃q,n/100000000=q:=⟨_,rfl⟩
 obtain⟨z,hz⟩:∃q,n%100000000=q:=⟨_,rfl⟩
 have du:(n:Int).tdiv 100000000=(u:Int):=by rw[aev (by omega)];omega
 have dz:(n:Int).tmod 100000000=(z:Int):=by rw[aep (by omega)];omega
 have eu:IntKind.u64.wrap (u:Int)=u:=dj (by omega) (by omega);obtain⟨y,hy⟩:∃q,z/10000=q:=⟨_,rfl⟩
 obtain⟨x,hx⟩:∃q,z%10000=q:=⟨_,rfl⟩
 have dy:(z:Int).tdiv 10000=(y:Int):=by rw[aev (by omega)];omega
 have dx:(z:Int).tmod 10000=(x:Int):=by rw[aep (by omega)];omega
 have ey:IntKind.u32.wrap (y:Int)=y:=bN (by omega) (by omega);obtain⟨p1,hp1⟩:∃q,x/100=q:=⟨_,rfl⟩
 obtain⟨p0,hp0⟩:∃q,x%100=q:=⟨_,rfl⟩
 have dp1:(x:Int).tdiv 100=(p1:Int):=by rw[aev (by omega)];omega
 have dp0:(x:Int).tmod 100=(p0:Int):=by rw[aep (by omega)];omega
 have ep1:IntKind.u32.wrap (p1:Int)=p1:=bN (by omega) (by omega);obtain⟨p3,hp3⟩:∃q,y/100=q:=⟨_,rfl⟩
 obtain⟨p2,hp2⟩:∃q,y%100=q:=⟨_,rfl⟩
 have dp3:(y:Int).tdiv 100=(p3:Int):=by rw[aev (by omega)];omega
 have dp2:(y:Int).tmod 100=(p2:Int):=by rw[aep (by omega)];omega
 have ep3:IntKind.u32.wrap (p3:Int)=p3:=bN (by omega) (by omega);obtain⟨p0a,hp0a⟩:∃a,p0*2=a:=⟨_,rfl⟩
 obtain⟨p0b,hp0b⟩:∃a,p0a+1=a:=⟨_,rfl⟩
 have p01:IntKind.u32.wrap ((p0:Int)*2)=(p0a:Int):=by rw[bN (by omega) (by omega)];omega
 have p02:IntKind.u32.wrap ((p0a:Int)+1)=(p0b:Int):=by rw[bN (by omega) (by omega)];omega
 have p03:(p0a:Int)<200:=by omega
 have p04:(p0b:Int)<200:=by omega
 obtain⟨p1a,hp1a⟩:∃a,p1*2=a:=⟨_,rfl⟩
 obtain⟨p1b,hp1b⟩:∃a,p1a+1=a:=⟨_,rfl⟩
 have p11:IntKind.u32.wrap ((p1:Int)*2)=(p1a:Int):=by rw[bN (by omega) (by omega)];omega
 have p12:IntKind.u32.wrap ((p1a:Int)+1)=(p1b:Int):=by rw[bN (by omega) (by omega)];omega
 have p13:(p1a:Int)<200:=by omega
 have p14:(p1b:Int)<200:=by omega
 obtain⟨p2a,hp2a⟩:∃a,p2*2=a:=⟨_,rfl⟩
 obtain⟨p2b,hp2b⟩:∃a,p2a+1=a:=⟨_,rfl⟩
 have p21:IntKind.u32.wrap ((p2:Int)*2)=(p2a:Int):=by rw[bN (by omega) (by omega)];omega
 have p22:IntKind.u32.wrap ((p2a:Int)+1)=(p2b:Int):=by rw[bN (by omega) (by omega)];omega
 have p23:(p2a:Int)<200:=by omega
 have p24:(p2b:Int)<200:=by omega
 obtain⟨p3a,hp3a⟩:∃a,p3*2=a:=⟨_,rfl⟩
 obtain⟨p3b,hp3b⟩:∃a,p3a+1=a:=⟨_,rfl⟩
 have p31:IntKind.u32.wrap ((p3:Int)*2)=(p3a:Int):=by rw[bN (by omega) (by omega)];omega
 have p32:IntKind.u32.wrap ((p3a:Int)+1)=(p3b:Int):=by rw[bN (by omega) (by omega)];omega
 have p33:(p3a:Int)<200:=by omega
 have p34:(p3b:Int)<200:=by omega
 have wz:IntKind.u32.wrap (z:Int)=z:=bN (by omega) (by omega);have w12:IntKind.u32.wrap (u:Int)=u:=bN (by omega) (by omega);have w48:IntKind.u32.wrap (48+(u:Int))=((48+u:Nat):Int):=by rw[bN (by omega) (by omega)];omega
 have w49:IntKind.u8.wrap ((48+u:Nat):Int)=((48+u:Nat):Int):=cj ⟨by simp only[wG];omega,by simp only[og];omega⟩;refine aI.Rv Tryz.func181 rfl λ_=>aah ?_;refine aaa λK hK=>aaE ?_;refine abr (λ(b:Int×Int×List CV)=>⟨aU [(0,.c (.aH 0 0 9 1)),(1,.c (.d (.int .u64 b.1))),(4,.c (.d (.int .i64 b.2.1)))],az (λ_=>.hole) 0 (.cells false false 234 b.2.2)⟩) 1000 (λb=>b=((n:Int),9,(c0::c1::c2::c3::c4::c5::c6::c7::c8::r))\/b=((u:Int),1,(c0::dB (p3/10)::dB (p3%10)::dB (p2/10)::dB (p2%10)::dB (p1/10)::dB (p1%10)::dB (p0/10)::dB (p0%10)::r))) (λb=>b.2.1.toNat) ((n:Int),9,(c0::c1::c2::c3::c4::c5::c6::c7::c8::r)) (Le.eY _) (.inl rfl) ?_;rintro b (rfl|rfl)
 ·refine aaa λK2 hK2=>aah ?_;refine abl (aav (hK2 _ _ (aaE (ace dz wz ?_))));refine ace du eu ?_;refine adG dy dx ey ?_;refine ads dp1 dp0 ep1 p11 p01 ?_;refine ads dp3 dp2 ep3 p31 p21 ?_;refine aaa λK5 hK5=>?_;refine abx mixed (by kernel_rfl) rfl ?_;simp[p02,p03,p04,wl0,wl1,wl2,wl3,wl4,wl5,wl6,wl7,wl8,ai];rw[Cw _ (x:=p0) (a:=p0a) (by omega) (by omega),CA _ (x:=p0) (a:=p0b) (by omega) (by omega)];rotate_left
  ·kernel_rfl
  ·kernel_rfl
  repeat refine aj ?_
  refine⟨by kernel_rfl,?_⟩
  repeat refine aj ?_
  apply hK5;refine aaa λK5 hK5=>?_;refine abx mixed (by kernel_rfl) rfl ?_;simp[p12,p13,p14,wl0,wl1,wl2,wl3,wl4,wl5,wl6,wl7,wl8,ai];rw[Cw _ (x:=p1) (a:=p1a) (by omega) (by omega),CA _ (x:=p1) (a:=p1b) (by omega) (by omega)];rotate_left
  ·kernel_rfl
  ·kernel_rfl
  repeat refine aj ?_
  refine⟨by kernel_rfl,?_⟩
  repeat refine aj ?_
  apply hK5;refine aaa λK5 hK5=>?_;refine abx mixed (by kernel_rfl) rfl ?_;simp[p22,p23,p24,wl0,wl1,wl2,wl3,wl4,wl5,wl6,wl7,wl8,ai];rw[Cw _ (x:=p2) (a:=p2a) (by omega) (by omega),CA _ (x:=p2) (a:=p2b) (by omega) (by omega)];rotate_left
  ·kernel_rfl
  ·kernel_rfl
  repeat refine aj ?_
  refine⟨by kernel_rfl,?_⟩
  repeat refine aj ?_
  apply hK5;refine aaa λK5 hK5=>?_;refine abx mixed (by kernel_rfl) rfl ?_;simp[p32,p33,p34,wl0,wl1,wl2,wl3,wl4,wl5,wl6,wl7,wl8,ai];rw[Cw _ (x:=p3) (a:=p3a) (by omega) (by omega),CA _ (x:=p3) (a:=p3b) (by omega) (by omega)];rotate_left
  ·kernel_rfl
  ·kernel_rfl
  repeat refine aj ?_
  refine⟨by kernel_rfl,?_⟩
  repeat refine aj ?_
  apply hK5;refine aar ?_;simp[wl0,wl1,wl2,wl3,wl4,wl5,wl6,wl7,wl8];refine⟨(u:Int),1,(c0::dB (p3/10)::dB (p3%10)::dB (p2/10)::dB (p2%10)::dB (p1/10)::dB (p1%10)::dB (p0/10)::dB (p0%10)::r),Le.eY _,.inr ⟨rfl,rfl,rfl⟩,by decide⟩
 refine aaa λK2 hK2=>aah ?_;refine aba (abn (hK _ _ (abf w12 ?_)));refine aaa λK hK=>aah ?_;refine aba (aav (hK _ _ (aaa λK hK=>aah ?_)));refine aba (aav (hK _ _ (aah ?_)));refine abl (aar ?_);simp[w48,w49,ai]
 repeat refine aj ?_
 have ed:dL 9 n=[u,p3/10,p3%10,p2/10,p2%10,p1/10,p1%10,p0/10,p0%10]:=by
  show [n/10/10/10/10/10/10/10/10%10,n/10/10/10/10/10/10/10%10,n/10/10/10/10/10/10%10,n/10/10/10/10/10%10,n/10/10/10/10%10,n/10/10/10%10,n/10/10%10,n/10%10,n%10]=_;simp only[ad8,and_true];refine⟨?_,?_,?_,?_,?_,?_,?_,?_,?_⟩<;>omega
 refine sV.none (.inl rfl) rfl (by simp) ?_;rw[ed];have e48:CV.d (.int .u8 (IntKind.u8.wrap (48+(u:Int))))=dB u:=by unfold dB;rw[<-w49];rfl
 simp[e48]
def sZ(k n:Nat):List UInt8:=(dL k n).map λd=>UInt8.ofNat (48+d)
theorem PF:∀(k n:Nat),(dL k n).length=k
 |0,_=>rfl
 |k+1,n=>by simp[dL,PF k]
theorem UL:∀(k n:Nat),∀d∈dL k n,d<10
 |0,_,d,h=>by cases h
 |k+1,n,d,h=>by
  simp only[dL,afo,afe]at h;rcases h with h|rfl
  ·exact UL k _ d h
  ·omega
theorem nZ(k n:Nat):(sZ k n).length=k:=by simp[sZ,PF]
theorem QE(k n:Nat):(dL k n).map dB=bl (sZ k n):=by
 unfold sZ bl;rw[aed];refine aes λd hd=>?_;have:=UL k n d hd;simp only[Function.comp,dB];rw[UInt8.toNat_ofNat',aem (by omega)]
theorem FA(h:n≠0):aG 10 n=n%10::aG 10 (n/10):=by
 refine(gK (by decide) ?_ ?_).symm
 ·have hc:=bx (B:=10) (by decide) (n/10);refine⟨bD.2 ⟨adZ _ (by decide),hc.1⟩,λx hx=>?_⟩
  cases hd:aG 10 (n/10)with
  |nil=>
   rw[hd]at hx;have h0:=(cL (by decide)).1 hd;simp at hx;omega
  |cons a l=>
   rw[hd]at hx;exact hc.2 x (by rw[hd];simpa using hx)
 ·show n%10+10*val 10 (aG 10 (n/10))=n;rw[bn (by decide)];omega
theorem Nt:∀(k n:Nat),jB n=k->dL k n=(aG 10 n).reverse
 |0,n,h=>by
  have:aG 10 n=[]:=List.length_eq_zero_iff.1 h;rw[this];rfl
 |k+1,n,h=>by
  have h0:n≠0:=by
   intro e;subst e;cases h
  have hs:=FA h0
  have h1:jB (n/10)=k:=by
   unfold jB at h ⊢;rw[hs,aef]at h;omega
  rw[hs,agh,<-Nt k _ h1];rfl
theorem iu(h:n≠0):fH n=sZ (jB n) n:=by
 unfold fH sZ;rw[if_neg h,Nt _ _ rfl]
theorem Yw(G:List (List DV))(k n:Nat)(h1:3<=k)(h2:k<=9)(hn:n<10^k):
 aI Tryz.prog G 181 [.c (.aH 0 0 k 1),.c (.d (.int .u64 n))] [.cells false false 234 [.d (.int .u8 0),.d (.int .u8 0),.d (.int .u8 0),.d (.int .u8 0),.d (.int .u8 0),.d (.int .u8 0),.d (.int .u8 0),.d (.int .u8 0),.d (.int .u8 0),.d (.int .u8 0),.d (.int .u8 0),.d (.int .u8 0),.d (.int .u8 0),.d (.int .u8 0),.d (.int .u8 0),.d (.int .u8 0),.d (.int .u8 0),.d (.int .u8 0),.d (.int .u8 0),.d (.int .u8 0),.d (.int .u8 0),.d (.int .u8 0),.d (.int .u8 0),.d (.int .u8 0)]]
  (.ret (.tup []) [.cells false false 234 (bl (sZ k n)++List.replicate (24-k) (.d (.int .u8 0)))] []):=by
 rw[<-QE];have h:k=3\/k=4\/k=5\/k=6\/k=7\/k=8\/k=9:=by omega
 rcases h with rfl|rfl|rfl|rfl|rfl|rfl|rfl
 ·exact fb3 G n hn _ _ _ (List.replicate 21 _)
 ·exact fb4 G n hn _ _ _ _ (List.replicate 20 _)
 ·exact fb5 G n hn _ _ _ _ _ (List.replicate 19 _)
 ·exact fb6 G n hn _ _ _ _ _ _ (List.replicate 18 _)
 ·exact fb7 G n hn _ _ _ _ _ _ _ (List.replicate 17 _)
 ·exact fb8 G n hn _ _ _ _ _ _ _ _ (List.replicate 16 _)
 ·exact fb9 G n hn _ _ _ _ _ _ _ _ _ (List.replicate 15 _)
theorem DM(l:List UInt8):∀x∈bl l,x.pure=true:=by
 intro x hx;simp only[bl,ae7]at hx;obtain⟨b,_,rfl⟩:=hx;rfl
theorem GZ(m:Int)(n:Nat)(hn:n<1000000000):aa Tryz.prog (GG m) 136 [.c (.d (.int .u64 n)),.c (.d (.int .i64 10))] (.c (.d (.str (fH n)))):=by
 by_cases hs:n<100
 ·have hs':(n:Int)<100:=by omega
  have h1:=Oj m n hs;have w1:=bB (n:=(n:Int)) (by omega) (by omega);refine aa.en Tryz.func136 rfl λ_=>aah ?_;refine aaa λK hK=>aah ?_;refine abl (aaa λK1 hK1=>abf hs' ?_);refine aaX (by simp[hs']<;>omega) (acA 0 h1 w1 ?_);exact abe (aN.rt rfl 4 (by simp))
 have hs':¬(n:Int)<100:=by omega
 have h0:n≠0:=by omega
 have h1:=CN m n h0 hn;have hd:=iu h0
 have k1:3<=jB n:=by
  have:=wZ n;apply aeL;intro hc;have h9:10^jB n<=10^2:=ael (by decide) (by omega);omega
 have k2:jB n<=9:=bS (by decide) hn;have hnd:=wZ n;rw[hd];refine aa.en Tryz.func136 rfl λ_=>aah ?_;refine aaa λK hK=>aah ?_;refine abl (aaa λK1 hK1=>abf hs' ?_);refine abd (by simp[hs']<;>omega) (aav (hK1 _ _ (aah ?_)));refine acH 1 h1 ?_;have hfb:=λG=>Yw G (jB n) n k1 k2 hnd
 have hlt:sZ (jB n) n=sZ (jB n) n:=rfl;have hln:=nZ (jB n) n;generalize jB n=k at *
 generalize sZ k n=t at *
 subst hln;have hk1:(0:Int)<=(t.length:Int):=by omega
 have hk2:(t.length:Int)<=24:=by omega
 refine aaa λK1 hK1=>?_;refine AW.tK ?_;refine mO.run 1 rfl ?_;simp[];refine mO.fj (x:=.c (.aH 0 0 t.length 1)) (us:=[]) (rds:=[0]) 1 rfl rfl ?_ ?_
 ·simp[Am.fj,Op.operands,GR,sJ];omega
 refine mO.run 2 rfl ?_;simp[];have hz:∀x∈([.d (.int .u8 0),.d (.int .u8 0),.d (.int .u8 0),.d (.int .u8 0),.d (.int .u8 0),.d (.int .u8 0),.d (.int .u8 0),.d (.int .u8 0),.d (.int .u8 0),.d (.int .u8 0),.d (.int .u8 0),.d (.int .u8 0),.d (.int .u8 0),.d (.int .u8 0),.d (.int .u8 0),.d (.int .u8 0),.d (.int .u8 0),.d (.int .u8 0),.d (.int .u8 0),.d (.int .u8 0),.d (.int .u8 0),.d (.int .u8 0),.d (.int .u8 0),.d (.int .u8 0)]:List CV),x.pure=true:=by decide
 have hz':∀x∈bl t++List.replicate (24-t.length) (CV.d (.int .u8 0)),x.pure=true:=by
  intro x hx;rcases List.mem_append.1 hx with h|h
  ·exact DM t x h
  ·rw[List.eq_of_mem_replicate h];rfl
 refine gH.Jo 1 9 0 (own:=true) (T:=234) (cs:=[.d (.int .u8 0),.d (.int .u8 0),.d (.int .u8 0),.d (.int .u8 0),.d (.int .u8 0),.d (.int .u8 0),.d (.int .u8 0),.d (.int .u8 0),.d (.int .u8 0),.d (.int .u8 0),.d (.int .u8 0),.d (.int .u8 0),.d (.int .u8 0),.d (.int .u8 0),.d (.int .u8 0),.d (.int .u8 0),.d (.int .u8 0),.d (.int .u8 0),.d (.int .u8 0),.d (.int .u8 0),.d (.int .u8 0),.d (.int .u8 0),.d (.int .u8 0),.d (.int .u8 0)]) (by simp) hz hz' (hfb _) rfl rfl (by
  intro i h h'
  match i,h with
  |0,_=>exact .inr (.inl ⟨_,_,_,rfl,rfl⟩)
  |1,_=>exact .inl ⟨rfl,rfl⟩) (by simp) (by decide) ?_
 simp;refine mO.done ?_
 repeat refine aj ?_
 apply hK1;refine aaa λK1 hK1=>?_;refine AW.tK ?_;refine mO.run 1 rfl ?_;simp[];refine mO.fj (x:=.c (.aH 0 0 t.length 1)) (us:=[]) (rds:=[0]) 1 rfl rfl ?_ ?_
 ·simp[Am.fj,Op.operands,GR,sJ,cQ];omega
 refine mO.G5 (κ:=0) (off:=0) (own:=true) (fz:=false) (T':=234) (e:=5) (cs:=bl t++List.replicate (24-t.length) (CV.d (.int .u8 0))) (l:=t) 1 rfl rfl rfl (by simp) (by simp) (by rw[aeu,List.take_append_of_le_length (by rw[cQ];exact bh _),ae6 (by rw[cQ];exact bh _)]) (by omega) (by simp) Tryz.underlying5 (by simp) ?_;refine mO.run 1 rfl ?_;simp[];refine mO.done ?_
 repeat refine aj ?_
 apply hK1;exact abe (aN.rt (t:=4) rfl 9 (by simp))
theorem fY.mE(hg:o.guard=none)(hdf:∀cl,o.op≠.defer cl)(h:bT c o s s1):fY c r ops o s s1:=by
 intro F β a w K Q hs hK;have hw:dN ops o.guard s.fr=some true:=by unfold dN;rw[hg]
 rw[fI hs hw];simp only[if_true];exact oK hdf (h F β a w K Q hs hK)
theorem fY.E2{cl:Call}{f:FuncId}{fs cs:List AV}{x:AV}{lv':Key->LB}(hd:∀d,o.dst=some d->d<c.n)(hg:o.guard=none)(ho:o.op=.call cl)
 (ht:nR c.P (s.val c.G) cl.callee=some (f,fs,cs)) (hf:aJ c.P f=true) (hok:cD s.lv) (hc:aW c.P c.G f (fs++cl.args.toList.map (s.val c.G)++cs) s.lv (.ret x lv')):fY c r ops o s (aB.put ⟨s.fr,lv'⟩ o.dst x):=
 fY.mE hg (λcl' e=>by rw[ho]at e;cases e) (aW.UF hd ho ht hf hok hc)
def HZ(k n:Nat):LB:=.cells false false 151 [.ptr 1 0,.aH k 0 n 1]
def LO(l:List UInt8):LB:=.cells false false 5 (bl l)
theorem O1:∃i z,Tryz.prog.info? 5=some i/\i.zero=some z/\z.cells.size=1/\i.bytes=1:=by
 have h:(Tryz.prog.info? 5).map (λi=>(i.zero.map (·.cells.size),i.bytes))=some (some 1,1):=by kernel_rfl
 obtain⟨i,h1,h2⟩:=Option.map_eq_some_iff.1 h;simp only[M1]at h2;obtain⟨z,h3,h4⟩:=Option.map_eq_some_iff.1 h2.1;exact⟨i,z,h1,h3,h4,h2.2⟩
theorem U7(lv:Key->LB)(l s:List UInt8)(h2:lv 2=.cells false false 5 (bl l))(h3:lv 3=.hole)(hs:l.length+s.length<=100000000000):
 ig Tryz.prog 149 9 lv 3 (.c (.aH 2 0 l.length 1)) (.c (.d (.str s)))=some (.c (.aH 3 0 (l.length+s.length) 1),[(2,.dead),(3,.cells false false 5 (bl l++bl s))],[]):=by
 obtain⟨i,z,i1,i2,i3,i4⟩:=O1;have hn:=cQ l;unfold ig;simp only[h3,h2];simp[i1,i2,i3,i4,hn];omega
theorem T4(lv:Key->LB)(s:List UInt8)(h3:lv 2=.hole)(hs:s.length<=100000000000):
 ig Tryz.prog 149 9 lv 2 (.c (.d .nilsl)) (.c (.d (.str s)))=some (.c (.aH 2 0 s.length 1),[(2,if s.length=0 then .nils else .cells true false 5 (bl s))],[]):=by
 obtain⟨i,z,i1,i2,i3,i4⟩:=O1;unfold ig;simp only[h3];simp[i1,i2,i3,i4];omega
theorem Rg(m:Int)(lv:Key->LB)(l s:List UInt8)(hok:cD lv)(h1:lv 1=HZ 2 l.length)(h2:lv 2=LO l)(h3:lv 3=.hole)(hs:l.length+s.length<=100000000000):
 aW Tryz.prog (GG m) 87 [.c (.ptr 1 0),.c (.d (.str s))] lv
  (.ret (.tup [.c (.d (.int .i64 s.length)),.c (.d .nilIface)]) (az (az (az lv 2 .dead) 3 (LO (l++s))) 1 (HZ 3 (l.length+s.length)))):=by
 refine aW.mw (κ:=3) Tryz.func87 rfl (by show 2<=_;decide) ?_;rintro⟨_,Gc,w0,F0,W0,_,iN,β0⟩ rfl rfl rfl rfl;refine aaa λK hK=>aar ?_;simp
 repeat refine aj ?_
 apply hK;refine aaa λK hK=>?_;have h1:iN 1=.cells false false 151 [.ptr 1 0,.aH 2 0 l.length 1]:=h1;have h2:iN 2=.cells false false 5 (bl l):=h2;have h3:iN 3=.hole:=h3;refine AW.oP ⟨_,⟨_,fY.plain (x:=.c (.ptr 1 0)) (vc:=True) (κ:=9) (by intro d hd;cases hd;show(_:Nat)<19;decide) rfl rfl trivial rfl,_,fY.E2 (f:=141) (fs:=[]) (cs:=[]) (by intro d hd;cases hd;show(_:Nat)<19;decide) rfl rfl rfl (by simp) hok (Bn m iN 1 0 151 _ _ h1 rfl),rfl⟩,?_⟩
 repeat refine aj ?_
 apply hK;refine aaa λK hK=>?_;refine AW.tK ?_;refine mO.run 6 rfl ?_;simp[h1,h2,h3];have hn:=cQ l;have happ:bl l++bl s=bl (l++s):=by simp[bl]
 refine mO.fj (x:=.c (.aH 3 0 (l.length+s.length) 1)) (us:=[(2,.dead),(3,.cells false false 5 (bl (l++s)))]) (rds:=[]) 4 rfl rfl ?_ ?_
 ·show ig Tryz.prog 149 9 iN 3 (.c (.aH 2 0 l.length 1)) (.c (.d (.str s)))=_;rw[<-happ];exact U7 iN l s h2 h3 hs
 refine mO.run 3 rfl ?_;simp[bg,h1,ai];refine mO.done ?_
 repeat refine aj ?_
 apply hK;refine aah ?_;exact aaH (show RO _ _ _ .ret _ _ from⟨by simp[Tryz.f87,eE,kZ,mN],rfl⟩)
theorem OA(m:Int)(lv:Key->LB)(s:List UInt8)(hok:cD lv)(h1:lv 1=.cells false false 151 [.d .nilp,.d .nilsl])(h2:lv 2=.hole)(hs:s.length<=100000000000)(h0:s≠[]):
 aW Tryz.prog (GG m) 87 [.c (.ptr 1 0),.c (.d (.str s))] lv
  (.ret (.tup [.c (.d (.int .i64 s.length)),.c (.d .nilIface)]) (az (az (az lv 1 (.cells false false 151 [.ptr 1 0,.d .nilsl])) 2 (.cells true false 5 (bl s))) 1 (HZ 2 s.length))):=by
 refine aW.mw (κ:=2) Tryz.func87 rfl (by show 2<=_;decide) ?_;rintro⟨_,Gc,w0,F0,W0,_,iN,β0⟩ rfl rfl rfl rfl;have hl0:¬s.length=0:=λh=>h0 (List.length_eq_zero_iff.1 h)
 refine aah ?_;refine aaa λK hK=>?_;have h1:iN 1=.cells false false 151 [.d .nilp,.d .nilsl]:=h1;have h2:iN 2=.hole:=h2;refine AW.oP ⟨_,⟨_,fY.plain (x:=.c (.ptr 1 0)) (vc:=True) (κ:=9) (by intro d hd;cases hd;show(_:Nat)<19;decide) rfl rfl trivial rfl,_,fY.E2 (f:=141) (fs:=[]) (cs:=[]) (by intro d hd;cases hd;show(_:Nat)<19;decide) rfl rfl rfl (by simp) hok (yX m iN 1 0 151 _ _ rfl h1 rfl),rfl⟩,?_⟩
 repeat refine aj ?_
 apply hK;refine aaa λK hK=>?_;refine AW.tK ?_;refine mO.run 6 rfl ?_;simp[h1,h2,ai];refine mO.fj (x:=.c (.aH 2 0 s.length 1)) (us:=[(2,.cells true false 5 (bl s))]) (rds:=[]) 3 rfl rfl ?_ ?_
 ·have:=T4 (az iN 1 (.cells false false 151 [.ptr 1 0,.d .nilsl])) s (by simp[h2]) hs;rw[if_neg hl0]at this;exact this
 refine mO.run 3 rfl ?_;simp[bg,h1,ai];refine mO.done ?_
 repeat refine aj ?_
 apply hK;refine aah ?_;exact aaH (show RO _ _ _ .ret _ _ from⟨by simp[Tryz.f87,eE,kZ,mN],by simp[ai,HZ]⟩)
theorem Bb:∀l:List UInt8,mz (bl l)=some l
 |[]=>rfl
 |b::l=>by
  have hb:b.toNat<256:=b.toNat_lt;show mz (.d (.int .u8 (.ofNat b.toNat))::bl l)=_;unfold mz;simp only[Bb l,hb,if_true,UInt8.ofNat_toNat]
theorem Z4:Tryz.prog.underlying 196=some (.pointer 5):=Tryz.underlying196
theorem YD(m:Int)(lv:Key->LB)(l:List UInt8)(h1:lv 1=HZ 2 l.length)(h2:lv 2=LO l)(hl:l.length<=100000000000)(h0:l≠[]):
 aW Tryz.prog (GG m) 88 [.c (.ptr 1 0)] lv (.ret (.c (.d (.str l))) (az lv 2 .dead)):=by
 refine aW.mw (κ:=9) Tryz.func88 rfl (by show 1<=_;decide) ?_;rintro⟨_,Gc,w0,F0,W0,_,iN,β0⟩ rfl rfl rfl rfl;have hl0:0<l.length:=List.length_pos_iff.2 h0;have h1:iN 1=.cells false false 151 [.ptr 1 0,.aH 2 0 l.length 1]:=h1;have h2:iN 2=.cells false false 5 (bl l):=h2;have hn:=cQ l;refine aah ?_;refine aaa λK hK=>?_;refine AW.ZP mixed (by kernel_rfl) ?_;refine HL.run 4 rfl ?_;simp[h1];refine HL.fj (x:=.c (.ptr 2 0)) (us:=[]) (rds:=[2]) 9 rfl rfl ?_ ?_
 ·show yx iN (.c (.aH 2 0 l.length 1))=_;simp[yx,h2,hl0]
 refine HL.run 5 rfl ?_;simp[h1,h2,bg];refine⟨by omega,?_⟩;refine HL.fj (x:=.c (.d (.str l))) (us:=[(2,.dead)]) (rds:=[]) 9 rfl rfl ?_ ?_
 ·show nT Tryz.prog 196 (bg iN []) (.c (.ptr 2 0)) (.c (.d (.int .i64 (l.length:Int))))=_;have hc1:Tryz.prog.cellsOf 5=1:=by kernel_rfl
  have htk:(bl l).take ((l.length:Int).toNat)=bl l:=by rw[aeA];exact ae6 (by omega)
  simp only[nT,bg,List.foldl,h2,Z4,hc1,htk,Bb];rw[if_pos ⟨trivial,trivial,by omega,by omega⟩,if_pos (by omega)]
 refine HL.run 1 rfl ?_;simp;refine HL.done ?_;refine⟨by kernel_rfl,?_⟩
 repeat refine aj ?_
 apply hK;exact aaH (show RO _ _ _ .ret _ _ from⟨by simp[Tryz.f88,eE,kZ,mN],by simp[bg]⟩)
theorem Qx(j:Nat):∀(k n:Nat),dL (j+k) n=dL j (n/10^k)++dL k n
 |0,n=>by simp[dL]
 |k+1,n=>by
  show dL (j+k) (n/10)++[n%10]=_;rw[Qx j k (n/10),afY,show 10*10^k=10^(k+1) by rw[adR];omega,adX];rfl
theorem IS:∀k:Nat,dL k 0=List.replicate k 0
 |0=>rfl
 |k+1=>by
  show dL k (0/10)++[0%10]=_;rw[Nat.zero_div,IS k,agR]
theorem QG:∀(k n:Nat),dL k (n%10^k)=dL k n
 |0,n=>rfl
 |k+1,n=>by
  show dL k (n%10^(k+1)/10)++[n%10^(k+1)%10]=dL k (n/10)++[n%10]
  rw[show 10^(k+1)=10*10^k by rw[adR];omega,ag3,QG k (n/10),Nat.mod_mul_right_mod]
theorem BS(j k n:Nat):sZ (j+k) n=sZ j (n/10^k)++sZ k n:=by
 unfold sZ;rw[Qx,aeR]
theorem MI(k:Nat):sZ k 0=List.replicate k 48:=by
 unfold sZ;rw[IS,List.map_replicate];rfl
theorem Tj(k n:Nat):sZ k (n%10^k)=sZ k n:=by
 unfold sZ;rw[QG]
theorem DT(h:n<1000000000):1<=(fH n).length/\(fH n).length<=9:=by
 by_cases h0:n=0
 ·subst h0;exact⟨by decide,by decide⟩
 ·rw[iu h0,nZ];have h2:jB n<=9:=bS (by decide) h;have h1:=wZ n;refine⟨Nat.one_le_iff_ne_zero.2 λe=>?_,h2⟩;rw[e]at h1;omega
theorem Si(h:n<1000000000):List.replicate (9-(fH n).length) 48++fH n=sZ 9 n:=by
 by_cases h0:n=0
 ·subst h0;decide
 ·have h2:jB n<=9:=bS (by decide) h;rw[iu h0,nZ]
  conv=>rhs;rw[show 9=(9-jB n)+jB n by omega]
  rw[BS,aeY (wZ n),MI]
theorem vG(h:n≠0):jB n=jB (n/10)+1:=by
 unfold jB;rw[FA h,aef]
theorem E8(n:Nat):∀j:Nat,n/10^j≠0->jB n=jB (n/10^j)+j
 |0,_=>by simp
 |j+1,h=>by
  have e:n/10^(j+1)=n/10^j/10:=by rw[afY,adR]
  have h1:n/10^j≠0:=by intro e0;rw[e,e0]at h;simp at h
  rw[E8 n j h1,vG h1,e];omega
def pts(n:Nat):List (List UInt8):=if n/1000000000=0 then[fH n]else sZ 9 (n%1000000000)::pts (n/1000000000)
termination_by n
decreasing_by
 rename_i h
 exact afS (by omega) (by decide)
theorem G4{n:Nat}(h:n/1000000000=0):pts n=[fH n]:=by rw[pts,if_pos h]
theorem Iu{n:Nat}(h:n/1000000000≠0):pts n=sZ 9 (n%1000000000)::pts (n/1000000000):=by rw[pts,if_neg h]
theorem EK(n:Nat)(h:n≠0):(pts n).reverse.flatten=fH n:=by
 induction n using Nat.strongRecOn with
 |_ n ih=>
  by_cases hq:n/1000000000=0
  ·rw[G4 hq];simp
  ·rw[Iu hq,agh,agI,ih _ (afS (by omega) (by decide)) hq,iu hq,iu h,E8 n 9 hq,BS];have:sZ 9 (n%1000000000)=sZ 9 n:=Tj 9 n;rw[this];simp
theorem CK(n:Nat):∀p∈pts n,p≠[]/\p.length<=9:=by
 induction n using Nat.strongRecOn with
 |_ n ih=>
  by_cases hq:n/1000000000=0
  ·rw[G4 hq];intro p hp;rw[List.mem_singleton.1 hp];have h:=DT (n:=n) (by omega);exact⟨λe=>by rw[e]at h;exact absurd h.1 (by decide),h.2⟩
  ·rw[Iu hq];intro p hp;rcases List.mem_cons.1 hp with rfl|hp
   ·refine⟨λe=>?_,?_⟩
    ·have:=nZ 9 (n%1000000000);rw[e]at this;cases this
    ·rw[nZ];exact bh _
   ·exact ih _ (afS (by omega) (by decide)) p hp
theorem JG(n:Nat):pts n≠[]:=by
 rw[pts];split<;>simp
theorem Pk{l:List (List UInt8)}(h:∀p∈l,p≠[]):l.length<=l.flatten.length:=by
 induction l with
 |nil=>simp
 |cons p l ih=>
  have h1:=List.length_pos_iff.2 (h p (aen ..));have h2:=ih λq hq=>h q (aew _ hq)
  simp only[afZ,ad6,aef];omega
theorem Rk(m:Int)(n:Nat)(hn:n<1000000000):aa Tryz.prog (GG m) 85 [.c (.d (.int .u64 n)),.c (.d (.int .i64 10))] (.c (.d (.str (fH n)))):=by
 have h1:=GZ m n hn;refine aa.en Tryz.func85 rfl λ_=>aah ?_;refine acH 1 h1 ?_;exact abe (aN.rt rfl 4 (by simp))
noncomputable def rpT(G:List (List DV)):Bool:=(List.range 9).all λi=>match Wd (RD Tryz.prog G Yk 0 60 86 [.c (.d (.str [48])),.c (.d (.int .i64 (.ofNat i)))] .leaf 0 [] Bj .uR)with
 |some (.c (.d (.str s)))=>YV s (List.replicate i 48)
 |_=>false
theorem VR(m:Int):rpT (GG m)=true:=by kernel_rfl
theorem Me(m:Int)(i:Nat)(hi:i<9):aa Tryz.prog (GG m) 86 [.c (.d (.str [48])),.c (.d (.int .i64 i))] (.c (.d (.str (List.replicate i 48)))):=by
 have h:=List.all_eq_true.1 (VR m) i (List.mem_range.2 hi);split at h
 ·rename_i s hs
  have:=aa.gM (BX m 60) hs;rw[HG h]at this;exact this
 ·cases h
theorem Pt{k:Key}(h:lv k=.hole):az lv k .hole=lv:=by
 funext j
 simp_all
def sK(l:List (List UInt8)):List CV:=l.map λs=>CV.d (.str s)
def sB(l:List (List UInt8)):LB:=if l=[]then .hole else .cells true false 9 (sK l)
def sS(l:List (List UInt8)):AV:=if l=[]then .c (.d .nilsl)else .c (.aH 0 0 l.length 1)
theorem QF(l:List (List UInt8)):(sK l).length=l.length:=by simp[sK]
theorem zg(l:List (List UInt8))(g:Key->Key):(sK l).map (CV.bY g)=sK l:=by
 unfold sK;rw[aed];rfl
theorem xE(l:List (List UInt8))(x:List UInt8):sB (l++[x])=.cells true false 9 (sK l++[.d (.str x)]):=by
 unfold sB;rw[if_neg (by simp)];simp[sK]
theorem xd(l:List (List UInt8))(x:List UInt8):sS (l++[x])=.c (.aH 0 0 (l.length+1) 1):=by
 unfold sS;rw[if_neg (by simp)];simp
theorem RY(lv:Key->LB)(κ:Key)(h:lv κ=.hole)(a:CV):ak Tryz.prog 47 1 [0] lv κ [.c a]=some (.c (.aH κ 0 1 1),[(κ,.cells true false 9 [a])],[],True):=by
 unfold ak;rw[h];kernel_rfl
theorem I1(s t:List UInt8):aO Tryz.prog .add 9 (.c (.d (.str s))) (.c (.d (.str t)))=some (.c (.d (.str (s++t))),[],[],s.length+t.length<=9223372036854775807):=by
 simp[aO,Ly,oN]
theorem Y3(lv:Key->LB)(h:lv 0=.cells false false 9 cs)(hi:i<n):aq Tryz.prog 47 lv (.c (.aH 0 0 n 1)) (.c (.d (.int .i64 (i:Int))))=some (.c (.ptr 0 i),[],[0],i<n):=by
 simp[aq,h]
theorem Zu(lv:Key->LB){s:List UInt8}(h:lv 0=.cells false false 9 cs)(hs:cs[i]?=some (.d (.str s))):aF Tryz.prog 9 lv (.c (.ptr 0 i))=some (.c (.d (.str s)),[],[0],True):=by
 obtain⟨hi,hs⟩:=List.getElem?_eq_some_iff.1 hs;have hd:cs.drop i=.d (.str s)::cs.drop (i+1):=by rw[adT hi,hs]
 simp[aF,h,hd]
def wJ(A j:Nat):List UInt8:=((pts A).drop j).reverse.flatten
def JQ(w:List UInt8):LB:=if w=[]then .cells false false 151 [.d .nilp,.d .nilsl]else HZ 2 w.length
def Je(w:List UInt8):LB:=if w=[]then .hole else LO w
theorem VJ(A:Nat)(h:A≠0):wJ A 0=fH A:=by unfold wJ;rw[aeu,EK A h]
theorem UZ(A:Nat):wJ A (pts A).length=[]:=by unfold wJ;rw[List.drop_length];rfl
theorem Ki(A j:Nat)(h:j<(pts A).length):wJ A j=wJ A (j+1)++(pts A)[j]:=by
 unfold wJ;rw[adT h,agh,agI];simp
theorem EF:∀{l:List (List UInt8)},(∀p∈l,p.length<=9)->l.flatten.length<=9*l.length
 |[],_=>by simp
 |p::l,h=>by
  have h1:=h p (aen ..);have h2:=EF (l:=l) λq hq=>h q (aew _ hq)
  simp only[afZ,ad6,aef];omega
theorem Mx(A j:Nat):(wJ A j).length<=9*(pts A).length:=by
 unfold wJ;refine Ju (EF λp hp=>(CK A p (afv (List.mem_reverse.1 hp))).2) ?_;rw[List.length_reverse,afm];omega
theorem UC(A j:Nat)(h:j<(pts A).length):wJ A j≠[]:=by
 rw[Ki A j h];have:=(CK A _ (aT h)).1;simp[this]
theorem JW(A:Nat):jB A<=10*(aG 4294967296 A).length:=by
 refine bS (by decide) ?_;rw[afp];exact aeB (nU (by decide)) (af2 (by decide) _)
theorem AI{A:Nat}(h:A≠0):(pts A).length<=10*(aG 4294967296 A).length:=by
 have h1:=Pk (l:=(pts A).reverse) λp hp=>(CK A p (List.mem_reverse.1 hp)).1
 rw[List.length_reverse,EK A h,iu h,nZ]at h1;exact Ju h1 (JW A)
theorem fY.step{κ:Key}{x:AV}{us:List (Key×LB)}{rds:List Key}{vc:Prop}(hd:∀d,o.dst=some d->d<c.n)(hg:o.guard=none)
 (h:dA c.P o.op (o.op.operands.toList.map (s.val c.G)) s.lv κ=some (x,us,rds,vc)) (hvc:vc)(h1:s1=aB.put ⟨s.fr,bg s.lv us⟩ o.dst x):fY c r ops o s s1:=by
 subst h1;exact fY.PD (cY.plain hd (by unfold dN;rw[hg]) h hvc)
theorem yy:cD (λ_=>.hole):=λ_=>rfl
theorem kM{k:Key}{b:LB}(h:cD lv)(hb:b.okB=true):cD (az lv k b):=by
 intro j;unfold az;split
 ·exact hb
 ·exact h j
theorem My(w:List UInt8):(JQ w).okB=true:=by unfold JQ;split<;>rfl
theorem M3(w:List UInt8):(Je w).okB=true:=by unfold Je;split<;>rfl
theorem zO(l:List UInt8)(g:Key->Key):(bl l).map (CV.bY g)=bl l:=by
 unfold bl;rw[aed];rfl
theorem vS(m:Int)(o:Option (List Nat))(A:Nat)(ho:dO o=(aG 4294967296 A))(hA:(aG 4294967296 A).length<=1000000000):aa Tryz.prog (GG m) 45 [nK .u32 o] (.c (.d (.str (fH A)))):=by
 by_cases h0:A=0
 ·subst h0;have hl:(dO o).length=0:=by rw[ho];rfl
  have hl':((dO o).length:Int)=0:=by omega
  have hd:fH 0=[48]:=rfl;rw[hd];refine aa.en Tryz.func45 rfl λ_=>aah ?_;refine aaa λK hK=>abf hl ?_;refine abl (aah ?_);exact abe (aN.rt rfl 2 (by simp))
 have hne:(aG 4294967296 A)≠[]:=λe=>h0 ((cL (by decide)).1 e)
 obtain rfl:o=some (aG 4294967296 A):=by
  cases o with
  |none=>exact absurd ho.symm hne
  |some l=>exact congrArg some ho
 have hl:¬((aG 4294967296 A).length:Int)=0:=by
  have:=List.length_pos_iff.2 hne;omega
 have hl0:¬(aG 4294967296 A).length=0:=by omega
 refine aa.Uk Tryz.func45 rfl λ_=>aah ?_;refine aaa λK hK=>ace hl hl0 ?_;refine abd (by simp[hl]<;>omega) (aav (hK _ _ (aah ?_)));refine aaa λK hK=>aaE ?_
 refine abr (λ(d:Nat×List (List UInt8))=>⟨aU [(0,nK .u32 (some (aG 4294967296 d.1))),(3,sS d.2)],az (λ_=>.hole) 0 (sB d.2)⟩) 1
  (λd=>d.1<=A/\d.2++(if d.1=0 then[]else pts d.1)=pts A) (λd=>d.1) (A,[]) (Le.eY _ (by simp only[sB,if_true];exact(Pt rfl).symm) (by simp[sS])) ⟨bh _,by rw[if_neg h0];rfl⟩ ?_
 rintro⟨n,p⟩ hi;obtain⟨hi,hp⟩:=hi
 try simp only at hi hp ⊢
 have hnl:(aG 4294967296 n).length<=1000000000:=Ju (cS (by decide) hi) hA;refine aaa λK3 hK3=>aah ?_
 by_cases hn0:n=0
 rotate_left
 ·have hpos:0<(aG 4294967296 n).length:=List.length_pos_iff.2 λe=>hn0 ((cL (by decide)).1 e)
  have csm:=lG (GG m) (some (aG 4294967296 n)) 1000000000 (by decide) (by rw[aR];omega);rw[aR,bn (by decide)]at csm;rw[if_neg hn0]at hp
  have hpl:p.length<=10000000000:=by
   have h1:p.length+(pts n).length=(pts A).length:=by rw[<-hp,ad6]
   have h2:=AI h0;omega
  have hr:n%1000000000<1000000000:=adZ _ (by decide);have hqn:n/1000000000<n:=afS (by omega) (by decide);have hlo:=@G4 n;have hhi:=@Iu n;have hmm:n/1000000000=0->n%1000000000=n:=by omega
  generalize n/1000000000=q at *
  generalize n%1000000000=r at *
  have cfu:=Rk m r hr;have w1:=dj (n:=(r:Int)) (by omega) (by omega);have hdl:=DT hr;have hpad:=Si hr;have crp:=Me m (9-(fH r).length) (by omega);have hsub:(9:Int)-((fH r).length:Int)=((9-(fH r).length:Nat):Int):=by omega
  have w2:=bB (n:=((9-(fH r).length:Nat):Int)) (by omega) (by omega);refine aaX (by simp[hpos]<;>omega) (aav (hK3 _ _ (aaE (acH 10 csm ?_))));refine acA 10 cfu w1 ?_;refine aaa λK5 hK5=>aah ?_
  by_cases hq:q=0
  ·have hps:p++[fH r]++(if q=0 then[]else pts q)=p++pts n:=by rw[if_pos hq,hlo hq,hmm hq];simp
   have hqz:¬0<(aG 4294967296 q).length:=by rw[hq];decide
   refine abd (by simp[hqz]<;>omega) (aav (hK5 _ _ (aaa λK5 hK5=>?_)))
   by_cases hl:p=[]
   ·subst hl;refine aar ?_;simp[sB,sS,RY,fc,keyOf,-ak]
    repeat refine aj ?_
    apply hK5;refine aar ?_;simp
    exact⟨q,[]++[fH r],Le.keys [(0,11,sB ([]++[fH r]))] 19 _ rfl rfl (by simp) (by simp) (by simp) (by
     intro e he;simp only[aY,cy,or_false]at he;subst he;rw[xE];simp[sK]) (by rw[xd];simp[b6]),⟨by omega,by rw[<-hp];exact hps⟩,by omega⟩
   ·have hzb:sB p=.cells true false 9 (sK p):=if_neg hl;have hzs:sS p=.c (.aH 0 0 p.length 1):=if_neg hl;have hzl:=QF p;refine aar ?_;simp[hzb,hzs,RY,fc,keyOf,hzl,-ak]
    repeat refine aj ?_
    apply hK5;refine aar ?_;simp
    exact⟨q,p++[fH r],Le.keys [(0,11,sB (p++[fH r]))] 19 _ rfl rfl (by simp) (by simp) (by simp) (by
     intro e he;simp only[aY,cy,or_false]at he;subst he;rw[xE];simp[zg]) (by rw[xd];simp[b6]),⟨by omega,by rw[<-hp];exact hps⟩,by omega⟩
  ·have hps:p++[sZ 9 r]++(if q=0 then[]else pts q)=p++pts n:=by rw[if_neg hq,hhi hq];simp
   have hqz:0<(aG 4294967296 q).length:=List.length_pos_iff.2 λe=>hq ((cL (by decide)).1 e)
   refine aaX (by simp[hqz]<;>omega) (aar ?_);simp[hsub,w2];refine ag.p 10 9 crp ?_;simp[I1,hpad]
   repeat refine aj ?_
   apply hK5;refine aaa λK5 hK5=>?_
   by_cases hl:p=[]
   ·subst hl;refine aar ?_;simp[sB,sS,RY,fc,keyOf,-ak]
    repeat refine aj ?_
    apply hK5;refine aar ?_;simp
    exact⟨q,[]++[sZ 9 r],Le.keys [(0,11,sB ([]++[sZ 9 r]))] 19 _ rfl rfl (by simp) (by simp) (by simp) (by
     intro e he;simp only[aY,cy,or_false]at he;subst he;rw[xE];simp[sK]) (by rw[xd];simp[b6]),⟨by omega,by rw[<-hp];exact hps⟩,by omega⟩
   ·have hzb:sB p=.cells true false 9 (sK p):=if_neg hl;have hzs:sS p=.c (.aH 0 0 p.length 1):=if_neg hl;have hzl:=QF p;refine aar ?_;simp[hzb,hzs,RY,fc,keyOf,hzl,-ak]
    repeat refine aj ?_
    apply hK5;refine aar ?_;simp
    exact⟨q,p++[sZ 9 r],Le.keys [(0,11,sB (p++[sZ 9 r]))] 19 _ rfl rfl (by simp) (by simp) (by simp) (by
     intro e he;simp only[aY,cy,or_false]at he;subst he;rw[xE];simp[zg]) (by rw[xd];simp[b6]),⟨by omega,by rw[<-hp];exact hps⟩,by omega⟩
 subst hn0;have hpe:p=pts A:=by rw[<-hp];simp
 have hpn:p≠[]:=by rw[hpe];exact JG A
 have hzb:sB p=.cells true false 9 (sK p):=if_neg hpn;have hzs:sS p=.c (.aH 0 0 p.length 1):=if_neg hpn;rw[hzb,hzs,hpe];have hplen:(pts A).length<=10000000000:=Ju (AI h0) (by omega);have w1:=bB (n:=((pts A).length:Int)-1) (by omega) (by omega);refine aba (abn (hK _ _ (aah ?_)));refine aaa λK hK=>abf w1 ?_;refine aaE ?_
 refine abr (λ(j:Nat)=>⟨aU [(3,.c (.aH 0 0 (pts A).length 1)),(7,.c (.ptr 1 0)),(8,.c (.d (.int .i64 ((j:Int)-1))))],az (az (az (λ_=>.hole) 0 (.cells false false 9 (sK (pts A)))) 1 (JQ (wJ A j))) 2 (Je (wJ A j))⟩) 3
  (λj=>j<=(pts A).length) (λj=>j) (pts A).length ?_ (bh _) ?_
 ·rw[UZ];simp only[JQ,Je,if_true]
  exact Le.keys [(0,0,.cells false false 9 (sK (pts A))),(1,1,.cells false false 151 [.d .nilp,.d .nilsl])] 19 _ (Pt rfl) rfl (by simp) (by simp) (by simp) (by
   intro e he;simp only[aY,cy,or_false]at he;rcases he with rfl|rfl
   ·simp[zg]
   ·simp[CV.bY]) (by simp[b6])
 rintro j hj
 try simp only at hj
 refine aaa λK4 hK4=>aah ?_
 cases j with
 |zero=>
  refine aba (abn (hK _ _ (aaa λK hK=>?_)));have hne:wJ A 0≠[]:=UC A 0 (List.length_pos_iff.2 (JG A));have hlim:(wJ A 0).length<=100000000000:=Ju (Mx A 0) (by omega);have hb:JQ (wJ A 0)=HZ 2 (wJ A 0).length:=if_neg hne;have hy:Je (wJ A 0)=LO (wJ A 0):=if_neg hne;have hd:=VJ A h0;obtain⟨L,hL⟩:∃L,L=az (az (az (λ_=>LB.hole) 0 (.cells false false 9 (sK (pts A)))) 1 (JQ (wJ A 0))) 2 (Je (wJ A 0)):=⟨_,rfl⟩
  have hL1:L 1=HZ 2 (wJ A 0).length:=by rw[hL,<-hb];rfl
  have hL2:L 2=LO (wJ A 0):=by rw[hL,<-hy];rfl
  have hLk:cD L:=by rw[hL];exact kM (kM (kM yy rfl) (My _)) (M3 _)
  rw[<-hL];have hcall:=YD m L (wJ A 0) hL1 hL2 hlim hne;refine AW.oP ⟨_,⟨_,fY.E2 (f:=88) (fs:=[]) (cs:=[]) (by intro d hd;cases hd;show(_:Nat)<50;decide) rfl rfl rfl (by simp) (by exact hLk) (by exact hcall),_,fY.step (x:=.c (.d (.str (wJ A 0)))) (us:=[]) (rds:=[]) (vc:=True) (κ:=19) (by intro d hd;cases hd;show(_:Nat)<50;decide) rfl rfl trivial rfl,rfl⟩,?_⟩;refine hK _ _ ?_;rw[<-hd];exact aaH (κ:=0) (aN.tmp rfl 19 (by simp) rfl (by simp[hL]) rfl)
 |succ i=>
  have e1:((i+1:Nat):Int)-1=(i:Int):=by omega
  have hi:i<(pts A).length:=hj;have hi0:(0:Int)<=(i:Int):=by omega
  have hw:=Ki A i hi;have hpn:=CK A _ (aT hi);have hsk:(sK (pts A))[i]?=some (.d (.str (pts A)[i])):=by unfold sK;rw[aeP,fy hi];rfl
  rw[e1];refine aaX (by simp[hi0]<;>omega) (aav (hK4 _ _ (aaa λK6 hK6=>aaE ?_)))
  have hlim:(wJ A (i+1)).length+(pts A)[i].length<=100000000000:=by
   have h1:=Mx A i;rw[hw,ad6]at h1;omega
  have w3:=bB (n:=(i:Int)-1) (by omega) (by omega);obtain⟨L,hL⟩:∃L,L=az (az (az (λ_=>LB.hole) 0 (.cells false false 9 (sK (pts A)))) 1 (JQ (wJ A (i+1)))) 2 (Je (wJ A (i+1))):=⟨_,rfl⟩
  have hL0:L 0=.cells false false 9 (sK (pts A)):=by rw[hL];rfl
  have hL1:L 1=JQ (wJ A (i+1)):=by rw[hL];rfl
  have hL2:L 2=Je (wJ A (i+1)):=by rw[hL];rfl
  have hLk:cD L:=by rw[hL];exact kM (kM (kM yy rfl) (My _)) (M3 _)
  rw[<-hL]
  by_cases hwe:wJ A (i+1)=[]
  ·have hb:JQ (wJ A (i+1))=.cells false false 151 [.d .nilp,.d .nilsl]:=if_pos hwe;have hy:Je (wJ A (i+1))=.hole:=if_pos hwe;rw[hb]at hL1;rw[hy]at hL2;have hcall:=OA m L (pts A)[i] hLk hL1 hL2 (by omega) hpn.1;rw[hwe,aeT]at hw
   refine AW.oP ⟨_,⟨_,fY.step (κ:=19) (x:=.c (.aH 0 0 (pts A).length 1)) (us:=[]) (rds:=[]) (vc:=True) (by intro d hd;cases hd;show(_:Nat)<50;decide) rfl rfl trivial rfl,_,fY.step (κ:=19) (x:=.c (.d (.int .i64 (i:Int)))) (us:=[]) (rds:=[]) (vc:=True) (by intro d hd;cases hd;show(_:Nat)<50;decide) rfl rfl trivial rfl,
    _,fY.step (κ:=19) (x:=.c (.ptr 0 i)) (us:=[]) (rds:=[0]) (vc:=i<(pts A).length) (by intro d hd;cases hd;show(_:Nat)<50;decide) rfl (by exact Y3 L hL0 hi) hi rfl,_,fY.step (κ:=19) (x:=.c (.d (.str (pts A)[i]))) (us:=[]) (rds:=[0]) (vc:=True) (by intro d hd;cases hd;show(_:Nat)<50;decide) rfl (by exact Zu L hL0 hsk) trivial rfl,
    _,fY.E2 (f:=87) (fs:=[]) (cs:=[]) (by intro d hd;cases hd;show(_:Nat)<50;decide) rfl rfl rfl (by simp) (by exact hLk) (by exact hcall),rfl⟩,?_⟩
   refine hK6 _ _ ?_;refine aar ?_;simp[w3];have hb':JQ (wJ A i)=HZ 2 (pts A)[i].length:=by unfold JQ;rw[hw,if_neg hpn.1]
   have hy':Je (wJ A i)=LO (pts A)[i]:=by unfold Je;rw[hw,if_neg hpn.1]
   exact⟨i,Le.keys [(0,0,.cells false false 9 (sK (pts A))),(1,1,HZ 2 (pts A)[i].length),(2,2,LO (pts A)[i])] 19 _ (by rw[hb',hy'];rfl) rfl (by simp) (by simp) (by simp[hL]) (by
    intro e he;simp only[aY,cy,or_false]at he;rcases he with rfl|rfl|rfl
    ·simp[hL0,zg]
    ·simp[HZ,b6,CV.bY]
    ·simp[LO,zO]) (by simp[b6]),by omega,by omega⟩
  ·have hb:JQ (wJ A (i+1))=HZ 2 (wJ A (i+1)).length:=if_neg hwe;have hy:Je (wJ A (i+1))=LO (wJ A (i+1)):=if_neg hwe;rw[hb]at hL1;rw[hy]at hL2;have hL3:L 3=.hole:=by rw[hL];rfl
   have hcall:=Rg m L (wJ A (i+1)) (pts A)[i] hLk hL1 hL2 hL3 hlim
   refine AW.oP ⟨_,⟨_,fY.step (κ:=19) (x:=.c (.aH 0 0 (pts A).length 1)) (us:=[]) (rds:=[]) (vc:=True) (by intro d hd;cases hd;show(_:Nat)<50;decide) rfl rfl trivial rfl,_,fY.step (κ:=19) (x:=.c (.d (.int .i64 (i:Int)))) (us:=[]) (rds:=[]) (vc:=True) (by intro d hd;cases hd;show(_:Nat)<50;decide) rfl rfl trivial rfl,
    _,fY.step (κ:=19) (x:=.c (.ptr 0 i)) (us:=[]) (rds:=[0]) (vc:=i<(pts A).length) (by intro d hd;cases hd;show(_:Nat)<50;decide) rfl (by exact Y3 L hL0 hi) hi rfl,_,fY.step (κ:=19) (x:=.c (.d (.str (pts A)[i]))) (us:=[]) (rds:=[0]) (vc:=True) (by intro d hd;cases hd;show(_:Nat)<50;decide) rfl (by exact Zu L hL0 hsk) trivial rfl,
    _,fY.E2 (f:=87) (fs:=[]) (cs:=[]) (by intro d hd;cases hd;show(_:Nat)<50;decide) rfl rfl rfl (by simp) (by exact hLk) (by exact hcall),rfl⟩,?_⟩
   refine hK6 _ _ ?_;refine aar ?_;simp[w3];have hne:¬wJ A i=[]:=UC A i hi;have hb':JQ (wJ A i)=HZ 2 ((wJ A (i+1)).length+(pts A)[i].length):=by unfold JQ;rw[if_neg hne,hw,ad6]
   have hy':Je (wJ A i)=LO (wJ A (i+1)++(pts A)[i]):=by unfold Je;rw[if_neg hne,hw]
   exact⟨i,Le.keys [(0,0,.cells false false 9 (sK (pts A))),(1,1,HZ 2 ((wJ A (i+1)).length+(pts A)[i].length)),(2,3,LO (wJ A (i+1)++(pts A)[i]))] 19 _ (by rw[hb',hy'];rfl) rfl (by simp) (by simp) (by simp[hL]) (by
    intro e he;simp only[aY,cy,or_false]at he;rcases he with rfl|rfl|rfl
    ·simp[hL0,zg]
    ·simp[HZ,b6,CV.bY]
    ·simp[LO,zO]) (by simp[b6]),by omega,by omega⟩
theorem xb(q:Option (List Nat)):aO Tryz.prog .neq 25 (.c (nC q)) (.c (.d .nilsl))=some (.c (.d (.bool q.isSome)),[],[],True):=by
 cases q with
 |none=>kernel_rfl
 |some l=>exact(show ∀es,aO Tryz.prog .neq 25 (.c (.d (.sl es))) (.c (.d .nilsl))=some (.c (.d (.bool true)),[],[],True) from λes=>by kernel_rfl) _
theorem abA(m:Int)(A:Nat)(h:(aG 4294967296 A).length<=1000000000):aa Tryz.prog (GG m) 45 [.c (nC (aL A))] (.c (.d (.str (fH A)))):=by
 rw[<-gy];exact vS m _ A (jO A) h
theorem acY(m:Int)(A:Nat)(h:(aG 4294967296 A).length<=1000000000)(h1:A≠1):aa Tryz.prog (GG m) 45 [.c (nC (bw A))] (.c (.d (.str (fH A)))):=by
 rw[<-gy];exact vS m _ A (by unfold bw;rw[if_neg h1];rfl) h
def vL(x:Rat):List UInt8:=(if x.num<0 then[45]else[])++fH x.num.natAbs++(if x.den=1 then[]else[47]++fH x.den)
theorem AZ(A:Nat):(fH A).length<=10*(aG 4294967296 A).length+1:=by
 by_cases h:A=0
 ·subst h;decide
 ·rw[iu h,nZ];have:=JW A;omega
theorem zR(m:Int)(x:Rat)(hx:br x 1000000000):aa Tryz.prog (GG m) 14 [bC x] (.c (.d (.str (vL x)))):=by
 have c1:=abA m x.num.natAbs hx.1;have l1:=AZ x.num.natAbs;have l2:=AZ x.den;have hx1:(aG 4294967296 x.num.natAbs).length<=1000000000:=hx.1;have hx2:(aG 4294967296 x.den).length<=1000000000:=hx.2;have cat:=I1
 by_cases hd:x.den=1
 ·have e:vL x=(if x.num<0 then[45]else[])++fH x.num.natAbs:=by unfold vL;rw[if_pos hd,aei]
  have hdn:bw x.den=none:=by unfold bw;rw[if_pos hd]
  rw[e];show aa Tryz.prog (GG m) 14 [.agg [.d (.bool (decide (x.num<0))),nC (aL x.num.natAbs),nC (bw x.den)]] _;rw[hdn]
  by_cases hn:x.num<0
  ·rw[if_pos hn];generalize fH x.num.natAbs=s at *
   refine aa.en Tryz.func14 rfl λ_=>aah ?_;refine acH 2 c1 ?_;refine aaa λK hK=>aah ?_;refine aaX (by simp[hn]<;>omega) (acK cat (hK _ _ ?_));refine aaa λK hK=>abf @xb ?_;refine aba (aav (hK _ _ (aah ?_)));exact abe (aN.rt (t:=2) rfl 9 (by simp))
  ·rw[if_neg hn];generalize fH x.num.natAbs=s at *
   refine aa.en Tryz.func14 rfl λ_=>aah ?_;refine acH 2 c1 ?_;refine aaa λK hK=>aah ?_;refine abd (by simp[hn]<;>omega) (aav (hK _ _ (aaa λK hK=>abf @xb ?_)));refine aba (aav (hK _ _ (aah ?_)));exact abe (aN.rt (t:=2) rfl 9 (by simp))
 ·have e:vL x=(if x.num<0 then[45]else[])++fH x.num.natAbs++([47]++fH x.den):=by unfold vL;rw[if_neg hd]
  have c2:=acY m x.den hx.2 hd;have hdn:(bw x.den).isSome=true:=by unfold bw;rw[if_neg hd];rfl
  rw[e];show aa Tryz.prog (GG m) 14 [.agg [.d (.bool (decide (x.num<0))),nC (aL x.num.natAbs),nC (bw x.den)]] _;generalize bw x.den=q at *
  by_cases hn:x.num<0
  ·rw[if_pos hn];generalize fH x.num.natAbs=s at *
   generalize fH x.den=t at *
   refine aa.en Tryz.func14 rfl λ_=>aah ?_;refine acH 2 c1 ?_;refine aaa λK hK=>aah ?_;refine aaX (by simp[hn]<;>omega) (acK cat (hK _ _ ?_));refine aaa λK hK=>ace @xb hdn ?_;refine abl (adq 3 c2 cat (hK _ _ ?_));refine aah ?_;exact abe (aN.rt (t:=2) rfl 9 (by simp))
  ·rw[if_neg hn];generalize fH x.num.natAbs=s at *
   generalize fH x.den=t at *
   refine aa.en Tryz.func14 rfl λ_=>aah ?_;refine acH 2 c1 ?_;refine aaa λK hK=>aah ?_;refine abd (by simp[hn]<;>omega) (aav (hK _ _ (aaa λK hK=>ace @xb hdn ?_)));refine abl (adq 3 c2 cat (hK _ _ ?_));refine aah ?_;exact abe (aN.rt (t:=2) rfl 9 (by simp))
theorem SP(n:Nat)(h:n<10):sZ 1 n=[KB n]:=by
 show [UInt8.ofNat (48+n%10)]=_;rw[aem h];rfl
theorem VH(n:Nat):fH n=jy n:=by
 induction n using Nat.strongRecOn with
 |_ n ih=>
  by_cases h0:n=0
  ·subst h0;decide
  by_cases h10:n<10
  ·rw[Ds h10,iu h0,vG h0,aeY h10];exact SP n h10
  ·have hq:n/10≠0:=by omega
   rw[B7 h10,<-ih (n/10) (by omega),iu h0,iu hq,vG h0];have:=BS (jB (n/10)) 1 n;rw[Nat.pow_one]at this;rw[this];rfl
theorem VP(x:Rat):vL x=wH x:=by unfold vL wH;simp only[VH]
theorem aae(s t s' t':List UInt8):KI Tryz.prog 20 37 (.agg [.d (.str s),.d (.str t)]) (.agg [.d (.str s'),.d (.str t')])=some ((s == s')&&((t == t')&&true)):=by kernel_rfl
theorem ade(s t:List UInt8):aO Tryz.prog .eql 37 (.agg [.d (.str s),.d (.str t)]) (.agg [.d (.str s),.d (.str t)])=some (.c (.d (.bool true)),[],[],True):=by
 simp[aO,aae,nw]
theorem bSp(a b:List UInt8):eS Tryz.prog 37 [0,1] [.c (.d (.str a)),.c (.d (.str b))]=some (.agg [.d (.str a),.d (.str b)],[],[],True):=by kernel_rfl
theorem Yj(s:List UInt8):aO Tryz.prog .eql 35 (.c (.d (.str s))) (.c (.d (.str s)))=some (.c (.d (.bool true)),[],[],True):=by
 simp[aO,Ly,oN]
theorem szE{x:Rat}(h:br x 300):br x 1000000000:=au h (by decide)
theorem Vo(a b:CV):gA Tryz.prog 37 [a,b]=some (.agg [a,b]):=by kernel_rfl
theorem Sz(m:Int)(a:Iv)(h:a.z):aa Tryz.prog (GG m) 73 [jC a] (.agg [.d (.str (vL a.1)),.d (.str (vL a.2))]):=by
 have c1:=zR m a.1 (szE h.1);have c2:=zR m a.2 (szE h.2);obtain⟨a1,a2⟩:=a;simp only at c1 c2;generalize vL a1=s at *
 generalize vL a2=t at *
 refine aa.enc Tryz.func73 rfl (λlv=>rfl) λ_=>aah ?_;refine aaa λK hK=>?_;refine abx mixed (by kernel_rfl) rfl ?_;simp[ai];refine ag.p 10 9 c1 ?_;simp[ai];refine ag.p 10 9 c2 ?_;simp[bSp,ai];refine⟨by kernel_rfl,?_⟩
 repeat refine aj ?_
 apply hK;refine aaH (aM.cell (κ:=0) (T:=37) (t:=2) (k:=1) (off:=0) (own:=true) (fz:=false) (U:=37) (cs:=[.d (.str s),.d (.str t)]) rfl (by simp) (by simp[ai]) ?_);rw[aeu];exact Vo _ _
theorem MD(m:Int):aa Tryz.prog (GG m) 33 [jC (0,0),.c (.d (.str [48])),.c (.d (.str [48]))] (.c (.d (.bool true))):=by
 have c1:=Sz m (0,0) ⟨pF _ (by decide),pF _ (by decide)⟩;have hu:vL 0=[48]:=by decide
 simp only[hu]at c1;refine aa.en Tryz.func33 rfl λ_=>aah ?_;refine adF 10 c1 @bSp @ade ?_;exact abe (aN.rt rfl 6 (by simp))
theorem AA(m:Int)(bt:Option (List Tm))(b:Option (List Sp))(hl:(aV bt).length<=9223372036854775807)(hp:∀t∈aV bt,(jx t.2).length<=9223372036854775807)(hb:(bp b).length<=1048576):
 aa Tryz.prog (GG m) 22 [.c (bV (lB bt)),.c (bV (wh b))] (.tup [tO (SI (aV bt) (bp b)),.c (.d (.int .i64 (sY (aV bt) (bp b))))]):=by
 have cc:=Bl m bt b hl hp hb
 by_cases h0:sY (aV bt) (bp b)=0
 rotate_left
 ·rw[show SI (aV bt) (bp b)=(0,0) from if_neg h0];rw[show wP (aV bt) (bp b)=.tup [.c (.d .nilsl),.c (.d .nilsl),.c (.d (.int .i64 (sY (aV bt) (bp b))))] from if_neg h0]at cc;generalize sY (aV bt) (bp b)=e at *
  have bz:eS Tryz.prog 65 [] []=some (tO (0,0),[],[],True):=RF;generalize hz:((0:Rat),(0:Rat))=z at *
  refine aa.enc Tryz.func22 rfl (λlv=>jS lv _ _ _ _ _ _ _ rfl) λ_=>aah ?_;refine acH 1 cc ?_;refine aaa λK hK=>aah ?_;refine aaX (by simp[h0]<;>omega) (ace bz @ai.eq_1 ?_);exact aaH (aM.IE (κ:=0) (t:=4) (k:=0) (u:=5) ⟨rfl,rfl⟩ (by simp) (by simp[ai]) (by simp))
 have hsz:=C7 h0;have hM:=(I8 h0).2.2;rw[<-pW]at hM;have hlen:=Cy ((aV bt).map cE) (eD (bp b));have hpos:0<(oE ((aV bt).map cE) (eD (bp b))).length:=by rw[hlen];exact iz _
 have h1:(oE ((aV bt).map cE) (eD (bp b)))[0]?=some (Af ((aV bt).map cE) (eD (bp b)) 0):=by rw[fy hpos,p8]
 have ch:=KN (GG m) (oE ((aV bt).map cE) (eD (bp b))) _ h1 (by omega) (λx hx=>by
  obtain⟨i,hi,rfl⟩:=afw hx;rw[p8];exact au (hsz i) (by omega))
 rw[show SI (aV bt) (bp b)=(lP ((oE ((aV bt).map cE) (eD (bp b))).drop 1) (Af ((aV bt).map cE) (eD (bp b)) 0),lO ((oE ((aV bt).map cE) (eD (bp b))).drop 1) (Af ((aV bt).map cE) (eD (bp b)) 0)) from if_pos h0];rw[show wP (aV bt) (bp b)=.tup [bQ (gX ((aV bt).map cE)) (bp b).length,fG (oE ((aV bt).map cE) (eD (bp b))),.c (.d (.int .i64 0))] from if_pos h0]at cc;rw[h0];generalize oE ((aV bt).map cE) (eD (bp b))=cl at *
 generalize lP (cl.drop 1) (Af ((aV bt).map cE) (eD (bp b)) 0)=r1 at *
 generalize lO (cl.drop 1) (Af ((aV bt).map cE) (eD (bp b)) 0)=r2 at *
 unfold bQ at cc;generalize ((List.range (bp b).length).map λi=>[DV.int .i64 ((gX ((aV bt).map cE) i:Nat):Int)])=ds at *
 refine aa.enc Tryz.func22 rfl (λlv=>jS lv _ _ _ _ _ _ _ rfl) λ_=>aah ?_;refine acH 1 cc ?_;refine aaa λK hK=>aah ?_;refine aba (aav (hK _ _ (acA 1 ch @ai.eq_1 ?_)));exact aaH (aM.IE (κ:=0) (t:=4) (k:=0) (u:=5) (a:=(r1,r2)) ⟨rfl,rfl⟩ (by simp) (by simp[ai]) (by simp))
theorem xu(m:Int)(x:Rat)(h:br x 1000000000):aa Tryz.prog (GG m) 19 [bC x,cC x] (.c (.d (.bool true))):=by
 have c1:=zR m x h;have c2:=AM (GG m) x (au h (by decide));rw[<-VP]at c2;generalize vL x=s at *
 refine aa.en Tryz.func19 rfl λ_=>aah ?_;refine aaa λK hK=>?_;refine abx mixed (by kernel_rfl) rfl ?_;simp;refine ag.p 10 9 c1 ?_;simp[c2];refine ag.p 10 9 c2 ?_;simp[Yj];refine⟨by kernel_rfl,?_⟩
 repeat refine aj ?_
 apply hK;exact abe (aN.rt rfl 4 (by simp))
theorem N8(m:Int)(a:Iv)(h:a.sz 1000000000):aa Tryz.prog (GG m) 65 [jC a,tO a] (.c (.d (.bool true))):=by
 have c1:=ZV (GG m) a;have c2:=Zc (GG m) a;have c3:=xu m a.1 h.1;have c4:=xu m a.2 h.2;obtain⟨a1,a2⟩:=a;simp only at c1 c2 c3 c4;refine aa.en Tryz.func65 rfl λ_=>aah ?_;refine aaa λK hK=>?_;refine abx mixed (by kernel_rfl) rfl ?_;simp;refine ag.p 10 9 c1 ?_;simp[c3];refine ag.p 10 9 c3 ?_;simp[c2];refine ag.p 10 9 c2 ?_;simp[c4];refine ag.p 10 9 c4 ?_;simp[c4];refine⟨by kernel_rfl,?_⟩
 repeat refine aj ?_
 apply hK;exact abe (aN.rt rfl 4 (by simp))
theorem Ln(m:Int)(a:Iv)(e:Int)(h:a.sz 1000000000)(he:e≠0->a=(0,0)):aa Tryz.prog (GG m) 23 [jC a,.c (.d (.int .i64 e)),tO a,.c (.d (.int .i64 e))] (.c (.d (.bool true))):=by
 by_cases h0:e=0
 ·subst h0;have c1:=N8 m a h;refine aa.en Tryz.func23 rfl λ_=>aah ?_;refine acA 10 c1 c1 ?_;exact abe (aN.rt rfl 8 (by simp))
 ·obtain rfl:=he h0;have c1:=MD m;refine aa.en Tryz.func23 rfl λ_=>aah ?_;refine acA 10 c1 h0 ?_;exact abe (aN.rt (t:=8) rfl 9 (by simp[h0]))
theorem Ph(m:Int)(p:Option (List Gz))(hp:(mY p).length<=1048576):∃(n:Nat) (ok:Bool),aI Tryz.prog (GG m) 16 [.c (bV (Sl p))] [] (.ret (.tup [qS 1000 n,Ez 1001 n,.c (.d (.bool ok))]) [] (nB2 (L7 (mY p)) n))/\n<=1048576/\(ok=true->n=(mY p).length/\nmO (mY p)):=by
 by_cases h:nmO (mY p)
 ·exact⟨_,true,Bs m p hp (λ⟨s,hs,he⟩=>absurd (h s hs) he) (λ_=>⟨rfl,rfl⟩),hp,λ_=>⟨rfl,h⟩⟩
 ·exact⟨0,false,Bs m p hp (R:=.tup [qS 1000 0,Ez 1001 0,.c (.d (.bool false))]) (ν:=nB2 (L7 (mY p)) 0) (λ_=>⟨rfl,rfl⟩) (λh'=>absurd h' h),by omega,λh=>by cases h⟩
theorem VI(l:List Gz)(i:Nat):br (L7 l i) 300:=fS _
theorem RC{b:List Sp}(hE:sY l b=0):(SI l b).sz 1000000000:=by
 have hB:=C7 hE;have e:SI l b=(lP ((oE (l.map cE) (eD b)).drop 1) (Af (l.map cE) (eD b) 0),lO ((oE (l.map cE) (eD b)).drop 1) (Af (l.map cE) (eD b) 0)):=if_pos hE
 have hall:∀x∈(oE (l.map cE) (eD b)).drop 1,br x 1000000000:=λx hx=>by
  obtain⟨k,hk,rfl⟩:=afw (afv hx);rw[p8];exact au (hB k) (by omega)
 rw[e];exact⟨Jm hall (au (hB 0) (by omega)),Jr hall (au (hB 0) (by omega))⟩
theorem VS{xs:List Rat}(hz:∀x∈xs,br x 300):br (atR l xs) 1000000000:=by
 unfold atR;split
 ·rename_i h
  obtain⟨h1,h2⟩:=vJ h;rw[<-B0];exact au (NG hz h2 _ (bh _)) (by omega)
 ·exact gS _ (by decide)
theorem Rh(lv:Key->LB)(m:Nat)(c:Sq)(M:Nat):(iT c M).flatMap (jb lv m)=[]:=by
 induction M with
 |zero=>rfl
 |succ M ih=>
  simp only[iT,List.flatMap_append,ih,aeT,Mc,mj]
  cases m<;>rfl
def rqF(f:Sq):Nat->LB
 |0=>.hole
 |n+1=>.cells true true 55 (iT f (n+1))
theorem Hu(f:Sq)(h:n≠0):AV.c (bV (zl ((List.range n).map f)))=fG ((List.range n).map f):=by
 unfold zl;rw[if_neg (by simp[h])];rfl
theorem ag.atR(κ':Nat)(kb:Key)(f:Sq)(N:Nat)(ha:a.pure=true)(hc:aa c0.P c0.G fid [a,.c (bV (zl ((List.range N).map f)))] X)(hX:X.pure=true)(hN:N<=1000000000000)
 (hk:lv kb=RJ f N) (hh:lv 9=.hole) (hkb:(9:Key)≠kb) (hK:∀GC rds,bg lv GC=az lv kb (rqF f N)->K X GC rds κ'):ag c0 fid [a,Ez kb N] lv K:=by
 cases N with
 |zero=>
  refine ag.pure κ' 9 hc hX (λb hb=>?_) hh (hK _ _ ?_)
  ·simp only[aY,cy,or_false]at hb;rcases hb with rfl|rfl
   ·exact ha
   ·rfl
  ·exact(mF hk).symm
 |succ n=>
  rw[Hu f (Nat.succ_ne_zero n)]at hc
  have hd:eZ (az lv kb (.cells true true 55 (iT f (n+1)))) (.c (.aH kb 0 (n+1) 3))=some (fG ((List.range (n+1)).map f),[kb]):=by
   have:=ym (lv:=az lv kb (.cells true true 55 (iT f (n+1)))) (k:=kb) (own:=true) (fz:=true) (T:=55) (c:=f) (M:=n+1) (aA _ _ _) (by omega);exact this
  refine ag.Ya κ' 9 kb 55 (iT f (n+1)) [9] hc hX hk hh hkb rfl (λi p q=>?_) (λb hb j hj=>?_) (by simp) (hK _ _ rfl)
  ·match i,p,q with
   |0,_,_=>exact .inl ⟨ha,rfl⟩
   |1,_,_=>exact .inr hd
  ·simp only[aY,cy,or_false]at hb;rcases hb with rfl|rfl
   ·rw[kW ha]at hj;cases hj
   ·have hj:j∈jb (az lv kb (.cells true true 55 (iT f (n+1)))) 8 (.aH kb 0 (n+1) 3):=hj;simp only[jb,aA,Rh,aY,cy,or_false]at hj;exact .inr hj
theorem Kg(m:Int)(z:Ev)(bt:Option (List Tm))(b:Option (List Sp))(D C E:DV)(e:Int)(n1 n2:Nat)(g:Nat->Nat)(h:Sq)(A:Iv)
 (c1:aa Tryz.prog (GG m) 20 [.c (bV (lB bt)),.c (bV (wh b))] (.tup [.c (.d D),.c (.d C),.c (.d (.int .i64 e))]))
 (c2:aa Tryz.prog (GG m) 21 [.c (bV (lB bt)),.c (bV (wh b))] (.tup [.c (.d D),.c (.d E),.c (.d (.int .i64 e))]))
 (c3:aa Tryz.prog (GG m) 6 [.c (bV (lB bt)),.c (bV (wh b))] (.tup [jC A,.c (.d (.int .i64 e))]))
 (c4:aa Tryz.prog (GG m) 22 [.c (bV (lB bt)),.c (bV (wh b))] (.tup [tO A,.c (.d (.int .i64 e))]))
 (hD:∀lv,fX Tryz.prog 59 lv (.c (.d D))=some (.c (.d (.int .i64 (n1:Int))),[],[],True))
 (hC:∀lv,fX Tryz.prog 48 lv (.c (.d C))=some (.c (.d (.int .i64 (n2:Int))),[],[],True))
 (hE:∀lv,fX Tryz.prog 49 lv (.c (.d E))=some (.c (.d (.int .i64 (n2:Int))),[],[],True))
 (hDi:∀lv {i:Nat},i<n1->aq Tryz.prog 59 lv (.c (.d D)) (.c (.d (.int .i64 (i:Int))))=some (.c (.d (.ptr [.int .i64 (g i:Int)])),[],[],True))
 (hCi:∀lv {i:Nat},i<n2->aq Tryz.prog 48 lv (.c (.d C)) (.c (.d (.int .i64 (i:Int))))=some (.c (.d (.ptr (iQ (h i)))),[],[],True))
 (hEi:∀lv {i:Nat},i<n2->aq Tryz.prog 49 lv (.c (.d E)) (.c (.d (.int .i64 (i:Int))))=some (.c (.d (.ptr (jk (h i)))),[],[],True))
 (hn1:n1<=1048576) (hn2:n2<=1048576) (hh:∀i,i<n2->br (h i) 1000000000) (hA:A.sz 1000000000) (hA0:e≠0->A=(0,0)) :
 AW (⟨Tryz.prog,GG m,z.w,z.F,z.W,Tryz.f4.ntmps,λ_=>.hole,z.b,z.d⟩:Ctx) none (cW [1,1,1] Tryz.f4)
  ⟨aU [(0,.c (bV (lB bt))),(1,.c (bV (wh b)))],λ_=>.hole⟩ 10
  (aN (⟨Tryz.prog,GG m,z.w,z.F,z.W,Tryz.f4.ntmps,λ_=>.hole,z.b,z.d⟩:Ctx) Tryz.f4 (.c (.d (.bool true)))):=by
 conv=>
  enter [3]
  whnf
 have ca:=ML m;have c5:=Ln m A e hA hA0;refine acH 10 c1 ?_;refine acH 10 c2 ?_;refine aaa λK hK=>adG hD hC hE ?_;refine aba (aav (hK _ _ (aaa λK hK=>aah ?_)));refine aaE ?_
 refine abr (λ(i:Nat)=>⟨aU [(0,.c (bV (lB bt))),(1,.c (bV (wh b))),(14,.c (.d D)),(15,.c (.d C)),(17,.c (.d D)),(18,.c (.d E)),(20,.c (.d (.int .i64 (i:Int))))],λ_=>.hole⟩) 20
  (λi=>i<=n1) (λi=>n1-i) 0 (Le.eY _) (aa2 _) ?_
 rintro i hi
 try simp only at hi ⊢
 by_cases hlt:i<n1
 ·have hlt':(i:Int)<(n1:Int):=by omega
  have hx:=λlv=>hDi lv hlt
  have f1:=bB (n:=(i:Int)+1) (by omega) (by omega);refine aaa λK2 hK2=>ace hD hlt' ?_;refine abl (aav (hK2 _ _ (aaa λK5 hK5=>aaE (AW.e1 mixed hx ?_))));refine aba (aav (hK5 _ _ (aar ?_)));simp[f1];exact⟨i+1,Le.eY _,by omega,by omega⟩
 have hie:i=n1:=by omega
 subst hie;refine aaa λK2 hK2=>abf hD ?_;refine aba (abn (hK _ _ (aaa λK hK=>aah ?_)));refine aaE ?_
 refine abr (λ(j:Nat)=>⟨aU [(0,.c (bV (lB bt))),(1,.c (bV (wh b))),(15,.c (.d C)),(18,.c (.d E)),(21,.c (.d (.int .i64 (j:Int))))],λ_=>.hole⟩) 20
  (λj=>j<=n2) (λj=>n2-j) 0 (Le.eY _) (aa2 _) ?_
 rintro j hj
 try simp only at hj ⊢
 by_cases hlt2:j<n2
 ·have hlt':(j:Int)<(n2:Int):=by omega
  have hx:=λlv=>hCi lv hlt2
  have hy:=λlv=>hEi lv hlt2
  have f1:=bB (n:=(j:Int)+1) (by omega) (by omega);have cn:=xu m (h j) (hh j hlt2);generalize h j=x at *
  refine aaa λK2 hK2=>ace hC hlt' ?_;refine abl (aav (hK2 _ _ (aaa λK5 hK5=>aaE (aaa λK6 hK6=>?_))));refine abx mixed (by kernel_rfl) rfl ?_;simp[hx,hy,iQ,YI,jk,VU];refine ag.p 20 9 cn ?_;simp;refine⟨by kernel_rfl,?_⟩
  repeat refine aj ?_
  apply hK6;refine aba (aav (hK5 _ _ (aar ?_)));simp[f1];exact⟨j+1,Le.eY _,by omega,by omega⟩
 have hje:j=n2:=by omega
 subst hje;obtain⟨A1,A2⟩:=A;refine aaa λK2 hK2=>abf hC ?_;refine aba (abn (hK _ _ (acA 30 c3 @ai.eq_1 ?_)));refine acA 40 c4 @ai.eq_1 ?_;refine aaF λK hK=>?_;simp;refine ag.p 50 9 c5 ?_;simp;refine ag.p 50 9 ca ?_;simp
 repeat refine aj ?_
 apply hK;exact abe (aN.rt rfl 6 (by simp))
 done
theorem Aa(m:Int)(bt:Option (List Tm))(b:Option (List Sp))(p:Option (List Gz))(hl:(aV bt).length<=9223372036854775807)(hw:∀t∈aV bt,(jx t.2).length<=9223372036854775807)(hb:(bp b).length<=1048576)(hp:(mY p).length<=1048576):
 aa Tryz.prog (GG m) 4 [.c (bV (lB bt)),.c (bV (wh b)),.c (bV (Sl p))] (.c (.d (.bool true))):=by
 have c1:=Fe m bt b hl hw hb;have c2:=Bl m bt b hl hw hb;have c3:=Dm m bt b hl hw hb;have c4:=AA m bt b hl hw hb
 have key:=λ(z:Ev)=>(show AW (⟨Tryz.prog,GG m,z.w,z.F,z.W,Tryz.f4.ntmps,λ_=>.hole,z.b,z.d⟩:Ctx) none (cW [1,1,1] Tryz.f4)
  ⟨aU [(0,.c (bV (lB bt))),(1,.c (bV (wh b)))],λ_=>.hole⟩ 10
  (aN (⟨Tryz.prog,GG m,z.w,z.F,z.W,Tryz.f4.ntmps,λ_=>.hole,z.b,z.d⟩:Ctx) Tryz.f4 (.c (.d (.bool true)))) from by
  by_cases h0:sY (aV bt) (bp b)=0
  ·have hM:=(I8 h0).2.2;have hsz:=C7 h0;have hbz:=RC h0;rw[show Mf (aV bt) (bp b)=.tup [bQ (gX ((aV bt).map cE)) (bp b).length,jD (oE ((aV bt).map cE) (eD (bp b))),.c (.d (.int .i64 0))] from if_pos h0]at c1;rw[show wP (aV bt) (bp b)=.tup [bQ (gX ((aV bt).map cE)) (bp b).length,fG (oE ((aV bt).map cE) (eD (bp b))),.c (.d (.int .i64 0))] from if_pos h0]at c2;rw[h0]at c3 c4;have hlen:=Cy ((aV bt).map cE) (eD (bp b));rw[pW]at hlen
   have hg:∀i,i<xg ((aV bt).map cE) (bp b).length->(oE ((aV bt).map cE) (eD (bp b)))[i]?=some (Af ((aV bt).map cE) (eD (bp b)) i):=λi hi=>by
    rw[fy (by rw[hlen];exact hi),p8]
   have hC:=λlv=>za (oE ((aV bt).map cE) (eD (bp b))) lv
   have hE:=λlv=>YK (oE ((aV bt).map cE) (eD (bp b))) lv
   simp only[hlen]at hC hE;exact Kg m z bt b _ _ _ 0 (bp b).length (xg ((aV bt).map cE) (bp b).length) (gX ((aV bt).map cE)) (Af ((aV bt).map cE) (eD (bp b))) _ c1 c2 c3 c4 (λlv=>WX _ _ lv) hC hE (λlv {i} hi=>Lj _ _ lv hi) (λlv {i} hi=>HN _ lv i _ (hg i hi)) (λlv {i} hi=>Rr _ lv i _ (hg i hi)) hb (by omega) (λi _=>au (hsz i) (by decide)) hbz (λh=>absurd rfl h)
  ·rw[show Mf (aV bt) (bp b)=.tup [.c (.d .nilsl),.c (.d .nilsl),.c (.d (.int .i64 (sY (aV bt) (bp b))))] from if_neg h0]at c1;rw[show wP (aV bt) (bp b)=.tup [.c (.d .nilsl),.c (.d .nilsl),.c (.d (.int .i64 (sY (aV bt) (bp b))))] from if_neg h0]at c2;have hbn:SI (aV bt) (bp b)=(0,0):=if_neg h0;exact Kg m z bt b _ _ _ _ 0 0 (λ_=>0) (λ_=>0) _ c1 c2 c3 c4 (λlv=>by simp[fX,jA,keyOf]) (λlv=>by simp[fX,jA,keyOf]) (λlv=>by simp[fX,jA,keyOf]) (λlv {i} hi=>absurd hi (by omega)) (λlv {i} hi=>absurd hi (by omega)) (λlv {i} hi=>absurd hi (by omega)) (by decide) (by decide) (λi hi=>absurd hi (by omega)) (by rw[hbn];exact⟨gS _ (by decide),gS _ (by decide)⟩) (λ_=>hbn))
 obtain⟨n,ok,cn,hn,hok⟩:=Ph m p hp;have hnsz:=VI (mY p);generalize L7 (mY p)=f at *
 have hlen:((List.range n).map f).length=n:=by simp
 have hxz:∀x∈(List.range n).map f,br x 300:=λx hx=>by
  obtain⟨j,_,rfl⟩:=List.mem_map.1 hx;exact hnsz j
 have c5:=aai m bt ((List.range n).map f) hl hw hxz;have c6:=Vc m bt ((List.range n).map f) hl hw hxz;have c7:=xu m _ (VS (l:=aV bt) hxz);rw[hlen]at c5 c6;generalize atR (aV bt) ((List.range n).map f)=v at *
 generalize we (aV bt) (n:Int)=e at *
 refine aa.Uk Tryz.func4 rfl λ_=>aaa λK hK=>aar ?_;simp
 repeat refine aj ?_
 apply hK;refine aaa λK hK=>aar ?_;simp;refine ag.ac9 60 f n ok (by simp) cn rfl rfl rfl ?_;intro GC rds heff;simp[heff,acq,ac7]
 repeat refine aj ?_
 apply hK;refine aaa λK hK=>aaa λK1 hK1=>?_
 cases ok with
 |false=>
  refine adl (hK1 _ _ ?_);refine aba (aav (hK _ _ ?_));exact adI (y:=cW [1,1,1] Tryz.f4) (by kernel_rfl) (adE (Le.keys [] 9 _ rfl rfl (by simp) (by simp) rfl (by intro e he;cases he) (by simp[b6])) (key _))
 |true=>
  refine adl (hK1 _ _ ?_);refine abl (aaF λK1 hK1=>?_);simp;refine ag.atQ 110 50 f n (by simp) c5 (by simp) (by omega) (by rfl) (by rfl) (by decide) ?_;intro GC rds heff;simp[heff,ai]
  repeat refine aj ?_
  apply hK1;refine aaF λK1 hK1=>?_;simp;refine ag.atR 120 51 f n (by simp) c6 (by simp) (by omega) (by rfl) (by rfl) (by decide) ?_;intro eff2 rds2 heff2;simp[heff2,ai]
  repeat refine aj ?_
  apply hK1;refine acH 130 c7 ?_;refine aba (aav (hK _ _ ?_));exact adI (y:=cW [1,1,1] Tryz.f4) (by kernel_rfl) (adE (Le.keys [] 9 _ rfl rfl (by simp) (by simp) rfl (by intro e he;cases he) (by simp[b6])) (key _))
end Go.Am
