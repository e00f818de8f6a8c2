/- Helpers: an abstract machine for Go functions, and walks of functions of the program. -/
import Derived.Test.YtanjfmmjpnjkbaaGreatDoorSn02
import Derived.Laws.IdiomStrings

set_option linter.all false
set_option maxHeartbeats 8000000
set_option maxRecDepth 100000
namespace Go.Am
variable {s:aB}{S T e T':TypeId}{x:Operand}{κ:Key}{off κ0 N p:Nat}{own fz:Bool}{cs:List CV}{os:List Oper}{n:Int}{o:Oper}{f g:Sq}{l:List UInt8}{acc:List tq}{K:aB->Nat->List tq->Prop}{c:Ctx}{r:Option Nat}{ops:Array Oper}
abbrev agC:=@List.getD_cons_zero
abbrev agi:=@List.getD_cons_succ
abbrev ag3:=@Nat.mod_mul_right_div_self
abbrev afV:=@Rat.mul_zero
theorem Vb{P:Program}(w:World)(a:Addr)(cap:Nat)(n:Int)(h:w.cell? (a.add 0)=some (.int .u8 n)):(Conv.bytesToString (.slice (some a) 1 cap)).run P w=.ok (.string ⟨#[UInt8.ofNat n.toNat]⟩) w:=by
 have h1:=run_loadCells (P:=P) w a 1 (λ_=>Value.int .u8 n) (λj hj=>by
  grind)
 simp only[Conv.bytesToString,mT,h1,sr];rfl
section
variable {c:Ctx}{r:Option Nat}{ops:Array Oper}{o:Oper}{s0:aB}
theorem FT(hd:∀d,o.dst=some d->d<c.n)(ho:o.op=.convert S T x)
 (hx:s.val c.G x=.c (.aH κ off 1 1)) (hk:s.lv κ=.cells own fz T' cs) (hc:cs[off]?=some (.d (.int .u8 n))) (hS:eW c.P S=some (e,1)) (he:c.P.underlying e=some (.int .u8)) (hT:cP c.P T=true) :
 bT c o s (s.put o.dst (.c (.d (.str [UInt8.ofNat n.toNat])))):=
 bT.aX hd λF β a w hs=>by
  have hv:=hx▸hs.val x;obtain⟨hv,_⟩:=hv;simp only[Vw.cx,hk]at hv;obtain⟨cap,hv,hcap,hsz⟩:=hv;have hb:=hs.bK κ;unfold Vw.bK at hb;simp only[hk]at hb;obtain⟨arr,b1,b2,b3,b4,b5⟩:=hb;obtain⟨hoff,hce⟩:=List.getElem?_eq_some_iff.1 hc;have h3:=b3 off hoff (by omega);rw[hce]at h3;have h4:=Vw.eV (V:=Vw.mk F β s.lv w) h3
  have hcell:w.cell? ((⟨β κ,off,none⟩:Addr).add 0)=some (.int .u8 n):=by
   have:(⟨β κ,off,none⟩:Addr).add 0=⟨β κ,off,none⟩:=by simp[Addr.add]
   rw[this,eP b1 (by omega),h4]
  refine⟨.string ⟨#[UInt8.ofNat n.toNat]⟩,?_,Vw.oY _ [UInt8.ofNat n.toNat] (by simp)⟩;have hu:=(cN hS).1;simp only[execOp,ho,hv,convert,mT,run_underlying hu,run_underlying (gb hT),sr,run_underlying he,Vb w _ cap n hcell];rfl
theorem cY.P7(hd:∀d,o.dst=some d->d<c.n)(hw:dN ops o.guard s0.fr=some true)(ho:o.op=.convert S T x)
 (hx:s0.val c.G x=.c (.aH κ off 1 1)) (hk:s0.lv κ=.cells own fz T' cs) (hc:cs[off]?=some (.d (.int .u8 n))) (hS:eW c.P S=some (e,1)) (he:c.P.underlying e=some (.int .u8)) (hT:cP c.P T=true) :
 cY c r ops o s0 ⟨.c (.d (.str [UInt8.ofNat n.toNat])),[],[κ]⟩:=by
 refine cY.mE hw (λcl hcl=>by grind) (λs h1 h3=>?_);have e1:s.val c.G x=s0.val c.G x:=h1 x (by rw[ho];simp[Op.operands]);have e4:s.lv κ=s0.lv κ:=h3.1 κ (by simp);exact FT hd ho (e1.trans hx) (e4.trans hk) hc hS he hT
end
theorem mO.P7{K:aB->Nat->Prop}(κ':Nat)
 (hd:dM c.n [o]=true) (hg:o.guard=none) (ho:o.op=.convert S T x)
 (hx:s.val c.G x=.c (.aH κ off 1 1)) (hk:s.lv κ=.cells own fz T' cs) (hc:cs[off]?=some (.d (.int .u8 n))) (hS:eW c.P S=some (e,1)) (he:c.P.underlying e=some (.int .u8)) (hT:cP c.P T=true)
 (hK:mO c r ops os (aB.put ⟨s.fr,bg s.lv []⟩ o.dst (.c (.d (.str [UInt8.ofNat n.toNat])))) κ' K):mO c r ops (o::os) s κ0 K:=by
 refine mO.GC κ' (cY.P7 (λd hd'=>?_) (by rw[hg];rfl) ho hx hk hc hS he hT) hK;simp only[dM,afx,List.all_nil,Bool.and_true,hd']at hd
 grind
def sm:Nat->Sq->Rat
 |0,_=>0
 |N+1,f=>sm N f+f N
def uP:Nat->Sq->Rat
 |0,_=>1
 |N+1,f=>uP N f*f N
theorem mM(h:∀i,i<N->f i=g i):sm N f=sm N g:=by
 induction N with
 |zero=>rfl
 |succ N ih=>simp only[sm];rw[ih λi hi=>h i (by omega),h N (by omega)]
theorem IW(h:∀i,i<N->f i=g i):uP N f=uP N g:=by
 induction N with
 |zero=>rfl
 |succ N ih=>simp only[uP];rw[ih λi hi=>h i (by omega),h N (by omega)]
theorem CQ(N:Nat)(x:Rat)(f:Sq):sm N (λi=>x*f i)=x*sm N f:=by
 induction N with
 |zero=>simp[sm]
 |succ N ih=>simp only[sm];rw[ih];grind
theorem Wn(N:Nat)(f g:Sq):sm N (λi=>f i+g i)=sm N f+sm N g:=by
 induction N with
 |zero=>simp[sm,ae2]
 |succ N ih=>simp only[sm];rw[ih];grind
theorem Kn(N:Nat):sm N (λ_=>0)=0:=by
 induction N with
 |zero=>rfl
 |succ N ih=>simp only[sm];rw[ih,ae2]
theorem Qs(a b:Nat)(f:Sq):sm (a+b) f=sm a f+sm b (λi=>f (a+i)):=by
 induction b with
 |zero=>simp[sm,ae2]
 |succ b ih=>rw[<-afl];simp only[sm];rw[ih];grind
theorem Ku(n:Nat)(f:Sq):sm (n+1) f=f 0+sm n (λi=>f (i+1)):=by
 induction n with
 |zero=>simp[sm,agf,ae2]
 |succ n ih=>rw[sm,ih];simp only[sm];grind
theorem Fa(n:Nat)(f:Sq):uP (n+1) f=f 0*uP n (λi=>f (i+1)):=by
 induction n with
 |zero=>simp[uP]
 |succ n ih=>rw[uP,ih];simp only[uP];grind
theorem U1{a b:Nat}(h:a<=b)(h0:∀i,a<=i->i<b->f i=0):sm b f=sm a f:=by
 obtain⟨d,rfl⟩:∃d,b=a+d:=⟨b-a,by omega⟩
 rw[Qs,mM (N:=d) (f:=λi=>f (a+i)) (g:=λ_=>0) λi hi=>h0 _ (by omega) (by omega),Kn,ae2]
theorem SC(a b:Nat)(hb:0<b)(f g:Sq):sm (a*b) (λi=>f (i/b)*g (i%b))=sm a f*sm b g:=by
 induction a with
 |zero=>simp[sm]
 |succ a ih=>
  rw[agd,Qs,ih]
  have e:sm b (λi=>f ((a*b+i)/b)*g ((a*b+i)%b))=f a*sm b g:=by
   rw[<-CQ];refine mM λi hi=>?_;have e1:(a*b+i)/b=a:=by rw[aea,age hb,aeY hi,aeI]
   have e2:(a*b+i)%b=i:=by rw[aea,Nat.mul_add_mod,aem hi]
   rw[e1,e2]
  rw[e];simp only[sm]
  grind
theorem Rp(a b:Nat)(f:Nat->Nat->Rat):sm a (λi=>sm b (λj=>f i j))=sm b (λj=>sm a (λi=>f i j)):=by
 induction a with
 |zero=>simp[sm,Kn]
 |succ a ih=>simp only[sm];rw[ih,<-Wn]
theorem Ms(n:Nat)(a:Sq):eR n 1 a=sm (n+1) a:=by
 induction n generalizing a with
 |zero=>simp[eR,sm,agf]
 |succ n ih=>rw[Ku,eR,ih];grind
theorem Vi(m:Nat)(d:Sq):oy m d=sm (m+1) (λk=>(ch m k:Rat)*d k):=by
 have h1:=P4 m 1 d;rw[OK,Rw,Ms]at h1;exact h1
def Lm(x:Rat)(p k:Nat):Rat:=(ch p k:Rat)*x^(p-k)
theorem Ck(x y:Rat):∀(p n:Nat),p<=n->eR n y (Lm x p)=(x+y)^p
 |0,n,_=>by
  have h:=Bu (n:=n) (k0:=0) (by omega) y 1;rw[show Lm x 0=λk=>if k=0 then(1:Rat)else 0 from funext λk=>by cases k<;>simp[Lm,ch],h];simp
 |p+1,n,h=>by
  obtain⟨n,rfl⟩:∃m,n=m+1:=⟨n-1,by omega⟩
  have h1:=Ck x y p (n+1) (by omega);have h2:=Ck x y p n (by omega)
  have e:(λk=>Lm x (p+1) (k+1))=λk=>x*(λk=>Lm x p (k+1)) k+Lm x p k:=by
   funext k;simp only[Lm,ch];rw[Nat.add_sub_add_right,Rat.natCast_add]
   by_cases hk:k<p
   ·rw[show p-k=p-(k+1)+1 by omega,afE];grind
   ·rw[yl (show p<k+1 by omega)];simp[ae2,agf]
  have e0:Lm x (p+1) 0=x*Lm x p 0:=by
   simp only[Lm];rw[agc,agc,afE]
   cases p<;>simp[ch]<;>grind
  rw[eR,e,s9,h2,e0];rw[eR]at h1;rw[afE,<-h1]
  grind
theorem Px{n:Nat}(h:p<=n)(lo v:Rat):∀k,k<=n->uS lo n (λk=>if k=p then v else 0) k=Lm lo p k*v:=by
 have key:=KX (n:=n) (x0:=0) (a:=λk=>-v*Lm lo p k+uS lo n (λk=>if k=p then v else 0) k) λy _=>by
  rw[s9];have h1:=Su lo (lo+y) n (λk=>if k=p then v else 0);rw[show lo+y-lo=y by grind,Bu h]at h1;rw[h1,Ck lo y p n h]
  grind
 intro k hk;have:=key k hk
 grind
def shr(p:Nat)(lo w:Rat)(k:Nat):Rat:=if p<k then 0 else(ch p k:Rat)*(lo^(p-k)*w^k)
def Bz(n m k:Nat):Rat:=if m<k then 0 else(ch m k:Rat)/(ch n k:Rat)
theorem QT{n m:Nat}(h:p<=n)(hm:m<=n)(lo w v:Rat):oJ n lo w (λk=>if k=p then v else 0) m=sm (n+1) (λk=>shr p lo w k*Bz n m k)*v:=by
 unfold oJ;rw[Vi,afU,<-CQ,U1 (a:=m+1) (b:=n+1) (by omega) λi h1 _=>by unfold Bz;rw[if_pos (by omega)];simp];refine mM λk hk=>?_;rw[Px h lo v k (by omega)];have h1:=MA n w k (by omega)
 have h2:(ch n k:Rat)≠0:=by
  have:=BJ (show k<=n by omega);intro e;have:ch n k=0:=by exact_mod_cast e
  omega
 have h3:ni n w k=w^k/(ch n k:Rat):=by rw[<-h1];grind
 rw[h3];unfold Bz shr Lm;rw[if_neg (show ¬m<k by omega)]
 by_cases hp:p<k
 ·rw[if_pos hp,yl hp];simp
 ·rw[if_neg hp];simp only[Rat.div_def];grind
def s5:List Nat->Nat->List Nat
 |[],_=>[]
 |_::l,i=>i/bH l::s5 l (i%bH l)
theorem xU:∀(l:List Nat) (i:Nat),(s5 l i).length=l.length
 |[],_=>rfl
 |_::l,i=>by simp[s5,xU l]
theorem Cp:∀(l:List Nat) (i:Nat),i<bH l->∀j,(s5 l i).getD j 0<=l.getD j 0
 |[],_,_,j=>by simp[s5]
 |n::l,i,h,j=>by
  cases j with
  |zero=>
   have h:i<(n+1)*bH l:=h;have:=af5 (m:=i) (n:=bH l) (k:=n+1) (by rw[aea];exact h);simp only[s5,agC];omega
  |succ j=>simpa[s5]using Cp l (i%bH l) (adZ _ (iz l)) j
theorem IX:∀(l:List Nat) (i:Nat),i<bH l->∀j,j<l.length->(s5 l i).getD j 0=i/bH (l.drop (j+1))%(l.getD j 0+1)
 |[],_,_,j,h=>by simp at h
 |n::l,i,h,j,hj=>by
  cases j with
  |zero=>
   have:=Cp (n::l) i h 0;simp only[s5,agC,List.drop_succ_cons,aeu]at this ⊢;rw[aem (by omega)]
  |succ j=>
   have hj:j<l.length:=by simpa using hj
   have ih:=IX l (i%bH l) (adZ _ (iz l)) j hj;simp only[s5,agi,List.drop_succ_cons]at ih ⊢;rw[ih]
   obtain⟨q,hq⟩:bH (l.drop (j+1))*(l.getD j 0+1) ∣ bH l:=by
    have e:=zY (l.take (j+1)) (l.drop (j+1));rw[afh,nc hj]at e;refine⟨bH (l.take j),?_⟩;rw[e,adS,fy hj];simp only[af9]
    grind
   obtain⟨a,ha⟩:∃a,bH (l.drop (j+1))=a:=⟨_,rfl⟩
   obtain⟨b,hb⟩:∃b,l.getD j 0+1=b:=⟨_,rfl⟩
   rw[ha,hb]at hq ⊢;rw[hq];rw[<-ag3,<-ag3,Nat.mod_mul_right_mod]
def QX:List DB->List Nat->Rat
 |d::ds,k::ks=>d.2 (λi=>if i=k then 1 else 0)*QX ds ks
 |_,_=>1
theorem IY:∀ds:List DB,mS ds=bH (ds.map (·.1))
 |[]=>rfl
 |d::ds=>by show(d.1+1)*mS ds=(d.1+1)*bH _;rw[IY ds]
theorem BB:∀{ds:List DB}{ks:List Nat},(∀d∈ds,Q4 d.1 d.2)->yg (ds.map (·.1)) ks->∀v:Rat,yN ds (λi=>if i=vt (ds.map (·.1)) ks then v else 0)=QX ds ks*v
 |[],[],_,_,v=>by simp[yN,vt,QX]
 |d::ds,k::ks,hf,h,v=>by
  have hd:=hf d (aen ..);have hf':∀e∈ds,Q4 e.1 e.2:=λe he=>hf e (aew _ he)
  show d.2 _=d.2 _*QX ds ks*v;have h1:=GK h.2;rw[<-IY]at h1
  have e:∀k',yN ds (λi=>if k' * mS ds+i=vt ((d::ds).map (·.1)) (k::ks)then v else 0)=(QX ds ks*v)*(if k'=k then 1 else 0):=by
   intro k'
   by_cases hk:k'=k
   ·subst hk;rw[if_pos rfl,<-BB hf' h.2 v,afz];congr 1;funext i;simp only[vt,adK,IY,Nat.add_left_cancel_iff]
   ·rw[if_neg hk,afV];refine(B1 (λe he=>(hf' e he).loc) (g:=λ_=>0) λi hi=>?_).trans (tU λe he=>(hf' e he).Vm).zero;refine if_neg λe=>?_;have e:k' * mS ds+i=k*mS ds+vt (ds.map (·.1)) ks:=by rw[e];simp only[vt,adK,IY]
    have d1:(k' * mS ds+i)/mS ds=k':=by rw[aea,age (tf _),aeY hi,aeI]
    have d2:(k*mS ds+vt (ds.map (·.1)) ks)/mS ds=k:=by rw[aea,age (tf _),aeY h1,aeI]
    rw[e,d2]at d1;exact hk d1.symm
  have e':(λk'=>yN ds (λi=>if k' * mS ds+i=vt ((d::ds).map (·.1)) (k::ks)then v else 0))=λk'=>(QX ds ks*v)*(if k'=k then 1 else 0):=funext e
  rw[e',hd.Vm.mul]
  grind
 |[],_::_,_,h,_=>h.elim
 |_::_,[],_,h,_=>h.elim
theorem DO{ds:List DB}(hf:∀d∈ds,Q4 d.1 d.2):∀(ts:List hO),(∀t∈ts,yg (ds.map (·.1)) t.2)->∀c0:Sq,
 yN ds (DC c0 ts (vt (ds.map (·.1))))=yN ds c0+sm ts.length (λi=>(ts.getD i (0,[])).1*QX ds (ts.getD i (0,[])).2)
 |[],_,c0=>by simp[DC,sm,ae2]
 |t::ts,h,c0=>by
  have ih:=DO hf ts (λt ht=>h t (aew _ ht)) (λi=>if i=vt (ds.map (·.1)) t.2 then c0 i+t.1 else c0 i)
  have e:(λi=>if i=vt (ds.map (·.1)) t.2 then c0 i+t.1 else c0 i)=λi=>c0 i+(if i=vt (ds.map (·.1)) t.2 then t.1 else 0):=by
   funext i;split<;>simp[ae2]
  have h1:yN ds (λi=>if i=vt (ds.map (·.1)) t.2 then c0 i+t.1 else c0 i)=yN ds c0+t.1*QX ds t.2:=by
   rw[e,(tU λd hd=>(hf d hd).Vm).add,BB hf (h t (aen ..)),afU]
  rw[h1]at ih;refine(show _=_ from ih).trans ?_;rw[aef,Ku];simp only[agC,agi]
  grind
def Xv:List Ax->List Nat->Nat->Rat
 |a::l,p::ps,m=>oJ a.n a.lo a.w (λi=>if i=p then 1 else 0) (m/ia l)*Xv l ps (m%ia l)
 |_,_,_=>1
theorem Ug:∀(l:List Ax) (ps:List Nat) (m:Nat),QX ((Mh l m).map WD) ps=Xv l ps m
 |[],ps,m=>by cases ps<;>rfl
 |a::l,[],m=>rfl
 |a::l,p::ps,m=>by
  show _*QX ((Mh l (m%ia l)).map WD) ps=_;rw[Ug l ps];rfl
def Q8:List Ax->List Nat->List Nat->Rat
 |a::l,p::ps,k::ks=>shr p a.lo a.w k*Q8 l ps ks
 |_,_,_=>1
def Q3:List Nat->List Nat->List Nat->Rat
 |n::l,m::ms,k::ks=>Bz n m k*Q3 l ms ks
 |_,_,_=>1
theorem Om:∀(l:List Ax) (ps:List Nat) (m:Nat),m<ia l->yg (l.map (·.n)) ps->Xv l ps m=sm (ia l) (λq=>Q8 l ps (s5 (l.map (·.n)) q)*Q3 (l.map (·.n)) (s5 (l.map (·.n)) m) (s5 (l.map (·.n)) q))
 |[],[],_,_,_=>by simp[Xv,ia,sm,Q8,Q3,s5,agf]
 |a::l,p::ps,m,hm,h=>by
  have hN:=Dy l
  have hd:m/ia l<=a.n:=by
   have hm:m<(a.n+1)*ia l:=hm;have:=af5 (m:=m) (n:=ia l) (k:=a.n+1) (by rw[aea];exact hm);omega
  show oJ _ _ _ _ _*Xv l ps (m%ia l)=sm ((a.n+1)*ia l) _;rw[Om l ps _ (adZ _ (oW l)) h.2,QT h.1 hd,afz,<-SC _ _ (oW l)];refine mM λq _=>?_;simp only[adK,s5,Q8,Q3,<-hN]
  grind
 |[],_::_,_,_,h=>h.elim
 |_::_,[],_,_,h=>h.elim
theorem Uf:∀(l:List Ax) (ps ks:List Nat),ps.length=l.length->ks.length=l.length->Q8 l ps ks=uP l.length (λj=>shr (ps.getD j 0) (l.getD j ⟨0,0,0⟩).lo (l.getD j ⟨0,0,0⟩).w (ks.getD j 0))
 |[],_,_,_,_=>by simp[Q8,uP]
 |a::l,p::ps,k::ks,h1,h2=>by
  rw[aef,Fa];simp only[Q8,agC,agi];rw[Uf l ps ks (by simpa using h1) (by simpa using h2)]
 |_::_,[],_,h,_=>by simp at h
 |_::_,_::_,[],_,h=>by simp at h
theorem Ur:∀(l ms ks:List Nat),ms.length=l.length->ks.length=l.length->Q3 l ms ks=uP l.length (λj=>Bz (l.getD j 0) (ms.getD j 0) (ks.getD j 0))
 |[],_,_,_,_=>by simp[Q3,uP]
 |a::l,p::ps,k::ks,h1,h2=>by
  rw[aef,Fa];simp only[Q3,agC,agi];rw[Ur l ps ks (by simpa using h1) (by simpa using h2)]
 |_::_,[],_,h,_=>by simp at h
 |_::_,_::_,[],_,h=>by simp at h
theorem Kx:∀(l:List Ax) (m:Nat),m<ia l->∀p∈Mh l m,Q4 p.1.n p.2
 |[],_,_,p,hp=>by cases hp
 |a::l,m,hm,p,hp=>by
  rcases List.mem_cons.1 hp with rfl|hp
  ·have hm:m<(a.n+1)*ia l:=hm;have:=af5 (m:=m) (n:=ia l) (k:=a.n+1) (by rw[aea];exact hm);exact⟨λ_ _ _=>rfl,λ_ _ e=>e _ (by show _<=a.n;omega)⟩
  ·exact Kx l _ (adZ _ (oW l)) p hp
theorem Uh(l:List Ax)(m:Nat):((Mh l m).map WD).map (·.1)=l.map (·.n):=by
 rw[aed];have:=xD l m
 conv=>rhs;rw[<-this]
 rw[aed];rfl
theorem RX(l:List Ax)(ts:List hO)(h:∀t∈ts,yg (l.map (·.n)) t.2)(m:Nat)(hm:m<ia l):
 Kr l (DC (λ_=>0) ts (vt (l.map (·.n)))) m=sm ts.length (λi=>(ts.getD i (0,[])).1*Xv l (ts.getD i (0,[])).2 m):=by
 have hF:=Kx l m hm
 have hf:∀d∈(Mh l m).map WD,Q4 d.1 d.2:=λd hd=>by
  obtain⟨q,hq,rfl⟩:=List.mem_map.1 hd;exact(hF q hq).oJ _ _
 have h1:=Kf l m (Kr l (DC (λ_=>0) ts (vt (l.map (·.n))))) hm;have h2:=Jq (Mh l m) hF [] (DC (λ_=>0) ts (vt (l.map (·.n))));rw[aeT,aeT,xD]at h2;rw[<-h1,h2];have h3:=DO hf ts (by rw[Uh];exact h) (λ_=>0);rw[Uh]at h3;rw[h3,(tU λd hd=>(hf d hd).Vm).zero,agf];exact mM λi _=>by rw[Ug]
theorem RA(l:List Ax)(ts:List hO)(h:∀t∈ts,yg (l.map (·.n)) t.2)(m:Nat)(hm:m<ia l):
 sm (ia l) (λq=>sm ts.length (λi=>(ts.getD i (0,[])).1*Q8 l (ts.getD i (0,[])).2 (s5 (l.map (·.n)) q))*Q3 (l.map (·.n)) (s5 (l.map (·.n)) m) (s5 (l.map (·.n)) q))=Kr l (DC (λ_=>0) ts (vt (l.map (·.n)))) m:=by
 rw[RX l ts h m hm]
 have e:∀q,sm ts.length (λi=>(ts.getD i (0,[])).1*Q8 l (ts.getD i (0,[])).2 (s5 (l.map (·.n)) q))*Q3 (l.map (·.n)) (s5 (l.map (·.n)) m) (s5 (l.map (·.n)) q)=sm ts.length (λi=>(ts.getD i (0,[])).1*(Q8 l (ts.getD i (0,[])).2 (s5 (l.map (·.n)) q)*Q3 (l.map (·.n)) (s5 (l.map (·.n)) m) (s5 (l.map (·.n)) q))):=λq=>by
  rw[afU,<-CQ];exact mM λi _=>by grind
 rw[mM λq _=>e q,Rp];refine mM λi hi=>?_;rw[CQ];rw[<-Om l _ m hm];have hi':i<ts.length:=hi;rw[adS,fy hi'];exact h _ (aT hi')
section
variable {c:Ctx}{r:Option Nat}{ops:Array Oper}{o:Oper}{s0:aB}
theorem Gs(hd:∀d,o.dst=some d->d<c.n)(ho:o.op=.convert S T x)
 (hx:s.val c.G x=.c (.aH κ off l.length 1)) (hk:s.lv κ=.cells own fz T' cs) (hc:(cs.drop off).take l.length=bl l) (hl:l.length<=9223372036854775807) (hS:eW c.P S=some (e,1)) (he:c.P.underlying e=some (.int .u8)) (hT:cP c.P T=true) :
 bT c o s (s.put o.dst (.c (.d (.str l)))):=
 bT.aX hd λF β a w hs=>by
  have hv:=hx▸hs.val x;obtain⟨hv,_⟩:=hv;simp only[Vw.cx,hk]at hv;obtain⟨cap,hv,hcap,hsz⟩:=hv;have hb:=hs.bK κ;unfold Vw.bK at hb;simp only[hk]at hb;obtain⟨arr,b1,b2,b3,b4,b5⟩:=hb
  have hcell:∀j (hj:j<l.length),w.cell? ((⟨β κ,off,none⟩:Addr).add j)=some (.int .u8 (l[j].toNat:Int)):=by
   intro j hj;have h0:(bl l)[j]?=some (CV.d (.int .u8 (l[j].toNat:Int))):=by simp[bl,hj]
   rw[<-hc,List.getElem?_take_of_lt hj,afL]at h0;obtain⟨hoff,hce⟩:=List.getElem?_eq_some_iff.1 h0;have h3:=b3 (off+j) hoff (by omega);rw[hce]at h3;have h4:=Vw.eV (V:=Vw.mk F β s.lv w) h3;have:(⟨β κ,off,none⟩:Addr).add j=⟨β κ,off+j,none⟩:=by simp[Addr.add]
   rw[this,eP b1 (by omega),h4]
  refine⟨.string ⟨l.toArray⟩,?_,Vw.oY _ l hl⟩;have hu:=(cN hS).1;have:=run_convert_bytes_back (P:=c.P) w S T e ⟨β κ,off,none⟩ cap l hu he (gb hT) hcell;simp only[execOp,ho,hv,mT,this,sr];rfl
theorem cY.G5(hd:∀d,o.dst=some d->d<c.n)(hw:dN ops o.guard s0.fr=some true)(ho:o.op=.convert S T x)
 (hx:s0.val c.G x=.c (.aH κ off l.length 1)) (hk:s0.lv κ=.cells own fz T' cs) (hc:(cs.drop off).take l.length=bl l) (hl:l.length<=9223372036854775807) (hS:eW c.P S=some (e,1)) (he:c.P.underlying e=some (.int .u8)) (hT:cP c.P T=true) :
 cY c r ops o s0 ⟨.c (.d (.str l)),[],[κ]⟩:=by
 refine cY.mE hw (λcl hcl=>by grind) (λs h1 h3=>?_);have e1:s.val c.G x=s0.val c.G x:=h1 x (by rw[ho];simp[Op.operands]);have e4:s.lv κ=s0.lv κ:=h3.1 κ (by simp);exact Gs hd ho (e1.trans hx) (e4.trans hk) hc hl hS he hT
end
theorem mO.G5{K:aB->Nat->Prop}(κ':Nat)
 (hd:dM c.n [o]=true) (hg:o.guard=none) (ho:o.op=.convert S T x)
 (hx:s.val c.G x=.c (.aH κ off l.length 1)) (hk:s.lv κ=.cells own fz T' cs) (hc:(cs.drop off).take l.length=bl l) (hl:l.length<=9223372036854775807) (hS:eW c.P S=some (e,1)) (he:c.P.underlying e=some (.int .u8)) (hT:cP c.P T=true)
 (hK:mO c r ops os (aB.put ⟨s.fr,bg s.lv []⟩ o.dst (.c (.d (.str l)))) κ' K):mO c r ops (o::os) s κ0 K:=by
 refine mO.GC κ' (cY.G5 (λd hd'=>?_) (by rw[hg];rfl) ho hx hk hc hl hS he hT) hK;simp only[dM,afx,List.all_nil,Bool.and_true,hd']at hd
 grind
def HL(c:Ctx)(r:Option Nat)(ops:Array Oper)(os:List Oper)(s:aB)(κ:Nat)(acc:List tq)(K:aB->Nat->List tq->Prop):Prop:=
 ∃es s' κ',gY c r ops os es s s'/\K s' κ' ((es.map wQ).reverse++acc)
section
variable {c:Ctx}{r:Option Nat}{ops:Array Oper}
theorem HL.done{κ:Nat}(h:K s κ acc):HL c r ops [] s κ acc K:=⟨[],s,κ,rfl,h⟩
theorem HL.run{κ:Nat}(n:Nat)(hd:dM c.n (os.take n)=true)
 (h:bk c (kD (ops.toList.map (·.dst)) (os.take n)) s κ acc λs' κ' acc'=>HL c r ops (os.drop n) s' κ' acc' K):HL c r ops os s κ acc K:=by
 have e:∀l:List tq,(l.map λt=>(⟨.undef,t.1.map λk=>(k,LB.hole),t.2⟩:Fx)).map wQ=l:=λl=>by
  rw[aed];refine(aes λt _=>?_).trans (List.map_id l);simp only[Function.comp,wQ,aed];show((t.1.map λk=>k),t.2)=t;simp
 rw[<-e acc]at h;obtain⟨es,s',κ',h1,es2,s2,κ2,h2,h3⟩:=gr.chain (r:=r) hd (jF h);refine⟨es++es2,s2,κ2,?_,?_⟩
 ·have:=gY.append h1 h2
  simp_all
 simp_all
theorem HL.fj{κ:Nat}{x:AV}{us:List (Key×LB)}{rds:List Key}(κ':Nat)(hd:dM c.n [o]=true)(hg:o.guard=none)
 (h:Am.fj c.P o.op (o.op.operands.toList.map (s.val c.G)) s.lv κ=some (x,us,rds)) (hK:HL c r ops os (aB.put ⟨s.fr,bg s.lv us⟩ o.dst x) κ' ((us.map (·.1),rds)::acc) K):HL c r ops (o::os) s κ acc K:=by
 obtain⟨es,s',κ2,h1,h2⟩:=hK;refine⟨⟨x,us,rds⟩::es,s',κ2,⟨cY.Nx (λd hd'=>?_) (by rw[hg];rfl) h,h1⟩,?_⟩
 ·simp only[dM,afx,List.all_nil,Bool.and_true,hd']at hd
  grind
 ·rw[adK,agh,adX];exact h2
theorem AW.ZP{κ:Nat}{Q:Ex->aB->Nat->Prop}{id:Nat}(hm:c.P.follows .mixedOrders=true)(hst:mU ops=true)(h:HL c r ops ops.toList s κ [] λs' κ' acc=>Qq ops acc.reverse=true/\Q .normal s' κ'):AW c r (.region id ops true) s κ Q:=by
 intro F β a w hs;obtain⟨es,s',κ',h1,h2,h3⟩:=h;rw[aei,agx,<-Ko]at h2;exact h1.draw hm hst h2 (λF' β' a' w' h'=>⟨.normal,s',κ',F',β',h3,h',rfl⟩) hs
end
structure Tw where
 e:Fx
 lv:Key->LB
 sf:Option (Key×LB)
open Classical in
noncomputable def Tw.fw(t:Tw):Fw:=⟨t.e,t.lv,false,λk b=>match t.sf with|some (W,B)=>decide (k=W/\(b=t.lv W\/b=B))|none=>false⟩
section
variable {c:Ctx}{r:Option Nat}{ops:Array Oper}
end
end Go.Am
