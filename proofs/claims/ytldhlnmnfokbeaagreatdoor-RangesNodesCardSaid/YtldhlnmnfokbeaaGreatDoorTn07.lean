/- Helpers. -/
import Derived.Test.YtldhlnmnfokbeaaGreatDoorTn06

set_option linter.all false
set_option maxHeartbeats 8000000
set_option maxRecDepth 100000
open Go.IntKind
open Go.Proofs.Tryz
namespace Go.Am
abbrev afi:=@List.take_add_one
abbrev agn:=@Rat.mkRat_self
abbrev aft:=@Int.mul_comm
abbrev af3:=@Rat.mul_zero
abbrev ago:=@Int.natCast_add
abbrev afO:=@Rat.num_nonneg
abbrev agp:=@Rat.mul_le_mul_of_nonneg_right
abbrev afP:=@Rat.le_of_lt
abbrev afQ:=@List.take_length
open Go.Am.Ty Go.Proofs N
def tQ{p:PD}(hg:p.good){i:Nat}(hi:i<p.nn):(1<=(p.nd i).op/\(p.nd i).op<=15)/\((p.nd i).op=2->0<=(p.nd i).a/\(p.nd i).a<p.ns)/\∀x∈aP (p.nd i),0<=x/\x<i:=by
 have h:=hg.nodes i hi;unfold l6 at h
 by_cases c1:1<=(p.nd i).op/\(p.nd i).op<=15
 rotate_left
 ·omega
 rw[if_neg (not_not_intro c1)]at h;refine⟨c1,λh2=>?_,?_⟩
 ·omega
 ·by_cases h3:(p.nd i).op=3
  ·intro x hx;unfold aP at hx;rw[if_pos c1,h3]at hx
   cases hx
  ·rw[if_neg h3]at h
   have hk:(aP (p.nd i)).all (fM p i)=true:=by
    cases hkk:(aP (p.nd i)).all (fM p i)with
    |true=>rfl
    |false=>rw[hkk]at h;(repeat' split at h)<;>first|contradiction|(cases h;done)|(exfalso;simp_all)
   intro x hx;have:=List.all_eq_true.1 hk x hx;unfold fM at this
   grind
end Go.Am
namespace Go.Am
def nv(l:List Bool)(ks:List Nat):List Bool:=ks.foldl (λl k=>l.set k true) l
def vo:∀(ks:List Nat) (l:List Bool),(nv l ks).length=l.length
 |[],_=>rfl
 |k::ks,l=>by rw[nv,afU];exact(vo ks _).trans List.length_set
end Go.Am
namespace Go.Am
open Go.Am.Ty Go.Proofs N
variable {x y r m:Rat}{L t k κ u i:Nat}{c:Ctx}{fn:Func}{s:aJ}{T:TypeId}{a:Iv}{own fz:Bool}{lv:Key->LB}{z:Int}{l:List Rat}{lo hi:List UInt8}
def uM(p:PD)(M:List Bool)(i:Nat):List Bool:=if M.getD i false then nv M ((aP (p.nd i)).map Int.toNat)else M
def wm(p:PD):Nat->List Bool->List Bool
 |0,M=>M
 |i+1,M=>wm p i (uM p M i)
def jR(p:PD)(node n:Nat):List Bool:=wm p (node+1) ((List.replicate n false).set node true)
theorem AJ(p:PD)(M:List Bool)(i:Nat):(uM p M i).length=M.length:=by
 unfold uM;split
 ·exact vo _ _
 ·rfl
theorem Gf(p:PD):∀(i:Nat) (M:List Bool),(wm p i M).length=M.length
 |0,_=>rfl
 |i+1,M=>(Gf p i _).trans (AJ p M i)
theorem sQ(p:PD)(node n:Nat):(jR p node n).length=n:=by unfold jR;rw[Gf];simp
theorem TU(l:List Bool)(ks:List Nat)(k:Nat):nv l (ks++[k])=(nv l ks).set k true:=by unfold nv;rw[List.foldl_append];rfl
theorem Xa(l:List Bool)(g:Key->Key):(LB.cells own fz T (bK l)).like (.cells own fz T (bK l)) g:=
 LB.aN.2 ⟨rfl,rfl,by unfold bK;rw[adT];rfl,id⟩
theorem mb(p:PD)(g:Key->Key):(LB.cells own fz T p.cs).like (.cells own fz T p.cs) g:=
 LB.aN.2 ⟨rfl,rfl,by simp[PD.cs],id⟩
abbrev Mv(p:PD)(M:List Bool):Key->LB:=aM (aM (λ_=>.hole) 0 (.cells true false 27 p.cs)) 1 (.cells true false 4 (bK M))
abbrev dpM(p:PD)(M:List Bool):List (Key×Key×LB):=[(0,0,.cells true false 27 p.cs),(1,1,.cells true false 4 (bK M))]
theorem yo{fr:Nat->AV}{p:PD}{M:List Bool}(hc:c.jd=λ_=>.hole)(l:List (Nat×AV))(h0:lv 0=.cells true false 27 p.cs)(h1:lv 1=.cells true false 4 (bK M))(h9:lv 9=.hole)
 (hl:∀x∈l,x.2.cG=true/\fr x.1=x.2.dA (aV (dpM p M) 9)):Le c ⟨fr,lv⟩ ⟨aT l,Mv p M⟩:=by
 refine Le.keys (dpM p M) 9 l rfl hc zp zp h9 ?_ hl;intro e he;simp only[aZ,bw,or_false]at he;rcases he with rfl|rfl
 ·show(lv 0).like _ _;rw[h0];exact mb p _
 ·show(lv 1).like _ _;rw[h1];exact Xa _ _
theorem pJ(m:Int)(p:PD)(hp:p.ok)(hg:p.good)(node:Nat)(hn:node<p.nn):aa prog (GG m) 42 [p.A,.c (.d (.int .i64 (node:Int)))] (.c (bC (some (jR p node (node+1))))):=by
 obtain⟨hn1,hn2,hn3,-,-,hnn,hns⟩:=eX hg.gen;have hrep:∀n,gh n [CV.d (.bool false)]=bK (List.replicate n false):=λn=>by rw[El];simp[gh]
 have hrep':∀n,List.replicate n (CV.d (.bool false))=bK (List.replicate n false):=λn=>(El n).symm
 obtain⟨M0,hM0⟩:∃M0,List.replicate (node+1) false=M0:=⟨_,rfl⟩
 have hl0:M0.length=node+1:=by rw[<-hM0];simp
 have hst1:=EC M0 node true zd;have hw1:=bP (n:=(node:Int)+1) zd zd;have hV:wm p (node+1) (M0.set node true)=jR p node (node+1):=by rw[<-hM0];rfl
 refine aa.ed func42 rfl λ_=>?_;refine abM ?_;refine abF mixed trivial trivial ?_;refine abM ?_;refine abF mixed trivial (lD hw1 hrep hrep') ?_;rw[hM0];refine aau mixed trivial (eY hst1 hl0) ?_
 refine aaY (λ(a:Nat×List Bool)=>⟨aT [(1,.c (.d (.int .i64 (node:Int)))),(2,.c (.ptr 0 0)),(5,.c (.aO 1 0 (node+1) 1)),(6,.c (.d (.int .i64 ((a.1:Int)-1))))],Mv p a.2⟩) 10
  (λa=>a.1<=node+1/\a.2.length=node+1/\wm p a.1 a.2=jR p node (node+1)) (λa=>a.1) (node+1,M0.set node true) (yo rfl _ zp zp zp (by simp[aV]<;>omega)) ⟨bf _,by simp[hl0],hV⟩ ?_
 rintro⟨j,M⟩ ⟨hj,hl,hsw⟩
 try simp only at hj hl hsw ⊢
 refine aau mixed trivial trivial ?_
 cases j with
 |zero=>
  have hsw:M=jR p node (node+1):=hsw;refine abF mixed trivial trivial ?_;refine abF mixed trivial trivial ?_;refine abM ?_;refine abF mixed trivial trivial ?_;rw[<-hsw,<-hl];refine aaq (cq.tmp (κ:=0) (X:=.c (.aO 1 0 M.length 1)) (t:=4) (ks:=[1]) rfl bj ?_);exact Jq (own:=true) (fz:=false) (T:=4) zp zd
 |succ i=>
  have hi:i<p.nn:=zd
  have hi0:((i+1:Nat):Int)-1=(i:Int):=zd
  have hi1:0<=(i:Int):=zd
  have hi2:(i:Int)<(p.nn:Int):=zd
  have hiM:i<M.length:=zd
  have hld:=DS (P:=prog) (T:=4) zp hiM;have f1:=bP (n:=(i:Int)-1) zd zd;have hstp:wm p (i+1) M=wm p i (uM p M i):=rfl;have hgd:=Bj hiM;rw[hstp]at hsw;rw[hi0];refine aau mixed trivial (eY hi1 hld) ?_;obtain⟨b,hb⟩:∃b,M[i]=b:=⟨_,rfl⟩
  rw[hb]at hgd;rw[hb]
  cases b with
  |false=>
   have e:uM p M i=M:=if_neg (by rw[hgd];decide);rw[e]at hsw;refine aau mixed trivial f1 ?_;exact⟨i,M,yo rfl _ zp zp zp xa,⟨zd,hl,hsw⟩,zd⟩
  |true=>
   have e:uM p M i=nv M ((aP (p.nd i)).map Int.toNat):=if_pos hgd;rw[e]at hsw;obtain⟨-,-,hkr⟩:=tQ hg hi;have hxn:=λlv=>wI p lv hp i hi
   obtain⟨n,hn'⟩:∃n,p.nd i=n:=⟨_,rfl⟩
   rw[hn']at hkr hsw;simp only[hn']at hxn;have hkd:=vq m n;have lpk:=λlv=>Un (T:=92) zp lv (js n)
   have ixk:∀lv (q:Nat) (hq:q<(aP n).length),aq prog 92 lv (.c (zC (js n))) (.c (.d (.int .i64 (q:Int))))=some (.c (.d (.ptr [.int .i64 (aP n)[q]])),[],[],True):=by
    intro lv q hq;have:=V6 (T:=92) zp lv (js n) (i:=q) (by rw[mG];exact hq);simp only[mG]at this;exact this
   rw[mG]at lpk;have hkl:=oN n;obtain⟨kz,hkz⟩:∃kz:DV,zC (js n)=.d kz:=by cases js n<;>exact⟨_,rfl⟩
   simp only[hkz]at hkd lpk ixk;generalize aP n=kl at*
   refine aau mixed hkd (eY hxn lpk) ?_
   refine aaY (λ(q:Nat)=>⟨aT [(1,.c (.d (.int .i64 (node:Int)))),(2,.c (.ptr 0 0)),(5,.c (.aO 1 0 (node+1) 1)),(6,.c (.d (.int .i64 (i:Int)))),(30,.c (.d kz)),(31,.c (.d (.int .i64 (kl.length:Int)))),(32,.c (.d (.int .i64 (q:Int))))],Mv p (nv M ((kl.map Int.toNat).take q))⟩) 11
    (λq=>q<=kl.length) (λq=>kl.length-q) 0 (yo rfl _ zp (by simp[nv]) zp xa) (ab5 _) ?_
   rintro q hq
   try simp only at hq ⊢
   have hlq:=vo ((kl.map Int.toNat).take q) M
   have hsn:∀h:q<kl.length,nv M ((kl.map Int.toNat).take (q+1))=(nv M ((kl.map Int.toNat).take q)).set (kl[q]).toNat true:=λh=>by
    rw[afi,fy ta];simp only[Option.toList_some,rP];exact TU ..
   obtain⟨Mq,hMq⟩:∃Mq,nv M ((kl.map Int.toNat).take q)=Mq:=⟨_,rfl⟩
   rw[hMq]at hlq;simp only[hMq]at hsn⊢;refine aau mixed trivial trivial ?_
   by_cases hqt:q<kl.length
   ·have hqt':(q:Int)<(kl.length:Int):=by omega
    have hxk:=λlv=>ixk lv q hqt
    have hk2:=hkr _ (cn hqt);have hsn:=hsn hqt;have f14:=bP (n:=(q:Int)+1) zd zd;generalize kl[q]=x at*
    have hx0:0<=x:=hk2.1;have hx1:x<((node+1:Nat):Int):=zd
    have hx2:x<=(node:Int):=zd
    have hx3:x<(node:Int)+1:=zd
    have hbs:=EC Mq x.toNat true zd;refine aau mixed trivial (me hqt' hxk hx0 hx1 hx2 (lD hx3 hbs f14)) ?_;refine⟨q+1,?_,zd,zd⟩;rw[hsn];exact yo rfl _ zp zp zp xa
   have hqe:q=kl.length:=zd
   rw[hqe,aeE zp]at hMq;rw[hMq]at hsw;refine aau mixed trivial (eY hqt f1) ?_;exact⟨i,Mq,yo rfl _ zp zp zp xa,⟨zd,zd,hsw⟩,zd⟩
theorem JN(a b:Bool)(m n:Nat):ei (a != b) (m*n)=ei a m*ei b n:=by
 unfold ei;cases a<;>cases b<;>simp[Int.neg_mul,Int.mul_neg]
theorem ED(x y:Rat):x*y=mkRat (ei (decide (x.num<0) != decide (y.num<0)) (x.num.natAbs*y.num.natAbs)) (x.den*y.den):=by
 rw[Rat.mul_def',JN,pU,pU]
theorem C8(h:x≠0):x.num.natAbs≠0:=by intro e;exact h (Rat.num_eq_zero.1 zd)
theorem Dx(hy:y≠0):x/y=mkRat (ei (decide (x.num<0) != decide (y.num<0)) (x.num.natAbs*y.den)) (x.den*y.num.natAbs):=by
 have hn:=C8 hy
 have e:mkRat (ei (decide (x.num<0) != decide (y.num<0)) (x.num.natAbs*y.den)) (x.den*y.num.natAbs)*y=x:=by
  conv=>lhs;rhs;rw[<-agn y]
  conv=>rhs;rw[<-agn x]
  rw[Rat.mkRat_mul_mkRat,Rat.mkRat_eq_iff (aeg (adJ (adJ x.den_pos (aeJ hn)) y.den_pos)) x.den_nz,JN,pU]
  have h1:ei (decide (y.num<0)) y.den*y.num=(y.den:Int)*y.num.natAbs:=by
   unfold ei
   by_cases h:y.num<0
   ·rw[decide_eq_true h,if_pos rfl,show(y.num.natAbs:Int) = -y.num by omega,Int.neg_mul,Int.mul_neg]
   ·rw[decide_eq_false h,if_neg zr,show(y.num.natAbs:Int)=y.num by omega]
  rw[Int.mul_assoc x.num,h1,afH,afH,Int.mul_assoc,aft _ (x.den:Int),aft (y.den:Int),Int.mul_assoc (x.den:Int)]
 rw[<-Rat.mul_div_cancel (a:=mkRat _ _) hy,e]
theorem pI(hx:bF x L)(hy:bF y L):bF (x*y) (2*L):=by
 have e1:=cK x.num.natAbs y.num.natAbs;have e2:=cK x.den y.den;obtain⟨a1,a2⟩:=hx;obtain⟨b1,b2⟩:=hy;rw[ED];exact jF _ (aeg (adJ x.den_pos y.den_pos)) zd zd
theorem KF(hx:bF x L)(hy:bF y L):bF (x/y) (2*L+1):=by
 by_cases h0:y=0
 ·have:x/y=0:=by rw[h0,afa,Rat.inv_zero,af3]
  rw[this];exact⟨kc,by show nl 1<=_;rw[cR];omega⟩
 have e1:=cK x.num.natAbs y.den;have e2:=cK x.den y.num.natAbs;obtain⟨a1,a2⟩:=hx;obtain⟨b1,b2⟩:=hy;rw[Dx h0];exact jF _ (aeg (adJ x.den_pos (aeJ (C8 h0)))) zd zd
theorem mC(hx:bF x L)(hy:bF y L):bF (eM x y) L:=by unfold eM;split<;>assumption
theorem lp(hx:bF x L)(hy:bF y L):bF (fh x y) L:=by unfold fh;split<;>assumption
theorem fH(hx:bF x L):bF (b9 x) L:=by
 unfold b9;split
 ·exact fk hx
 ·exact hx
def dP(x:Rat)(away:Bool):Rat:=((ei (decide (x.num<0)) (x.num.natAbs/x.den+if away=true/\x.num.natAbs%x.den≠0 then 1 else 0):Int):Rat)
theorem VA:(z:Rat)<=y↔z*y.den<=y.num:=by rw[Rat.le_iff,afM,agl];simp
theorem U7:y<=(z:Rat)↔y.num<=z*y.den:=by rw[Rat.le_iff,afM,agl];simp
theorem Nb(y:Rat):dP y (decide (y.num<0))<=y:=by
 unfold dP;rw[VA];have h1:=afI y.num.natAbs y.den;have h2:=adx y.num.natAbs y.den_pos;generalize y.num.natAbs/y.den=q at*
 generalize y.num.natAbs%y.den=r at*
 have h3:((y.den:Int)*q+r:Int)=y.num.natAbs:=by exact_mod_cast h1
 by_cases hn:y.num<0
 ·rw[decide_eq_true hn];unfold ei;rw[if_pos rfl];split
  ·have:((q+1:Nat):Int)*y.den=y.den*q+y.den:=by rw[ago,Int.add_mul,aft];simp
   rw[Int.neg_mul,this];omega
  ·rename_i h
   have hr:r=0:=ta
   rw[ad9,Int.neg_mul,aft];omega
 ·rw[decide_eq_false hn];unfold ei;rw[if_neg zr,if_neg zp,ad9,aft];omega
theorem OI(y:Rat):y<=dP y (!decide (y.num<0)):=by
 unfold dP;rw[U7];have h1:=afI y.num.natAbs y.den;have h2:=adx y.num.natAbs y.den_pos;generalize y.num.natAbs/y.den=q at*
 generalize y.num.natAbs%y.den=r at*
 have h3:((y.den:Int)*q+r:Int)=y.num.natAbs:=by exact_mod_cast h1
 by_cases hn:y.num<0
 ·rw[decide_eq_true hn];unfold ei;rw[if_pos rfl,if_neg zp,ad9,Int.neg_mul,aft];omega
 ·rw[decide_eq_false hn];unfold ei;rw[if_neg zr];split
  ·have:((q+1:Nat):Int)*y.den=y.den*q+y.den:=by rw[ago,Int.add_mul,aft];simp
   rw[this];omega
  ·rename_i h
   have hr:r=0:=ta
   rw[ad9,aft];omega
theorem r5(h:bF x L)(away:Bool):bF (dP x away) (L+1):=by
 unfold dP;refine pO _ _ ?_ zd;rw[rX];have h1:=h.1;refine HQ (dZ (n:=x.num.natAbs+1) ?_) ?_
 ·have:=aeB x.num.natAbs x.den;split<;>omega
 ·have:=lY x.num.natAbs 1;have h2:=cR;have h3:1<=L:=HQ (NW x.den_nz) h.2;omega
theorem fN(x:Rat)(k:Int):aH x k=x*2^k:=by
 unfold aH;split
 ·rename_i h
  have e:k = -((-k).toNat:Int):=zd
  conv=>rhs;rw[e,<-agn x,Rat.zpow_neg,Rat.zpow_natCast]
  have h1:((2:Rat)^(-k).toNat)⁻¹=mkRat 1 (2^(-k).toNat):=by
   rw[Rat.mkRat_eq_div,afa,Rat.natCast_pow];show _=(1:Rat)*_;rw[Rat.one_mul];rfl
  rw[h1,Rat.mkRat_mul_mkRat,Int.mul_one]
 ·rename_i h
  have e:k=(k.toNat:Int):=zd
  conv=>rhs;rw[e,<-agn x,Rat.zpow_natCast]
  have h1:(2:Rat)^k.toNat=mkRat (2^k.toNat) 1:=by
   rw[Rat.mkRat_one,Rat.intCast_pow];rfl
  rw[h1,Rat.mkRat_mul_mkRat,aeu]
theorem two_pos(k:Int):(0:Rat)<2^k:=Rat.zpow_pos zr
theorem oY(x:Rat)(k:Int):((aH x k).num<0)↔x.num<0:=by
 have h1:∀y:Rat,y.num<0↔y<0:=λy=>by
  rw[<-Rat.not_le,<-afO];omega
 rw[h1,h1,fN];exact Rat.mul_neg_iff_of_pos_right (two_pos k)
theorem AG(x:Rat)(k:Int):aH x (-k)*2^k=x:=by
 rw[fN,Rat.mul_assoc,<-Rat.zpow_add zr,Int.add_left_neg,Rat.zpow_zero,Rat.mul_one]
def kI(bits:Int):Int:=min (max bits 1) 4000
def n9(x:Rat)(bits:Int)(away:Bool):Rat:=if x=0 then x else aH (dP (aH x (-(dm x-kI bits+1))) away) (dm x-kI bits+1)
def ja(x:Rat)(bits:Int):Rat:=n9 x bits (decide (x.num<0))
def DW(x:Rat)(bits:Int):Rat:=n9 x bits (!decide (x.num<0))
theorem QE(x:Rat)(bits:Int):ja x bits<=x:=by
 unfold ja n9;split
 ·exact aev
 generalize dm x-kI bits+1=k;have h:=Nb (aH x (-k));rw[show decide ((aH x (-k)).num<0)=decide (x.num<0) from decide_eq_decide.2 (oY x (-k))]at h;have:=agp h (afP (two_pos k))
 rwa[AG,<-fN]at this
theorem Yi(x:Rat)(bits:Int):x<=DW x bits:=by
 unfold DW n9;split
 ·exact aev
 generalize dm x-kI bits+1=k;have h:=OI (aH x (-k));rw[show decide ((aH x (-k)).num<0)=decide (x.num<0) from decide_eq_decide.2 (oY x (-k))]at h;have:=agp h (afP (two_pos k))
 rwa[AG,<-fN]at this
theorem aF.num(hr:c.P=prog/\fn.results=#[.cell t 34])(ht:s.fr t=.c (.ptr k 0))
 (hk:s.lv k=.cells true false 34 [.d (.bool (decide (r.num<0))),nC (aW r.num.natAbs),nC (bB r.den)]):aF c fn (bu r) .ret s κ:=
 aF.cell hr.2 ht hk (by rw[hr.1,ady,j5])
theorem aF.BU{y:CV}(hr:c.P=prog/\fn.results=#[.cell t 34,.tmp u])(ht:s.fr t=.c (.ptr k 0))
 (hk:s.lv k=.cells true false 34 [.d (.bool (decide (r.num<0))),nC (aW r.num.natAbs),nC (bB r.den)]) (hy:s.fr u=.c y):aF c fn (.tup [bu r,.c y]) .ret s κ:=
 aF.ox hr.2 ht hk (by rw[hr.1,ady,j5]) hy rfl rfl
theorem Ju(a b:Bool):aU prog .neq 4 (.c (.d (.bool a))) (.c (.d (.bool b)))=some (.c (.d (.bool (a != b))),[],[],True):=by
 cases a<;>cases b<;>kernel_rfl
theorem gI(G:List (List DV))(x y:Rat)(hx:bF x 10000000000)(hy:bF y 10000000000):aa prog G 69 [bu x,bu y] (bu (x*y)):=by
 have hbx:=cx G (decide (x.num<0)) (aW x.num.natAbs) (bB x.den);have hby:=cx G (decide (y.num<0)) (aW y.num.natAbs) (bB y.den);have m1:=eI G (aW x.num.natAbs) (aW y.num.natAbs) ut le;have m2:=eI G (some (aL 4294967296 x.den)) (some (aL 4294967296 y.den)) gn go;rw[tH]at hbx hby;simp only[kW,aS,b7,iX]at m1 m2;have e1:=cK x.num.natAbs y.num.natAbs;have e2:=cK x.den y.den;have mk:=mJ G (decide (x.num<0) != decide (y.num<0)) (x.num.natAbs*y.num.natAbs) (x.den*y.den) (aeg (adJ x.den_pos y.den_pos)) (by have:=hx.1;have:=hy.1;omega) (by have:=hx.2;have:=hy.2;omega);rw[<-ED]at mk;generalize x*y=r at*
 refine aa.enc func69 rfl (λlv=>bZ lv _ _ _) λ_=>?_;refine aau mixed (BF m1 hbx hby m2 mk) @Ju ?_;exact aal (aF.num (κ:=0) (t:=4) (k:=2) ⟨rfl,rfl⟩ zp yi)
theorem S5(G:List (List DV))(x y:Rat)(hx:bF x 10000000000)(hy:bF y 10000000000):aa prog G 181 [bu x,bu y] (.tup [bu (x/y),.c (.d (.int .i64 (if y=0 then 8 else 0)))]):=by
 have hg:=dr G (decide (y.num<0)) (aW y.num.natAbs) (bB y.den)
 by_cases h0:y=0
 ·have e:x/y=0:=by rw[h0,afa,Rat.inv_zero,af3]
  rw[vD h0]at hg;rw[e,if_pos h0];have bz:bM prog 34 [] []=some (bu 0,[],[],True):=Cx;generalize (0:Rat)=z at*
  refine aa.enc func181 rfl (λlv=>iL lv _ _ _ _) λ_=>?_;refine aau mixed hg bz ?_;exact aal (aF.BU (κ:=0) (t:=4) (k:=2) (u:=5) ⟨rfl,rfl⟩ zp yi zp)
 have hne:=En h0;have hbx:=cx G (decide (x.num<0)) (aW x.num.natAbs) (bB x.den);have hby:=cx G (decide (y.num<0)) (aW y.num.natAbs) (bB y.den);have m1:=eI G (aW x.num.natAbs) (some (aL 4294967296 y.den)) ut go;have m2:=eI G (some (aL 4294967296 x.den)) (aW y.num.natAbs) gn le;rw[tH]at hbx hby;simp only[kW,aS,b7,iX]at m1 m2;have e1:=cK x.num.natAbs y.den;have e2:=cK x.den y.num.natAbs;have mk:=mJ G (decide (x.num<0) != decide (y.num<0)) (x.num.natAbs*y.den) (x.den*y.num.natAbs) (aeg (adJ x.den_pos (aeJ (C8 h0)))) (by have:=hx.1;have:=hy.2;omega) (by have:=hx.2;have:=hy.1;omega);rw[<-Dx h0]at mk;rw[if_neg h0];generalize x/y=r at*
 refine aa.enc func181 rfl (λlv=>iL lv _ _ _ _) λ_=>?_;refine aau mixed (me hg hby m1 hbx m2 mk) (eY hne @Ju) ?_;exact aal (aF.BU (κ:=0) (t:=4) (k:=2) (u:=5) ⟨rfl,rfl⟩ zp yi zp)
theorem qn(G:List (List DV))(x:Rat):aa prog G 142 [bu x] (bu (b9 x)):=by
 have h:=zw G (decide (x.num<0)) (aW x.num.natAbs) (bB x.den)
 have h1:x.num<0↔x<0:=by
  rw[<-Rat.not_le,<-afO];omega
 have e:p7 false (aW x.num.natAbs) (bB x.den)=bu (b9 x):=by
  unfold b9;split
  ·rename_i hn
   have:=h1.2 hn;show p7 _ _ _=p7 (decide ((-x).num<0)) (aW (-x).num.natAbs) (bB (-x).den);rw[afc,agm,afN,decide_eq_false zd]
  ·rename_i hn
   have:¬x.num<0:=λh=>hn (h1.1 h)
   show p7 _ _ _=p7 (decide (x.num<0)) _ _;rw[decide_eq_false this]
 rw[<-e];exact h
theorem kj:bS x y<0↔x<y:=by unfold bS;(repeat' split)<;>simp_all
theorem oF:0<bS x y↔y<x:=by
 unfold bS;split
 ·rename_i h;simp;exact λh'=>by grind
 ·split<;>simp_all
theorem uO(G:List (List DV))(x y:Rat)(hx:bF x 10000000000)(hy:bF y 10000000000):aa prog G 143 [bu x,bu y] (bu (fh x y)):=by
 have hc:=iZ G x y hx hy
 by_cases h:x<y
 ·have h':=kj.2 h;unfold fh;rw[if_pos h];generalize bS x y=n at*
  refine aa.enc func143 rfl (λlv=>bZ lv _ _ _) λ_=>?_;refine aau mixed hc h' ?_;exact aal (aF.num (κ:=0) (t:=4) (k:=2) ⟨rfl,rfl⟩ zp yi)
 ·have h':¬bS x y<0:=λe=>h (kj.1 e)
  unfold fh;rw[if_neg h];generalize bS x y=n at*
  refine aa.enc func143 rfl (λlv=>bZ lv _ _ _) λ_=>?_;refine aau mixed hc h' ?_;exact aal (aF.num (κ:=0) (t:=4) (k:=2) ⟨rfl,rfl⟩ zp yi)
theorem uJ(G:List (List DV))(x y:Rat)(hx:bF x 10000000000)(hy:bF y 10000000000):aa prog G 201 [bu x,bu y] (bu (eM x y)):=by
 have hc:=iZ G x y hx hy
 by_cases h:x<y
 ·have h':=kj.2 h;unfold eM;rw[if_pos h];generalize bS x y=n at*
  refine aa.enc func201 rfl (λlv=>bZ lv _ _ _) λ_=>?_;refine aau mixed hc h' ?_;exact aal (aF.num (κ:=0) (t:=4) (k:=2) ⟨rfl,rfl⟩ zp yi)
 ·have h':¬bS x y<0:=λe=>h (kj.1 e)
  unfold eM;rw[if_neg h];generalize bS x y=n at*
  refine aa.enc func201 rfl (λlv=>bZ lv _ _ _) λ_=>?_;refine aau mixed hc h' ?_;exact aal (aF.num (κ:=0) (t:=4) (k:=2) ⟨rfl,rfl⟩ zp yi)
theorem R1(x:Rat):dO (qG (aW x.num.natAbs) (some (aL 4294967296 x.den)))=(aL 4294967296 (x.num.natAbs/x.den)):=by rw[Hw,kW,aS,b7]
theorem CE(G:List (List DV))(x:Rat)(away:Bool)(hx:bF x 10000000000):aa prog G 236 [bu x,.c (.d (.bool away))] (bu (dP x away)):=by
 have hb:=cx G (decide (x.num<0)) (aW x.num.natAbs) (bB x.den);rw[tH]at hb;have hd:=ke G (aW x.num.natAbs) (some (aL 4294967296 x.den)) (lC _) (eR _) (iF x.den_nz) ut;have hq:=R1 x;have hr:dO (lU (aW x.num.natAbs) (some (aL 4294967296 x.den)))=(aL 4294967296 (x.num.natAbs%x.den)):=by rw[Dk (lC _),kW,aS,b7]
 have ho:=fK G 1 zr;have hl:nl (x.num.natAbs/x.den)<=10000000000:=HQ (dZ (aeB _ _)) hx.1;generalize qG (aW x.num.natAbs) (some (aL 4294967296 x.den))=q at*
 generalize lU (aW x.num.natAbs) (some (aL 4294967296 x.den))=r at*
 have hrl:0<(dO r).length↔x.num.natAbs%x.den≠0:=by
  rw[hr,List.length_pos_iff,Ne,cL zr]
 have hqc:can 4294967296 (dO q):=by rw[hq];exact eR _
 have hqv:(val 4294967296 (dO q))=x.num.natAbs/x.den:=by rw[hq,b7]
 have hadd:=kE G q (some (aL 4294967296 1)) (by rw[hq];show nl _<=_;omega) wd;rw[hqv,aS,b7]at hadd;have m1:=vT G (decide (x.num<0)) q (some (aL 4294967296 1)) hqc (eR _) (iF zr) (by rw[hq];show nl _<_;omega) (by show nl 1<_;rw[cR];decide);have hl2:=lY (x.num.natAbs/x.den) 1;rw[cR]at hl2;have m2:=mJ G (decide (x.num<0)) (x.num.natAbs/x.den+1) 1 zr zd sc;rw[hqv,aS,b7,k7]at m1;rw[k7]at m2;simp only[iX]at ho hadd hd;have hdt:=oW q r;simp only[iX]at hdt
 by_cases ha:away=true/\x.num.natAbs%x.den≠0
 ·have e:dP x away=((ei (decide (x.num<0)) (x.num.natAbs/x.den+1):Int):Rat):=by unfold dP;rw[if_pos ha]
  rw[e];obtain⟨rfl,ha2⟩:=ha;have hr1:=hrl.2 ha2;generalize ((ei (decide (x.num<0)) (x.num.natAbs/x.den+1):Int):Rat)=w at*
  refine aa.enc func236 rfl (λlv=>bZ lv _ _ _) λ_=>?_;refine aau mixed trivial trivial ?_;refine aci mixed λKX1 hKX1=>?_;simp;refine ag.p 2 9 hb ?_;simp;refine ag.pure 2 9 hd hdt zp zp ?_;simp;refine⟨zt,?_⟩
  repeat refine az ?_
  refine hKX1 _ _ ?_;refine wN ?_;refine aau mixed (lD ho hadd m2) (eY @WS hr1) ?_;exact aal (aF.num (κ:=0) (t:=4) (k:=1) ⟨rfl,rfl⟩ zp yi)
 ·have e:dP x away=((ei (decide (x.num<0)) (x.num.natAbs/x.den):Int):Rat):=by unfold dP;rw[if_neg ha,ad9]
  rw[e];have ha':¬(away=true/\0<(dO r).length):=λh=>ha ⟨h.1,hrl.1 h.2⟩
  generalize ((ei (decide (x.num<0)) (x.num.natAbs/x.den):Int):Rat)=w at*
  refine aa.enc func236 rfl (λlv=>bZ lv _ _ _) λ_=>?_;refine aau mixed trivial trivial ?_;refine aci mixed λKX2 hKX2=>?_;simp;refine ag.p 2 9 hb ?_;simp;refine ag.pure 2 9 hd hdt zp zp ?_;simp;refine⟨zt,?_⟩
  repeat refine az ?_
  refine hKX2 _ _ ?_;refine wN ?_
  cases away with
  |false=>
   refine aau mixed (eY ho m1) trivial ?_;exact aal (aF.num (κ:=0) (t:=4) (k:=1) ⟨rfl,rfl⟩ zp yi)
  |true=>
   have hr1:¬0<(dO r).length:=λh=>ha' ⟨rfl,h⟩
   refine aau mixed (eY ho m1) (eY @WS hr1) ?_;exact aal (aF.num (κ:=0) (t:=4) (k:=1) ⟨rfl,rfl⟩ zp yi)
theorem qY(b:Int):1<=kI b/\kI b<=4000:=by unfold kI;omega
theorem Aa(G:List (List DV))(b:Int):aa prog G 235 [.c (.d (.int .i64 b))] (.c (.d (.int .i64 (kI b)))):=by
 have e1:(List.foldl (λa b:Int=>if a<b then b else a) b [1])=max b 1:=vx
 have e2:(List.foldl (λa b:Int=>if b<a then b else a) (max b 1) [4000])=kI b:=pA
 refine aa.en func235 rfl λ_=>aah ?_;refine aaF λK hK=>?_;simp[eN,e1,e2,-List.foldl_cons,-List.foldl_nil]
 repeat refine az ?_
 apply hK;exact aaq (aD.rt rfl 2 zp)
theorem FM(G:List (List DV))(x:Rat)(bits:Int)(away:Bool)(hx:bF x 10000):aa prog G 182 [bu x,.c (.d (.int .i64 bits)),.c (.d (.bool away))] (bu (n9 x bits away)):=by
 have hg:=dr G (decide (x.num<0)) (aW x.num.natAbs) (bB x.den)
 by_cases h0:x=0
 ·have e:n9 x bits away=x:=if_pos h0;rw[vD h0]at hg;rw[e];refine aa.enc func182 rfl (λlv=>bZ lv _ _ _) λ_=>?_;refine aau mixed hg trivial ?_;exact aal (aF.num (κ:=0) (t:=6) (k:=1) ⟨rfl,rfl⟩ zp yi)
 have hne:=En h0;have hl:=D8 G x h0 (au hx zd);have hlr:=jv h0 hx;have hi:=Aa G bits;obtain⟨b1,b2⟩:=qY bits;have e:n9 x bits away=aH (dP (aH x (-(dm x-kI bits+1))) away) (dm x-kI bits+1):=if_neg h0;rw[e];generalize dm x=l at*
 generalize kI bits=b at*
 have w1:i64.wrap (l-b)=l-b:=bP zd zd;obtain⟨k,hk,k1,k2⟩:∃k,l-b+1=k/\-325000<=k/\k<=325000:=⟨_,rfl,zd,zd⟩
 rw[hk];have w2:i64.wrap k=k:=bP zd zd;have w3:i64.wrap (-k) = -k:=bP zd zd;have z1:=cZ hx (-k);have z2:=r5 z1 away;have s1:=jP G x (-k) (au hx zd) zd zd;have s2:=CE G (aH x (-k)) away (au z1 zd);have s3:=jP G (dP (aH x (-k)) away) k (au z2 zd) zd zd;generalize aH (dP (aH x (-k)) away) k=r at*
 generalize dP (aH x (-k)) away=u at*
 generalize aH x (-k)=v at*
 refine aa.enc func182 rfl (λlv=>bZ lv _ _ _) λ_=>?_;refine aau mixed (me hg hl hi s1 s2 s3) (BF hne w1 hk w2 w3) ?_;exact aal (aF.num (κ:=0) (t:=6) (k:=1) ⟨rfl,rfl⟩ zp yi)
theorem Fo(G:List (List DV))(x:Rat)(bits:Int)(hx:bF x 10000):aa prog G 112 [bu x,.c (.d (.int .i64 bits))] (bu (ja x bits)):=by
 have h:aa prog G 182 [bu x,.c (.d (.int .i64 bits)),.c (.d (.bool (decide (x.num<0))))] (bu (ja x bits)):=FM G x bits (decide (x.num<0)) hx;generalize ja x bits=r at*
 refine aa.enc func112 rfl (λlv=>bZ lv _ _ _) λ_=>?_;refine aau mixed h trivial ?_;exact aal (aF.num (κ:=0) (t:=4) (k:=1) ⟨rfl,rfl⟩ zp yi)
theorem Nw(G:List (List DV))(x:Rat)(bits:Int)(hx:bF x 10000):aa prog G 113 [bu x,.c (.d (.int .i64 bits))] (bu (DW x bits)):=by
 have h:aa prog G 182 [bu x,.c (.d (.int .i64 bits)),.c (.d (.bool (!decide (x.num<0))))] (bu (DW x bits)):=FM G x bits (!decide (x.num<0)) hx;generalize DW x bits=r at*
 refine aa.enc func113 rfl (λlv=>bZ lv _ _ _) λ_=>?_;refine aau mixed h trivial ?_;exact aal (aF.num (κ:=0) (t:=4) (k:=1) ⟨rfl,rfl⟩ zp yi)
abbrev eo(a:Iv):AV:=.agg [.d (.bool (decide (a.1.num<0))),nC (aW a.1.num.natAbs),nC (bB a.1.den),.d (.bool (decide (a.2.num<0))),nC (aW a.2.num.natAbs),nC (bB a.2.den)]
theorem DZ(b p q b' p' q':CV):bM prog 36 [0,1] [.agg [b,p,q],.agg [b',p',q']]=some (.agg [b,p,q,b',p',q'],[],[],True):=zt
theorem AB:bM prog 36 [] []=some (eo (0,0),[],[],True):=zt
theorem Oe(b p q b' p' q':CV):iq prog 36 [b,p,q,b',p',q']=some (.agg [b,p,q,b',p',q']):=zt
theorem gT(o:Option (List Nat)):nC o=.d (nD o):=by cases o<;>rfl
@[simp]theorem adN(g:Key->Key)(o:Option (List Nat)):(nC o).dA g=nC o:=by cases o<;>rfl
@[simp]theorem jA(lv:Key->LB)(b b':Bool)(p q p' q':Option (List Nat)):gq lv (.agg [.d (.bool b),nC p,nC q,.d (.bool b'),nC p',nC q'])=some (.agg [.d (.bool b),nC p,nC q,.d (.bool b'),nC p',nC q'],[]):=by
 simp only[gT];rfl
@[simp]theorem bY(lv:Key->LB)(b b':Bool)(p q p' q':Option (List Nat))(n:DV)(hn:n.qW=true):gq lv (.tup [.agg [.d (.bool b),nC p,nC q,.d (.bool b'),nC p',nC q'],.c (.d n)])=some (.tup [.agg [.d (.bool b),nC p,nC q,.d (.bool b'),nC p',nC q'],.c (.d n)],[]):=by
 simp only[gT];rfl
@[simp]theorem aav(b b':Bool)(p q p' q':Option (List Nat)):(AV.agg [.d (.bool b),nC p,nC q,.d (.bool b'),nC p',nC q']).pure=true:=by
 simp only[gT];rfl
@[simp]theorem Yy(b b':Bool)(p q p' q':Option (List Nat))(n:DV):(AV.tup [.agg [.d (.bool b),nC p,nC q,.d (.bool b'),nC p',nC q'],.c (.d n)]).pure=true:=by
 simp only[gT];rfl
theorem aF.iv(hr:c.P=prog/\fn.results=#[.cell t 36])(ht:s.fr t=.c (.ptr k 0))
 (hk:s.lv k=.cells true false 36 [.d (.bool (decide (a.1.num<0))),nC (aW a.1.num.natAbs),nC (bB a.1.den),.d (.bool (decide (a.2.num<0))),nC (aW a.2.num.natAbs),nC (bB a.2.den)]):aF c fn (eo a) .ret s κ:=
 aF.cell hr.2 ht hk (by rw[hr.1,ady,Oe])
theorem aF.kP{y:CV}(hr:c.P=prog/\fn.results=#[.cell t 36,.tmp u])(ht:s.fr t=.c (.ptr k 0))
 (hk:s.lv k=.cells true false 36 [.d (.bool (decide (a.1.num<0))),nC (aW a.1.num.natAbs),nC (bB a.1.den),.d (.bool (decide (a.2.num<0))),nC (aW a.2.num.natAbs),nC (bB a.2.den)]) (hy:s.fr u=.c y):aF c fn (.tup [eo a,.c y]) .ret s κ:=
 aF.ox hr.2 ht hk (by rw[hr.1,ady,Oe]) hy rfl rfl
def Iv.sz(a:Iv)(L:Nat):Prop:=bF a.1 L/\bF a.2 L
theorem Iv.aC{M:Nat}(h:a.sz L)(hm:L<=M):a.sz M:=⟨au h.1 hm,au h.2 hm⟩
theorem gJ:bS x y<=0↔x<=y:=by
 rw[<-Rat.not_lt,<-oF];omega
theorem JD:0<=bS x y↔y<=x:=by
 rw[<-Rat.not_lt,<-kj];omega
theorem Yu(G:List (List DV))(a:Iv):aa prog G 38 [eo a] (bu a.1):=by
 obtain⟨a1,a2⟩:=a;refine aa.enc func38 rfl (λlv=>bZ lv _ _ _) λ_=>?_;refine aau mixed trivial trivial ?_;exact aal (aF.num (κ:=0) (t:=2) (k:=1) ⟨rfl,rfl⟩ zp yi)
theorem XQ(G:List (List DV))(a:Iv):aa prog G 39 [eo a] (bu a.2):=by
 obtain⟨a1,a2⟩:=a;refine aa.enc func39 rfl (λlv=>bZ lv _ _ _) λ_=>?_;refine aau mixed trivial trivial ?_;exact aal (aF.num (κ:=0) (t:=2) (k:=1) ⟨rfl,rfl⟩ zp yi)
theorem Oc(G:List (List DV))(a:Iv)(x:Rat)(ha:a.sz 10000000000)(hx:bF x 10000000000):aa prog G 110 [eo a,bu x] (.c (.d (.bool (decide (a.has x))))):=by
 obtain⟨a1,a2⟩:=a;have c1:=iZ G a1 x ha.1 hx;have c2:=iZ G a2 x ha.2 hx;have e1:bS a1 x<=0↔a1<=x:=gJ;have e2:0<=bS a2 x↔x<=a2:=JD
 by_cases g1:a1<=x
 ·have d1:=e1.2 g1
  by_cases g2:x<=a2
  ·have d2:=e2.2 g2;rw[show decide (Iv.has (a1,a2) x)=true from decide_eq_true ⟨g1,g2⟩];generalize bS a1 x=n1 at*
   generalize bS a2 x=n2 at*
   refine aa.en func110 rfl λ_=>?_;refine aau mixed (eY c1 c2) (eY d1 d2) ?_;exact aaq (aD.rt rfl 4 zp)
  ·have d2:¬0<=bS a2 x:=λh=>g2 (e2.1 h)
   rw[show decide (Iv.has (a1,a2) x)=false from decide_eq_false λh=>g2 h.2];generalize bS a1 x=n1 at*
   generalize bS a2 x=n2 at*
   refine aa.en func110 rfl λ_=>?_;refine aau mixed (eY c1 c2) (eY d1 d2) ?_;exact aaq (aD.rt rfl 4 zp)
 ·have d1:¬bS a1 x<=0:=λh=>g1 (e1.1 h)
  rw[show decide (Iv.has (a1,a2) x)=false from decide_eq_false λh=>g1 h.1];generalize bS a1 x=n1 at*
  refine aa.en func110 rfl λ_=>?_;refine aau mixed c1 d1 ?_;exact aaq (aD.rt rfl 4 zp)
theorem tM(G:List (List DV))(a b:Iv)(ha:a.sz 10000000000)(hb:b.sz 10000000000):aa prog G 47 [eo a,eo b] (eo (a.add b)):=by
 have c1:=gL G a.1 b.1 ha.1 hb.1;have c2:=gL G a.2 b.2 ha.2 hb.2;unfold Iv.add;generalize a.1+b.1=r1 at*
 generalize a.2+b.2=r2 at*
 refine aa.enc func47 rfl (λlv=>jA lv _ _ _ _ _ _) λ_=>?_;refine aau mixed (eY c1 c2) @DZ ?_;exact aal (aF.iv (κ:=0) (t:=4) (k:=2) ⟨rfl,rfl⟩ zp yi)
theorem Hy(G:List (List DV))(a b:Iv)(ha:a.sz 10000000000)(hb:b.sz 10000000000):aa prog G 51 [eo a,eo b] (eo (a.sub b)):=by
 have c1:=r9 G a.1 b.2 ha.1 hb.2;have c2:=r9 G a.2 b.1 ha.2 hb.1;unfold Iv.sub;generalize a.1-b.2=r1 at*
 generalize a.2-b.1=r2 at*
 refine aa.enc func51 rfl (λlv=>jA lv _ _ _ _ _ _) λ_=>?_;refine aau mixed (eY c1 c2) @DZ ?_;exact aal (aF.iv (κ:=0) (t:=4) (k:=2) ⟨rfl,rfl⟩ zp yi)
theorem Qw(G:List (List DV))(a b:Iv)(ha:a.sz 10000000000)(hb:b.sz 10000000000):aa prog G 322 [eo a,eo b] (eo (a.join b)):=by
 have c1:=uJ G a.1 b.1 ha.1 hb.1;have c2:=uO G a.2 b.2 ha.2 hb.2;unfold Iv.join;generalize eM a.1 b.1=r1 at*
 generalize fh a.2 b.2=r2 at*
 refine aa.enc func322 rfl (λlv=>jA lv _ _ _ _ _ _) λ_=>?_;refine aau mixed (eY c1 c2) @DZ ?_;exact aal (aF.iv (κ:=0) (t:=4) (k:=2) ⟨rfl,rfl⟩ zp yi)
theorem I7(G:List (List DV))(a:Iv)(bits:Int)(ha:a.sz 10000):aa prog G 53 [eo a,.c (.d (.int .i64 bits))] (eo (ja a.1 bits,DW a.2 bits)):=by
 have c1:=Fo G a.1 bits ha.1;have c2:=Nw G a.2 bits ha.2;generalize ja a.1 bits=r1 at*
 generalize DW a.2 bits=r2 at*
 refine aa.enc func53 rfl (λlv=>jA lv _ _ _ _ _ _) λ_=>?_;refine aau mixed (eY c1 c2) @DZ ?_;exact aal (aF.iv (κ:=0) (t:=4) (k:=1) ⟨rfl,rfl⟩ zp yi)
theorem xC(G:List (List DV))(a:Iv):aa prog G 50 [eo a] (eo a.neg):=by
 have c1:=zo G a.2;have c2:=zo G a.1;unfold Iv.neg;generalize -a.2=r1 at*
 generalize -a.1=r2 at*
 refine aa.enc func50 rfl (λlv=>jA lv _ _ _ _ _ _) λ_=>?_;refine aau mixed (eY c1 c2) @DZ ?_;exact aal (aF.iv (κ:=0) (t:=2) (k:=1) ⟨rfl,rfl⟩ zp yi)
theorem J9(G:List (List DV))(a:Iv)(ha:a.sz 10000000000):aa prog G 70 [eo a] (bu a.size):=by
 have c1:=qn G a.1;have c2:=qn G a.2;have c3:=uO G _ _ (fH ha.1) (fH ha.2);unfold Iv.size;generalize fh (b9 a.1) (b9 a.2)=r at*
 generalize b9 a.1=r1 at*
 generalize b9 a.2=r2 at*
 refine aa.enc func70 rfl (λlv=>bZ lv _ _ _) λ_=>?_;refine aau mixed (lD c1 c2 c3) trivial ?_;exact aal (aF.num (κ:=0) (t:=2) (k:=1) ⟨rfl,rfl⟩ zp yi)
theorem gQ(L:Nat)(h:1<=L):bF 0 L:=⟨kc,re⟩
theorem Si(G:List (List DV))(a:Iv)(ha:a.sz 10000000000):aa prog G 323 [eo a] (bu a.near):=by
 have c1:=qn G a.1;have c2:=qn G a.2;have c3:=uJ G _ _ (fH ha.1) (fH ha.2);have ci:=mD G 0 zr zr;have ch:=Oc G a 0 ha (gQ _ zr);change aa _ _ _ _ (bu (0:Rat))at ci
 by_cases h0:a.has 0
 ·have e:a.near=0:=if_pos h0;rw[decide_eq_true h0]at ch;rw[e];generalize (0:Rat)=o at*
  refine aa.enc func323 rfl (λlv=>bZ lv _ _ _) λ_=>?_;refine aau mixed (eY ci ch) trivial ?_;exact aal (aF.num (κ:=0) (t:=2) (k:=1) ⟨rfl,rfl⟩ zp yi)
 ·have e:a.near=eM (b9 a.1) (b9 a.2):=if_neg h0;rw[decide_eq_false h0]at ch;rw[e];generalize (0:Rat)=o at*
  generalize eM (b9 a.1) (b9 a.2)=r at*
  generalize b9 a.1=r1 at*
  generalize b9 a.2=r2 at*
  refine aa.enc func323 rfl (λlv=>bZ lv _ _ _) λ_=>?_;refine aau mixed (BF ci ch c1 c2 c3) trivial ?_;exact aal (aF.num (κ:=0) (t:=2) (k:=1) ⟨rfl,rfl⟩ zp yi)
theorem Uk(G:List (List DV))(a:Iv)(ha:a.sz 10000000000):aa prog G 315 [eo a] (eo a.abs):=by
 have c1:=Si G a ha;have c2:=J9 G a ha;unfold Iv.abs;generalize a.near=r1 at*
 generalize a.size=r2 at*
 refine aa.enc func315 rfl (λlv=>jA lv _ _ _ _ _ _) λ_=>?_;refine aau mixed (eY c1 c2) @DZ ?_;exact aal (aF.iv (κ:=0) (t:=2) (k:=1) ⟨rfl,rfl⟩ zp yi)
def nV(x y:Rat):Iv:=if x<=y then(x,y)else(0,0)
theorem JW(G:List (List DV))(x y:Rat)(hx:bF x 10000000000)(hy:bF y 10000000000):aa prog G 85 [bu x,bu y] (.tup [eo (nV x y),.c (.d (.int .i64 (if x<=y then 0 else 7)))]):=by
 have c1:=iZ G x y hx hy
 by_cases h:x<=y
 ·have h':¬0<bS x y:=by have:=gJ.2 h;omega
  rw[if_pos h,show nV x y=(x,y) from if_pos h];generalize bS x y=n at*
  refine aa.enc func85 rfl (λlv=>bY lv _ _ _ _ _ _ _ rfl) λ_=>?_;refine aau mixed c1 (eY h' @DZ) ?_;exact aal (aF.kP (κ:=0) (t:=4) (k:=2) (u:=5) ⟨rfl,rfl⟩ zp yi zp)
 ·have h':0<bS x y:=oF.2 (Rat.not_le.1 h);rw[if_neg h,show nV x y=(0,0) from if_neg h];generalize bS x y=n at*
  refine aa.enc func85 rfl (λlv=>bY lv _ _ _ _ _ _ _ rfl) λ_=>?_;refine aau mixed c1 (eY h' AB) ?_;exact aal (aF.kP (κ:=0) (t:=4) (k:=2) (u:=5) ⟨rfl,rfl⟩ zp yi zp)
theorem Rr(G:List (List DV))(a b:Iv)(ha:a.sz 10000000000)(hb:b.sz 10000000000):aa prog G 153 [eo a,eo b] (.tup [eo (nV (a.meet b).1 (a.meet b).2),.c (.d (.bool (decide ((a.meet b).1<=(a.meet b).2))))]):=by
 have c1:=uO G a.1 b.1 ha.1 hb.1;have c2:=uJ G a.2 b.2 ha.2 hb.2;have c3:=JW G (a.meet b).1 (a.meet b).2 (lp ha.1 hb.1) (mC ha.2 hb.2);have e:((if (a.meet b).1<=(a.meet b).2 then(0:Int)else 7)=0)↔(a.meet b).1<=(a.meet b).2:=by split<;>simp_all
 have key:∀(r1 r2:Rat) (r:Iv) (n:Int) (bb:Bool),aa prog G 143 [bu a.1,bu b.1] (bu r1)->aa prog G 201 [bu a.2,bu b.2] (bu r2) ->
  aa prog G 85 [bu r1,bu r2] (.tup [eo r,.c (.d (.int .i64 n))])->decide (n=0)=bb->aa prog G 153 [eo a,eo b] (.tup [eo r,.c (.d (.bool bb))]):=by
  intro r1 r2 r n bb c1 c2 c3 hb;subst hb;refine aa.enc func153 rfl (λlv=>bY lv _ _ _ _ _ _ _ rfl) λ_=>?_;refine aau mixed (lD c1 c2 c3) @ai.eq_1 ?_;exact aal (aF.kP (κ:=0) (t:=4) (k:=2) (u:=5) ⟨rfl,rfl⟩ zp yi zp)
 exact key _ _ _ _ _ c1 c2 c3 (decide_eq_decide.2 e)
theorem Kq(G:List (List DV))(x y:Rat)(hx:bF x 10000000000)(hy:bF y 10000000000):aa prog G 111 [bu x,bu y] (bu (x/y)):=by
 have c1:=S5 G x y hx hy;generalize x/y=r at*
 generalize (if y=0 then(8:Int)else 0)=n at*
 refine aa.enc func111 rfl (λlv=>bZ lv _ _ _) λ_=>?_;refine aau mixed c1 @ai.eq_1 ?_;exact aal (aF.num (κ:=0) (t:=4) (k:=2) ⟨rfl,rfl⟩ zp yi)
def dY(x:Rat):List DV:=[.bool (decide (x.num<0)),nD (aW x.num.natAbs),nD (bB x.den)]
abbrev mW(l:List Rat):AV:=.c (.d (.sl (l.map dY)))
abbrev RU:AV:=.c (.d (.func (.func 154) [] []))
theorem xl(l:List Rat)(lv:Key->LB):eT prog 156 lv (mW l)=some (.c (.d (.int .i64 l.length)),[],[],True):=by
 simp[eT,jU,keyOf]
theorem CZ(l:List Rat)(lv:Key->LB)(i:Nat)(x:Rat)(h:l[i]?=some x):aq prog 156 lv (mW l) (.c (.d (.int .i64 (i:Int))))=some (.c (.d (.ptr (dY x))),[],[],True):=by
 obtain⟨hi,e⟩:=List.getElem?_eq_some_iff.1 h;have hi':(i:Int)<(l.length:Int):=zd
 simp[hi,e,dY]
def wY(l:List Rat)(m:Rat):Rat:=l.foldl (λm x=>eM x m) m
def xe(l:List Rat)(m:Rat):Rat:=l.foldl (λm x=>fh m x) m
theorem rL(x y:Rat):eM x y=eM y x:=by unfold eM;split<;>split<;>grind
theorem Cp(w x y z:Rat):(wY [x,y,z] w,xe [x,y,z] w)=gG w x y z:=by
 simp only[wY,xe,List.foldl,gG,rL z,rL y,rL x]
theorem wv(h:l[i]?=some x):wY (l.drop i) m=wY (l.drop (i+1)) (eM x m):=by
 obtain⟨hi,e⟩:=List.getElem?_eq_some_iff.1 h;rw[adP hi,e];rfl
theorem xh(h:l[i]?=some x):xe (l.drop i) m=xe (l.drop (i+1)) (fh m x):=by
 obtain⟨hi,e⟩:=List.getElem?_eq_some_iff.1 h;rw[adP hi,e];rfl
theorem I3(G:List (List DV))(l:List Rat)(x0:Rat)(h0:l[0]?=some x0)(hn:l.length<=1000)(hs:∀x∈l,bF x 10000000000):
 aa prog G 179 [mW l,RU] (bu (wY (l.drop 1) x0)):=by
 have hl:0<l.length:=(List.getElem?_eq_some_iff.1 h0).1;have hl1:¬(l.length:Int)<1:=zd
 have e0:l[0]'hl=x0:=(List.getElem?_eq_some_iff.1 h0).2;generalize hR:wY (l.drop 1) x0=R;refine aa.enc func179 rfl (λlv=>bZ lv _ _ _) λ_=>aah ?_;refine aac λK hK=>abk @xl hl1 ?_;refine aaD (by simp[hl1]<;>omega) (aan ?_);simp
 repeat refine az ?_
 apply hK;refine aac λK hK=>aai ?_;simp[h0,hl,e0,dY,<-gT,ai]
 repeat refine az ?_
 apply hK;refine aac λK hK=>aac λK1 hK1=>aai ?_;simp
 repeat refine az ?_
 apply hK1;refine aaw ?_
 refine aaY (λ(p:Nat×Rat)=>⟨aT [(0,mW l),(1,RU),(4,.c (.ptr 0 0)),(5,.c (.ptr 1 0)),(6,.c (.d (.int .i64 (p.1:Int))))],
  aM (aM (λ_=>.hole) 0 (.cells true false 34 [.d (.bool false),.d .nilsl,.d .nilsl])) 1 (.cells true false 34 [.d (.bool (decide (p.2.num<0))),nC (aW p.2.num.natAbs),nC (bB p.2.den)])⟩) 2
  (λp=>1<=p.1/\p.1<=l.length/\bF p.2 10000000000/\wY (l.drop p.1) p.2=R) (λp=>l.length-p.1) (1,x0) (Le.fJ _) ⟨bf _,hl,hs _ (aet h0),hR⟩ ?_
 rintro⟨i,m⟩ ⟨h1,h2,h3,h4⟩;simp only at h1 h2 h3 h4;refine aac λK2 hK2=>aaN @xl ?_
 by_cases hlt:i<l.length
 ·have hlt':(i:Int)<(l.length:Int):=by omega
  obtain⟨x,hx⟩:∃x,l[i]?=some x:=⟨_,fy hlt⟩
  have hxs:=hs _ (aet hx);have hix:=λlv=>CZ l lv i x hx
  have hc:=iZ G x m hxs h3;have f12:=bP (n:=(i:Int)+1) zd zd;refine aaB xn (aan (hK2 _ _ (aac λK4 hK4=>aaw (aac λK5 hK5=>?_))));refine aaT mixed zt rfl ?_;simp[hix,dY,<-gT];refine ag.p 2 9 hc ?_;simp[hix,dY,<-gT];refine⟨zt,?_⟩
  repeat refine az ?_
  apply hK5
  by_cases hm:x<m
  ·have hm':=kj.2 hm;refine aaB mp (aai ?_);simp[hix,dY,<-gT]
   repeat refine az ?_
   apply hK4;refine aai ?_;simp[f12];refine⟨i+1,x,Le.fJ _ yi,⟨zd,zd,hxs,?_⟩,zd⟩;rw[<-h4,wv hx,show eM x m=x from if_pos hm]
  ·have hm':¬bS x m<0:=λh=>hm (kj.1 h)
   refine aaD mp (aan (hK4 _ _ (aai ?_)));simp[f12];refine⟨i+1,m,Le.fJ _,⟨zd,zd,h3,?_⟩,zd⟩;rw[<-h4,wv hx,show eM x m=m from if_neg hm]
 ·have hlt':¬(i:Int)<(l.length:Int):=by omega
  have hd:l.drop i=[]:=aeQ zd;rw[hd]at h4;have h5:m=R:=h4;refine aaD xn (aaR (hK _ _ (aah ?_)));subst h5;exact aal (aF.num (κ:=0) (t:=4) (k:=0) ⟨rfl,rfl⟩ zp yi)
theorem Is(G:List (List DV))(l:List Rat)(x0:Rat)(h0:l[0]?=some x0)(hn:l.length<=1000)(hs:∀x∈l,bF x 10000000000):
 aa prog G 180 [mW l,RU] (bu (xe (l.drop 1) x0)):=by
 have hl:0<l.length:=(List.getElem?_eq_some_iff.1 h0).1;have hl1:¬(l.length:Int)<1:=zd
 have e0:l[0]'hl=x0:=(List.getElem?_eq_some_iff.1 h0).2;generalize hR:xe (l.drop 1) x0=R;refine aa.enc func180 rfl (λlv=>bZ lv _ _ _) λ_=>aah ?_;refine aac λK hK=>abk @xl hl1 ?_;refine aaD (by simp[hl1]<;>omega) (aan (hK _ _ (aaF λK hK=>?_)));simp[h0,hl,e0,dY,<-gT,ai]
 repeat refine az ?_
 apply hK;refine aac λK hK=>aac λK1 hK1=>aai ?_;simp
 repeat refine az ?_
 apply hK1;refine aaw ?_
 refine aaY (λ(p:Nat×Rat)=>⟨aT [(0,mW l),(1,RU),(4,.c (.ptr 0 0)),(5,.c (.ptr 1 0)),(6,.c (.d (.int .i64 (p.1:Int))))],
  aM (aM (λ_=>.hole) 0 (.cells true false 34 [.d (.bool false),.d .nilsl,.d .nilsl])) 1 (.cells true false 34 [.d (.bool (decide (p.2.num<0))),nC (aW p.2.num.natAbs),nC (bB p.2.den)])⟩) 2
  (λp=>1<=p.1/\p.1<=l.length/\bF p.2 10000000000/\xe (l.drop p.1) p.2=R) (λp=>l.length-p.1) (1,x0) (Le.fJ _) ⟨bf _,hl,hs _ (aet h0),hR⟩ ?_
 rintro⟨i,m⟩ ⟨h1,h2,h3,h4⟩;simp only at h1 h2 h3 h4;refine aac λK2 hK2=>aaN @xl ?_
 by_cases hlt:i<l.length
 ·have hlt':(i:Int)<(l.length:Int):=by omega
  obtain⟨x,hx⟩:∃x,l[i]?=some x:=⟨_,fy hlt⟩
  have hxs:=hs _ (aet hx);have hix:=λlv=>CZ l lv i x hx
  have hc:=iZ G x m hxs h3;have f12:=bP (n:=(i:Int)+1) zd zd;refine aaB xn (aan (hK2 _ _ (aac λK4 hK4=>aaw (aac λK5 hK5=>?_))));refine aaT mixed zt rfl ?_;simp[hix,dY,<-gT];refine ag.p 2 9 hc ?_;simp[hix,dY,<-gT];refine⟨zt,?_⟩
  repeat refine az ?_
  apply hK5
  by_cases hm:m<x
  ·have hm':=oF.2 hm;refine aaB mp (aai ?_);simp[hix,dY,<-gT]
   repeat refine az ?_
   apply hK4;refine aai ?_;simp[f12];refine⟨i+1,x,Le.fJ _ yi,⟨zd,zd,hxs,?_⟩,zd⟩;rw[<-h4,xh hx,show fh m x=x from if_pos hm]
  ·have hm':¬0<bS x m:=λh=>hm (oF.1 h)
   refine aaD mp (aan (hK4 _ _ (aai ?_)));simp[f12];refine⟨i+1,m,Le.fJ _,⟨zd,zd,h3,?_⟩,zd⟩;rw[<-h4,xh hx,show fh m x=m from if_neg hm]
 ·have hlt':¬(i:Int)<(l.length:Int):=by omega
  have hd:l.drop i=[]:=aeQ zd;rw[hd]at h4;have h5:m=R:=h4;refine aaD xn (aaR (hK _ _ (aah ?_)));subst h5;exact aal (aF.num (κ:=0) (t:=4) (k:=0) ⟨rfl,rfl⟩ zp yi)
theorem RI(G:List (List DV))(w x y z:Rat)(h1:bF w 10000000000)(h2:bF x 10000000000)(h3:bF y 10000000000)(h4:bF z 10000000000):
 aa prog G 108 [mW [w,x,y,z]] (eo (gG w x y z)):=by
 have hs:∀u∈[w,x,y,z],bF u 10000000000:=by
  intro u hu;simp only[aZ,bw,or_false]at hu;rcases hu with rfl|rfl|rfl|rfl<;>assumption
 have c1:=I3 G [w,x,y,z] w rfl zp hs;have c2:=Is G [w,x,y,z] w rfl zp hs;rw[<-Cp];change aa _ _ _ _ (bu (wY [x,y,z] w))at c1;change aa _ _ _ _ (bu (xe [x,y,z] w))at c2;generalize wY [x,y,z] w=r1 at*
 generalize xe [x,y,z] w=r2 at*
 generalize [w,x,y,z]=l at*
 refine aa.enc func108 rfl (λlv=>jA lv _ _ _ _ _ _) λ_=>aah ?_;refine aaF λK hK=>?_;simp;refine ag.p 1 9 c1 ?_;simp;refine ag.p 1 9 c2 ?_;simp[DZ]
 repeat refine az ?_
 apply hK;exact aal (aF.iv (κ:=0) (t:=2) (k:=0) ⟨rfl,rfl⟩ zp yi)
theorem ag.acu{f:FuncId}{K:AV->List (Key×LB)->List Key->Nat->Prop}(κ' kh κb:Key){w z:Rat}{X:AV}
 (hk:lv κb=.cells true false T (((dY w++dY x)++(dY y++dY z)).map CV.d)) (hc:aa c.P c.G f [mW [w,x,y,z]] X) (hX:X.pure=true) (hh:lv kh=.hole) (hkh:kh≠κb)
 (hK:K X [(κb,.cells true true T (((dY w++dY x)++(dY y++dY z)).map CV.d))] [kh] κ'):ag c f [.c (.aO κb 0 4 3)] lv K:=by
 refine ag.MD κ' kh κb T _ [kh] hc hX hk hh hkh rfl (λi p q=>?_) (λa ha j hj=>?_) zp hK
 ·have hi:i=0:=by simp at p;omega
  subst hi;right;simp only[aeC,fO,fX,aI];rfl
 ·simp only[aeH]at ha;subst ha;simp only[ql,jB,aZ,aI]at hj;rcases hj with rfl|hj
  ·exact .inr rfl
  ·simp only[aeO]at hj;obtain⟨y,hy,hj⟩:=hj;simp only[aeA]at hy;obtain⟨z,_,rfl⟩:=hy
   cases hj
theorem YI(a b c d e f g h i j k l:CV):ic (λi=>some (i*3,3)) (gh 4 [.d (.bool false),.d .nilsl,.d .nilsl]) [(0,.agg [a,b,c]),(1,.agg [d,e,f]),(2,.agg [g,h,i]),(3,.agg [j,k,l])]=some [a,b,c,d,e,f,g,h,i,j,k,l]:=zt
theorem JC(a b c d e f:CV):ic (λi=>some (i*3,3)) (gh 2 [.d (.bool false),.d .nilsl,.d .nilsl]) [(0,.agg [a,b,c]),(1,.agg [d,e,f])]=some [a,b,c,d,e,f]:=zt
theorem Dd(x:Rat):0<=ou (decide (x.num<0)) (aW x.num.natAbs)↔0<=x:=by
 unfold ou;rw[jG,<-afO]
 by_cases h0:x.num.natAbs=0
 ·rw[if_pos ((cL zr).2 h0)];omega
 ·rw[if_neg (iF h0)]
  by_cases hn:x.num<0
  ·rw[decide_eq_true hn,if_pos rfl];omega
  ·rw[decide_eq_false hn,if_neg zr];omega
theorem II(x:Rat):ou (decide (x.num<0)) (aW x.num.natAbs)<=0↔x<=0:=by
 have h2:0<=-x↔x<=0:=by constructor<;>intro h<;>grind
 unfold ou;rw[jG,<-h2,<-afO,afc]
 by_cases h0:x.num.natAbs=0
 ·rw[if_pos ((cL zr).2 h0)];omega
 ·rw[if_neg (iF h0)]
  by_cases hn:x.num<0
  ·rw[decide_eq_true hn,if_pos rfl];omega
  ·rw[decide_eq_false hn,if_neg zr];omega
theorem nW(G:List (List DV))(a b:Iv)(ha:a.sz 10000000)(hb:b.sz 10000000)(la:a.1<=a.2)(lb:b.1<=b.2)
 (r1:a.1<0->a.2<=0->aa prog G 46 [eo a.neg,eo b] (eo (a.neg.mul b)))
 (r2:¬(a.1<0/\a.2<=0)->b.1<0->b.2<=0->aa prog G 46 [eo a,eo b.neg] (eo (a.mul b.neg))) :
 aa prog G 46 [eo a,eo b] (eo (a.mul b)):=by
 obtain⟨a1,a2⟩:=a;obtain⟨b1,b2⟩:=b;have sz:∀{x:Rat},bF x 10000000->bF x 10000000000:=λh=>au h zr
 have g1:=dr G (decide (a1.num<0)) (aW a1.num.natAbs) (bB a1.den);have g2:=dr G (decide (a2.num<0)) (aW a2.num.natAbs) (bB a2.den);have g3:=dr G (decide (b1.num<0)) (aW b1.num.natAbs) (bB b1.den);have g4:=dr G (decide (b2.num<0)) (aW b2.num.natAbs) (bB b2.den);have p1:=Dd a1;have p2:=II a2;have p3:=Dd b1;have p4:=II b2;generalize ou (decide (a1.num<0)) (aW a1.num.natAbs)=s1 at*
 generalize ou (decide (a2.num<0)) (aW a2.num.natAbs)=s2 at*
 generalize ou (decide (b1.num<0)) (aW b1.num.natAbs)=s3 at*
 generalize ou (decide (b2.num<0)) (aW b2.num.natAbs)=s4 at*
 have f1:¬0<=s1->a1<0:=λh=>Rat.not_le.1 λk=>h (p1.2 k)
 have f3:¬0<=s3->b1<0:=λh=>Rat.not_le.1 λk=>h (p3.2 k)
 obtain⟨v,hv⟩:∃v,Iv.mul (a1,a2) (b1,b2)=v:=⟨_,rfl⟩
 rw[hv];refine aa.enc func46 rfl (λlv=>jA lv _ _ _ _ _ _) λ_=>?_
 by_cases c0:0<=s1/\0<=s3
 ·have m1:=gI G a1 b1 (sz ha.1) (sz hb.1);have m2:=gI G a2 b2 (sz ha.2) (sz hb.2);rw[Iv.mul_pos la lb (p1.1 c0.1) (p3.1 c0.2)]at hv;subst hv;simp only at m1 m2⊢;generalize a1*b1=u1 at*
  generalize a2*b2=u2 at*
  refine aau mixed (mo g1 g3 m1 m2) (eY c0 @DZ) ?_;exact aal (aF.iv (κ:=0) (t:=4) (k:=2) ⟨rfl,rfl⟩ zp yi)
 by_cases c1:s1<0/\s2<=0
 ·have m1:=r1 (f1 zd) (p2.1 c1.2);have n1:=xC G (a1,a2);have n2:=xC G (Iv.mul (Iv.neg (a1,a2)) (b1,b2));rw[Iv.OX,hv]at n2;have j1:¬0<=s1:=by omega
  generalize Iv.mul (Iv.neg (a1,a2)) (b1,b2)=u at*
  generalize Iv.neg (a1,a2)=na at*
  refine aau mixed (BF g1 g2 n1 m1 n2) (lD c1 j1 @ai.eq_1) ?_;exact aal (aF.iv (κ:=0) (t:=4) (k:=2) ⟨rfl,rfl⟩ zp yi)
 by_cases c2:s3<0/\s4<=0
 ·have m1:=r2 (λh=>c1 ⟨by have:=mt p1.1 (Rat.not_le.2 h.1);omega,p2.2 h.2⟩) (f3 zd) (p4.1 c2.2);have n1:=xC G (b1,b2);have n2:=xC G (Iv.mul (a1,a2) (Iv.neg (b1,b2)));rw[Iv.O2,hv]at n2;have j3:¬0<=s3:=by omega
  generalize Iv.mul (a1,a2) (Iv.neg (b1,b2))=u at*
  generalize Iv.neg (b1,b2)=nb at*
  rcases(show(0<=s1/\¬s1<0)\/(¬0<=s1/\s1<0/\¬s2<=0) by omega)with k|k
  all_goals
   refine aau mixed (mo g1 g2 g3 g4) (mo c2 j3 k @ai.eq_1) ?_;refine aau mixed (lD n1 m1 n2) @ai.eq_1 ?_;exact aal (aF.iv (κ:=0) (t:=4) (k:=2) ⟨rfl,rfl⟩ zp yi)
 have hm:Iv.mul (a1,a2) (b1,b2)=gG (a1*b1) (a1*b2) (a2*b1) (a2*b2):=rfl;have m1:=gI G a1 b1 (sz ha.1) (sz hb.1);have m2:=gI G a1 b2 (sz ha.1) (sz hb.2);have m3:=gI G a2 b1 (sz ha.2) (sz hb.1);have m4:=gI G a2 b2 (sz ha.2) (sz hb.2);have zz:∀{x y:Rat},bF x 10000000->bF y 10000000->bF (x*y) 10000000000:=λh h'=>au (pI h h') zr
 have hh:=RI G (a1*b1) (a1*b2) (a2*b1) (a2*b2) (zz ha.1 hb.1) (zz ha.1 hb.2) (zz ha.2 hb.1) (zz ha.2 hb.2);rw[<-hm,hv]at hh;generalize a1*b1=u1 at*
 generalize a1*b2=u2 at*
 generalize a2*b1=u3 at*
 generalize a2*b2=u4 at*
 rcases(show(0<=s1/\¬s1<0/\¬0<=s3/\s3<0/\¬s4<=0)\/(¬0<=s1/\s1<0/\¬s2<=0/\s3<0/\¬s4<=0)\/(¬0<=s1/\s1<0/\¬s2<=0/\¬s3<0) by omega)with k|k|k
 all_goals
  refine aau mixed (mo g1 g2 g3 g4) (eY k @ai.eq_1) ?_;refine aci mixed λK hK=>?_;simp;refine ag.p 3 9 m1 ?_;simp;refine ag.p 3 9 m2 ?_;simp;refine ag.p 3 9 m3 ?_;simp;refine ag.p 3 9 m4 ?_;simp[YI];refine ag.acu (T:=34) 4 9 3 (w:=u1) (x:=u2) (y:=u3) (z:=u4) ?_ hh ?_ ?_ ?_ ?_
  ·simp[dY,gT]
  ·simp
  ·simp
  ·decide
  simp;refine⟨zt,?_⟩
  repeat refine az ?_
  refine hK _ _ ?_;refine wN ?_;exact aal (aF.iv (κ:=0) (t:=4) (k:=2) ⟨rfl,rfl⟩ zp yi)
theorem rj(G:List (List DV))(a b:Iv)(ha:a.sz 10000000)(hb:b.sz 10000000)(la:a.1<=a.2)(lb:b.1<=b.2):
 aa prog G 46 [eo a,eo b] (eo (a.mul b)):=by
 have sn:∀{a:Iv},a.sz 10000000->a.neg.sz 10000000:=λh=>⟨fk h.2,fk h.1⟩
 have ln:∀{a:Iv},a.1<=a.2->a.neg.1<=a.neg.2:=λh=>Rat.neg_le_neg h
 have nn:∀{a:Iv},a.2<=0->¬a.neg.1<0:=λ{a} h h'=>by
  have:-a.2<0:=h'
  grind
 refine nW G a b ha hb la lb (λh1 h2=>?_) (λh0 h1 h2=>?_)
 ·refine nW G a.neg b (sn ha) hb (ln la) lb (λh3 _=>absurd h3 (nn h2)) (λ_ h4 h5=>?_);exact nW G a.neg b.neg (sn ha) (sn hb) (ln la) (ln lb) (λh3 _=>absurd h3 (nn h2)) (λ_ h3 _=>absurd h3 (nn h5))
 ·exact nW G a b.neg ha (sn hb) la (ln lb) (λh3 h4=>absurd ⟨h3,h4⟩ h0) (λ_ h3 _=>absurd h3 (nn h2))
def nq(a b:Iv):Iv:=if b.has 0 then(0,0)else a.quo b
theorem Jm(G:List (List DV))(a b:Iv)(ha:a.sz 1000000)(hb:b.sz 1000000)(la:a.1<=a.2)(lb:b.1<=b.2):
 aa prog G 52 [eo a,eo b] (.tup [eo (nq a b),.c (.d (.int .i64 (if b.has 0 then 8 else 0)))]):=by
 have sz:∀{x:Rat},bF x 1000000->bF x 10000000000:=λh=>au h zr
 have s1:bF (1:Rat) 1000000:=⟨wd,wd⟩
 have k0:=mD G 0 zr zr;change aa _ _ _ _ (bu (0:Rat))at k0;have k1:=mD G 1 zr zr;change aa _ _ _ _ (bu (1:Rat))at k1;have k2:=Oc G b 0 (Iv.aC hb zr) (gQ _ zr)
 by_cases h0:b.has 0
 ·rw[if_pos h0,show nq a b=(0,0) from if_pos h0];rw[decide_eq_true h0]at k2;have bz:bM prog 36 [] []=some (eo (0,0),[],[],True):=AB;generalize hz:((0:Rat),(0:Rat))=z at*
  generalize (0:Rat)=o at*
  refine aa.enc func52 rfl (λlv=>bY lv _ _ _ _ _ _ _ rfl) λ_=>aah ?_;refine aac λK hK=>aac λK1 hK1=>?_;refine aaT mixed zt rfl ?_;simp;refine ag.p 3 9 k0 ?_;simp;refine ag.p 3 9 k2 ?_;simp;refine⟨zt,?_⟩
  repeat refine az ?_
  apply hK1;refine aaE (aaN bz ?_);exact aal (aF.kP (κ:=0) (t:=4) (k:=2) (u:=5) ⟨rfl,rfl⟩ zp yi zp)
 ·rw[if_neg h0,show nq a b=a.quo b from if_neg h0];rw[decide_eq_false h0]at k2;have q1:=Kq G 1 b.2 (sz s1) (sz hb.2);have q2:=Kq G 1 b.1 (sz s1) (sz hb.1);have up:∀{x:Rat},bF x 1000000->bF (1/x) 10000000:=λh=>au (KF s1 h) zr
  have hle:(1:Rat)/b.2<=1/b.1:=by
   have hs:0<b.1\/b.2<0:=by
    unfold Iv.has at h0
    grind
   rw[afa,afa,Rat.one_mul,Rat.one_mul];exact Oy lb (by rcases hs with h|h;exact .inl h;exact .inr h)
  have q3:=rj G a (1/b.2,1/b.1) (Iv.aC ha zr) ⟨up hb.2,up hb.1⟩ la hle;change aa _ _ _ _ (eo (a.quo b))at q3;generalize a.quo b=v at*
  generalize (1:Rat)/b.2=u1 at*
  generalize (1:Rat)/b.1=u2 at*
  generalize (0:Rat)=o at*
  generalize (1:Rat)=i at*
  refine aa.enc func52 rfl (λlv=>bY lv _ _ _ _ _ _ _ rfl) λ_=>aah ?_;refine aac λK hK=>aac λK1 hK1=>?_;refine aaT mixed zt rfl ?_;simp;refine ag.p 3 9 k0 ?_;simp;refine ag.p 3 9 k2 ?_;simp;refine⟨zt,?_⟩
  repeat refine az ?_
  apply hK1;refine aax (aan (hK _ _ (abi 3 k1 ?_)));refine aac λK hK=>?_;refine aaT mixed zt rfl ?_;simp[ai];refine ag.p 4 9 q1 ?_;simp[ai];refine ag.p 4 9 q2 ?_;simp[ai,DZ];refine ag.p 4 9 q3 ?_;simp;refine⟨zt,?_⟩
  repeat refine az ?_
  apply hK;exact aal (aF.kP (κ:=0) (t:=4) (k:=2) (u:=5) ⟨rfl,rfl⟩ zp yi zp)
def od(lo hi:List UInt8):Int:=if cz lo≠0 then cz lo else if cz hi≠0 then cz hi else if cj lo<=cj hi then 0 else 7
def v8(lo hi:List UInt8):Iv:=if od lo hi=0 then(cj lo,cj hi)else(0,0)
theorem OG:od lo hi=0↔cz lo=0/\cz hi=0/\cj lo<=cj hi:=by
 unfold od;(repeat' split)<;>simp_all
theorem Vt(lo hi:List UInt8):(v8 lo hi).sz 300:=by
 unfold v8;split
 ·exact⟨j6 lo,j6 hi⟩
 ·exact⟨qX _ zr,qX _ zr⟩
theorem UP(h:od lo hi=0):(v8 lo hi).1<=(v8 lo hi).2:=by
 unfold v8;rw[if_pos h];exact(OG.1 h).2.2
theorem szB(h:bF x 300):bF x 10000000000:=au h zr
theorem Tc(m:Int)(lo hi:List UInt8):aa prog (GG m) 33 [.agg [.d (.str lo),.d (.str hi)]] (.tup [eo (v8 lo hi),.c (.d (.int .i64 (od lo hi)))]):=by
 have c1:=oU m lo;have c2:=oU m hi;have c3:=JW (GG m) (cj lo) (cj hi) (szB (j6 lo)) (szB (j6 hi))
 by_cases h1:cz lo=0
 rotate_left
 ·have e:od lo hi=cz lo:=if_pos h1;have e2:v8 lo hi=(0,0):=by unfold v8;rw[e,if_neg h1]
  rw[e2,e];generalize cz lo=n at*
  generalize cj lo=r at*
  refine aa.enc func33 rfl (λlv=>bY lv _ _ _ _ _ _ _ rfl) λ_=>?_;refine aau mixed c1 (eY h1 @AB) ?_;exact aal (aF.kP (κ:=0) (t:=2) (k:=1) (u:=3) ⟨rfl,rfl⟩ zp yi zp)
 by_cases h2:cz hi=0
 rotate_left
 ·have e:od lo hi=cz hi:=by unfold od;rw[if_neg (not_not_intro h1),if_pos h2]
  have e2:v8 lo hi=(0,0):=by unfold v8;rw[e,if_neg h2]
  rw[e2,e];rw[h1]at c1;generalize cz hi=n at*
  generalize cj lo=r at*
  generalize cj hi=r2 at*
  refine aa.enc func33 rfl (λlv=>bY lv _ _ _ _ _ _ _ rfl) λ_=>?_;refine aau mixed (eY c1 c2) (eY h2 @AB) ?_;exact aal (aF.kP (κ:=0) (t:=2) (k:=1) (u:=3) ⟨rfl,rfl⟩ zp yi zp)
 have e:od lo hi=if cj lo<=cj hi then 0 else 7:=t8
 have e2:v8 lo hi=nV (cj lo) (cj hi):=by
  unfold v8 nV;rw[e];split<;>simp_all
 rw[e2,e];rw[h1]at c1;rw[h2]at c2;generalize (if cj lo<=cj hi then(0:Int)else 7)=n at*
 generalize nV (cj lo) (cj hi)=v at*
 generalize cj lo=r at*
 generalize cj hi=r2 at*
 refine aa.enc func33 rfl (λlv=>bY lv _ _ _ _ _ _ _ rfl) λ_=>?_;refine aau mixed (lD c1 c2 c3) @ai.eq_1 ?_;exact aal (aF.kP (κ:=0) (t:=2) (k:=1) (u:=3) ⟨rfl,rfl⟩ zp yi zp)
end Go.Am
namespace Go.Am
open Go.Proofs
end Go.Am
namespace Go.Am
open Go.Proofs N
end Go.Am
namespace Go.Am
open Go.Proofs
end Go.Am
namespace Go.Am
open Go.Proofs N
end Go.Am
namespace Go.Am
open Go.Am.Ty Go.Proofs N
variable {lv:Key->LB}{i n L M:Nat}{k:Key}{T:TypeId}{ks:List Key}{x y:Rat}
def eP(n:Nat):List UInt8:=if n=0 then[48]else(aL 10 n).reverse.map λd=>UInt8.ofNat (48+d)
theorem ND(m:Int)(i:Nat)(hi:i<100):aa prog (GG m) 274 [.c (.d (.int .i64 i))] (.c (.d (.str (eP i)))):=by
 have w1:=bP (n:=(i:Int)+1) zd zd;have w2:=bP (n:=(i:Int)*2) zd zd;have w3:=bP (n:=(i:Int)*2+2) zd zd
 by_cases h:i<10
 ·have h':(i:Int)<10:=by omega
  refine aa.en func274 rfl λ_=>?_;refine aau mixed trivial (eY h' w1) ?_;exact aaq (aD.rt (t:=2) rfl 9 pr)
 ·have h':¬(i:Int)<10:=by omega
  refine aa.en func274 rfl λ_=>?_;refine aau mixed trivial (mo h' w1 w2 w3) ?_;exact aaq (aD.rt (t:=2) rfl 9 pr)
theorem MZ(G:List (List DV))(b:Bool):aa prog G 292 [.c (.d (.bool b))] (.c (.d (.int .i64 (if b then 1 else 0)))):=by
 cases b with
 |true=>
  refine aa.en func292 rfl λ_=>?_;refine aau mixed trivial trivial ?_;exact aaq (aD.rt rfl 2 zp)
 |false=>
  refine aa.en func292 rfl λ_=>?_;refine aau mixed trivial trivial ?_;exact aaq (aD.rt rfl 2 zp)
theorem C9(G:List (List DV))(x:Nat)(hx:x<=64):aa prog G 290 [.c (.d (.int .i64 x))] (.c (.d (.int .i64 ((x*78913/262144:Nat):Int)))):=by
 have w1:=bP (n:=(x:Int)*78913) zd zd;have e1:Int.fdiv ((x:Int)*78913) 262144=((x*78913/262144:Nat):Int):=by rw[adM _ zd];omega
 refine aa.en func290 rfl λ_=>aah ?_;refine aaF λK hK=>?_;simp[w1,IntKind.bits,e1,-Int.natCast_ediv]
 repeat refine az ?_
 apply hK;exact aaq (aD.rt rfl 2 zp)
theorem Bx(G:List (List DV))(n:Nat)(hn:n<4294967296):aa prog G 291 [.c (.d (.int .u64 n))] (.c (.d (.int .i64 (bk n)))):=by
 have h0:¬(4294967296:Int)<=n:=zd
 have w16:i64.wrap 16=16:=bP zd zd;refine aa.en func291 rfl λ_=>aah ?_;refine aac λK hK=>aaN h0 ?_;refine aaD ws (aan (hK _ _ (aac λK hK=>aah ?_)))
 have step2:∀(x m:Nat) (fr:Nat->AV) (κ:Nat),x<65536->m<=16->bk n=m+bk x->fr 0=.c (.d (.int .u64 x))->fr 2=.c (.d (.int .i64 m))->K ⟨fr,λ_=>.hole⟩ κ:=by
  intro x m fr κ hx hm hb f0 f2
  repeat refine az ?_
  apply hK;refine aac λK hK=>aaN f0 ?_
  have step3:∀(x m:Nat) (fr:Nat->AV) (κ:Nat),x<256->m<=24->bk n=m+bk x->fr 0=.c (.d (.int .u64 x))->fr 2=.c (.d (.int .i64 m))->K ⟨fr,λ_=>.hole⟩ κ:=by
   intro x m fr κ hx hm hb f0 f2
   repeat refine az ?_
   apply hK;refine aac λK hK=>?_;have e1:u8.wrap (x:Int)=x:=eG ⟨vd,un⟩
   have hbl:bk x<=8:=by
    by_cases h0:x=0
    ·subst h0;decide
    ·have:=iY h0;apply ad0;intro hc;have h9:2^8<=2^(bk x-1):=adK zr zd;omega
   refine aai ?_;simp[f0,f2,e1];rw[Yk (x:=x) (hx:=hx)]
   ·have e2:=bP (n:=(bk x:Int)) zd zd;have e3:=bP (n:=(m:Int)+bk x) zd zd;rw[e2,e3]
    repeat refine az ?_
    apply hK;exact aaq (aD.rt rfl 0 se)
   ·kernel_rfl
  by_cases h:256<=x
  ·refine aaB qr ?_;have e1:Int.fdiv (x:Int) 256=((x/256:Nat):Int):=by rw[adM _ zd];omega
   have e2:=bP (n:=(m:Int)+8) zd zd;refine aaF λK1 hK1=>?_;simp[f0,IntKind.bits,e1,-Int.natCast_ediv]
   repeat refine az ?_
   apply hK1;refine aai ?_;simp[f2,e2];refine step3 (x/256) (m+8) _ _ zd zd ?_ zp zp;have:=mT (n:=x) (k:=8) zd;rw[hb,this];simp;omega
  ·refine aaD qr (aan ?_);simp;exact step3 x m _ _ zd zd hb (by simp[f0]) ST
 by_cases h:65536<=n
 ·refine aaB qr ?_;have e1:Int.fdiv (n:Int) 65536=((n/65536:Nat):Int):=by rw[adM _ zd];omega
  refine aaF λK1 hK1=>?_;simp[IntKind.bits,e1,-Int.natCast_ediv]
  repeat refine az ?_
  apply hK1;refine aai ?_;simp[w16];refine step2 (n/65536) 16 _ _ zd zd ?_ zp zp;have:=mT (n:=n) (k:=16) zd;rw[this];simp;omega
 ·refine aaD qr (aan ?_);simp;exact step2 n 0 _ _ zd zd zp zp zp
def Jl:List DV:=[.int .u64 1,.int .u64 10,.int .u64 100,.int .u64 1000,.int .u64 10000,.int .u64 100000,.int .u64 1000000,.int .u64 10000000,.int .u64 100000000,.int .u64 1000000000,.int .u64 10000000000,.int .u64 100000000000,.int .u64 1000000000000,.int .u64 10000000000000,.int .u64 100000000000000,.int .u64 1000000000000000,.int .u64 10000000000000000,.int .u64 100000000000000000,.int .u64 1000000000000000000,.int .u64 10000000000000000000]
theorem GGp(m:Int):(GG m)[2]?=some Jl:=rfl
theorem ixP{l:Nat}(h:l<=9):∃rest,∀lv:Key->LB,aq prog 307 lv (.c (.d (.ptr Jl))) (.c (.d (.int .i64 (l:Int))))=some (.c (.d (.ptr (.int .u64 ((10^l:Nat):Int)::rest))),[],[],True):=by
 have ha:wW prog 307=some (20,143,1):=zt
 have key:∀(l:Nat) (rest:List DV),l<20->Jl.drop l=.int .u64 ((10^l:Nat):Int)::rest->∃rest,∀lv:Key->LB,aq prog 307 lv (.c (.d (.ptr Jl))) (.c (.d (.int .i64 (l:Int))))=some (.c (.d (.ptr (.int .u64 ((10^l:Nat):Int)::rest))),[],[],True):=by
  intro l rest g2 g3;refine⟨rest,λlv=>?_⟩;unfold aq;rw[ha];show some (AV.c (.d (.ptr (Jl.drop ((l:Int).toNat*1)))),([]:List (Key×LB)),([]:List Key),(0<=(l:Int)/\(l:Int)<((20:Nat):Int)/\(l:Int).toNat*1<=Jl.length))=_;rw[adW,aeu,g3,eq_true (show 0<=(l:Int)/\(l:Int)<((20:Nat):Int)/\l<=Jl.length from⟨zd,zd,by show l<=20;omega⟩)]
 have h:l=0\/l=1\/l=2\/l=3\/l=4\/l=5\/l=6\/l=7\/l=8\/l=9:=zd
 rcases h with rfl|rfl|rfl|rfl|rfl|rfl|rfl|rfl|rfl|rfl<;>exact key _ _ zr rfl
def jV(n:Nat):Nat:=(aL 10 n).length
theorem Kh{k:Nat}(h1:10^k<=n)(h2:n<10^(k+1)):jV n=k+1:=by
 have g1:=cE (B:=10) zr h2;have g2:=oe (B:=10) (n:=n) zr;have g3:k<(aL 10 n).length:=(agd (a:=10) zr).1 (aeR h1 g2);unfold jV;omega
theorem ve(n:Nat):n<10^jV n:=oe zr
theorem l10:∀b,b<=30->1<=b->2^b<=10^(b*78913/262144+1)/\b*78913/262144<=9/\(b*78913/262144=0\/10^(b*78913/262144-1)<=2^(b-1)):=zr
theorem GX(h0:n≠0)(hn:n<1000000000):bk n*78913/262144<=9/\jV n=bk n*78913/262144+if 10^(bk n*78913/262144)<=n then 1 else 0:=by
 have b1:1<=bk n:=by unfold bk;rw[if_neg h0];omega
 have b2:bk n<=30:=by
  have:=iY h0;apply ad0;intro hc;have h9:2^30<=2^(bk n-1):=adK zr zd;omega
 obtain⟨g1,g2,g3⟩:=l10 (bk n) b2 b1;have g4:=mE n;have g5:=iY h0;generalize bk n*78913/262144=l at*
 refine⟨g2,?_⟩;split
 ·rename_i h;exact Kh h zd
 ·rename_i h
  have h:n<10^l:=Nat.not_le.1 h
  cases l with
  |zero=>exact absurd h (by simpa using h0)
  |succ l=>
   rcases g3 with g3|g3
   ·omega
   ·rw[ad9];exact Kh (by simp only[afZ]at g3;omega) h
theorem EB(m:Int)(n:Nat)(h0:n≠0)(hn:n<1000000000):aa prog (GG m) 275 [.c (.d (.int .u64 n))] (.c (.d (.int .i64 (jV n)))):=by
 have c1:=Bx (GG m) n zd
 have hb:bk n<=64:=by
  have:=iY h0;apply ad0;intro hc;have h9:2^64<=2^(bk n-1):=adK zr zd;omega
 have c2:=C9 (GG m) (bk n) hb;obtain⟨hl,hd⟩:=GX h0 hn;rw[hd];generalize bk n*78913/262144=l at*
 generalize bk n=b at*
 obtain⟨rest,hx⟩:=ixP hl;have hg:=GGp m;have c3:=MZ (GG m) (decide (((10^l:Nat):Int)<=n));have hc:decide (((10^l:Nat):Int)<=(n:Int))=decide (10^l<=n):=decide_eq_decide.2 zd;rw[hc]at c3;have hv:(if decide (10^l<=n)=true then(1:Int)else 0)=((if 10^l<=n then 1 else 0:Nat):Int):=by by_cases h:10^l<=n<;>simp[h]
 rw[hv]at c3;have hu:(if 10^l<=n then 1 else 0:Nat)<=1:=by split<;>omega
 generalize (if 10^l<=n then 1 else 0:Nat)=u at*
 have w:=bP (n:=(l:Int)+u) zd zd;rw[<-hc]at c3;generalize ((10^l:Nat):Int)=t at*
 refine aa.en func275 rfl λ_=>aah ?_;refine aaF λK hK=>?_;simp;refine ag.p 0 9 c1 ?_;simp;refine ag.p 0 9 c2 ?_;simp
 repeat refine az ?_
 apply hK;refine AW.c3 0 c3 hg hx w ?_;exact aaq (aD.rt rfl 2 zp)
theorem NQ(h:lv k=.hole):aM lv k .hole=lv:=by
 funext j
 simp_all
theorem Sm{P:Program}{o:Option (List (List DV))}{k:Int}{sz:Nat}{e:List DV}(h:(fU P T).map (·.2)=some sz)(h0:0<=k)(hi:k<(sO o).length)(he:(sO o).getD k.toNat []=e)(hs:e.length=sz):
 aq P T lv (Ry o) (.c (.d (.int .i64 k)))=some (.c (.d (.ptr e)),[],[],True):=by
 obtain⟨i,rfl⟩:∃i:Nat,k=i:=⟨k.toNat,zd⟩
 have hi':i<(sO o).length:=zd
 have e1:(sO o)[i]=e:=by rw[<-he,adW,ab6,fy hi'];rfl
 rw[D9 h hi' (by rw[e1];exact hs),e1]
abbrev Sp:=List UInt8×List UInt8
@[simp]theorem Zw(a b:List UInt8):(AV.agg [.d (.str a),.d (.str b)]).pure=true:=rfl
def Ll(s:Sp):List DV:=[.str s.1,.str s.2]
def uh(b:Option (List Sp)):Option (List (List DV)):=b.map (·.map Ll)
def bH(b:Option (List Sp)):List Sp:=b.getD []
theorem JG(b:Option (List Sp)):(sO (uh b)).length=(bH b).length:=by cases b<;>simp[uh,bH,sO]
theorem Ra(lv:Key->LB)(b:Option (List Sp)):eT prog 28 lv (.c (dc (uh b)))=some (.c (.d (.int .i64 (bH b).length)),[],[],True):=by
 rw[<-JG];exact fP zp
theorem YN(lv:Key->LB)(b:Option (List Sp))(hi:i<(bH b).length):aq prog 28 lv (.c (dc (uh b))) (.c (.d (.int .i64 (i:Int))))=some (.c (.d (.ptr (Ll (bH b)[i]))),[],[],True):=by
 refine Sm (sz:=2) zp zd (by rw[JG];omega) ?_ rfl
 cases b with
 |none=>cases hi
 |some l=>
  have hi':i<l.length:=hi;rw[adW];show(l.map Ll).getD i []=Ll l[i];rw[ab6,aez,fy hi'];rfl
@[simp]theorem Xc(o:Option (List (List DV)))(g:Key->Key):(dc o).dA g=dc o:=by cases o<;>rfl
@[simp]theorem Wi(o:Option (List (List DV))):(AV.c (dc o)).eK=true:=rfl
def iQ(a:Iv):List DV:=[.bool (decide (a.1.num<0)),nD (aW a.1.num.natAbs),nD (bB a.1.den),.bool (decide (a.2.num<0)),nD (aW a.2.num.natAbs),nD (bB a.2.den)]
theorem y6(a:Iv):(iQ a).map CV.d=[.d (.bool (decide (a.1.num<0))),nC (aW a.1.num.natAbs),nC (bB a.1.den),.d (.bool (decide (a.2.num<0))),nC (aW a.2.num.natAbs),nC (bB a.2.den)]:=by simp only[gT];rfl
def iK(l:List Iv):List CV:=(l.map iQ).flatten.map CV.d
def iB(l:List Iv):LB:=if l=[]then .hole else .cells true false 36 (iK l)
def iS(l:List Iv):AV:=if l=[]then .c (.d .nilsl)else .c (.aO 0 0 l.length 6)
def iO(l:List Iv):Option (List (List DV)):=if l=[]then none else some (l.map iQ)
theorem BW{l:List (List DV)}{z:Nat}(h:∀e∈l,e.length=z):l.flatten.length=l.length*z:=by
 induction l with
 |nil=>simp
 |cons a l ih=>
  rw[agj,adl,ih λe he=>h e (afd _ he),h a (afm ..),aeq,Nat.succ_mul];omega
theorem C5(l:List Iv):(iK l).length=l.length*6:=by
 unfold iK;rw[sC,BW (z:=6) wc,sC]
theorem zk(l:List Iv)(a:Iv):iK l++[.d (.bool (decide (a.1.num<0))),nC (aW a.1.num.natAbs),nC (bB a.1.den),.d (.bool (decide (a.2.num<0))),nC (aW a.2.num.natAbs),nC (bB a.2.den)]=iK (l++[a]):=by
 unfold iK;rw[<-y6];simp
theorem vO(l:List Iv)(a:Iv):iB (l++[a])=.cells true false 36 (iK (l++[a])):=by
 unfold iB;rw[if_neg zp]
theorem yZ(l:List Iv)(a:Iv):iS (l++[a])=.c (.aO 0 0 (l.length+1) 6):=by
 unfold iS;rw[if_neg zp];simp
theorem Ao(l:List Iv)(g:Key->Key):(iK l).map (CV.dA g)=iK l:=by
 unfold iK;rw[adT];rfl
theorem Mr(lv:Key->LB)(κ:Key)(h:lv κ=.hole)(a b c d e f:CV):aB prog 61 1 [0] lv κ [.agg [a,b,c,d,e,f]]=some (.c (.aO κ 0 1 6),[(κ,.cells true false 36 [a,b,c,d,e,f])],[],True):=by
 unfold aB;rw[h];kernel_rfl
def pZ:List Sp->Int->Int
 |[],w=>w
 |s::l,w=>if od s.1 s.2=7 then pZ l 7 else if od s.1 s.2≠0 then od s.1 s.2 else pZ l w
def gM(l:List Sp):List Iv:=l.map λs=>v8 s.1 s.2
theorem cq.iJ{c:Ctx}{fn:Func}{x X Y:AV}{t u:Nat}{s:aJ}{κ:Nat}(hr:fn.results=#[.tmp t,.tmp u])(hx:s.fr t=X)(hy:s.fr u=Y)(hn:X.eK=true)(hm:Y.eK=true)(hd:gq s.lv (.tup [X,Y])=some (x,ks)):cq c fn x .ret s κ:=
 ⟨.tup [X,Y],ks,by rw[hr];simp[fq,kH,mj,hx,hy,hn,hm],hd⟩
theorem Aq{x:CV}{x':AV}{e:Int}(h:gq lv (.c x)=some (x',ks)):gq lv (.tup [.c x,.c (.d (.int .i64 e))])=some (.tup [x',.c (.d (.int .i64 e))],ks):=by
 have h:fO lv (.c x)=some (x',ks):=h;have he:fO lv (AV.c (CV.d (DV.int i64 e)))=some (.c (.d (.int .i64 e)),[]):=rfl;simp[gq,l8,h,he]
theorem Er{own fz:Bool}{l:List Iv}(h:lv k=.cells own fz T (iK l))(hl:l.length<=9223372036854775807)(h0:l≠[]):gq lv (.c (.aO k 0 l.length 6))=some (.c (dc (iO l)),[k]):=by
 have:=ob (es:=l.map iQ) (sz:=6) h wc (by rw[sC];exact hl);rw[sC]at this;rw[this];unfold iO;rw[if_neg h0];rfl
theorem GR{L:List Sp}(h:i<L.length):gM (L.take (i+1))=gM (L.take i)++[v8 L[i].1 L[i].2]:=by
 rw[afi,fy h];unfold gM;rw[aeD];rfl
theorem Pw(m:Int)(b:Option (List Sp))(hb:(bH b).length<=1048576):aa prog (GG m) 41 [.c (dc (uh b))] (.tup [.c (dc (if pZ (bH b) 0=0 then iO (gM (bH b))else none)),.c (.d (.int .i64 (pZ (bH b) 0)))]):=by
 have hlp:=λlv=>Ra lv b
 have hix:=λlv {i:Nat}(hi:i<(bH b).length)=>YN lv b hi
 refine aa.ed func41 rfl λ_=>aah ?_;refine aah ?_;refine aah ?_;refine aac λK hK=>aaN hlp ?_;refine aaw ?_
 refine aaY (λ(d:Nat×Int)=>⟨aT [(4,iS (gM ((bH b).take d.1))),(5,.c (.d (.int .i64 d.2))),(10,.c (dc (uh b))),(11,.c (.d (.int .i64 (bH b).length))),(12,.c (.d (.int .i64 d.1)))],aM (λ_=>.hole) 0 (iB (gM ((bH b).take d.1)))⟩) 1
  (λd=>d.1<=(bH b).length/\pZ ((bH b).drop d.1) d.2=pZ (bH b) 0) (λd=>(bH b).length-d.1) (0,0) (Le.fJ _ (by simp only[List.take_zero,gM,ael,iB,if_true];exact(NQ rfl).symm) (by simp[iS,gM])) ⟨ab5 _,rfl⟩ ?_
 rintro⟨i,w⟩ ⟨hi,hb2⟩
 try simp only at hi hb2 ⊢
 refine aah ?_;refine aac λK2 hK2=>?_
 by_cases hlt:i<(bH b).length
 ·have hlt':(i:Int)<((bH b).length:Int):=by omega
  have hx:=λlv=>hix lv hlt
  have hnx:=GR hlt;have hll:(gM ((bH b).take i)).length=i:=by unfold gM;rw[sC,acM];omega
  have f12:=bP (n:=(i:Int)+1) zd zd;have hd:(bH b).drop i=(bH b)[i]::(bH b).drop (i+1):=adP hlt;rw[hd]at hb2;have hof:=Tc m (bH b)[i].1 (bH b)[i].2;generalize (bH b)[i]=s at*
  generalize gM ((bH b).take i)=l at*
  refine aaB xn (aan (hK2 _ _ (aac λK5 hK5=>aaw (aaF λK6 hK6=>?_))));simp[hx,Ll]
  repeat refine az ?_
  apply hK6;refine abx 10 hof @ai.eq_1 ?_;refine aac λK6 hK6=>aah ?_
  by_cases h7:od s.1 s.2=7
  ·have hb1:pZ (s::(bH b).drop (i+1)) w=pZ ((bH b).drop (i+1)) 7:=if_pos h7;have hE:=h7;refine aaB eh (abS (hK6 _ _ ?_))
   by_cases hl:l=[]
   ·subst hl;refine aai ?_;simp[iB,iS,Mr,cC,keyOf,ai,-aB]
    repeat refine az ?_
    apply hK5;refine aai ?_;simp[f12]
    exact⟨i+1,7,Le.keys [(0,13,iB ([]++[v8 s.1 s.2]))] 19 _ rf rfl zp zp zp (by
     intro e he;simp only[aZ,bw,or_false]at he;subst he;rw[vO];simp[iK,y6]) pj,⟨zd,hb1.symm.trans hb2⟩,zd⟩
   ·have hzb:iB l=.cells true false 36 (iK l):=if_neg hl;have hzs:iS l=.c (.aO 0 0 l.length 6):=if_neg hl;have hzl:=C5 l;refine aai ?_;simp[hzb,hzs,Mr,cC,keyOf,hzl,ai,-aB]
    repeat refine az ?_
    apply hK5;refine aai ?_;simp[f12]
    exact⟨i+1,7,Le.keys [(0,13,iB (l++[v8 s.1 s.2]))] 19 _ rf rfl zp zp zp (by
     intro e he;simp only[aZ,bw,or_false]at he;subst he;rw[vO,<-zk];simp[Ao]) pj,⟨zd,hb1.symm.trans hb2⟩,zd⟩
  by_cases h0:od s.1 s.2=0
  ·have hb1:pZ (s::(bH b).drop (i+1)) w=pZ ((bH b).drop (i+1)) w:=by rw[pZ,if_neg h7,if_neg (not_not_intro h0)]
   have hE:=h0;refine aaD eh (aah ?_);refine aaD ws (aan (hK6 _ _ ?_))
   by_cases hl:l=[]
   ·subst hl;refine aai ?_;simp[iB,iS,Mr,cC,keyOf,ai,-aB]
    repeat refine az ?_
    apply hK5;refine aai ?_;simp[f12]
    exact⟨i+1,w,Le.keys [(0,13,iB ([]++[v8 s.1 s.2]))] 19 _ rf rfl zp zp zp (by
     intro e he;simp only[aZ,bw,or_false]at he;subst he;rw[vO];simp[iK,y6]) pj,⟨zd,hb1.symm.trans hb2⟩,zd⟩
   ·have hzb:iB l=.cells true false 36 (iK l):=if_neg hl;have hzs:iS l=.c (.aO 0 0 l.length 6):=if_neg hl;have hzl:=C5 l;refine aai ?_;simp[hzb,hzs,Mr,cC,keyOf,hzl,ai,-aB]
    repeat refine az ?_
    apply hK5;refine aai ?_;simp[f12]
    exact⟨i+1,w,Le.keys [(0,13,iB (l++[v8 s.1 s.2]))] 19 _ rf rfl zp zp zp (by
     intro e he;simp only[aZ,bw,or_false]at he;subst he;rw[vO,<-zk];simp[Ao]) pj,⟨zd,hb1.symm.trans hb2⟩,zd⟩
  ·have hb1:pZ (s::(bH b).drop (i+1)) w=od s.1 s.2:=by rw[pZ,if_neg h7,if_pos h0]
   have hbe:pZ (bH b) 0=od s.1 s.2:=hb2.symm.trans hb1;refine aaD eh (aah ?_);refine aaB ws (aah ?_);rw[hbe,if_neg h0];exact aal (κ:=0) (cq.iJ (κ:=0) (X:=.c (.d .nilsl)) (Y:=.c (.d (.int .i64 (od s.1 s.2)))) (ks:=[]) rfl zp zp rfl rfl rfl)
 have hlt':¬(i:Int)<((bH b).length:Int):=zd
 have hie:i=(bH b).length:=zd
 subst hie;have hw:pZ (bH b) 0=w:=py
 rw[afQ];refine aaD xn (aaR (hK _ _ (aac λK hK=>aah ?_)))
 by_cases h0:w=0
 ·subst h0;refine aax (aan (hK _ _ (aah ?_)));rw[hw,if_pos rfl]
  by_cases hl:gM (bH b)=[]
  ·rw[hl];exact aal (κ:=0) (cq.iJ (κ:=0) (X:=.c (.d .nilsl)) (Y:=.c (.d (.int .i64 0))) (ks:=[]) rfl (by simp[iS,hl]) zp rfl rfl rfl)
  ·have hzb:iB (gM (bH b))=.cells true false 36 (iK (gM (bH b))):=if_neg hl;have hzs:iS (gM (bH b))=.c (.aO 0 0 (gM (bH b)).length 6):=if_neg hl;exact aal (κ:=0) (cq.iJ (κ:=0) (Y:=.c (.d (.int .i64 0))) rfl (by simp[hzs]) zp rfl rfl (Aq (e:=0) (Er (k:=0) (own:=true) (fz:=false) (T:=36) (by simp[hzb]) (by simp[gM];omega) hl)))
 ·refine aaB ws (aah ?_);rw[hw,if_neg h0];exact aal (κ:=0) (cq.iJ (κ:=0) (X:=.c (.d .nilsl)) (Y:=.c (.d (.int .i64 w))) (ks:=[]) rfl zp zp rfl rfl rfl)
theorem N3(l:List Iv):(sO (iO l)).length=l.length:=by unfold iO;split<;>simp_all [sO]
theorem Rl(lv:Key->LB)(l:List Iv):eT prog 61 lv (.c (dc (iO l)))=some (.c (.d (.int .i64 l.length)),[],[],True):=by
 rw[<-N3 l];exact fP zp
theorem BO(lv:Key->LB)(l:List Iv)(hi:i<l.length):aq prog 61 lv (.c (dc (iO l))) (.c (.d (.int .i64 (i:Int))))=some (.c (.d (.ptr (iQ l[i]))),[],[],True):=by
 refine Sm (sz:=6) zp zd (by rw[N3];omega) ?_ rfl;have hl:l≠[]:=by intro e;subst e;cases hi
 rw[adW];unfold iO;rw[if_neg hl];show(l.map iQ).getD i []=iQ l[i];rw[ab6,aez,fy hi];rfl
theorem iA(o:Option (List Nat)):CV.d (nD o)=nC o:=(gT o).symm
def Iv.z(a:Iv):Prop:=bF a.1 300/\bF a.2 300
theorem Iv.FA{a:Iv}(h:a.z):bF (a.2-a.1) 601:=by
 rw[afs];exact JB h.2 (fk h.1)
theorem AH(G:List (List DV))(a:Iv)(h:a.z):aa prog G 68 [eo a] (bu (a.2-a.1)):=by
 have c1:=r9 G a.2 a.1 (szB h.2) (szB h.1);obtain⟨a1,a2⟩:=a;simp only at c1;refine aa.enc func68 rfl (λlv=>bZ lv _ _ _) λ_=>aah ?_;refine abx 4 c1 @ai.eq_1 ?_;exact aal (aF.num (κ:=0) (t:=2) (k:=1) ⟨rfl,rfl⟩ zp yi)
theorem gu(hx:bF x L)(hy:bF y M):bF (x*y) (L+M):=by
 have e1:=cK x.num.natAbs y.num.natAbs;have e2:=cK x.den y.den;obtain⟨a1,a2⟩:=hx;obtain⟨b1,b2⟩:=hy;rw[ED];exact jF _ (aeg (adJ x.den_pos y.den_pos)) zd zd
theorem jg(hx:bF x L)(hy:bF y M):bF (x+y) (L+M+1):=by
 have hd:x.den*y.den≠0:=aeg (adJ x.den_pos y.den_pos);have e1:=cK x.num.natAbs y.den;have e2:=cK y.num.natAbs x.den;have e3:=cK x.den y.den;obtain⟨a1,a2⟩:=hx;obtain⟨b1,b2⟩:=hy;rw[CT]
 by_cases h:decide (x.num<0)=decide (y.num<0)
 ·rw[h,ze];refine jF _ hd ?_ zd;have:=lY (x.num.natAbs*y.den) (y.num.natAbs*x.den);omega
 ·by_cases hab:x.num.natAbs*y.den<y.num.natAbs*x.den
  ·rw[DP h hab];refine jF _ hd ?_ zd;have:=dZ (afr (y.num.natAbs*x.den) (x.num.natAbs*y.den));omega
  ·rw[DL h hab];refine jF _ hd ?_ zd;have:=dZ (afr (x.num.natAbs*y.den) (y.num.natAbs*x.den));omega
end Go.Am
namespace Go.Am
end Go.Am
namespace Go.Am
open Go.Am.Ty Go.Proofs N
variable {n B A vb x i V P κ a X t:Nat}{α:Type}{c:Ctx}{r:Option Nat}{s s1:aJ}{lv:Key->LB}{l:List Nat}{ops:Array Oper}{o:Oper}{k:IntKind}{Q:Ex->aJ->Nat->Prop}{f:FuncId}{cs:List CV}{T:TypeId}
def YO:Nat->Code->Code
 |0,.seq a _=>a
 |1,.seq _ b=>b
 |2,.block _ b=>b
 |3,.loop b=>b
 |4,.cond _ a _=>a
 |5,.cond _ _ b=>b
 |_,c=>c
def Tg:List Nat->Code->Code
 |[],c=>c
 |n::l,c=>Tg l (YO n c)
def cW(l:List Nat)(f:Func):Code:=Tg l (f.body.getD .skip)
theorem abC{x y:Code}(h:x=y)(k:AW c r y s κ Q):AW c r x s κ Q:=h▸k
theorem abA{x:Code}{s2:aJ}{κ2:Nat}(h:Le c s s2)(k:AW c r x s2 κ2 Q):AW c r x s κ Q:=by
 obtain⟨g,hg⟩:=h;exact AW.coarse hg k
def dB(d:Nat):CV:=.d (.int .u8 ((48+d:Nat):Int))
@[simp]theorem aam(d:Nat):(dB d).pure=true:=rfl
def dL:Nat->Nat->List Nat
 |0,_=>[]
 |k+1,n=>dL k (n/10)++[n%10]
theorem Ur(f:List UInt8)(hx:x<100)(ha:a=2*x)(hf:(List.range 100).all (λi=>(f[2*i]?.getD 0).toNat==48+i/10)=true):CV.d (.int .u8 ((f[a]?.getD 0).toNat:Int))=dB (x/10):=by
 subst ha;have:=List.all_eq_true.1 hf x (List.mem_range.2 hx);unfold dB;rw[show(f[2*x]?.getD 0).toNat=48+x/10 by simpa using this]
theorem U8(f:List UInt8)(hx:x<100)(ha:a=2*x+1)(hf:(List.range 100).all (λi=>(f[2*i+1]?.getD 0).toNat==48+i%10)=true):CV.d (.int .u8 ((f[a]?.getD 0).toNat:Int))=dB (x%10):=by
 subst ha;have:=List.all_eq_true.1 hf x (List.mem_range.2 hx);unfold dB;rw[show(f[2*x+1]?.getD 0).toNat=48+x%10 by simpa using this]
theorem tmN(n k:Nat):(n:Int).tmod k=((n%k:Nat):Int):=by rw[agh zd];omega
theorem tdN(n k:Nat):(n:Int).tdiv k=((n/k:Nat):Int):=by rw[afJ zd];omega
theorem VZ(v k:Nat)(h:0<k):∃q r,v/k=q/\v%k=r/\∀K:Int,(k:Int)=K->(v:Int).tdiv K=q/\(v:Int).tmod K=r:=
 ⟨_,_,rfl,rfl,λK e=>by subst e;exact⟨tdN v k,tmN v k⟩⟩
theorem VV{p:Nat}(h:p<100):∃a b:Nat,a=2*p/\b=2*p+1/\u32.wrap ((p:Int)*2)=(a:Int)/\u32.wrap ((a:Int)+1)=(b:Int)/\(a:Int)<200/\(b:Int)<200:=
 ⟨_,_,rfl,rfl,tk,tk,zd,zd⟩
theorem wlF:i64.wrap 0=0/\i64.wrap 1=1/\i64.wrap 2=2/\i64.wrap 3=3/\i64.wrap 4=4/\i64.wrap 5=5/\i64.wrap 6=6/\i64.wrap 7=7/\i64.wrap 8=8:=zr
theorem dL2(j v:Nat):dL (j+2) v=dL j (v/100)++[v%100/10,v%100%10]:=by
 show(dL j (v/10/10)++[v/10%10])++[v%10]=_;rw[afh,acR];have e1:v/10%10=v%100/10:=zd
 have e2:v%10=v%100%10:=zd
 rw[e1,e2];rfl
theorem ls2:∀{c:List α},c.length=2->∃a b,c=[a,b]|[a,b],_=>⟨a,b,rfl⟩
theorem ls3:∀{c:List α},c.length=3->∃a b d,c=[a,b,d]|[a,b,d],_=>⟨a,b,d,rfl⟩
theorem ls4:∀{c:List α},c.length=4->∃a b d e,c=[a,b,d,e]|[a,b,d,e],_=>⟨a,b,d,e,rfl⟩
theorem ls5:∀{c:List α},c.length=5->∃a b d e f,c=[a,b,d,e,f]|[a,b,d,e,f],_=>⟨a,b,d,e,f,rfl⟩
theorem ls6:∀{c:List α},c.length=6->∃a b d e f g,c=[a,b,d,e,f,g]|[a,b,d,e,f,g],_=>⟨a,b,d,e,f,g,rfl⟩
theorem ls7:∀{c:List α},c.length=7->∃a b d e f g h,c=[a,b,d,e,f,g,h]|[a,b,d,e,f,g,h],_=>⟨a,b,d,e,f,g,h,rfl⟩
theorem dL4(j v:Nat):dL (j+4) v=dL j (v/10000)++[v%10000/100/10,v%10000/100%10,v%10000%100/10,v%10000%100%10]:=by
 rw[dL2 (j+2) v,dL2 j (v/100),afh,acR];have e1:v/100%100=v%10000/100:=zd
 have e2:v%100=v%10000%100:=zd
 rw[e1,e2];rfl
theorem ls8:∀{c:List α},c.length=8->∃a b d e f g h i,c=[a,b,d,e,f,g,h,i]|[a,b,d,e,f,g,h,i],_=>⟨a,b,d,e,f,g,h,i,rfl⟩
theorem dL8(j v:Nat):dL (j+8) v=dL j (v/100000000)++[v%100000000/10000/100/10,v%100000000/10000/100%10,v%100000000/10000%100/10,v%100000000/10000%100%10,v%100000000%10000/100/10,v%100000000%10000/100%10,v%100000000%10000%100/10,v%100000000%10000%100%10]:=by
 rw[dL4 (j+4) v,dL4 j (v/10000),afh,acR];have e1:v/10000%10000=v%100000000/10000:=zd
 have e2:v%10000=v%100000000%10000:=zd
 rw[e1,e2];rfl
noncomputable abbrev fbC(G:List (List DV))(z:Ev):Ctx:=⟨prog,G,z.w,z.F,z.W,Tryz.f276.ntmps,z.q,z.b,z.d⟩
def fbG(G:List (List DV))(k:Nat)(q:List Nat)(rd v:Nat)(cs cs':List CV):Prop:=∀z,AW (fbC G z) none (cW q Tryz.f276) ⟨aT [(0,.c (.aO 0 0 k 1)),(4,.c (.d (.int .i64 (rd:Int)))),(12,.c (.d (.int .u32 (v:Int))))],aM (λ_=>.hole) 0 (.cells false false 292 cs)⟩ 1000 (Ab (fbC G z) Tryz.f276 (.tup []) (.cells false false 292 cs'))
theorem fbD(G:List (List DV))(k j v:Nat)(hj:j<=1)(hv:v<10^j)(c:List CV)(hc:c.length=j)(r:List CV)(hk:j<=k)(hk2:k<=24):fbG G k [1,1,1,1,1] j v (c++r) ((dL j v).map dB++r):=by
 intro z
 conv=>
  enter [3]
  whnf
 rcases(zd:j=0\/j=1)with rfl|rfl
 ·obtain rfl:=afy hc;refine aah ?_;refine aax (aan ?_);exact Ab.none (.inl rfl) rfl zp (by simp[dL])
 ·obtain⟨c0,rfl⟩:=List.length_eq_one_iff.1 hc;have w48:u32.wrap (48+(v:Int))=((48+v:Nat):Int):=by rw[lR zd zd];omega
  have w49:u8.wrap ((48+v:Nat):Int)=((48+v:Nat):Int):=eG ⟨vd,un⟩;refine aah ?_;refine aaE (aai ?_);simp[w48,w49,ai]
  repeat refine az ?_
  refine Ab.none (.inl rfl) rfl zp ?_;have e48:CV.d (.int .u8 (u8.wrap (48+(v:Int))))=dB v:=by unfold dB;rw[<-w49];rfl
  have e9:v%10=v:=zd
  simp[e48,dL,e9]
theorem Zm(G:List (List DV))(k j v:Nat)(hj:j<=3)(hv:v<10^j)(c:List CV)(hc:c.length=j)(r:List CV)(hk:j<=k)(hk2:k<=24):fbG G k [1,1,1,1] j v (c++r) ((dL j v).map dB++r):=by
 intro z
 by_cases h2:j<=1
 ·have T:=fbD G k j v h2 hv c hc r hk hk2 z
  conv=>
   enter [3]
   whnf
  refine aac λK hK=>aah ?_;refine aax (aan ?_);simp;apply hK;exact abC zt (abA (Le.fJ _) T)
 obtain⟨i,rfl⟩:∃i,j=i+2:=⟨j-2,zd⟩
 obtain⟨w,p,hw,hp,h⟩:=VZ v 100 zr;obtain⟨dw,dp⟩:=h 100 rfl;obtain⟨pa,pb,ha,hb,e1,e2,e3,e4⟩:=VV (p:=p) zd;have hv':v<1000:=adA hv (adK zr hj:10^(i+2)<=10^3);have ew:u32.wrap (w:Int)=w:=lR zd zd;have hwv:w<10^i:=by rw[<-hw];exact afS (by rw[aee]at hv;omega)
 have T:=λc hc r=>fbD G k i w zd hwv c hc r zd hk2 z
 rw[dL2 i v,hw,hp,aeD,acR]
 conv=>
  enter [3]
  whnf
 have wl:=wlF;rcases(zd:i=0\/i=1)with rfl|rfl
 all_goals
  first
   |obtain⟨c0,c1,rfl⟩:=ls2 hc
   |obtain⟨c0,c1,c2,rfl⟩:=ls3 hc
  refine aac λK hK=>aah ?_;refine aaE (abk dp e1 ?_);refine abk dw ew ?_;refine aac λK1 hK1=>?_;refine aaT mixed zt rfl ?_;simp[e2,e3,e4,wl,ai];rw[Ur _ (x:=p) (a:=pa) zd zd,U8 _ (x:=p) (a:=pb) zd zd];rotate_left
  ·kernel_rfl
  ·kernel_rfl
  repeat refine az ?_
  refine⟨zt,?_⟩
  repeat refine az ?_
  apply hK1;refine aby wl (hK _ _ ?_)
  first
   |exact abC zt (abA (Le.fJ _) (T [] rfl _))
   |exact abC zt (abA (Le.fJ _) (T [c0] rfl _))
theorem fbB(G:List (List DV))(k j v:Nat)(hj:j<=7)(hv:v<10^j)(c:List CV)(hc:c.length=j)(r:List CV)(hk:j<=k)(hk2:k<=24):fbG G k [1,1,1] j v (c++r) ((dL j v).map dB++r):=by
 intro z
 by_cases h2:j<=3
 ·have T:=Zm G k j v h2 hv c hc r hk hk2 z
  conv=>
   enter [3]
   whnf
  refine aac λK hK=>aah ?_;refine aax (aan ?_);simp;apply hK;exact abC zt (abA (Le.fJ _) T)
 obtain⟨i,rfl⟩:∃i,j=i+4:=⟨j-4,zd⟩
 have hv':v<10000000:=adA hv (adK zr hj:10^(i+4)<=10^7);obtain⟨t,s,ht,hs,h⟩:=VZ v 10000 zr;obtain⟨dt,ds⟩:=h 10000 rfl;have et:u32.wrap (t:Int)=t:=lR zd zd;have htv:t<10^i:=by rw[<-ht];exact afS (by rw[aee]at hv;omega)
 obtain⟨p,q,hp,hq,ms⟩:=VZ s 100 zr;obtain⟨dp,dq⟩:=ms 100 rfl;obtain⟨pa,pb,p1,p2,p3,p4,p5,p6⟩:=VV (p:=p) zd;obtain⟨qa,qb,q1,q2,q3,q4,q5,q6⟩:=VV (p:=q) zd;have ep:u32.wrap (p:Int)=p:=lR zd zd;have T:=λc hc r=>Zm G k i t zd htv c hc r zd hk2 z
 rw[dL4 i v,ht,hs,hp,hq,aeD,acR]
 conv=>
  enter [3]
  whnf
 have wl:=wlF;rcases(zd:i=0\/i=1\/i=2\/i=3)with rfl|rfl|rfl|rfl
 all_goals
  first
   |obtain⟨c0,c1,c2,c3,rfl⟩:=ls4 hc
   |obtain⟨c0,c1,c2,c3,c4,rfl⟩:=ls5 hc
   |obtain⟨c0,c1,c2,c3,c4,c5,rfl⟩:=ls6 hc
   |obtain⟨c0,c1,c2,c3,c4,c5,c6,rfl⟩:=ls7 hc
  refine aac λK hK=>aah ?_;refine aaE (aaN ds ?_);refine abk dt et ?_;refine AW.f5 dp dq ep p3 q3 ?_;refine aac λK1 hK1=>?_;refine aaT mixed zt rfl ?_;simp[q4,q5,q6,wl,ai];rw[Ur _ (x:=q) (a:=qa) zd zd,U8 _ (x:=q) (a:=qb) zd zd];rotate_left
  ·kernel_rfl
  ·kernel_rfl
  repeat refine az ?_
  refine⟨zt,?_⟩
  repeat refine az ?_
  apply hK1;refine aac λK1 hK1=>?_;refine aaT mixed zt rfl ?_;simp[p4,p5,p6,wl,ai];rw[Ur _ (x:=p) (a:=pa) zd zd,U8 _ (x:=p) (a:=pb) zd zd];rotate_left
  ·kernel_rfl
  ·kernel_rfl
  repeat refine az ?_
  refine⟨zt,?_⟩
  repeat refine az ?_
  apply hK1;refine aby wl (hK _ _ ?_)
  first
   |exact abC zt (abA (Le.fJ _) (T [] rfl _))
   |exact abC zt (abA (Le.fJ _) (T [c0] rfl _))
   |exact abC zt (abA (Le.fJ _) (T [c0,c1] rfl _))
   |exact abC zt (abA (Le.fJ _) (T [c0,c1,c2] rfl _))
theorem fbA(G:List (List DV))(k n:Nat)(hk:k<=9)(hn:n<10^k)(c:List CV)(hc:c.length=k)(r:List CV):
 aQ prog G 276 [.c (.aO 0 0 k 1),.c (.d (.int .u64 n))] [.cells false false 292 (c++r)] (.ret (.tup []) [.cells false false 292 ((dL k n).map dB++r)] []):=by
 have hn9:n<1000000000:=adA hn (adK zr hk:10^k<=10^9);have w12:u32.wrap (n:Int)=n:=lR zd zd;refine aQ.en1 func276 rfl λz=>aah ?_
 by_cases h7:k<=7
 ·have T:=fbB G k k n h7 hn c hc r (bf _) zd z;have h8:¬(8:Int)<=(k:Int):=by omega
  refine aac λK hK=>aaw ?_;refine aaY (λ(_:Unit)=>⟨aT [(0,.c (.aO 0 0 k 1)),(1,.c (.d (.int .u64 n))),(4,.c (.d (.int .i64 (k:Int))))],aM (λ_=>.hole) 0 (.cells false false 292 (c++r))⟩) 1000 (λ_=>True) (λ_=>0) () (Le.fJ _) trivial ?_;rintro _ -
  refine aac λK2 hK2=>aah ?_;refine aaD (by simp[h8]<;>omega) (aaR (hK _ _ (aaN w12 ?_)));exact abC zt (abA (Le.fJ _) T)
 obtain⟨i,rfl⟩:∃i,k=i+8:=⟨k-8,zd⟩
 obtain⟨u,x,hu,hx,hm⟩:=VZ n 100000000 zr;obtain⟨du,dx⟩:=hm 100000000 rfl;have eu:u64.wrap (u:Int)=u:=fB zd zd;have ew:u32.wrap (u:Int)=u:=lR zd zd;have ex:u32.wrap (x:Int)=x:=lR zd zd;have huv:u<10^i:=by rw[<-hu];exact afS (by rw[aee]at hn;omega)
 obtain⟨y,s,hy,hs,hn'⟩:=VZ x 10000 zr;obtain⟨dy,ds⟩:=hn' 10000 rfl;have ey:u32.wrap (y:Int)=y:=lR zd zd;obtain⟨p,q,hp,hq,my⟩:=VZ y 100 zr;obtain⟨dp,dq⟩:=my 100 rfl;obtain⟨pa,pb,p1,p2,p3,p4,p5,p6⟩:=VV (p:=p) zd;obtain⟨qa,qb,q1,q2,q3,q4,q5,q6⟩:=VV (p:=q) zd;have ep:u32.wrap (p:Int)=p:=lR zd zd;obtain⟨e,f,he,hf,ms⟩:=VZ s 100 zr;obtain⟨de,df⟩:=ms 100 rfl;obtain⟨ea,eb,e1,e2,e3,e4,e5,e6⟩:=VV (p:=e) zd;obtain⟨fa,fb,f1,f2,f3,f4,f5,f6⟩:=VV (p:=f) zd;have ee:u32.wrap (e:Int)=e:=lR zd zd;have T:=λc hc r=>fbB G (i+8) i u zd huv c hc r zd zd z
 rw[dL8 i n,hu,hx,hy,hs,hp,hq,he,hf,aeD,acR];have wl:=wlF;obtain⟨d,e8,hde,hd,he8⟩:∃d e8,c=d++e8/\d.length=i/\e8.length=8:=⟨c.take i,c.drop i,(afX i c).symm,yv,yv⟩
 subst hde;obtain⟨c0,c1,c2,c3,c4,c5,c6,c7,rfl⟩:=ls8 he8;refine aac λK hK=>aaw ?_;refine aaY (λ(b:Int×Int×List CV)=>⟨aT [(0,.c (.aO 0 0 (i+8) 1)),(1,.c (.d (.int .u64 b.1))),(4,.c (.d (.int .i64 b.2.1)))],aM (λ_=>.hole) 0 (.cells false false 292 b.2.2)⟩) 1000 (λb=>b=((n:Int),((i+8:Nat):Int),d++[c0,c1,c2,c3,c4,c5,c6,c7]++r)\/b=((u:Int),(i:Int),d++(dB (p/10)::dB (p%10)::dB (q/10)::dB (q%10)::dB (e/10)::dB (e%10)::dB (f/10)::dB (f%10)::r))) (λb=>b.2.1.toNat) ((n:Int),((i+8:Nat):Int),d++[c0,c1,c2,c3,c4,c5,c6,c7]++r) (Le.fJ _) (.inl rfl) ?_;rintro b (rfl|rfl)
 ·obtain⟨L,hL⟩:∃L,d++(dB (p/10)::dB (p%10)::dB (q/10)::dB (q%10)::dB (e/10)::dB (e%10)::dB (f/10)::dB (f%10)::r)=L:=⟨_,rfl⟩
  obtain⟨I,hI⟩:∃I:Int,(i:Int)=I:=⟨_,rfl⟩
  rw[hL,hI];rcases(zd:i=0\/i=1)with rfl|rfl
  all_goals
   first
    |obtain rfl:=afy hd
    |obtain⟨c8,rfl⟩:=List.length_eq_one_iff.1 hd
   refine aac λK2 hK2=>aah ?_;refine aaE (aan (hK2 _ _ (aaw (abk dx ex ?_))));refine abk du eu ?_;refine abN dy ds ey ?_;refine AW.f5 de df ee e3 f3 ?_;refine AW.f5 dp dq ep p3 q3 ?_;refine aac λK5 hK5=>?_;refine aaT mixed zt rfl ?_;simp[f4,f5,f6,wl,ai];rw[Ur _ (x:=f) (a:=fa) zd zd,U8 _ (x:=f) (a:=fb) zd zd];rotate_left
   ·kernel_rfl
   ·kernel_rfl
   repeat refine az ?_
   refine⟨zt,?_⟩
   repeat refine az ?_
   apply hK5;refine aac λK5 hK5=>?_;refine aaT mixed zt rfl ?_;simp[e4,e5,e6,wl,ai];rw[Ur _ (x:=e) (a:=ea) zd zd,U8 _ (x:=e) (a:=eb) zd zd];rotate_left
   ·kernel_rfl
   ·kernel_rfl
   repeat refine az ?_
   refine⟨zt,?_⟩
   repeat refine az ?_
   apply hK5;refine aac λK5 hK5=>?_;refine aaT mixed zt rfl ?_;simp[q4,q5,q6,wl,ai];rw[Ur _ (x:=q) (a:=qa) zd zd,U8 _ (x:=q) (a:=qb) zd zd];rotate_left
   ·kernel_rfl
   ·kernel_rfl
   repeat refine az ?_
   refine⟨zt,?_⟩
   repeat refine az ?_
   apply hK5;refine aac λK5 hK5=>?_;refine aaT mixed zt rfl ?_;simp[p4,p5,p6,wl,ai];rw[Ur _ (x:=p) (a:=pa) zd zd,U8 _ (x:=p) (a:=pb) zd zd];rotate_left
   ·kernel_rfl
   ·kernel_rfl
   repeat refine az ?_
   refine⟨zt,?_⟩
   repeat refine az ?_
   apply hK5;refine aai ?_;simp[wl];exact⟨(u:Int),I,L,Le.fJ _ (by simp[<-hL]) (by simp[<-hI]),.inr ⟨rfl,rfl,rfl⟩,by simp[<-hI]⟩
 have h8:¬(8:Int)<=(i:Int):=zd
 refine aac λK2 hK2=>aah ?_;refine aaD (by simp[h8]<;>omega) (aaR (hK _ _ (aaN ew ?_)));exact abC zt (abA (Le.fJ _) (T d hd _))
def uq(k n:Nat):List UInt8:=(dL k n).map λd=>UInt8.ofNat (48+d)
theorem Nz:∀(k n:Nat),(dL k n).length=k
 |0,_=>rfl
 |k+1,n=>by simp[dL,Nz k]
theorem To:∀(k n:Nat),∀d∈dL k n,d<10
 |0,_,d,h=>by cases h
 |k+1,n,d,h=>by
  simp only[dL,afW,aeH]at h;rcases h with h|rfl
  ·exact To k _ d h
  ·omega
theorem pK(k n:Nat):(uq k n).length=k:=by simp[uq,Nz]
theorem Nu(k n:Nat):(dL k n).map dB=bJ (uq k n):=by
 unfold uq bJ;rw[adT];refine aen λd hd=>?_;have:=To k n d hd;simp only[Function.comp,dB];rw[UInt8.toNat_ofNat',ad4 zd]
theorem E7(h:n≠0):aL 10 n=n%10::aL 10 (n/10):=by
 refine(iT zr ?_ ?_).symm
 ·have hc:=bO (B:=10) zr (n/10);refine⟨b6.2 ⟨adx _ zr,hc.1⟩,λx hx=>?_⟩
  cases hd:aL 10 (n/10)with
  |nil=>
   rw[hd]at hx;have h0:=(cL zr).1 hd;simp at hx;omega
  |cons a l=>
   rw[hd]at hx;exact hc.2 x (by rw[hd];simpa using hx)
 ·show n%10+10*val 10 (aL 10 (n/10))=n;rw[bE zr];omega
theorem Po:∀(k n:Nat),jV n=k->dL k n=(aL 10 n).reverse
 |0,n,h=>by
  have:aL 10 n=[]:=List.length_eq_zero_iff.1 h;rw[this];rfl
 |k+1,n,h=>by
  have h0:n≠0:=by
   intro e;subst e;cases h
  have hs:=E7 h0
  have h1:jV (n/10)=k:=by
   unfold jV at h⊢;rw[hs,aeq]at h;omega
  rw[hs,agB,<-Po k _ h1];rfl
theorem jw(h:n≠0):eP n=uq (jV n) n:=by
 unfold eP uq;rw[if_neg h,Po _ _ rfl]
theorem Zf(G:List (List DV))(k n:Nat)(h1:3<=k)(h2:k<=9)(hn:n<10^k):
 aQ prog G 276 [.c (.aO 0 0 k 1),.c (.d (.int .u64 n))] [.cells false false 292 [.d (.int .u8 0),.d (.int .u8 0),.d (.int .u8 0),.d (.int .u8 0),.d (.int .u8 0),.d (.int .u8 0),.d (.int .u8 0),.d (.int .u8 0),.d (.int .u8 0),.d (.int .u8 0),.d (.int .u8 0),.d (.int .u8 0),.d (.int .u8 0),.d (.int .u8 0),.d (.int .u8 0),.d (.int .u8 0),.d (.int .u8 0),.d (.int .u8 0),.d (.int .u8 0),.d (.int .u8 0),.d (.int .u8 0),.d (.int .u8 0),.d (.int .u8 0),.d (.int .u8 0)]]
  (.ret (.tup []) [.cells false false 292 (bJ (uq k n)++List.replicate (24-k) (.d (.int .u8 0)))] []):=by
 rw[<-Nu];have h:=fbA G k n h2 hn (List.replicate k (.d (.int .u8 0))) zp (List.replicate (24-k) (.d (.int .u8 0)));rw[List.replicate_append_replicate,show k+(24-k)=24 by omega]at h;exact h
theorem Fe(l:List UInt8):∀x∈bJ l,x.pure=true:=by
 intro x hx;simp only[bJ,aeA]at hx;obtain⟨b,_,rfl⟩:=hx;rfl
theorem Ik(m:Int)(n:Nat)(hn:n<1000000000):aa prog (GG m) 249 [.c (.d (.int .u64 n)),.c (.d (.int .i64 10))] (.c (.d (.str (eP n)))):=by
 by_cases hs:n<100
 ·have hs':(n:Int)<100:=by omega
  have h1:=ND m n hs;have w1:=bP (n:=(n:Int)) zd zd;refine aa.en func249 rfl λ_=>aah ?_;refine aac λK hK=>aah ?_;refine aaE (aac λK1 hK1=>aaN hs' ?_);refine aaB (by simp[hs']<;>omega) (abx 0 h1 w1 ?_);exact aaq (aD.rt rfl 4 zp)
 have hs':¬(n:Int)<100:=zd
 have h0:n≠0:=zd
 have h1:=EB m n h0 hn;have hd:=jw h0
 have k1:3<=jV n:=by
  have:=ve n;apply ad0;intro hc;have h9:10^jV n<=10^2:=adK zr zd;omega
 have k2:jV n<=9:=cE zr hn;have hnd:=ve n;rw[hd];refine aa.en func249 rfl λ_=>aah ?_;refine aac λK hK=>aah ?_;refine aaE (aac λK1 hK1=>aaN hs' ?_);refine aaD (by simp[hs']<;>omega) (aan (hK1 _ _ (aah ?_)));refine abi 1 h1 ?_;have hfb:=λG=>Zf G (jV n) n k1 k2 hnd
 have hlt:uq (jV n) n=uq (jV n) n:=rfl;have hln:=pK (jV n) n;generalize jV n=k at*
 generalize uq k n=t at*
 subst hln;have hk1:(0:Int)<=(t.length:Int):=zd
 have hk2:(t.length:Int)<=24:=zd
 refine aac λK1 hK1=>?_;refine AW.oc ?_;refine kG.run 1 rfl ?_;simp[];refine kG.ij (x:=.c (.aO 0 0 t.length 1)) (us:=[]) (rds:=[0]) 1 rfl rfl ?_ ?_
 ·simp[Am.ij,Op.operands,FX,pT];omega
 refine kG.run 2 rfl ?_;simp[];have hz:∀x∈([.d (.int .u8 0),.d (.int .u8 0),.d (.int .u8 0),.d (.int .u8 0),.d (.int .u8 0),.d (.int .u8 0),.d (.int .u8 0),.d (.int .u8 0),.d (.int .u8 0),.d (.int .u8 0),.d (.int .u8 0),.d (.int .u8 0),.d (.int .u8 0),.d (.int .u8 0),.d (.int .u8 0),.d (.int .u8 0),.d (.int .u8 0),.d (.int .u8 0),.d (.int .u8 0),.d (.int .u8 0),.d (.int .u8 0),.d (.int .u8 0),.d (.int .u8 0),.d (.int .u8 0)]:List CV),x.pure=true:=zr
 have hz':∀x∈bJ t++List.replicate (24-t.length) (CV.d (.int .u8 0)),x.pure=true:=by
  intro x hx;rcases List.mem_append.1 hx with h|h
  ·exact Fe t x h
  ·rw[List.eq_of_mem_replicate h];rfl
 refine eL.Jp 1 9 0 (own:=true) (T:=292) (cs:=[.d (.int .u8 0),.d (.int .u8 0),.d (.int .u8 0),.d (.int .u8 0),.d (.int .u8 0),.d (.int .u8 0),.d (.int .u8 0),.d (.int .u8 0),.d (.int .u8 0),.d (.int .u8 0),.d (.int .u8 0),.d (.int .u8 0),.d (.int .u8 0),.d (.int .u8 0),.d (.int .u8 0),.d (.int .u8 0),.d (.int .u8 0),.d (.int .u8 0),.d (.int .u8 0),.d (.int .u8 0),.d (.int .u8 0),.d (.int .u8 0),.d (.int .u8 0),.d (.int .u8 0)]) zp hz hz' (hfb _) rfl rfl (by
  intro i h h'
  match i,h with
  |0,_=>exact .inr (.inl ⟨_,_,_,rfl,rfl⟩)
  |1,_=>exact .inl ⟨rfl,rfl⟩) zp zr ?_
 simp;refine kG.done ?_
 repeat refine az ?_
 apply hK1;refine aac λK1 hK1=>?_;refine AW.oc ?_;refine kG.run 1 rfl ?_;simp[];refine kG.ij (x:=.c (.aO 0 0 t.length 1)) (us:=[]) (rds:=[0]) 1 rfl rfl ?_ ?_
 ·simp[Am.ij,Op.operands,FX,pT,eD];omega
 refine kG.HM (κ:=0) (off:=0) (own:=true) (fz:=false) (T':=292) (e:=5) (cs:=bJ t++List.replicate (24-t.length) (CV.d (.int .u8 0))) (l:=t) 1 rfl rfl rfl zp zp (by rw[ady,List.take_append_of_le_length (by rw[eD];exact bf _),aeE (by rw[eD];exact bf _)]) zd zp Tryz.underlying5 zp ?_;refine kG.run 1 rfl ?_;simp[];refine kG.done ?_
 repeat refine az ?_
 apply hK1;exact aaq (aD.rt (t:=4) rfl 9 zp)
theorem iN.qP(hg:o.guard=none)(hdf:∀cl,o.op≠.defer cl)(h:di c o s s1):iN c r ops o s s1:=by
 intro F β a w K Q hs hK;have hw:jb ops o.guard s.fr=some true:=ca
 rw[qw hs hw];simp only[if_true];exact F5 hdf (h F β a w K Q hs hK)
theorem iN.Gw{cl:Call}{fs cs:List AV}{x:AV}{lv':Key->LB}(hd:∀d,o.dst=some d->d<c.n)(hg:o.guard=none)(ho:o.op=.call cl)
 (ht:xm c.P (s.val c.G) cl.callee=some (f,fs,cs)) (hf:aE c.P f=true) (hok:nj s.lv) (hc:kL c.P c.G f (fs++cl.args.toList.map (s.val c.G)++cs) s.lv (.ret x lv')):iN c r ops o s (aJ.put ⟨s.fr,lv'⟩ o.dst x):=
 iN.qP hg (λcl' e=>by rw[ho]at e;cases e) (kL.sim hd ho ht hf hok hc)
def Ij(k n:Nat):LB:=.cells false false 231 [.ptr 1 0,.aO k 0 n 1]
def KY(l:List UInt8):LB:=.cells false false 5 (bJ l)
theorem MV:∃i z,prog.info? 5=some i/\i.zero=some z/\z.cells.size=1/\i.bytes=1:=by
 have h:(prog.info? 5).map (λi=>(i.zero.map (·.cells.size),i.bytes))=some (some 1,1):=zt
 obtain⟨i,h1,h2⟩:=Option.map_eq_some_iff.1 h;simp only[rK]at h2;obtain⟨z,h3,h4⟩:=Option.map_eq_some_iff.1 h2.1;exact⟨i,z,h1,h3,h4,h2.2⟩
theorem U5(lv:Key->LB)(l s:List UInt8)(h2:lv 2=.cells false false 5 (bJ l))(h3:lv 3=.hole)(hs:l.length+s.length<=100000000000):
 ju prog 229 9 lv 3 (.c (.aO 2 0 l.length 1)) (.c (.d (.str s)))=some (.c (.aO 3 0 (l.length+s.length) 1),[(2,.dead),(3,.cells false false 5 (bJ l++bJ s))],[]):=by
 obtain⟨i,z,i1,i2,i3,i4⟩:=MV;have hn:=eD l;unfold ju;simp only[h3,h2];simp[i1,i2,i3,i4,hn];omega
theorem S3(lv:Key->LB)(s:List UInt8)(h3:lv 2=.hole)(hs:s.length<=100000000000):
 ju prog 229 9 lv 2 (.c (.d .nilsl)) (.c (.d (.str s)))=some (.c (.aO 2 0 s.length 1),[(2,if s.length=0 then .nils else .cells true false 5 (bJ s))],[]):=by
 obtain⟨i,z,i1,i2,i3,i4⟩:=MV;unfold ju;simp only[h3];simp[i1,i2,i3,i4];omega
theorem RC(m:Int)(lv:Key->LB)(l s:List UInt8)(hok:nj lv)(h1:lv 1=Ij 2 l.length)(h2:lv 2=KY l)(h3:lv 3=.hole)(hs:l.length+s.length<=100000000000):
 kL prog (GG m) 208 [.c (.ptr 1 0),.c (.d (.str s))] lv
  (.ret (.tup [.c (.d (.int .i64 s.length)),.c (.d .nilIface)]) (aM (aM (aM lv 2 .dead) 3 (KY (l++s))) 1 (Ij 3 (l.length+s.length)))):=by
 refine kL.pW (κ:=3) func208 rfl (by show 2<=_;decide) ?_;rintro⟨_,Gc,w0,F0,W0,_,jd,β0⟩ rfl rfl rfl rfl;refine aau mixed trivial trivial ?_;have h1:jd 1=.cells false false 231 [.ptr 1 0,.aO 2 0 l.length 1]:=h1;have h2:jd 2=.cells false false 5 (bJ l):=h2;have h3:jd 3=.hole:=h3;refine AW.qD ⟨_,⟨_,iN.plain (x:=.c (.ptr 1 0)) (vc:=True) (κ:=9) v6 rfl rfl trivial rfl,_,iN.Gw (f:=254) (fs:=[]) (cs:=[]) v6 rfl rfl rfl zp hok (Mx m jd 1 0 231 _ _ h1 rfl),rfl⟩,?_⟩;refine wN ?_;refine aau mixed trivial trivial ?_;refine AW.oc ?_;refine kG.run 6 rfl ?_;simp[h1,h2,h3];have hn:=eD l;have happ:bJ l++bJ s=bJ (l++s):=by simp[bJ]
 refine kG.ij (x:=.c (.aO 3 0 (l.length+s.length) 1)) (us:=[(2,.dead),(3,.cells false false 5 (bJ (l++s)))]) (rds:=[]) 4 rfl rfl ?_ ?_
 ·show ju prog 229 9 jd 3 (.c (.aO 2 0 l.length 1)) (.c (.d (.str s)))=_;rw[<-happ];exact U5 jd l s h2 h3 hs
 refine kG.run 3 rfl ?_;simp[b8,h1,ai];refine kG.done ?_;refine wN ?_;refine aau mixed trivial trivial ?_;exact aal (show R7 _ _ _ .ret _ _ from⟨by simp[Tryz.f208,fq,kH,mj],rfl⟩)
theorem Ng(m:Int)(lv:Key->LB)(s:List UInt8)(hok:nj lv)(h1:lv 1=.cells false false 231 [.d .nilp,.d .nilsl])(h2:lv 2=.hole)(hs:s.length<=100000000000)(h0:s≠[]):
 kL prog (GG m) 208 [.c (.ptr 1 0),.c (.d (.str s))] lv
  (.ret (.tup [.c (.d (.int .i64 s.length)),.c (.d .nilIface)]) (aM (aM (aM lv 1 (.cells false false 231 [.ptr 1 0,.d .nilsl])) 2 (.cells true false 5 (bJ s))) 1 (Ij 2 s.length))):=by
 refine kL.pW (κ:=2) func208 rfl (by show 2<=_;decide) ?_;rintro⟨_,Gc,w0,F0,W0,_,jd,β0⟩ rfl rfl rfl rfl;have hl0:¬s.length=0:=λh=>h0 (List.length_eq_zero_iff.1 h)
 refine aau mixed trivial trivial ?_;have h1:jd 1=.cells false false 231 [.d .nilp,.d .nilsl]:=h1;have h2:jd 2=.hole:=h2;refine AW.qD ⟨_,⟨_,iN.plain (x:=.c (.ptr 1 0)) (vc:=True) (κ:=9) v6 rfl rfl trivial rfl,_,iN.Gw (f:=254) (fs:=[]) (cs:=[]) v6 rfl rfl rfl zp hok (Ih m jd 1 0 231 _ _ rfl h1 rfl),rfl⟩,?_⟩;refine wN ?_;refine aau mixed trivial trivial ?_;refine AW.oc ?_;refine kG.run 6 rfl ?_;simp[h1,h2,ai];refine kG.ij (x:=.c (.aO 2 0 s.length 1)) (us:=[(2,.cells true false 5 (bJ s))]) (rds:=[]) 3 rfl rfl ?_ ?_
 ·have:=S3 (aM jd 1 (.cells false false 231 [.ptr 1 0,.d .nilsl])) s (by simp[h2]) hs;rw[if_neg hl0]at this;exact this
 refine kG.run 3 rfl ?_;simp[b8,h1,ai];refine kG.done ?_;refine wN ?_;refine aau mixed trivial trivial ?_;exact aal (show R7 _ _ _ .ret _ _ from⟨by simp[Tryz.f208,fq,kH,mj],by simp[ai,Ij]⟩)
theorem Ce:∀l:List UInt8,nT (bJ l)=some l
 |[]=>rfl
 |b::l=>by
  have hb:b.toNat<256:=b.toNat_lt;show nT (.d (.int .u8 (.ofNat b.toNat))::bJ l)=_;unfold nT;simp only[Ce l,hb,if_true,UInt8.ofNat_toNat]
theorem Y9:prog.underlying 272=some (.pointer 5):=Tryz.underlying272
theorem Ys(m:Int)(lv:Key->LB)(l:List UInt8)(h1:lv 1=Ij 2 l.length)(h2:lv 2=KY l)(hl:l.length<=100000000000)(h0:l≠[]):
 kL prog (GG m) 209 [.c (.ptr 1 0)] lv (.ret (.c (.d (.str l))) (aM lv 2 .dead)):=by
 refine kL.pW (κ:=9) func209 rfl (by show 1<=_;decide) ?_;rintro⟨_,Gc,w0,F0,W0,_,jd,β0⟩ rfl rfl rfl rfl;have hl0:0<l.length:=List.length_pos_iff.2 h0;have h1:jd 1=.cells false false 231 [.ptr 1 0,.aO 2 0 l.length 1]:=h1;have h2:jd 2=.cells false false 5 (bJ l):=h2;have hn:=eD l;refine aau mixed trivial trivial ?_;refine AW.MR mixed zt ?_;refine xV.run 4 rfl ?_;simp[h1];refine xV.ij (x:=.c (.ptr 2 0)) (us:=[]) (rds:=[2]) 9 rfl rfl ?_ ?_
 ·show A7 jd (.c (.aO 2 0 l.length 1))=_;simp[A7,h2,hl0]
 refine xV.run 5 rfl ?_;simp[h1,h2,b8];refine⟨zd,?_⟩;refine xV.ij (x:=.c (.d (.str l))) (us:=[(2,.dead)]) (rds:=[]) 9 rfl rfl ?_ ?_
 ·show pM prog 272 (b8 jd []) (.c (.ptr 2 0)) (.c (.d (.int .i64 (l.length:Int))))=_;have hc1:prog.cellsOf 5=1:=by kernel_rfl
  have htk:(bJ l).take ((l.length:Int).toNat)=bJ l:=by rw[adW];exact aeE zd
  simp only[pM,b8,List.foldl,h2,Y9,hc1,htk,Ce];rw[if_pos ⟨trivial,trivial,zd,zd⟩,if_pos zd]
 refine xV.run 1 rfl ?_;simp;refine xV.done ?_;refine⟨zt,?_⟩;refine wN ?_;exact aal (show R7 _ _ _ .ret _ _ from⟨by simp[Tryz.f209,fq,kH,mj],by simp[b8]⟩)
theorem NB(j:Nat):∀(k n:Nat),dL (j+k) n=dL j (n/10^k)++dL k n
 |0,n=>by simp[dL]
 |k+1,n=>by
  show dL (j+k) (n/10)++[n%10]=_;rw[NB j k (n/10),afh,show 10*10^k=10^(k+1) by rw[adk];omega,acR];rfl
theorem JH:∀k:Nat,dL k 0=List.replicate k 0
 |0=>rfl
 |k+1=>by
  show dL k (0/10)++[0%10]=_;rw[Nat.zero_div,JH k,agA]
theorem Qk:∀(k n:Nat),dL k (n%10^k)=dL k n
 |0,n=>rfl
 |k+1,n=>by
  show dL k (n%10^(k+1)/10)++[n%10^(k+1)%10]=dL k (n/10)++[n%10]
  rw[show 10^(k+1)=10*10^k by rw[adk];omega,Nat.mod_mul_right_div_self,Qk k (n/10),Nat.mod_mul_right_mod]
theorem Ea(j k n:Nat):uq (j+k) n=uq j (n/10^k)++uq k n:=by
 unfold uq;rw[NB,aeD]
theorem NZ(k:Nat):uq k 0=List.replicate k 48:=by
 unfold uq;rw[JH,List.map_replicate];rfl
theorem QI(k n:Nat):uq k (n%10^k)=uq k n:=by
 unfold uq;rw[Qk]
theorem vJ(h:n<1000000000):1<=(eP n).length/\(eP n).length<=9:=by
 by_cases h0:n=0
 ·subst h0;exact⟨zr,zr⟩
 ·rw[jw h0,pK];have h2:jV n<=9:=cE zr h;have h1:=ve n;refine⟨Nat.one_le_iff_ne_zero.2 λe=>?_,h2⟩;rw[e]at h1;omega
theorem Sr(h:n<1000000000):List.replicate (9-(eP n).length) 48++eP n=uq 9 n:=by
 by_cases h0:n=0
 ·subst h0;decide
 ·have h2:jV n<=9:=cE zr h;rw[jw h0,pK]
  conv=>rhs;rw[show 9=(9-jV n)+jV n by omega]
  rw[Ea,ae9 (ve n),NZ]
theorem wq(h:n≠0):jV n=jV (n/10)+1:=by
 unfold jV;rw[E7 h,aeq]
theorem Gm(n:Nat):∀j:Nat,n/10^j≠0->jV n=jV (n/10^j)+j
 |0,_=>by simp
 |j+1,h=>by
  have e:n/10^(j+1)=n/10^j/10:=by rw[afh,adk]
  have h1:n/10^j≠0:=by intro e0;rw[e,e0]at h;simp at h
  rw[Gm n j h1,wq h1,e];omega
def pts(n:Nat):List (List UInt8):=if n/1000000000=0 then[eP n]else uq 9 (n%1000000000)::pts (n/1000000000)
termination_by n
decreasing_by
 rename_i h
 exact afD zd zr
theorem Ip{n:Nat}(h:n/1000000000=0):pts n=[eP n]:=by rw[pts,if_pos h]
theorem I1{n:Nat}(h:n/1000000000≠0):pts n=uq 9 (n%1000000000)::pts (n/1000000000):=by rw[pts,if_neg h]
theorem Gz(n:Nat)(h:n≠0):(pts n).reverse.flatten=eP n:=by
 induction n using Nat.strongRecOn with
 |_ n ih=>
  by_cases hq:n/1000000000=0
  ·rw[Ip hq];simp
  ·rw[I1 hq,agB,List.flatten_append,ih _ (afD zd zr) hq,jw hq,jw h,Gm n 9 hq,Ea];have:uq 9 (n%1000000000)=uq 9 n:=QI 9 n;rw[this];simp
theorem Ez(n:Nat):∀p∈pts n,p≠[]/\p.length<=9:=by
 induction n using Nat.strongRecOn with
 |_ n ih=>
  by_cases hq:n/1000000000=0
  ·rw[Ip hq];intro p hp;rw[List.mem_singleton.1 hp];have h:=vJ (n:=n) zd;exact⟨λe=>by rw[e]at h;exact absurd h.1 zr,h.2⟩
  ·rw[I1 hq];intro p hp;rcases List.mem_cons.1 hp with rfl|hp
   ·refine⟨λe=>?_,?_⟩
    ·have:=pK 9 (n%1000000000);rw[e]at this;cases this
    ·rw[pK];exact bf _
   ·exact ih _ (afD zd zr) p hp
theorem KQ(n:Nat):pts n≠[]:=by
 rw[pts];split<;>simp
theorem NO{l:List (List UInt8)}(h:∀p∈l,p≠[]):l.length<=l.flatten.length:=by
 induction l with
 |nil=>simp
 |cons p l ih=>
  have h1:=List.length_pos_iff.2 (h p (afm ..));have h2:=ih λq hq=>h q (afd _ hq)
  simp only[agj,adl,aeq];omega
theorem Su(m:Int)(n:Nat)(hn:n<1000000000):aa prog (GG m) 206 [.c (.d (.int .u64 n)),.c (.d (.int .i64 10))] (.c (.d (.str (eP n)))):=by
 have h1:=Ik m n hn;refine aa.en func206 rfl λ_=>aah ?_;refine abi 1 h1 ?_;exact aaq (aD.rt rfl 4 zp)
theorem SK(G:List (List DV))(i:Nat)(hi:i<9):aa prog G 279 [.c (.d (.int .u64 1)),.c (.d (.int .u64 i))] (.tup [.c (.d (.int .u64 0)),.c (.d (.int .u64 i))]):=by
 refine aa.en func279 rfl λ_=>?_;refine aau mixed trivial trivial ?_;exact aal (aD.t2 (t:=4) (u:=5) rfl 9 (by simp;revert i;decide +kernel) (by simp;revert i;decide +kernel))
theorem LK(m:Int)(i:Nat)(hi:i<9):aa prog (GG m) 207 [.c (.d (.str [48])),.c (.d (.int .i64 i))] (.c (.d (.str (List.replicate i 48)))):=by
 have c1:aa prog (GG m) 250 [.c (.d (.int .u64 1)),.c (.d (.int .u64 i))] (.tup [.c (.d (.int .u64 0)),.c (.d (.int .u64 i))]):=by
  have c:=SK (GG m) i hi;refine aa.en func250 rfl λ_=>?_;refine aau mixed c trivial ?_;exact aal (aD.t2 (t:=4) (u:=5) rfl 9)
 have c2:∀s b,ur s [48]=b->aa prog (GG m) 251 [.c (.d (.str s)),.c (.d (.str [48]))] (.c (.d (.bool b))):=by
  intro s b h;have c:=uv (GG m) s [48];rw[h]at c;refine aa.en func251 rfl λ_=>?_;refine aau mixed c trivial ?_;exact aaq (aD.rt rfl 4 zp)
 have p1:=c2 (List.replicate 128 32) false zt;have p2:=c2 (List.replicate 128 45) false zt;have p3:=c2 (List.replicate 64 48) true zt
 by_cases h0:i=0
 ·subst h0;refine aa.en func207 rfl λ_=>?_;refine aau mixed trivial trivial ?_;exact aaq (aD.rt rfl 4 zp)
 by_cases h1:i=1
 ·subst h1;refine aa.en func207 rfl λ_=>?_;refine aau mixed trivial trivial ?_;exact aaq (aD.rt rfl 4 zp)
 have g0:¬(i:Int)=0:=zd
 have g1:¬(i:Int)=1:=zd
 have g2:(i:Int)<=128:=zd
 have g3:(i:Int)<=64:=zd
 have g4:¬(9223372036854775807:Int)<i:=zd
 have g5:¬(i:Int)<0:=zd
 have w1:∀i:Nat,i<9->u64.wrap (i:Int)=i:=ae
 have w1:=w1 i hi;have w2:=bP (n:=(i:Int)) zd zd;refine aa.en func207 rfl λ_=>?_;refine aau mixed (mo c1 p1 p2 p3) (me g0 g1 g2 g3 g4 (lD g5 w1 w2)) ?_;exact aaq (aD.rt (t:=4) rfl 9 (by simp;clear c1 h0 h1 g0 g1 g2 g3 g4 g5 w1 w2;revert i;decide +kernel))
theorem Ou{k:Key}(h:lv k=.hole):aM lv k .hole=lv:=by
 funext j
 simp_all
def sK(l:List (List UInt8)):List CV:=l.map λs=>CV.d (.str s)
def sB(l:List (List UInt8)):LB:=if l=[]then .hole else .cells true false 9 (sK l)
def sS(l:List (List UInt8)):AV:=if l=[]then .c (.d .nilsl)else .c (.aO 0 0 l.length 1)
theorem Qd(l:List (List UInt8)):(sK l).length=l.length:=by simp[sK]
theorem zP(l:List (List UInt8))(g:Key->Key):(sK l).map (CV.dA g)=sK l:=by
 unfold sK;rw[adT];rfl
theorem zj(l:List (List UInt8))(x:List UInt8):sB (l++[x])=.cells true false 9 (sK l++[.d (.str x)]):=by
 unfold sB;rw[if_neg zp];simp[sK]
theorem yV(l:List (List UInt8))(x:List UInt8):sS (l++[x])=.c (.aO 0 0 (l.length+1) 1):=by
 unfold sS;rw[if_neg zp];simp
theorem SM(lv:Key->LB)(κ:Key)(h:lv κ=.hole)(a:CV):aB prog 223 1 [0] lv κ [.c a]=some (.c (.aO κ 0 1 1),[(κ,.cells true false 9 [a])],[],True):=by
 unfold aB;rw[h];kernel_rfl
theorem Jr(s t:List UInt8):aU prog .add 9 (.c (.d (.str s))) (.c (.d (.str t)))=some (.c (.d (.str (s++t))),[],[],s.length+t.length<=9223372036854775807):=by
 simp[aU,P3,Ba]
theorem Xq(lv:Key->LB)(h:lv 0=.cells false false 9 cs)(hi:i<n):aq prog 223 lv (.c (.aO 0 0 n 1)) (.c (.d (.int .i64 (i:Int))))=some (.c (.ptr 0 i),[],[0],i<n):=by
 simp[aq,h]
theorem Xb(lv:Key->LB){s:List UInt8}(h:lv 0=.cells false false 9 cs)(hs:cs[i]?=some (.d (.str s))):aA prog 9 lv (.c (.ptr 0 i))=some (.c (.d (.str s)),[],[0],True):=by
 obtain⟨hi,hs⟩:=List.getElem?_eq_some_iff.1 hs;have hd:cs.drop i=.d (.str s)::cs.drop (i+1):=by rw[adP hi,hs]
 simp[aA,h,hd]
def wJ(A j:Nat):List UInt8:=((pts A).drop j).reverse.flatten
def JS(w:List UInt8):LB:=if w=[]then .cells false false 231 [.d .nilp,.d .nilsl]else Ij 2 w.length
def Kn(w:List UInt8):LB:=if w=[]then .hole else KY w
theorem Vk(A:Nat)(h:A≠0):wJ A 0=eP A:=by unfold wJ;rw[ady,Gz A h]
theorem Vg(A:Nat):wJ A (pts A).length=[]:=by unfold wJ;rw[List.drop_length];rfl
theorem Ky(A j:Nat)(h:j<(pts A).length):wJ A j=wJ A (j+1)++(pts A)[j]:=by
 unfold wJ;rw[adP h,agB,List.flatten_append];simp
theorem EX:∀{l:List (List UInt8)},(∀p∈l,p.length<=9)->l.flatten.length<=9*l.length
 |[],_=>by simp
 |p::l,h=>by
  have h1:=h p (afm ..);have h2:=EX (l:=l) λq hq=>h q (afd _ hq)
  simp only[agj,adl,aeq];omega
theorem M3(A j:Nat):(wJ A j).length<=9*(pts A).length:=by
 unfold wJ;refine HQ (EX λp hp=>(Ez A p (afj (List.mem_reverse.1 hp))).2) ?_;rw[List.length_reverse,afl];omega
theorem Tt(A j:Nat)(h:j<(pts A).length):wJ A j≠[]:=by
 rw[Ky A j h];have:=(Ez A _ (cn h)).1;simp[this]
theorem Kx(A:Nat):jV A<=10*(aL 4294967296 A).length:=by
 refine cE zr ?_;rw[aeT];exact adA (oe zr) (afq zr _)
theorem CJ(h:A≠0):(pts A).length<=10*(aL 4294967296 A).length:=by
 have h1:=NO (l:=(pts A).reverse) λp hp=>(Ez A p (List.mem_reverse.1 hp)).1
 rw[List.length_reverse,Gz A h,jw h,pK]at h1;exact HQ h1 (Kx A)
theorem iN.step{κ:Key}{x:AV}{us:List (Key×LB)}{rds:List Key}{vc:Prop}(hd:∀d,o.dst=some d->d<c.n)(hg:o.guard=none)
 (h:dg c.P o.op (o.op.operands.toList.map (s.val c.G)) s.lv κ=some (x,us,rds,vc)) (hvc:vc)(h1:s1=aJ.put ⟨s.fr,b8 s.lv us⟩ o.dst x):iN c r ops o s s1:=by
 subst h1;exact iN.OQ (dh.plain hd ca h hvc)
theorem AD:nj (λ_=>.hole):=λ_=>rfl
theorem mL{k:Key}{b:LB}(h:nj lv)(hb:b.okB=true):nj (aM lv k b):=by
 intro j;unfold aM;split
 ·exact hb
 ·exact h j
theorem Od(w:List UInt8):(JS w).okB=true:=by unfold JS;split<;>rfl
theorem NJ(w:List UInt8):(Kn w).okB=true:=by unfold Kn;split<;>rfl
theorem Ak(l:List UInt8)(g:Key->Key):(bJ l).map (CV.dA g)=bJ l:=by
 unfold bJ;rw[adT];rfl
theorem ru(m:Int)(o:Option (List Nat))(A:Nat)(ho:dO o=(aL 4294967296 A))(hA:(aL 4294967296 A).length<=1000000000):aa prog (GG m) 163 [nK .u32 o] (.c (.d (.str (eP A)))):=by
 by_cases h0:A=0
 ·subst h0;have hl:(dO o).length=0:=by rw[ho];rfl
  have hl':((dO o).length:Int)=0:=zd
  have hd:eP 0=[48]:=rfl;rw[hd];refine aa.en func163 rfl λ_=>aah ?_;refine aac λK hK=>aaN hl ?_;refine aaE (aah ?_);exact aaq (aD.rt rfl 2 zp)
 have hne:(aL 4294967296 A)≠[]:=λe=>h0 ((cL zr).1 e)
 obtain rfl:o=some (aL 4294967296 A):=by
  cases o with
  |none=>exact absurd ho.symm hne
  |some l=>exact congrArg some ho
 have hl:¬((aL 4294967296 A).length:Int)=0:=by
  have:=List.length_pos_iff.2 hne;omega
 have hl0:¬(aL 4294967296 A).length=0:=zd
 refine aa.ML func163 rfl λ_=>aah ?_;refine aac λK hK=>abk hl hl0 ?_;refine aaD (by simp[hl]<;>omega) (aan (hK _ _ (aah ?_)));refine aac λK hK=>aaw ?_
 refine aaY (λ(d:Nat×List (List UInt8))=>⟨aT [(0,nK .u32 (some (aL 4294967296 d.1))),(3,sS d.2)],aM (λ_=>.hole) 0 (sB d.2)⟩) 1
  (λd=>d.1<=A/\d.2++(if d.1=0 then[]else pts d.1)=pts A) (λd=>d.1) (A,[]) (Le.fJ _ (by simp only[sB,if_true];exact(Ou rfl).symm) (by simp[sS])) ⟨bf _,by rw[if_neg h0];rfl⟩ ?_
 rintro⟨n,p⟩ hi;obtain⟨hi,hp⟩:=hi
 try simp only at hi hp ⊢
 have hnl:(aL 4294967296 n).length<=1000000000:=HQ (eE zr hi) hA;refine aac λK3 hK3=>aah ?_
 by_cases hn0:n=0
 rotate_left
 ·have hpos:0<(aL 4294967296 n).length:=List.length_pos_iff.2 λe=>hn0 ((cL zr).1 e)
  have csm:=rI (GG m) (some (aL 4294967296 n)) 1000000000 zr kp;rw[aS,bE zr]at csm;rw[if_neg hn0]at hp
  have hpl:p.length<=10000000000:=by
   have h1:p.length+(pts n).length=(pts A).length:=by rw[<-hp,adl]
   have h2:=CJ h0;omega
  have hr:n%1000000000<1000000000:=adx _ zr;have hqn:n/1000000000<n:=afD zd zr;have hlo:=@Ip n;have hhi:=@I1 n;have hmm:n/1000000000=0->n%1000000000=n:=zd
  generalize n/1000000000=q at*
  generalize n%1000000000=r at*
  have cfu:=Su m r hr;have w1:=fB (n:=(r:Int)) zd zd;have hdl:=vJ hr;have hpad:=Sr hr;have crp:=LK m (9-(eP r).length) zd;have hsub:(9:Int)-((eP r).length:Int)=((9-(eP r).length:Nat):Int):=zd
  have w2:=bP (n:=((9-(eP r).length:Nat):Int)) zd zd;refine aaB (by simp[hpos]<;>omega) (aan (hK3 _ _ (aaw (abi 10 csm ?_))));refine abx 10 cfu w1 ?_;refine aac λK5 hK5=>aah ?_
  by_cases hq:q=0
  ·have hps:p++[eP r]++(if q=0 then[]else pts q)=p++pts n:=by rw[if_pos hq,hlo hq,hmm hq];simp
   have hqz:¬0<(aL 4294967296 q).length:=by rw[hq];decide
   refine aaD (by simp[hqz]<;>omega) (aan (hK5 _ _ (aac λK5 hK5=>?_)))
   by_cases hl:p=[]
   ·subst hl;refine aai ?_;simp[sB,sS,SM,cC,keyOf,-aB]
    repeat refine az ?_
    apply hK5;refine aai ?_;simp
    exact⟨q,[]++[eP r],Le.keys [(0,11,sB ([]++[eP r]))] 19 _ rfl rfl zp zp zp (by
     intro e he;simp only[aZ,bw,or_false]at he;subst he;rw[zj];simp[sK]) kv,⟨zd,ly⟩,zd⟩
   ·have hzb:sB p=.cells true false 9 (sK p):=if_neg hl;have hzs:sS p=.c (.aO 0 0 p.length 1):=if_neg hl;have hzl:=Qd p;refine aai ?_;simp[hzb,hzs,SM,cC,keyOf,hzl,-aB]
    repeat refine az ?_
    apply hK5;refine aai ?_;simp
    exact⟨q,p++[eP r],Le.keys [(0,11,sB (p++[eP r]))] 19 _ rfl rfl zp zp zp (by
     intro e he;simp only[aZ,bw,or_false]at he;subst he;rw[zj];simp[zP]) kv,⟨zd,ly⟩,zd⟩
  ·have hps:p++[uq 9 r]++(if q=0 then[]else pts q)=p++pts n:=by rw[if_neg hq,hhi hq];simp
   have hqz:0<(aL 4294967296 q).length:=List.length_pos_iff.2 λe=>hq ((cL zr).1 e)
   refine aaB (by simp[hqz]<;>omega) (aai ?_);simp[hsub,w2];refine ag.p 10 9 crp ?_;simp[Jr,hpad]
   repeat refine az ?_
   apply hK5;refine aac λK5 hK5=>?_
   by_cases hl:p=[]
   ·subst hl;refine aai ?_;simp[sB,sS,SM,cC,keyOf,-aB]
    repeat refine az ?_
    apply hK5;refine aai ?_;simp
    exact⟨q,[]++[uq 9 r],Le.keys [(0,11,sB ([]++[uq 9 r]))] 19 _ rfl rfl zp zp zp (by
     intro e he;simp only[aZ,bw,or_false]at he;subst he;rw[zj];simp[sK]) kv,⟨zd,ly⟩,zd⟩
   ·have hzb:sB p=.cells true false 9 (sK p):=if_neg hl;have hzs:sS p=.c (.aO 0 0 p.length 1):=if_neg hl;have hzl:=Qd p;refine aai ?_;simp[hzb,hzs,SM,cC,keyOf,hzl,-aB]
    repeat refine az ?_
    apply hK5;refine aai ?_;simp
    exact⟨q,p++[uq 9 r],Le.keys [(0,11,sB (p++[uq 9 r]))] 19 _ rfl rfl zp zp zp (by
     intro e he;simp only[aZ,bw,or_false]at he;subst he;rw[zj];simp[zP]) kv,⟨zd,ly⟩,zd⟩
 subst hn0;have hpe:p=pts A:=by rw[<-hp];simp
 have hpn:p≠[]:=by rw[hpe];exact KQ A
 have hzb:sB p=.cells true false 9 (sK p):=if_neg hpn;have hzs:sS p=.c (.aO 0 0 p.length 1):=if_neg hpn;rw[hzb,hzs,hpe];have hplen:(pts A).length<=10000000000:=HQ (CJ h0) zd;have w1:=bP (n:=((pts A).length:Int)-1) zd zd;refine aax (aaR (hK _ _ (aah ?_)));refine aac λK hK=>aaN w1 ?_;refine aaw ?_
 refine aaY (λ(j:Nat)=>⟨aT [(3,.c (.aO 0 0 (pts A).length 1)),(7,.c (.ptr 1 0)),(8,.c (.d (.int .i64 ((j:Int)-1))))],aM (aM (aM (λ_=>.hole) 0 (.cells false false 9 (sK (pts A)))) 1 (JS (wJ A j))) 2 (Kn (wJ A j))⟩) 3
  (λj=>j<=(pts A).length) (λj=>j) (pts A).length ?_ (bf _) ?_
 ·rw[Vg];simp only[JS,Kn,if_true]
  exact Le.keys [(0,0,.cells false false 9 (sK (pts A))),(1,1,.cells false false 231 [.d .nilp,.d .nilsl])] 19 _ (Ou rfl) rfl zp zp zp (by
   intro e he;simp only[aZ,bw,or_false]at he;rcases he with rfl|rfl
   ·simp[zP]
   ·simp[CV.dA]) xa
 rintro j hj
 try simp only at hj
 refine aac λK4 hK4=>aah ?_
 cases j with
 |zero=>
  refine aax (aaR (hK _ _ (aac λK hK=>?_)));have hne:wJ A 0≠[]:=Tt A 0 (List.length_pos_iff.2 (KQ A));have hlim:(wJ A 0).length<=100000000000:=HQ (M3 A 0) zd;have hb:JS (wJ A 0)=Ij 2 (wJ A 0).length:=if_neg hne;have hy:Kn (wJ A 0)=KY (wJ A 0):=if_neg hne;have hd:=Vk A h0;obtain⟨L,hL⟩:∃L,L=aM (aM (aM (λ_=>LB.hole) 0 (.cells false false 9 (sK (pts A)))) 1 (JS (wJ A 0))) 2 (Kn (wJ A 0)):=⟨_,rfl⟩
  have hL1:L 1=Ij 2 (wJ A 0).length:=by rw[hL,<-hb];rfl
  have hL2:L 2=KY (wJ A 0):=by rw[hL,<-hy];rfl
  have hLk:nj L:=pv
  rw[<-hL];have hcall:=Ys m L (wJ A 0) hL1 hL2 hlim hne;refine AW.qD ⟨_,⟨_,iN.Gw (f:=209) (fs:=[]) (cs:=[]) xt rfl rfl rfl zp (by exact hLk) (by exact hcall),_,iN.step (x:=.c (.d (.str (wJ A 0)))) (us:=[]) (rds:=[]) (vc:=True) (κ:=19) xt rfl rfl trivial rfl,rfl⟩,?_⟩;refine hK _ _ ?_;rw[<-hd];exact aal (κ:=0) (aD.tmp rfl 19 zp rfl (by simp[hL]) rfl)
 |succ i=>
  have e1:((i+1:Nat):Int)-1=(i:Int):=zd
  have hi:i<(pts A).length:=hj;have hi0:(0:Int)<=(i:Int):=zd
  have hw:=Ky A i hi;have hpn:=Ez A _ (cn hi);have hsk:(sK (pts A))[i]?=some (.d (.str (pts A)[i])):=by unfold sK;rw[aez,fy hi];rfl
  rw[e1];refine aaB (by simp[hi0]<;>omega) (aan (hK4 _ _ (aac λK6 hK6=>aaw ?_)))
  have hlim:(wJ A (i+1)).length+(pts A)[i].length<=100000000000:=by
   have h1:=M3 A i;rw[hw,adl]at h1;omega
  have w3:=bP (n:=(i:Int)-1) zd zd;obtain⟨L,hL⟩:∃L,L=aM (aM (aM (λ_=>LB.hole) 0 (.cells false false 9 (sK (pts A)))) 1 (JS (wJ A (i+1)))) 2 (Kn (wJ A (i+1))):=⟨_,rfl⟩
  have hL0:L 0=.cells false false 9 (sK (pts A)):=by rw[hL];rfl
  have hL1:L 1=JS (wJ A (i+1)):=by rw[hL];rfl
  have hL2:L 2=Kn (wJ A (i+1)):=by rw[hL];rfl
  have hLk:nj L:=pv
  rw[<-hL]
  by_cases hwe:wJ A (i+1)=[]
  ·have hb:JS (wJ A (i+1))=.cells false false 231 [.d .nilp,.d .nilsl]:=if_pos hwe;have hy:Kn (wJ A (i+1))=.hole:=if_pos hwe;rw[hb]at hL1;rw[hy]at hL2;have hcall:=Ng m L (pts A)[i] hLk hL1 hL2 zd hpn.1;rw[hwe,aew]at hw
   refine AW.qD ⟨_,⟨_,iN.step (κ:=19) (x:=.c (.aO 0 0 (pts A).length 1)) (us:=[]) (rds:=[]) (vc:=True) xt rfl rfl trivial rfl,_,iN.step (κ:=19) (x:=.c (.d (.int .i64 (i:Int)))) (us:=[]) (rds:=[]) (vc:=True) xt rfl rfl trivial rfl,
    _,iN.step (κ:=19) (x:=.c (.ptr 0 i)) (us:=[]) (rds:=[0]) (vc:=i<(pts A).length) xt rfl (by exact Xq L hL0 hi) hi rfl,_,iN.step (κ:=19) (x:=.c (.d (.str (pts A)[i]))) (us:=[]) (rds:=[0]) (vc:=True) xt rfl (by exact Xb L hL0 hsk) trivial rfl,
    _,iN.Gw (f:=208) (fs:=[]) (cs:=[]) xt rfl rfl rfl zp (by exact hLk) (by exact hcall),rfl⟩,?_⟩
   refine hK6 _ _ ?_;refine aai ?_;simp[w3];have hb':JS (wJ A i)=Ij 2 (pts A)[i].length:=by unfold JS;rw[hw,if_neg hpn.1]
   have hy':Kn (wJ A i)=KY (pts A)[i]:=by unfold Kn;rw[hw,if_neg hpn.1]
   exact⟨i,Le.keys [(0,0,.cells false false 9 (sK (pts A))),(1,1,Ij 2 (pts A)[i].length),(2,2,KY (pts A)[i])] 19 _ (by rw[hb',hy'];rfl) rfl zp zp (by simp[hL]) (by
    intro e he;simp only[aZ,bw,or_false]at he;rcases he with rfl|rfl|rfl
    ·simp[hL0,zP]
    ·simp[Ij,aV,CV.dA]
    ·simp[KY,Ak]) xa,zd,zd⟩
  ·have hb:JS (wJ A (i+1))=Ij 2 (wJ A (i+1)).length:=if_neg hwe;have hy:Kn (wJ A (i+1))=KY (wJ A (i+1)):=if_neg hwe;rw[hb]at hL1;rw[hy]at hL2;have hL3:L 3=.hole:=by rw[hL];rfl
   have hcall:=RC m L (wJ A (i+1)) (pts A)[i] hLk hL1 hL2 hL3 hlim
   refine AW.qD ⟨_,⟨_,iN.step (κ:=19) (x:=.c (.aO 0 0 (pts A).length 1)) (us:=[]) (rds:=[]) (vc:=True) xt rfl rfl trivial rfl,_,iN.step (κ:=19) (x:=.c (.d (.int .i64 (i:Int)))) (us:=[]) (rds:=[]) (vc:=True) xt rfl rfl trivial rfl,
    _,iN.step (κ:=19) (x:=.c (.ptr 0 i)) (us:=[]) (rds:=[0]) (vc:=i<(pts A).length) xt rfl (by exact Xq L hL0 hi) hi rfl,_,iN.step (κ:=19) (x:=.c (.d (.str (pts A)[i]))) (us:=[]) (rds:=[0]) (vc:=True) xt rfl (by exact Xb L hL0 hsk) trivial rfl,
    _,iN.Gw (f:=208) (fs:=[]) (cs:=[]) xt rfl rfl rfl zp (by exact hLk) (by exact hcall),rfl⟩,?_⟩
   refine hK6 _ _ ?_;refine aai ?_;simp[w3];have hne:¬wJ A i=[]:=Tt A i hi;have hb':JS (wJ A i)=Ij 2 ((wJ A (i+1)).length+(pts A)[i].length):=by unfold JS;rw[if_neg hne,hw,adl]
   have hy':Kn (wJ A i)=KY (wJ A (i+1)++(pts A)[i]):=by unfold Kn;rw[if_neg hne,hw]
   exact⟨i,Le.keys [(0,0,.cells false false 9 (sK (pts A))),(1,1,Ij 2 ((wJ A (i+1)).length+(pts A)[i].length)),(2,3,KY (wJ A (i+1)++(pts A)[i]))] 19 _ (by rw[hb',hy'];rfl) rfl zp zp (by simp[hL]) (by
    intro e he;simp only[aZ,bw,or_false]at he;rcases he with rfl|rfl|rfl
    ·simp[hL0,zP]
    ·simp[Ij,aV,CV.dA]
    ·simp[KY,Ak]) xa,zd,zd⟩
theorem zq(q:Option (List Nat)):aU prog .neq 32 (.c (nC q)) (.c (.d .nilsl))=some (.c (.d (.bool q.isSome)),[],[],True):=by
 cases q with
 |none=>kernel_rfl
 |some l=>exact(show ∀es,aU prog .neq 32 (.c (.d (.sl es))) (.c (.d .nilsl))=some (.c (.d (.bool true)),[],[],True) from λes=>by kernel_rfl) _
theorem Yj(m:Int)(A:Nat)(h:(aL 4294967296 A).length<=1000000000):aa prog (GG m) 163 [.c (nC (aW A))] (.c (.d (.str (eP A)))):=by
 rw[<-iX];exact ru m _ A (jG A) h
theorem acz(m:Int)(A:Nat)(h:(aL 4294967296 A).length<=1000000000)(h1:A≠1):aa prog (GG m) 163 [.c (nC (bB A))] (.c (.d (.str (eP A)))):=by
 rw[<-iX];exact ru m _ A (by unfold bB;rw[if_neg h1];rfl) h
def ug(x:Rat):List UInt8:=(if x.num<0 then[45]else[])++eP x.num.natAbs++(if x.den=1 then[]else[47]++eP x.den)
theorem mN(A:Nat):(eP A).length<=10*(aL 4294967296 A).length+1:=by
 by_cases h:A=0
 ·subst h;decide
 ·rw[jw h,pK];have:=Kx A;omega
theorem Bn(m:Int)(x:Rat)(hx:bF x 1000000000):aa prog (GG m) 89 [bu x] (.c (.d (.str (ug x)))):=by
 have c1:=Yj m x.num.natAbs hx.1;have l1:=mN x.num.natAbs;have l2:=mN x.den;have hx1:(aL 4294967296 x.num.natAbs).length<=1000000000:=hx.1;have hx2:(aL 4294967296 x.den).length<=1000000000:=hx.2;have cat:=Jr
 by_cases hd:x.den=1
 ·have e:ug x=(if x.num<0 then[45]else[])++eP x.num.natAbs:=by unfold ug;rw[if_pos hd,ad5]
  have hdn:bB x.den=none:=by unfold bB;rw[if_pos hd]
  rw[e];show aa prog (GG m) 89 [.agg [.d (.bool (decide (x.num<0))),nC (aW x.num.natAbs),nC (bB x.den)]] _;rw[hdn]
  by_cases hn:x.num<0
  ·rw[if_pos hn];generalize eP x.num.natAbs=s at*
   refine aa.en func89 rfl λ_=>aah ?_;refine abi 2 c1 ?_;refine aac λK hK=>aah ?_;refine aaB lx (aby cat (hK _ _ ?_));refine aac λK hK=>aaN @zq ?_;refine aax (aan (hK _ _ (aah ?_)));exact aaq (aD.rt (t:=2) rfl 9 zp)
  ·rw[if_neg hn];generalize eP x.num.natAbs=s at*
   refine aa.en func89 rfl λ_=>aah ?_;refine abi 2 c1 ?_;refine aac λK hK=>aah ?_;refine aaD lx (aan (hK _ _ (aac λK hK=>aaN @zq ?_)));refine aax (aan (hK _ _ (aah ?_)));exact aaq (aD.rt (t:=2) rfl 9 zp)
 ·have e:ug x=(if x.num<0 then[45]else[])++eP x.num.natAbs++([47]++eP x.den):=by unfold ug;rw[if_neg hd]
  have c2:=acz m x.den hx.2 hd;have hdn:(bB x.den).isSome=true:=by unfold bB;rw[if_neg hd];rfl
  rw[e];show aa prog (GG m) 89 [.agg [.d (.bool (decide (x.num<0))),nC (aW x.num.natAbs),nC (bB x.den)]] _;generalize bB x.den=q at*
  by_cases hn:x.num<0
  ·rw[if_pos hn];generalize eP x.num.natAbs=s at*
   generalize eP x.den=t at*
   refine aa.en func89 rfl λ_=>aah ?_;refine abi 2 c1 ?_;refine aac λK hK=>aah ?_;refine aaB lx (aby cat (hK _ _ ?_));refine aac λK hK=>abk @zq hdn ?_;refine aaE (abI 3 c2 cat (hK _ _ ?_));refine aah ?_;exact aaq (aD.rt (t:=2) rfl 9 zp)
  ·rw[if_neg hn];generalize eP x.num.natAbs=s at*
   generalize eP x.den=t at*
   refine aa.en func89 rfl λ_=>aah ?_;refine abi 2 c1 ?_;refine aac λK hK=>aah ?_;refine aaD lx (aan (hK _ _ (aac λK hK=>abk @zq hdn ?_)));refine aaE (abI 3 c2 cat (hK _ _ ?_));refine aah ?_;exact aaq (aD.rt (t:=2) rfl 9 zp)
def s9(x:Rat):Nat:=max (eP x.num.natAbs).length (eP x.den).length
def eS(x:Rat):Bool:=decide (2000<s9 x)
theorem Ro(d:Nat):dO (gZ (bB d))=(aL 4294967296 d):=by
 unfold bB
 by_cases h:d=1
 ·subst h;rw[if_pos rfl,LY zr zr zr];rfl
 ·rw[if_neg h];rfl
theorem I5(m:Int)(x:Rat)(hx:bF x 1000000):aa prog (GG m) 116 [bu x] (.c (.d (.int .i64 (s9 x:Int)))):=by
 have hx1:(aL 4294967296 x.num.natAbs).length<=1000000:=hx.1;have hx2:(aL 4294967296 x.den).length<=1000000:=hx.2;have c1:=Yj m x.num.natAbs zd;have c2:=cx (GG m) (decide (x.num<0)) (aW x.num.natAbs) (bB x.den)
 have c3:aa prog (GG m) 163 [.c (nC (gZ (bB x.den)))] (.c (.d (.str (eP x.den)))):=by
  rw[<-iX];exact ru m _ x.den (Ro _) zd
 have l1:=mN x.num.natAbs;have l2:=mN x.den;have hd:s9 x=max (eP x.num.natAbs).length (eP x.den).length:=rfl;generalize eP x.num.natAbs=s at*
 generalize eP x.den=t at*
 have hmx:(if s.length<t.length then(t.length:Int)else(s.length:Int))=(s9 x:Int):=by rw[hd];split<;>omega
 generalize s9 x=d at*
 refine aa.en func116 rfl λ_=>?_;refine aau mixed (lD c1 c2 c3) (mo @eN.eq_1 @eN.eq_2 @eN.eq_3 hmx) ?_;exact aaq (aD.rt rfl 2 zp)
theorem L7(m:Int)(x:Rat)(hx:bF x 1000000):aa prog (GG m) 115 [bu x] (.c (.d (.bool (eS x)))):=by
 have c1:=I5 m x hx;have e:eS x=decide ((2000:Int)<(s9 x:Int)):=by unfold eS;congr 1;exact propext zd
 rw[e];generalize s9 x=d at*
 refine aa.en func115 rfl λ_=>?_;refine aau mixed c1 trivial ?_;exact aaq (aD.rt rfl 2 zp)
def IM:List Rat->Nat->Int
 |[],_=>-1
 |x::r,i=>if eS x then(i:Int)else IM r (i+1)
theorem No{l:List Rat}(h:i<l.length):IM (l.drop i) i=if eS l[i]then(i:Int)else IM (l.drop (i+1)) (i+1):=by
 rw[adP h];rfl
theorem EU(m:Int)(l:List Rat)(hl:l.length<=1000)(hs:∀x∈l,bF x 1000000):aa prog (GG m) 183 [mW l,.c (.d (.func (.func 115) [] []))] (.c (.d (.int .i64 (IM l 0)))):=by
 have hlp:=λlv=>xl l lv
 have hix:=λlv {i:Nat}(hi:i<l.length)=>CZ l lv i l[i] (fy hi)
 have hd:=λ{i:Nat}(hi:i<l.length)=>No hi
 obtain⟨D,hD⟩:∃D:DV,mW l=.c (.d D):=⟨_,rfl⟩
 simp only[hD]at hlp hix⊢;refine aa.en func183 rfl λ_=>aac λK hK=>aai ?_;simp
 repeat refine az ?_
 apply hK;refine aac λK hK=>aac λK1 hK1=>aai ?_;simp[hlp]
 repeat refine az ?_
 apply hK1;refine aaw ?_
 refine aaY (λ(i:Nat)=>⟨aT [(0,.c (.d D)),(1,.c (.d (.func (.func 115) [] []))),(7,.c (.d (.int .i64 (l.length:Int)))),(8,.c (.d (.int .i64 (i:Int))))],λ_=>.hole⟩) 1
  (λi=>i<=l.length/\IM (l.drop i) i=IM l 0) (λi=>l.length-i) 0 (Le.fJ _) ⟨ab5 _,rfl⟩ ?_
 rintro i ⟨hi,hE⟩
 try simp only at hi hE ⊢
 refine aah ?_;refine aac λK3 hK3=>?_
 by_cases hlt:i<l.length
 ·have hlt':(i:Int)<(l.length:Int):=by omega
  have hx:=λlv=>hix lv hlt
  have c1:=L7 m l[i] (hs _ (cn hlt));have hd:=hd hlt;have f1:=bP (n:=(i:Int)+1) zd zd;generalize l[i]=x at*
  rw[hE]at hd;obtain⟨b,hb⟩:∃b,eS x=b:=⟨_,rfl⟩
  rw[hb]at c1 hd;refine aaB xn (aan ?_);simp
  repeat refine az ?_
  apply hK3;refine aac λK4 hK4=>aaw (aac λK5 hK5=>aai ?_)
  simp
  repeat refine az ?_
  apply hK5;refine aac λK5 hK5=>aai ?_;simp[hx,dY,<-gT];refine ag.p 2 9 c1 ?_;simp
  repeat refine az ?_
  apply hK5
  cases b with
  |true=>
   have hd:IM l 0=(i:Int):=hd;rw[hd];refine aaE (aah ?_);exact aaq (aD.rt rfl 4 zp)
  |false=>
   have hd:IM l 0=IM (l.drop (i+1)) (i+1):=hd;refine aax (aan (hK4 _ _ (aai ?_)));simp[f1];exact⟨i+1,Le.fJ _,⟨zd,hd.symm⟩,zd⟩
 ·have hn:l.drop i=[]:=aeQ zd;rw[hn]at hE;have hE:-1=IM l 0:=hE;refine aaD tm (aaR ?_);simp
  repeat refine az ?_
  apply hK;refine aac λK hK=>aai ?_;simp
  repeat refine az ?_
  apply hK;exact aaq (aD.rt rfl 4 (by simp[hE]))
theorem Rj(x y:Rat):decide (0<=IM [x,y] 0)=(eS x ||eS y):=by
 cases hx:eS x<;>cases hy:eS y<;>simp[IM,hx,hy]
theorem O4(m:Int)(x y:Rat)(hx:bF x 1000000)(hy:bF y 1000000):aa prog (GG m) 114 [mW [x,y],.c (.d (.func (.func 115) [] []))] (.c (.d (.bool (eS x ||eS y)))):=by
 have c1:=EU m [x,y] zp (λz hz=>by
  simp only[aZ,bw,or_false]at hz;rcases hz with rfl|rfl<;>assumption)
 have e:=Rj x y;obtain⟨i,hi⟩:∃i,IM [x,y] 0=i:=⟨_,rfl⟩
 rw[hi]at c1 e;rw[<-e];obtain⟨D,hD⟩:∃D:DV,mW [x,y]=.c (.d D):=⟨_,rfl⟩
 simp only[hD]at c1⊢;refine aa.en func114 rfl λ_=>?_;refine aau mixed c1 trivial ?_;exact aaq (aD.rt rfl 4 zp)
def pq(a:Iv):Bool:=!(eS a.1 ||eS a.2)
theorem wF(m:Int)(x y:Rat)(hx:bF x 1000000)(hy:bF y 1000000):aa prog (GG m) 54 [mW [x,y]] (.c (.d (.bool (!(eS x ||eS y))))):=by
 have c1:=O4 m x y hx hy;generalize (eS x ||eS y)=b at*
 obtain⟨D,hD⟩:∃D:DV,mW [x,y]=.c (.d D):=⟨_,rfl⟩
 simp only[hD]at c1⊢;refine aa.en func54 rfl λ_=>?_;refine aau mixed c1 trivial ?_;exact aaq (aD.rt rfl 2 zp)
theorem Rn(h:ok B l)(ht:l=[]\/B^(l.length-1)<=val B l):can B l:=by
 refine⟨h,λx hx=>?_⟩;rcases afF l with rfl|⟨xs,y,rfl⟩
 ·cases hx
 ·rw[afG]at*
  simp only[List.getLast?_append,List.getLast?_singleton,Option.some_or,aj]at hx;subst hx;intro h0;subst h0;rcases ht with e|ht
  ·simp at e
  ·rw[gU]at ht;simp only[adl,aex,afZ,aeU,ad9]at ht;have:=iu (dD.1 h).1;omega
theorem Hv(h:can B l)(h0:l≠[]):B^(l.length-1)<=val B l:=by
 rcases afF l with rfl|⟨xs,y,rfl⟩
 ·grind
 ·rw[afG]at*
  have hy:y≠0:=h.2 y zp;rw[gU];simp only[adl,aex,afZ];have:B^xs.length*1<=B^xs.length*y:=adI _ zd;omega
def rC:Option (List Nat)->CV
 |none=>.d .nilsl
 |some l=>.d (.sl (dK .i64 l))
theorem fj(o:Option (List Nat)):nK .i64 o=.c (rC o):=by cases o<;>rfl
@[simp]theorem bT(lv:Key->LB)(s:Int)(p q:Option (List Nat)):gq lv (.agg [.d (.int .i64 s),rC p,rC q])=some (.agg [.d (.int .i64 s),rC p,rC q],[]):=by
 cases p<;>cases q<;>rfl
@[simp]theorem Zv(o:Option (List Nat)):(rC o).pure=true:=by cases o<;>rfl
@[simp]theorem Y0(o:Option (List Nat)):(AV.c (rC o)).pure=true:=by cases o<;>rfl
@[simp]theorem ab4(o:Option (List Nat))(g:Key->Key):(rC o).dA g=rC o:=by cases o<;>rfl
abbrev rA(s:Int)(p q:Option (List Nat)):AV:=.agg [.d (.int .i64 s),rC p,rC q]
theorem Q8:bM prog 42 [] []=some (.agg [.d (.int .i64 0),.d .nilsl,.d .nilsl],[],[],True):=zt
theorem bR(b p q:CV):bM prog 42 [0,1,2] [.c b,.c p,.c q]=some (.agg [b,p,q],[],[],True):=zt
theorem X6(b p q:CV):iq prog 42 [b,p,q]=some (.agg [b,p,q]):=zt
theorem B5(lv:Key->LB)(κ:Key)(h:lv κ=.hole)(a:CV):aB prog 40 1 [0] lv κ [.c a]=some (.c (.aO κ 0 1 1),[(κ,.cells true false 2 [a])],[],True):=by
 unfold aB;rw[h];rfl
theorem xA(x k:Nat):(x:Int).tmod (k:Int)=((x%k:Nat):Int):=xr
theorem nE(x k:Nat):(x:Int).tdiv (k:Int)=((x/k:Nat):Int):=xr
theorem RX{κ:Key}{own fz:Bool}(h:lv κ=.cells own fz T (wK k l))(hl:l.length<=9223372036854775807):gq lv (.c (.aO κ 0 l.length 1))=some (nK k (some l),[κ]):=Dl h hl
theorem Ax(G:List (List DV)):aa prog G 135 [] (nK .i64 (some [1])):=by
 refine aa.ed func135 rfl λ_=>aah ?_;refine aaF λK hK=>?_;simp[B5,-aB];apply hK;refine aal (κ:=0) (cq.tmp (κ:=0) (X:=.c (.aO 0 0 1 1)) (ks:=[0]) rfl zp ?_);rfl
def Qj(s:Int)(q:Option (List Nat)):Option (List Nat):=if s=0 then some [1]else q
theorem Fh(G:List (List DV))(s:Int)(p q:Option (List Nat)):aa prog G 145 [rA s p q] (.c (rC (Qj s q))):=by
 have h1:=Ax G;rw[fj]at h1;refine aa.en func145 rfl λ_=>aah ?_;refine aac λK hK=>aah ?_
 by_cases hs:s=0
 ·refine aaB yk (abi 1 h1 ?_);exact aaq (aD.rt (t:=2) rfl 9 (by simp[Qj,hs]))
 ·refine aaD yk (aan (hK _ _ (aah ?_)));exact aaq (aD.rt (t:=2) rfl 9 (by simp[Qj,hs]))
theorem kV(G:List (List DV))(l:List Nat)(hl:l.length<=1000000000000):aa prog G 198 [nK .i64 (some l)] (nK .i64 (some (fc l))):=by
 have dKl:∀(l:List Nat),∀e∈dK .i64 l,e.length=1:=by
  intro l e he;obtain⟨x,_,rfl⟩:=List.mem_map.1 he;rfl
 refine aa.en func198 rfl λ_=>aah ?_;refine aac λK hK=>aaw ?_;refine aaY (λl'=>⟨aT [(0,nK .i64 (some l'))],λ_=>.hole⟩) 0 (λl'=>l'.length<=l.length/\N.fc l'=N.fc l) (λl'=>l'.length) l (Le.slots _ zp zp) zp ?_;rintro l' ⟨h0,h1⟩
 have fin:∀(fr:Nat->AV) (κ:Nat),fr 0=nK .i64 (some (N.fc l))->K ⟨fr,λ_=>.hole⟩ κ:=by
  intro fr κ h;apply hK;refine aah ?_;exact aal (aD.tmp rfl 0 pi rfl rfl zp)
 refine aac λK2 hK2=>aac λK3 hK3=>?_;refine abq rfl ?_;rcases afF l' with rfl|⟨xs,x,rfl⟩
 ·simp;apply hK3;refine aax (aaR ?_)
  simp_all
 ·rw[afG]at*
  have h3:xs.length+1<=1000000000000:=by simp at h0;omega
  have h4:i64.wrap ((xs.length:Int))=xs.length:=bP zd zd;have h2:(0:Int)<(xs.length:Int)+1:=zd
  by_cases hx:x=0
  ·subst hx;simp[nK,dK,eT,jU,Jb,O1,h2,h4]
   repeat refine az ?_
   apply hK3;refine aaE (aan (hK2 _ _ (aaw (aai ?_))));simp[nK,dK,eT,jU,Jb,h4];refine⟨⟨zd,λe he=>?_⟩,?_⟩
   ·rcases he with⟨y,_,rfl⟩|rfl<;>rfl
   refine⟨xs,Le.slots [(0,nK .i64 (some xs))] (by simp[nK,dK]) zp,⟨yn,by rw[<-h1,jM]⟩,zd⟩
  ·have hx':¬((x:Int)=0):=by omega
   simp[nK,dK,eT,jU,Jb,O1,h2,h4]
   repeat refine az ?_
   apply hK3;refine aaD yk (aaR ?_);simp;apply fin;simp[nK,dK,<-h1,kT hx]
theorem pz(G:List (List DV)){a b:Option (List Nat)}(ha:can 1000000000 (dO a))(hb:can 1000000000 (dO b)):aa prog G 147 [nK .i64 a,nK .i64 b] (.c (.d (.int .i64 (eO (val 1000000000 (dO a)) (val 1000000000 (dO b)))))):=by
 refine aQ.nc 0 zp (λV v h=>jD h) λhra=>?_;refine aQ.nc 1 zp (λV v h=>jD h) λhrb=>?_;refine aa.en func147 rfl λ_=>aah ?_;refine aac λK hK=>aah ?_
 by_cases hl:(dO a).length=(dO b).length
 ·refine aaD yk (aan (hK _ _ (aac λK hK=>aaF λK1 hK1=>?_)));simp;have e1:=bP (n:=((dO a).length:Int)-1) zd zd;simp only[e1];apply hK1;refine aaw ?_;refine aaY (λ(k:Nat)=>⟨aT [(0,nK .i64 a),(1,nK .i64 b),(5,.c (.d (.int .i64 ((k:Int)-1))))],λ_=>.hole⟩) 0 (λk=>k<=(dO a).length/\(dO a).drop k=(dO b).drop k) (λk=>k) (dO a).length (Le.mk' _ rfl bG zp) ⟨bf _,yn⟩ ?_;rintro k ⟨h1,h2⟩;refine aac λK3 hK3=>aah ?_
  cases k with
  |zero=>
   refine aax (aaR (hK _ _ (aah ?_)));simp only[ady]at h2;exact aaq (aD.rt rfl 0 (by simp[o5 (congrArg (val 1000000000) h2)]))
  |succ k=>
   have h3:k<(dO b).length:=zd
   have h4:k<(dO a).length:=zd
   have e2:((k+1:Nat):Int)-1=k:=zd
   simp only[e2];refine aaE (aan (hK3 _ _ (aac λK5 hK5=>aaw (aac λK6 hK6=>aac λK7 hK7=>?_))));refine abT mixed zt rfl rfl ?_;simp[h3,h4];apply hK7
   by_cases hlt:(dO a)[k]<(dO b)[k]
   ·refine aaB yk (aac λK7 hK7=>abS (hK7 _ _ ?_));have:=sI ha.1 h4 h3 h2 hlt;exact aaq (aD.rt rfl 0 (by simp[lq this]))
   ·refine aaD yk (aan (hK6 _ _ (aac λK7 hK7=>?_)));refine abT mixed zt rfl rfl ?_;simp[h3,h4];apply hK7
    by_cases hgt:(dO b)[k]<(dO a)[k]
    ·refine aaB yk (aac λK7 hK7=>abS (hK7 _ _ ?_));have:=sI hb.1 h3 h4 h2.symm hgt;exact aaq (aD.rt rfl 0 (by simp[mz this]))
    ·refine aaD yk (aan (hK5 _ _ (aai ?_)));simp;have e3:=bP (n:=(k:Int)-1) zd zd;simp[e3];have he:(dO a)[k]=(dO b)[k]:=by omega
     refine⟨k,Le.mk' _ zp zp zp,⟨zd,?_⟩,zd⟩;rw[adP h4,adP h3,he,h2]
 ·refine aaB xv (aac λK2 hK2=>aah ?_)
  by_cases hlt:(dO a).length<(dO b).length
  ·refine aaB yk (aah ?_);exact aaq (aD.rt rfl 0 km)
  ·refine aaD yk (aan (hK2 _ _ (aah ?_)));exact aaq (aD.rt rfl 0 pD)
theorem Pc(G:List (List DV))(a:Option (List Nat)):aa prog G 242 [nK .i64 a] (.c (.d (.bool (decide (val 1000000000 (dO a)%2=1))))):=by
 refine aa.en func242 rfl λ_=>aah ?_;refine aac λK hK=>?_
 cases hd:dO a with
 |nil=>
  have h1:(dO a).length=0:=by rw[hd];rfl
  refine aby h1 (hK _ _ ?_);exact aaq (aD.rt rfl 0 (by simp[hd]))
 |cons x l=>
  have h1:0<(dO a).length:=by rw[hd];simp
  have h1':(0:Int)<((dO a).length:Int):=zd
  have h2:(dO a)[0]=x:=by simp[hd]
  have h4:=jh (P:=prog) (T:=40) (lv:=λ_=>.hole) (k:=.i64) (k':=.i64) (o:=a) (i:=0) zp h1;simp only[agi,h2]at h4;have h5:(x:Int).tmod 2=((x%2:Nat):Int):=xA x 2;have h6:val 1000000000 (dO a)%2=x%2:=by rw[hd,cB];omega
  refine AW.l4 h1 h1' h4 h5 (hK _ _ ?_);rw[h6];have h7:(x:Int)%2=1↔x%2=1:=zd
  exact aaq (aD.rt rfl 0 (by simp[h7]))
theorem Eb(k:IntKind)(l:List Nat)(x:Nat):wK k l++[CV.d (.int k (x:Int))]=wK k (l++[x]):=px
theorem UU(k:IntKind)(l:List Nat)(g:Key->Key):(wK k l).map (CV.dA g)=wK k l:=by unfold wK;simp
theorem ng(k:IntKind)(T:TypeId)(l:List Nat)(g:Key->Key):(LB.cells true false T (wK k l)).like (.cells true false T (wK k l)) g:=LB.aN.2 ⟨rfl,rfl,(UU k l g).symm,id⟩
theorem Oj(G:List (List DV))(a b:Option (List Nat))(ha:can 1000000000 (dO a))(hb:can 1000000000 (dO b))(hal:(dO a).length<=400000000000)(hbl:(dO b).length<=400000000000):
 aa prog G 146 [nK .i64 a,nK .i64 b] (nK .i64 (some (aL 1000000000 (val 1000000000 (dO a)+val 1000000000 (dO b))))):=by
 have hbs:∀(lv:Key->LB) (h:lv 1=.hole) (a:CV),aB prog 40 1 [0] lv 1 [.c a]=some (.c (.aO 1 0 1 1),[(1,.cells true false 2 [a])],[],True):=λlv h a=>B5 lv 1 h a
 obtain⟨M,hM⟩:∃M,M=max (dO a).length (dO b).length:=⟨_,rfl⟩
 have hmx:(if ((dO a).length:Int)<((dO b).length:Int)then((dO b).length:Int)else((dO a).length:Int))=(M:Int):=by split<;>omega
 have hmx':(if (dO a).length<(dO b).length then((dO b).length:Int)else((dO a).length:Int))=(M:Int):=by split<;>omega
 have hM6:M<=400000000000:=zd
 have e0:=bP (n:=(M:Int)+1) zd zd;refine aa.ed func146 rfl λ_=>aah ?_;refine aaF λK hK=>?_;simp[eN,hmx',e0]
 repeat refine az ?_
 apply hK;refine aah ?_;refine aac λK hK=>aah ?_;refine aaw ?_
 refine aaY (λ(p:List Nat×Nat)=>⟨aT [(0,nK .i64 a),(1,nK .i64 b),(5,.c (.aO 0 0 p.1.length 1)),(6,.c (.d (.int .i64 p.2))),(7,.c (.d (.int .i64 p.1.length)))],
  aM (λ_=>.hole) 0 (.cells true false 2 (wK .i64 p.1))⟩) 1
  (λp=>ok 1000000000 p.1/\p.2<=1/\val 1000000000 p.1+1000000000^p.1.length*p.2=val 1000000000 ((dO a).take p.1.length)+val 1000000000 ((dO b).take p.1.length)/\(p.1.length<=M\/(p.1.length=M+1/\p.2=0/\1000000000^M<=val 1000000000 (dO a)+val 1000000000 (dO b))))
  (λp=>M+2-p.1.length) ([],0) (Le.mk' _ px zp zp) T2 ?_
 rintro⟨pre,c⟩ ⟨h1,h2,h3,h4⟩;simp only at h1 h2 h3 h4;have w7:=bP (n:=(pre.length:Int)+1) zd zd;refine aac λK3 hK3=>aac λK4 hK4=>?_
 have body:(pre.length<(dO a).length\/pre.length<(dO b).length\/0<c)->∀(fr:Nat->AV) (κ:Nat),fr 0=nK .i64 a->fr 1=nK .i64 b->fr 5=.c (.aO 0 0 pre.length 1)->fr 6=.c (.d (.int .i64 c))->fr 7=.c (.d (.int .i64 pre.length)) ->
  K3 ⟨fr,aM (λ_=>.hole) 0 (.cells true false 2 (wK .i64 pre))⟩ κ:=by
  intro hgo fr κ z0 z1 z5 z6 z7;apply hK3;refine aac λK5 hK5=>aaw (aac λK6 hK6=>?_)
  have g2:∀(x:Nat) (fr:Nat->AV) (κ:Nat),x<1000000000->val 1000000000 ((dO a).take (pre.length+1))=val 1000000000 ((dO a).take pre.length)+1000000000^pre.length*x->fr 0=nK .i64 a->fr 1=nK .i64 b->fr 5=.c (.aO 0 0 pre.length 1)->fr 6=.c (.d (.int .i64 ((c+x:Nat):Int)))->fr 7=.c (.d (.int .i64 pre.length)) ->
   K6 ⟨fr,aM (λ_=>.hole) 0 (.cells true false 2 (wK .i64 pre))⟩ κ:=by
   intro x fr κ hx hxv z0 z1 z5 z6 z7;apply hK6;refine aac λK8 hK8=>?_
   have g3:∀(y:Nat) (fr:Nat->AV) (κ:Nat),y<1000000000->val 1000000000 ((dO b).take (pre.length+1))=val 1000000000 ((dO b).take pre.length)+1000000000^pre.length*y->fr 0=nK .i64 a->fr 1=nK .i64 b->fr 5=.c (.aO 0 0 pre.length 1)->fr 6=.c (.d (.int .i64 ((c+x+y:Nat):Int)))->fr 7=.c (.d (.int .i64 pre.length)) ->
    K8 ⟨fr,aM (λ_=>.hole) 0 (.cells true false 2 (wK .i64 pre))⟩ κ:=by
    intro y fr κ hy hyv z0 z1 z5 z6 z7;apply hK8;refine abP 1 ?_;have e1:(((c+x+y:Nat):Int)).tmod 1000000000=(((c+x+y)%1000000000:Nat):Int):=xA _ _;have e2:(((c+x+y:Nat):Int)).tdiv 1000000000=(((c+x+y)/1000000000:Nat):Int):=nE _ _;have e3:=bP (n:=(((c+x+y)/1000000000:Nat):Int)) zd zd;generalize hm:c+x+y=m at*
    have hlen:pre.length+1<=9223372036854775807/\(pre.length+1)*8<=140737488355328:=zd
    refine aaF λK9 hK9=>?_;simp[z5,z6,hbs,cC,keyOf,e1,Eb,-aB,-Int.natCast_emod,-Int.natCast_ediv,-Int.natCast_add]
    repeat refine az ?_
    apply hK9;refine aai ?_;simp[z6,e2,e3,-Int.natCast_emod,-Int.natCast_ediv];apply hK5;refine aai ?_;simp[z7,w7]
    have hM2:pre.length<=M:=by
     rcases h4 with h4|⟨h4,h5,_⟩
     ·exact h4
     ·omega
    refine⟨pre++[m%1000000000],m/1000000000,Le.keys [(0,2,.cells true false 2 (wK .i64 (pre++[m%1000000000])))] 19 _ rfl rfl zp zp zp ?_ ?_,⟨dD.2 ⟨h1,b6.2 ⟨zd,dM _⟩⟩,zd,?_,?_⟩,yv⟩
    ·intro e he;simp only[aZ,bw,or_false]at he;subst he;simpa using ng .i64 2 (pre++[m%1000000000]) _
    ·simp[aV,z0,z1]
    ·have:=o8 1000000000 pre m
     grind
    ·simp only[adl,aex]
     by_cases hlt:pre.length<M
     ·omega
     ·right;have hx0:pre.length=M:=by omega
      have c1:c=1:=zd
      have ea:val 1000000000 ((dO a).take pre.length)=val 1000000000 (dO a):=aX zd;have eb:val 1000000000 ((dO b).take pre.length)=val 1000000000 (dO b):=aX zd;have ea2:val 1000000000 ((dO a).take (pre.length+1))=val 1000000000 (dO a):=aX zd;have eb2:val 1000000000 ((dO b).take (pre.length+1))=val 1000000000 (dO b):=aX zd;have hp:0<1000000000^pre.length:=adR zr;rw[ea,ea2]at hxv;rw[eb,eb2]at hyv
      have hx00:x=0:=by
       rcases af5 x with h|h
       ·exact h
       ·have:=adJ hp h;omega
      grind
   refine abk z1 z7 ?_
   by_cases hlb:pre.length<(dO b).length
   ·have hy:(dO b)[pre.length]<1000000000:=hb.1 _ (cn hlb);have hyv:=bU (B:=1000000000) hlb;have e5:i64.wrap (((c+x:Nat):Int)+((dO b)[pre.length]:Nat))=((c+x+(dO b)[pre.length]:Nat):Int):=by rw[bP zd zd];omega
    refine aaB sm (aai ?_);simp[z1,z6,z7,hlb,e5,-Int.natCast_add];exact g3 _ _ _ hy hyv lw sk pp zp ik
   ·refine aaD sm (aan ?_);simp;exact g3 0 _ _ zd wy lw sk pp (by simp[z6]) ik
  refine abk z0 z7 ?_
  by_cases hla:pre.length<(dO a).length
  ·have hx:(dO a)[pre.length]<1000000000:=ha.1 _ (cn hla);have hxv:=bU (B:=1000000000) hla;have e5:i64.wrap ((c:Int)+((dO a)[pre.length]:Nat))=((c+(dO a)[pre.length]:Nat):Int):=by rw[bP zd zd];omega
   refine aaB (by simp[hla]<;>omega) (aai ?_);simp[z0,z6,z7,hla,e5,-Int.natCast_add];exact g2 _ _ _ hx hxv lw sk pp zp ik
  ·refine aaD (by simp[hla]<;>omega) (aan ?_);simp;exact g2 0 _ _ zd wy lw sk pp (by simp[z6]) ik
 by_cases c1:pre.length<(dO a).length
 ·refine aby c1 (hK4 _ _ ?_);refine aaB xr (aan ?_)
  simp_all
 by_cases c2:pre.length<(dO b).length
 ·refine abG c1 c2 (hK4 _ _ ?_);refine aaB xr (aan ?_)
  simp_all
 by_cases c3:0<c
 ·have c3':(0:Int)<(c:Int):=by omega
  refine AW.l4 c1 c2 c3 c3' (hK4 _ _ ?_);refine aaE (aan ?_)
  simp_all
 obtain rfl:c=0:=zd
 refine abG c1 c2 (hK4 _ _ ?_);refine aax (aaR (hK _ _ (aah ?_)));rw[aeU,ad9,aX zd,aX zd]at h3
 have hc:can 1000000000 pre:=by
  refine Rn h1 ?_;rcases h4 with h4|⟨h4,_,h5⟩
  ·by_cases hM0:M=0
   ·grind
   ·right;have hpm:pre.length=M:=by omega
    rw[h3,hpm]
    by_cases hq:(dO a).length=M
    ·have:=Hv ha (λe=>hM0 yn)
     grind
    ·have hq2:(dO b).length=M:=by omega
     have:=Hv hb (λe=>hM0 yn)
     grind
  ·grind
 have hout:=iT (zr:2<=1000000000) hc h3;refine aal (κ:=0) (cq.tmp (κ:=0) (X:=.c (.aO 0 0 pre.length 1)) (ks:=[0]) rfl zp ?_);rw[<-hout];exact RX (own:=true) (fz:=false) (T:=2) (l:=pre) zp zd
theorem pX(G:List (List DV))(a b:Option (List Nat))(oka:ok 1000000000 (dO a))(okb:ok 1000000000 (dO b))(hal:(dO a).length<=400000000000)(hbl:(dO b).length<=400000000000)(hv:val 1000000000 (dO b)<=val 1000000000 (dO a)):
 aa prog G 148 [nK .i64 a,nK .i64 b] (nK .i64 (some (aL 1000000000 (val 1000000000 (dO a)-val 1000000000 (dO b))))):=by
 have hbs:∀(lv:Key->LB) (h:lv 1=.hole) (a:CV),aB prog 40 1 [0] lv 1 [.c a]=some (.c (.aO 1 0 1 1),[(1,.cells true false 2 [a])],[],True):=λlv h a=>B5 lv 1 h a
 refine aa.ML func148 rfl λ_=>aah ?_;refine aaF λK hK=>?_;simp
 repeat refine az ?_
 apply hK;refine aah ?_;refine aac λK hK=>aah ?_;refine aaw ?_
 refine aaY (λ(p:List Nat×Nat)=>⟨aT [(0,nK .i64 a),(1,nK .i64 b),(5,.c (.aO 0 0 p.1.length 1)),(6,.c (.d (.int .i64 p.2))),(7,.c (.d (.int .i64 p.1.length)))],
  aM (λ_=>.hole) 0 (.cells true false 2 (wK .i64 p.1))⟩) 1
  (λp=>ok 1000000000 p.1/\p.1.length<=(dO a).length/\p.2<=1/\val 1000000000 p.1+val 1000000000 ((dO b).take p.1.length)=val 1000000000 ((dO a).take p.1.length)+1000000000^p.1.length*p.2)
  (λp=>(dO a).length-p.1.length) ([],0) (Le.mk' _ px zp zp) T2 ?_
 rintro⟨pre,c⟩ ⟨h2,h1,h3,h4⟩;simp only at h1 h2 h3 h4;have w7:=bP (n:=(pre.length:Int)+1) zd zd;refine aac λK3 hK3=>aah ?_
 by_cases hlt:pre.length<(dO a).length
 ·have hx:(dO a)[pre.length]<1000000000:=oka _ (cn hlt);have hxv:=bU (B:=1000000000) hlt;obtain⟨x,hxe⟩:∃x,(dO a)[pre.length]=x:=⟨_,rfl⟩
  rw[hxe]at hx hxv;have w1:=bP (n:=(x:Int)-c) zd zd;refine aaB yk (aan (hK3 _ _ (aac λK5 hK5=>aaw (abN hlt hxe w1 ?_))));refine aac λK6 hK6=>?_
  have g3:∀(y:Nat) (fr:Nat->AV) (κ:Nat),y<1000000000->val 1000000000 ((dO b).take (pre.length+1))=val 1000000000 ((dO b).take pre.length)+1000000000^pre.length*y->fr 0=nK .i64 a->fr 1=nK .i64 b->fr 5=.c (.aO 0 0 pre.length 1)->fr 8=.c (.d (.int .i64 ((x:Int)-c-y)))->fr 7=.c (.d (.int .i64 pre.length)) ->
   K6 ⟨fr,aM (λ_=>.hole) 0 (.cells true false 2 (wK .i64 pre))⟩ κ:=by
   intro y fr κ hy hyv z0 z1 z5 z8 z7;apply hK6;refine abP 1 ?_;refine aah ?_;refine aac λK7 hK7=>?_
   have g4:∀(v bb:Nat) (fr:Nat->AV) (κ:Nat),v<1000000000->bb<=1->v+c+y=x+1000000000*bb->fr 0=nK .i64 a->fr 1=nK .i64 b->fr 5=.c (.aO 0 0 pre.length 1)->fr 6=.c (.d (.int .i64 (bb:Int)))->fr 8=.c (.d (.int .i64 (v:Int)))->fr 7=.c (.d (.int .i64 pre.length)) ->
    K7 ⟨fr,aM (λ_=>.hole) 0 (.cells true false 2 (wK .i64 pre))⟩ κ:=by
    intro v bb fr κ hv0 hb0 hs z0 z1 z5 z6 z8 z7;apply hK7;refine abP 1 ?_;refine aai ?_;simp[z5,z8,hbs,cC,keyOf,Eb,-aB]
    repeat refine az ?_
    apply hK5;refine aai ?_;simp[z7,w7];refine⟨pre++[v],bb,Le.keys [(0,2,.cells true false 2 (wK .i64 (pre++[v])))] 19 _ rfl rfl zp zp zp ?_ ?_,⟨dD.2 ⟨h2,b6.2 ⟨hv0,dM _⟩⟩,yv,hb0,?_⟩,yv⟩
    ·intro e he;simp only[aZ,bw,or_false]at he;subst he;simpa using ng .i64 2 (pre++[v]) _
    ·simp[aV,z0,z1,z6]
    ·rw[adl,aex,gU,hxv,hyv,adk]
     grind
   refine aaN z8 ?_
   by_cases hn:(x:Int)-c-y<0
   ·have w2:i64.wrap ((x:Int)-c-y+1000000000)=((x+1000000000-c-y:Nat):Int):=by rw[bP zd zd];omega
    refine aaB yk (abk z8 w2 ?_);refine aai ?_;simp;exact g4 (x+1000000000-c-y) 1 _ _ zd zd zd lw sk pp zp zp ik
   ·have w2:(x:Int)-c-y=((x-c-y:Nat):Int):=by omega
    refine aaD yk (aan ?_);simp;exact g4 (x-c-y) 0 _ _ zd zd zd lw sk pp zp yk ik
  refine aah ?_
  by_cases hlb:pre.length<(dO b).length
  ·have hy:(dO b)[pre.length]<1000000000:=okb _ (cn hlb);have hyv:=bU (B:=1000000000) hlb;have w2:=bP (n:=(x:Int)-c-((dO b)[pre.length]:Nat)) zd zd;refine aaB yk (aai ?_);simp[hlb,w2];exact g3 _ _ _ hy hyv zp zp zp zp zp
  ·refine aaD yk (aan ?_);simp;exact g3 0 _ _ zd wy zp zp zp zp zp
 ·refine aaD yk (aaR ?_);simp;have e2:pre.length=(dO a).length:=by omega
  apply hK;refine aaF λK hK=>?_;simp
  have hlb:val 1000000000 ((dO b).take pre.length)=val 1000000000 (dO b):=by
   by_cases hb:(dO b).length<=pre.length
   ·exact aX hb
   ·have g1:=cV (B:=1000000000) (dO b) pre.length zd;have g2:=iu oka;rw[<-e2]at g2
    have g3:val 1000000000 ((dO b).drop pre.length)=0:=by
     apply ad0;intro hne;have:1000000000^pre.length*1<=1000000000^pre.length*val 1000000000 ((dO b).drop pre.length):=adI _ zd;omega
    grind
  have hva:val 1000000000 ((dO a).take pre.length)=val 1000000000 (dO a):=aX zd
  have hc:c=0:=by
   apply ad0;intro hne;have:c=1:=zd
   subst this;have:=iu h2;rw[hlb,hva]at h4;omega
  subst hc
  have hout:fc pre=aL 1000000000 (val 1000000000 (dO a)-val 1000000000 (dO b)):=by
   refine fQ zr h2 ?_;rw[hlb,hva]at h4;omega
  refine eL.sY (k:=.i64) (l:=pre) 0 1 0 wr zd (kV _ _ zd) zp zp zp ?_;simp;apply hK;exact aaq (aD.rt rfl 1 te)
theorem uV(G:List (List DV))(a b:Option (List Nat))(oka:ok 1000000000 (dO a))(okb:ok 1000000000 (dO b))(ha:(dO a).length<=400000000000)(hb:(dO b).length<=400000000000):
 aa prog G 144 [nK .i64 a,nK .i64 b] (nK .i64 (some (aL 1000000000 (val 1000000000 (dO a)*val 1000000000 (dO b))))):=by
 refine aa.en func144 rfl λ_=>aah ?_;refine aac λK hK=>?_;have e0:i64.wrap (((dO a).length:Int)+(dO b).length)=(((dO a).length+(dO b).length:Nat):Int):=by rw[bP zd zd];omega
 refine aai ?_;simp[e0,-Int.natCast_add]
 repeat refine az ?_
 apply hK;refine aac λK hK=>aah ?_;refine aaw ?_
 refine aaY (λ(p:Nat×List Nat)=>⟨aT [(0,nK .i64 a),(1,nK .i64 b),(5,.c (.aO 0 0 ((dO a).length+(dO b).length) 1)),(6,.c (.d (.int .i64 p.1)))],
  aM (λ_=>.hole) 0 (.cells true false 2 (wK .i64 (p.2++List.replicate ((dO a).length-p.1) 0)))⟩) 1
  (λp=>p.1<=(dO a).length/\p.2.length=p.1+(dO b).length/\ok 1000000000 p.2/\val 1000000000 p.2=val 1000000000 ((dO a).take p.1)*val 1000000000 (dO b))
  (λp=>(dO a).length-p.1) (0,List.replicate (dO b).length 0) (Le.mk' _ (by simp[jj,afE]) zp zp) ⟨zp,zp,vH zd _,by simp[sN]⟩ ?_
 rintro⟨i,lo⟩ ⟨h1,h2,h3,h4⟩;simp only at h1 h2 h3 h4;refine aac λK3 hK3=>aah ?_
 by_cases hlt:i<(dO a).length
 ·refine aaB yk (aan (hK3 _ _ (aac λK3 hK3=>aaw ?_)));have hx:(dO a)[i]<1000000000:=oka _ (cn hlt);obtain⟨x,hxe⟩:∃x,(dO a)[i]=x:=⟨_,rfl⟩
  rw[hxe]at hx;refine aah ?_;refine aac λK4 hK4=>aah ?_;refine aaw ?_
  refine aaY (λ(p:Nat×List Nat×Nat)=>⟨aT [(0,nK .i64 a),(1,nK .i64 b),(5,.c (.aO 0 0 ((dO a).length+(dO b).length) 1)),(6,.c (.d (.int .i64 i))),(7,.c (.d (.int .i64 p.2.2))),(8,.c (.d (.int .i64 p.1)))],
   aM (λ_=>.hole) 0 (.cells true false 2 (wK .i64 (p.2.1++List.replicate ((dO a).length-i) 0)))⟩) 2
   (λp=>p.1<=(dO b).length/\p.2.1.length=i+(dO b).length/\ok 1000000000 p.2.1/\p.2.2<1000000000/\val 1000000000 p.2.1+1000000000^(i+p.1)*p.2.2=val 1000000000 ((dO a).take i)*val 1000000000 (dO b)+1000000000^i*(x*val 1000000000 ((dO b).take p.1)))
   (λp=>(dO b).length-p.1) (0,lo,0) (Le.mk' _ zp zp zp) ⟨zp,h2,h3,zp,by simp[h4]⟩ ?_
  rintro⟨j,lo2,c⟩ ⟨g1,g2,g3,g4,g5⟩;simp only at g1 g2 g3 g4 g5;refine aac λK6 hK6=>aah ?_
  by_cases hlj:j<(dO b).length
  ·refine aaB yk (aan (hK6 _ _ (aac λK8 hK8=>aaw (aac λK9 hK9=>?_))));have hy:(dO b)[j]<1000000000:=okb _ (cn hlj);have hij:i+j<lo2.length:=by omega
   have hij2:i+j<(lo2++List.replicate ((dO a).length-i) 0).length:=yv
   have hij3:i+j<lo2.length+((dO a).length-i):=zd
   have ho:lo2[i+j]<1000000000:=g3 _ (cn hij);have ho2:(lo2++List.replicate ((dO a).length-i) 0)[i+j]=lo2[i+j]:=aeF hij;have hb2:val 1000000000 ((dO b).take (j+1))=val 1000000000 ((dO b).take j)+1000000000^j*(dO b)[j]:=bU hlj;have hset:=yW (B:=1000000000) hij;generalize hye:(dO b)[j]=y at hy hb2;generalize hoe:lo2[i+j]=o at ho ho2 hset;have hxy:x*y<=999999999*999999999:=ae3 zd zd;have e1:i64.wrap ((i:Int)+j)=((i+j:Nat):Int):=by rw[bP zd zd];omega
   have e4:i64.wrap ((x:Int)*y)=((x*y:Nat):Int):=by
    rw[<-afH];generalize x*y=p at hxy;exact bP zd zd
   have e5:i64.wrap ((c:Int)+o)=((c+o:Nat):Int):=by rw[bP zd zd];omega
   have e6:i64.wrap (((c+o:Nat):Int)+((x*y:Nat):Int))=((c+(x*y+o):Nat):Int):=by
    generalize x*y=p at hxy;rw[bP zd zd];omega
   refine abT mixed zt rfl rfl ?_;simp[e1,e4,e5,e6,hij3,ho2,hxe,hye,hlt,hlj,-Int.natCast_add,-Int.natCast_mul]
   repeat refine az ?_
   apply hK9;have hbd:c+(x*y+o)<1000000000000000000:=by generalize x*y=p at hxy;omega
   generalize hm:c+(x*y+o)=m at hbd;have f1:((m:Nat):Int).tmod 1000000000=((m%1000000000:Nat):Int):=xA _ _
   have f2:ai (wK .i64 (lo2++List.replicate ((dO a).length-i) 0)) (i+j) [CV.d (.int .i64 ((m%1000000000:Nat):Int))]=wK .i64 (lo2.set (i+j) (m%1000000000)++List.replicate ((dO a).length-i) 0):=by
    rw[iU _ hij2,agz _ _ hij]
   have f3:((m:Nat):Int).tdiv 1000000000=((m/1000000000:Nat):Int):=nE _ _;have f3':=bP (n:=((m/1000000000:Nat):Int)) zd zd;have f4:(i+j:Int)<(dO a).length+(dO b).length:=zd
   refine aaF λK9 hK9=>?_;simp[e1,f1,f2,-Int.natCast_add,-Int.natCast_emod]
   repeat refine az ?_
   apply hK9;refine aai ?_;simp[f3,f3',-Int.natCast_ediv];apply hK8;have f5:=bP (n:=(j:Int)+1) zd zd;refine aai ?_;simp[f5];refine⟨j+1,lo2.set (i+j) (m%1000000000),m/1000000000,Le.mk' _ zp zp zp,⟨zd,by simp[g2],I4 g3 _ (adx _ zd),?_,?_⟩,zd⟩
   ·omega
   ·rw[hb2,<-hm,<-afk i j 1];exact G5 g5 yn
  ·refine aaD yk (aaR (hK4 _ _ ?_));have ej:j=(dO b).length:=by omega
   subst ej;rw[aX (bf _)]at g5;have e1:i64.wrap ((i:Int)+(dO b).length)=((i+(dO b).length:Nat):Int):=by rw[bP zd zd];omega
   have hz:(dO a).length-i=((dO a).length-i-1)+1:=zd
   have f2:ai (wK .i64 (lo2++List.replicate ((dO a).length-i) 0)) (i+(dO b).length) [CV.d (.int .i64 (c:Int))]=wK .i64 (lo2++[c]++List.replicate ((dO a).length-i-1) 0):=by
    rw[iU _ yv,hz,<-g2,mM];simp
   have f6:i+(dO b).length<lo2.length+((dO a).length-i):=zd
   refine aai ?_;simp[e1,f2,-Int.natCast_add]
   repeat refine az ?_
   apply hK3;have f5:=bP (n:=(i:Int)+1) zd zd;refine aai ?_;simp[f5];have f7:(dO a).length-(i+1)=(dO a).length-i-1:=zd
   refine⟨i+1,lo2++[c],Le.mk' _ (by simp[f7]) zp zp,⟨zd,yv,dD.2 ⟨g3,b6.2 ⟨g4,dM _⟩⟩,?_⟩,zd⟩;rw[gU,g2,g5,bU hlt,hxe,adn,adQ]
 ·refine aaD yk (aaR (hK _ _ ?_));have e2:i=(dO a).length:=by omega
  subst e2;refine aaF λK hK=>?_;simp;rw[<-h2]
  have hout:fc lo=aL 1000000000 (val 1000000000 (dO a)*val 1000000000 (dO b)):=by
   refine fQ zr h3 ?_;rw[h4,aX (bf _)]
  refine eL.sY (k:=.i64) (l:=lo) 0 1 0 wr zd (kV _ _ zd) zp zp zp ?_;simp;apply hK;exact aaq (aD.rt rfl 1 te)
theorem Mh(G:List (List DV))(a:Option (List Nat))(oka:ok 1000000000 (dO a))(ha:(dO a).length<=400000000000):
 aa prog G 243 [nK .i64 a] (nK .i64 (some (aL 1000000000 (val 1000000000 (dO a)/2)))):=by
 refine aa.en func243 rfl λ_=>aah ?_;refine aaF λK hK=>?_;simp
 repeat refine az ?_
 apply hK;refine aah ?_;have w0:=bP (n:=((dO a).length:Int)-1) zd zd;refine aac λK hK=>aaN w0 ?_;refine aaw ?_
 refine aaY (λ(p:Nat×List Nat×Nat)=>⟨aT [(0,nK .i64 a),(3,.c (.aO 0 0 (dO a).length 1)),(4,.c (.d (.int .i64 p.2.2))),(5,.c (.d (.int .i64 ((p.1:Int)-1))))],
  aM (λ_=>.hole) 0 (.cells true false 2 (wK .i64 (List.replicate p.1 0++p.2.1)))⟩) 1
  (λp=>p.1+p.2.1.length=(dO a).length/\ok 1000000000 p.2.1/\p.2.2<=1/\2*val 1000000000 p.2.1+p.2.2=val 1000000000 ((dO a).drop p.1))
  (λp=>p.1) ((dO a).length,[],0) (Le.mk' _ lr zp zp) ⟨zp,dM _,zp,zp⟩ ?_
 rintro⟨k,qs,c⟩ ⟨h1,h2,h3,h4⟩;simp only at h1 h2 h3 h4;refine aac λK3 hK3=>aah ?_
 cases k with
 |zero=>
  refine aax (aaR (hK _ _ (aac λK hK=>?_)));have hl:qs.length=(dO a).length:=zd
  refine aai ?_;simp;rw[<-hl]
  have hout:fc qs=aL 1000000000 (val 1000000000 (dO a)/2):=by
   refine fQ zr h2 ?_;rw[ady]at h4;omega
  refine eL.sY (k:=.i64) (l:=qs) 0 1 0 wr zd (kV _ _ zd) zp zp zp ?_;simp;apply hK;exact aaq (aD.rt rfl 1 te)
 |succ k=>
  have hk:k<(dO a).length:=zd
  have e2:((k+1:Nat):Int)-1=k:=zd
  simp only[e2];have hx:(dO a)[k]<1000000000:=oka _ (cn hk);have hxv:=eF (B:=1000000000) hk;obtain⟨x,hxe⟩:∃x,(dO a)[k]=x:=⟨_,rfl⟩
  rw[hxe]at hx hxv;obtain⟨m,hm⟩:∃m,1000000000*c+x=m:=⟨_,rfl⟩
  have w1:i64.wrap ((c:Int)*1000000000)=(m:Int)-x:=by rw[bP zd zd];omega
  have w2:i64.wrap ((m:Int)-x+x)=(m:Int):=by rw[bP zd zd];omega
  refine aaE (aan (hK3 _ _ (aac λK5 hK5=>aaw (aaF λK6 hK6=>?_))));simp[hk,hxe,w1,w2,-Int.sub_add_cancel,-Int.natCast_add,-Int.natCast_mul];apply hK6;clear w1 w2;have f3:((m:Nat):Int).tdiv 2=((m/2:Nat):Int):=nE _ 2;have f3':=bP (n:=((m/2:Nat):Int)) zd zd;have f4:((m:Nat):Int).tmod 2=((m%2:Nat):Int):=xA _ 2
  have f5:ai (wK .i64 (List.replicate (k+1) 0++qs)) k [CV.d (.int .i64 ((m/2:Nat):Int))]=wK .i64 (List.replicate k 0++((m/2)::qs)):=by
   rw[iU _ yv,sF]
  have hk2:(k:Int)<((dO a).length:Int):=zd
  have hk3:k<k+1+qs.length:=zd
  refine aaF λK6 hK6=>?_;simp[f3,f3',f5,hk2,-Int.natCast_ediv];apply hK6;refine aai ?_;simp[f4,-Int.natCast_emod];apply hK5;have w3:=bP (n:=(k:Int)-1) zd zd;refine aai ?_;simp[w3];refine⟨k,(m/2)::qs,m%2,Le.mk' _ zp zp zp,⟨yv,b6.2 ⟨zd,h2⟩,zd,?_⟩,zd⟩;rw[hxv,cB];omega
theorem Sn(k:IntKind)(l:List Nat):(dK k l).flatten.map CV.d=wK k l:=by
 have:(dK k l).flatten=l.map λ(x:Nat)=>DV.int k (x:Int):=by
  unfold dK;induction l with
  |nil=>rfl
  |cons a l ih=>grind
 rw[this,adT];rfl
theorem Vs(o:Option (List Nat)):cC lv 1 (nK k o)=some ((dO o).length,wK k (dO o)):=by
 cases o with
 |none=>rfl
 |some l=>
  have h1:(dK k l).all (λe=>e.length==1)=true:=by rw[adG];intro e he;obtain⟨x,_,rfl⟩:=List.mem_map.1 he;rfl
  show cC lv 1 (.c (.d (.sl (dK k l))))=_;simp only[cC,h1,if_true,Sn];simp[dK]
theorem QY(k:IntKind):nK k none=.c (.d .nilsl):=rfl
theorem Rf(k:IntKind)(x:Nat)(l:List Nat):CV.d (.int k (x:Int))::wK k l=wK k (x::l):=rfl
theorem ag.JI{K:AV->List (Key×LB)->List Key->Nat->Prop}(κ' kh κb:Key){x0 x:AV}(hk:lv κb=.cells true false T (wK k l))(hl:l.length<=1000)
 (hc:aa c.P c.G f [x0,nK k (some l)] x) (hx0:x0.pure=true) (hx:x.pure=true) (hh:lv kh=.hole) (hK:K x [(κb,.cells true true T (wK k l))] [kh,κb] κ'):ag c f [x0,.c (.aO κb 0 l.length 1)] lv K:=by
 have e:b8 lv (hJ [(κb,T,wK k l)]) κb=.cells true true T (wK k l):=by simp[hJ,b8,aM]
 refine ag.ac5 (us:=[x0,nK k (some l)]) κ' kh [(κb,T,wK k l)] [kh,κb] hc hx yn zp hh rfl (λi p' q'=>?_) (λa ha j hj=>?_) zp hK
 ·have hi:i=0\/i=1:=by simp at p';omega
  rcases hi with rfl|rfl
  ·grind
  ·exact .inr ⟨[κb],Dl e zd,zp⟩
 ·simp only[aZ,bw,or_false]at ha;rcases ha with rfl|rfl
  ·rw[dX hx0]at hj;cases hj
  ·left;simp only[ql,jB,e,aZ]at hj;rcases hj with rfl|hj
   ·simp
   ·simp only[aeO]at hj;obtain⟨y,hy,hj⟩:=hj;simp only[wK,aeA]at hy;obtain⟨z,_,rfl⟩:=hy
    cases hj
theorem tY(o o':Option (List Nat)):(AV.tup [nK .i64 o,nK .i64 o']).pure=true:=by
 cases o<;>cases o'<;>rfl
theorem Ym(hB:0<B)(h:ok B l)(h1:1<=n)(h2:n<=l.length)(h3:l.length<=n+1):val B l/B^(n-1)=l.getD (n-1) 0+B*l.getD n 0:=by
 have e1:=cV (B:=B) l (n-1) zd;have e2:=eF (B:=B) (l:=l) (i:=n-1) zd;rw[show n-1+1=n by omega]at e2
 have e3:val B (l.drop n)=l.getD n 0:=by
  by_cases h4:n<l.length
  ·rw[eF h4,ig zd,aeU,ad9,ab6,fy h4];rfl
  ·rw[ig zd,ab6,agr zd];rfl
 have e4:l.getD (n-1) 0=l[n-1]' zd:=by rw[ab6,fy zd];rfl
 have e5:=iu (n7 h (n-1));rw[acM,aea zd]at e5;rw[e1,e2,e3,e4];generalize l[n-1]+B*l.getD n 0=q;exact Nat.div_eq_of_lt_le yn yn
theorem Y4(h1:X*P<=V)(h2:vb<(t+1)*P)(hb:0<vb):X/(t+1)<=V/vb:=by
 rw[afY hb]
 calc X/(t+1)*vb<=X/(t+1)*((t+1)*P):=adI _ (aeV h2)
  _=(X/(t+1)*(t+1))*P:=yn
  _<=X*P:=adh _ (afp _ _)
  _<=V:=h1
theorem WY(h1:V<(X+1)*P)(h2:t*P<=vb)(ht:0<t):V/vb<=(X+1)/t:=by
 have hP:0<P:=by
  rcases af5 P with h|h
  ·subst h;omega
  ·exact h
 have hb:0<vb:=adA (adJ ht hP) h2;rw[afY ht];have h3:V/vb*(t*P)<=V:=HQ (adI _ h2) (afp _ _);rw[<-adQ]at h3;have h4:=agI (aeR h3 h1);omega
theorem RV{k R qs:Nat}(hV:x+B*R=V)(h:vb*qs+R=k):vb*(V/vb+B*qs)+V%vb=x+B*k:=by
 have h1:=afI V vb
 grind
def Hf(a b:Option (List Nat)):Option (List Nat):=if dO a=[]then none else some (aL 1000000000 (val 1000000000 (dO a)%val 1000000000 (dO b)))
theorem XK:aL 1000000000 0=[]:=(cL zr).2 rfl
theorem pe(G:List (List DV))(a b:Option (List Nat))(oka:ok 1000000000 (dO a))(hb:can 1000000000 (dO b))(hb0:dO b≠[])(hal:(dO a).length<=100000000000)(hbl:(dO b).length<=100000000000):
 aa prog G 196 [nK .i64 a,nK .i64 b] (.tup [nK .i64 (some (aL 1000000000 (val 1000000000 (dO a)/val 1000000000 (dO b)))),nK .i64 (Hf a b)]):=by
 have hbs:∀(lv:Key->LB) (h:lv 1=.hole) (a:CV),aB prog 40 1 [0] lv 1 [.c a]=some (.c (.aO 1 0 1 1),[(1,.cells true false 2 [a])],[],True):=λlv h a=>B5 lv 1 h a
 obtain⟨n,hn⟩:∃n,(dO b).length=n:=⟨_,rfl⟩
 obtain⟨vb,hvb⟩:∃vb,val 1000000000 (dO b)=vb:=⟨_,rfl⟩
 have hn1:1<=n:=by rw[<-hn];exact List.length_pos_iff.2 hb0
 have hvp:0<vb:=by rw[<-hvb];exact jC hb hb0
 have hdb:dO b=aL 1000000000 vb:=iT zr hb hvb;have hvl:vb<1000000000^n:=by rw[<-hvb,<-hn];exact iu hb.1
 obtain⟨t,ht⟩:∃t,(dO b)[n-1]?=some t:=⟨_,fy zd⟩
 have ht1:(dO b)[n-1]' zd=t:=(List.getElem?_eq_some_iff.1 ht).2;have htB:t<1000000000:=by rw[<-ht1];exact hb.1 _ (cn _)
 have ht0:0<t:=by
  have:=hb.2 t yn;omega
 have htop:=Ym (B:=1000000000) zr hb.1 hn1 zd zd;rw[hvb,ab6,ht,ab6,agr zd]at htop;simp only[aga,Option.getD_none,aeU,ad9]at htop;have hPp:0<1000000000^(n-1):=adR zr;have hb1:t*1000000000^(n-1)<=vb:=by rw[<-htop];exact afp _ _
 have hb2:vb<(t+1)*1000000000^(n-1):=by rw[<-htop];exact Nat.lt_mul_of_div_lt (Nat.lt_succ_self _) hPp
 have cmpG:∀V,aa prog G 147 [(nK .i64 (some (aL 1000000000 (V)))),nK .i64 b] (.c (.d (.int .i64 (eO V vb)))):=λV=>by
  have hcmp:=pz G (a:=some (aL 1000000000 V)) (b:=b) (bO zr V) hb;simp only[aS,bE (zr:2<=1000000000),hvb]at hcmp;omega
 have cmG:∀W V,aa prog G 147 [(nK .i64 (some (aL 1000000000 (W)))),(nK .i64 (some (aL 1000000000 (V))))] (.c (.d (.int .i64 (eO W V)))):=λW V=>by
  have hcm:=pz G (a:=some (aL 1000000000 W)) (b:=some (aL 1000000000 V)) (bO zr _) (bO zr _);simp only[aS,bE (zr:2<=1000000000)]at hcm;exact hcm
 have prG:∀mi,mi<1000000000->aa prog G 144 [nK .i64 b,nK .i64 (some [mi])] (nK .i64 (some (aL 1000000000 (vb*mi)))):=λmi hmi=>by
  have hpr:=uV G b (some [mi]) hb.1 (b6.2 ⟨hmi,dM _⟩) zd zp
  simp_all
 have dfG:∀V W,(aL 1000000000 V).length<=400000000000->W<=V->aa prog G 148 [(nK .i64 (some (aL 1000000000 (V)))),(nK .i64 (some (aL 1000000000 (W))))] (nK .i64 (some (aL 1000000000 (V-W)))):=λV W hl hle=>by
  have hdl:(aL 1000000000 W).length<=(aL 1000000000 V).length:=eE zr hle;have hdf:=pX G (some (aL 1000000000 V)) (some (aL 1000000000 W)) (bO zr _).1 (bO zr _).1 yv yv (by simp only[aS,bE (zr:2<=1000000000)];exact hle);simp only[aS,bE (zr:2<=1000000000)]at hdf;exact hdf
 refine aa.ML func196 rfl λ_=>aah ?_;refine aaF λK hK=>?_;simp
 repeat refine az ?_
 apply hK;refine aaN hn ?_;refine aah ?_;have w0:=bP (n:=((dO a).length:Int)-1) zd zd;refine aac λK hK=>aaN w0 ?_;refine aaw ?_
 refine aaY (λ(p:Nat×List Nat×Nat)=>⟨aT [(0,nK .i64 a),(1,nK .i64 b),(6,.c (.aO 0 0 (dO a).length 1)),(7,.c (.d (.int .i64 n))),(8,nK .i64 (if p.1=(dO a).length then none else some (aL 1000000000 p.2.2))),(9,.c (.d (.int .i64 ((p.1:Int)-1))))],
  aM (λ_=>.hole) 0 (.cells true false 2 (wK .i64 (List.replicate p.1 0++p.2.1)))⟩) 1
  (λp=>p.1+p.2.1.length=(dO a).length/\ok 1000000000 p.2.1/\p.2.2<vb/\(p.1=(dO a).length->p.2.2=0)/\vb*val 1000000000 p.2.1+p.2.2=val 1000000000 ((dO a).drop p.1))
  (λp=>p.1) ((dO a).length,[],0) (Le.mk' _ lr zp (by simp[QY])) ⟨zp,dM _,hvp,λ_=>rfl,zp⟩ ?_
 rintro⟨k,qs,R⟩ ⟨h1,h2,h3,h5,h4⟩;simp only at h1 h2 h3 h4 h5;obtain⟨ro,hro⟩:∃ro,(if k=(dO a).length then none else some (aL 1000000000 R))=ro:=⟨_,rfl⟩
 have hdr:dO ro=aL 1000000000 R:=by
  rw[<-hro];split
  ·rename_i h;rw[h5 h,XK];rfl
  ·rfl
 simp only[hro];refine aac λK3 hK3=>aah ?_
 cases k with
 |zero=>
  refine aax (aaR (hK _ _ (aac λK hK=>?_)));have hl:qs.length=(dO a).length:=zd
  rw[ady]at h4
  have hq:val 1000000000 qs=val 1000000000 (dO a)/vb:=by
   rw[<-h4,Nat.mul_add_div hvp,ae9 h3,ad9]
  have hr:R=val 1000000000 (dO a)%vb:=by
   rw[<-h4,Nat.mul_add_mod,ad4 h3]
  have hout:fc qs=aL 1000000000 (val 1000000000 (dO a)/vb):=fQ zr h2 hq
  have hrem:Hf a b=ro:=by
   unfold Hf;rw[<-hro,hvb,<-hr]
   by_cases h:dO a=[]
   ·grind
   ·rw[if_neg h,if_neg (λe=>h (afy e.symm))]
  refine aai ?_;simp;rw[<-hl];refine eL.sY (T:=2) (k:=.i64) (l:=qs) 1 9 0 zp zd (kV _ _ zd) zp zp zp ?_;simp;apply hK;exact aal (κ:=0) (aD.YU (κ:=0) (t:=4) (u:=5) rfl 9 yk (by simp[hrem]) zp zp zp zp zp zr)
 |succ k=>
  have hk:k<(dO a).length:=zd
  have e2:((k+1:Nat):Int)-1=k:=zd
  simp only[e2];have hx:(dO a)[k]<1000000000:=oka _ (cn hk);have hxv:=eF (B:=1000000000) hk;obtain⟨x,hxe⟩:∃x,(dO a)[k]=x:=⟨_,rfl⟩
  rw[hxe]at hx hxv;obtain⟨V,hV⟩:∃V,x+1000000000*R=V:=⟨_,rfl⟩
  have hRV:V<1000000000*vb:=by
   have:1000000000*(R+1)<=1000000000*vb:=adI _ h3;omega
  have hRl:(aL 1000000000 R).length<=n:=by rw[<-hn,hdb];exact eE zr (aeV h3)
  have htr:fc (x::aL 1000000000 R)=aL 1000000000 V:=fQ zr (b6.2 ⟨hx,(bO zr R).1⟩) (by rw[cB,bE zr,hV]);have hsr:∀lv:Key->LB,cC lv 1 (nK .i64 ro)=some ((aL 1000000000 R).length,wK .i64 (aL 1000000000 R)):=λlv=>by rw[Vs,hdr]
  have hcmp:=cmpG V;have w9:=bP (n:=(k:Int)-1) zd zd;have hkn:¬k=(dO a).length:=zd
  have hnext:vb*val 1000000000 ((V/vb)::qs)+V%vb=val 1000000000 ((dO a).drop k):=by rw[hxv,cB];exact RV hV h4
  have hqB:V/vb<1000000000:=by rw[afn hvp];exact hRV
  refine aaE (aan (hK3 _ _ (aac λK5 hK5=>aaw (aaF λK6 hK6=>?_))));simp[hk,hxe,hbs,hsr,keyOf,Rf,-aB]
  repeat refine az ?_
  have hc1:(x::aL 1000000000 R).length=1+(aL 1000000000 R).length:=yv
  rw[<-hc1];refine eL.sY (k:=.i64) (T:=2) (l:=x::aL 1000000000 R) 3 9 2 zp yv (kV _ _ yv) zp zp zp ?_;simp[htr];apply hK6;refine aac λK6 hK6=>aac λK7 hK7=>?_
  by_cases hlt:V<vb
  ·have hc:=lq hlt;have hq0:V/vb=0:=ae9 hlt;rw[hq0,ad4 hlt]at hnext;refine abI 3 hcmp hc (hK7 _ _ ?_);refine aaE (aaR (hK5 _ _ (aai ?_)));simp[w9];refine⟨k,0::qs,V,Le.keys [(0,0,.cells true false 2 (wK .i64 (List.replicate k 0++0::qs)))] 19 _ rfl rfl zp zp zp ?_ ?_,⟨yv,b6.2 ⟨zd,h2⟩,hlt,λh=>absurd h hkn,hnext⟩,zd⟩
   ·intro e he;simp only[aZ,bw,or_false]at he;subst he;have e:List.replicate k 0++0::qs=List.replicate (k+1) 0++qs:=by rw[agA,acR];rfl
    rw[e];simpa using ng .i64 2 (List.replicate (k+1) 0++qs) _
   ·simp[aV,hkn]
  ·have hge:vb<=V:=by omega
   have hlen1:n<=(aL 1000000000 V).length:=by rw[<-hn,hdb];exact eE zr hge
   have hlen2:(aL 1000000000 V).length<=n+1:=by
    refine cE zr ?_;rw[adk,aed];exact adA hRV (adI _ (aeV hvl))
   have hX:=Ym (B:=1000000000) zr (bO zr V).1 hn1 hlen1 hlen2;rw[bE zr]at hX;obtain⟨X,hXe⟩:∃X,V/1000000000^(n-1)=X:=⟨_,rfl⟩
   rw[hXe]at hX;have hX1:X*1000000000^(n-1)<=V:=by rw[<-hXe];exact afp _ _
   have hX2:V<(X+1)*1000000000^(n-1):=by rw[<-hXe];exact Nat.lt_mul_of_div_lt (Nat.lt_succ_self _) hPp
   have hlo:=Y4 hX1 hb2 hvp;have hhi:=WY hX2 hb1 ht0;obtain⟨Q,hQ⟩:∃Q,V/vb=Q:=⟨_,rfl⟩
   rw[hQ]at hlo hhi hnext hqB
   have hcne:¬eO V vb<0:=by
    by_cases e:V=vb
    ·rw[o5 e];omega
    ·rw[mz zd];omega
   have hokV:=(bO (B:=1000000000) zr V).1;obtain⟨r1,hr1⟩:∃r1,(aL 1000000000 V)[n-1]' zd=r1:=⟨_,rfl⟩
   have hr1B:r1<1000000000:=by rw[<-hr1];exact hokV _ (cn _)
   have hr1g:(aL 1000000000 V).getD (n-1) 0=r1:=by rw[ab6,fy zd,hr1];rfl
   rw[hr1g]at hX;have wn:i64.wrap ((n:Int)-1)=((n-1:Nat):Int):=by rw[bP zd zd];omega
   have hix1:∀lv,aq prog 40 lv (nK .i64 (some (aL 1000000000 V))) (.c (.d (.int .i64 ((n-1:Nat):Int))))=some (.c (.d (.ptr [DV.int .i64 (r1:Int)])),[],[],True):=λlv=>by
    have:=jh (P:=prog) (T:=40) (lv:=lv) (k:=.i64) (k':=.i64) (o:=some (aL 1000000000 V)) (i:=n-1) zp yv;rw[this];simp only[aS,hr1]
   have hixb:∀lv,aq prog 40 lv (nK .i64 b) (.c (.d (.int .i64 ((n-1:Nat):Int))))=some (.c (.d (.ptr [DV.int .i64 (t:Int)])),[],[],True):=λlv=>by
    have:=jh (P:=prog) (T:=40) (lv:=lv) (k:=.i64) (k':=.i64) (o:=b) (i:=n-1) zp zd
    grind
   refine abI 3 hcmp hcne (hK7 _ _ ?_);refine aaD xr (aan (hK6 _ _ (aaF λK6 hK6=>?_)));simp[wn,hix1,-jh];apply hK6;refine aac λK6 hK6=>?_
   have g1:∀(fr:Nat->AV) (κ:Nat),fr 0=nK .i64 a->fr 1=nK .i64 b->fr 6=.c (.aO 0 0 (dO a).length 1)->fr 7=.c (.d (.int .i64 n))->fr 8=nK .i64 (some (aL 1000000000 V))->fr 9=.c (.d (.int .i64 (k:Int)))->fr 10=.c (.d (.int .i64 (X:Int)))->∀lv:Key->LB,lv 0=.cells true false 2 (wK .i64 (List.replicate (k+1) 0++qs))->lv 19=.hole ->
    K6 ⟨fr,lv⟩ κ:=by
    intro fr κ z0 z1 z6 z7 z8 z9 z10 lv l0 l19
    have hX3:X<=1000000000000000000:=by
     have:V/1000000000^(n-1)<1000000000*1000000000:=by
      rw[afn hPp]
      have e:1000000000*1000000000*1000000000^(n-1)=1000000000*1000000000^n:=by
       obtain⟨n',rfl⟩:∃n',n=n'+1:=⟨n-1,zd⟩
       rw[afZ,adk,aed (1000000000^n') 1000000000,adQ]
      rw[e];exact adA hRV (adI _ (aeV hvl))
     omega
    apply hK6;refine aac λK7 hK7=>?_;have f1:=bP (n:=(t:Int)+1) zd zd;have f2:=bP (n:=(X:Int)+1) zd zd
    have f3:(X:Int).tdiv ((t:Int)+1)=((X/(t+1):Nat):Int):=by
     have:=nE X (t+1);rwa[ago,Int.natCast_one]at this
    have f4:((X:Int)+1).tdiv (t:Int)=(((X+1)/t:Nat):Int):=by
     have:=nE (X+1) t;rwa[ago,Int.natCast_one]at this
    have hle1:X/(t+1)<=X:=aeB _ _;have hle2:(X+1)/t<=X+1:=aeB _ _;obtain⟨D1,hD1⟩:∃D,X/(t+1)=D:=⟨_,rfl⟩
    obtain⟨D2,hD2⟩:∃D,(X+1)/t=D:=⟨_,rfl⟩
    rw[hD1]at hlo f3 hle1;rw[hD2]at hhi f4 hle2;have f5:=bP (n:=(D1:Int)) zd zd;have f6:=bP (n:=(D2:Int)) zd zd;have t1:¬(t:Int)+1=0:=zd
    have t2:¬(t:Int)=0:=zd
    have t3:¬t=0:=zd
    have hmin:(if (999999999:Int)<(D2:Int)then(999999999:Int)else(D2:Int))=((min D2 999999999:Nat):Int):=by split<;>omega
    have hmin':(if 999999999<D2 then(999999999:Int)else(D2:Int))=((min D2 999999999:Nat):Int):=by split<;>omega
    have hhi2:Q<=min D2 999999999:=zd
    have hhB:min D2 999999999<=999999999:=zd
    obtain⟨H,hH⟩:∃H,min D2 999999999=H:=⟨_,rfl⟩
    rw[hH]at hmin hmin' hhi2 hhB;refine abT mixed zt rfl rfl ?_;simp[eN,z1,z7,z10,wn,hixb,f1,f2,f3,f4,f5,f6,t1,t3,hmin,-jh];apply hK7;refine aac λK7 hK7=>aaw ?_
    refine aaY (λ(p:Nat×Nat)=>⟨aT [(0,nK .i64 a),(1,nK .i64 b),(6,.c (.aO 0 0 (dO a).length 1)),(7,.c (.d (.int .i64 n))),(8,nK .i64 (some (aL 1000000000 V))),(9,.c (.d (.int .i64 (k:Int)))),(11,.c (.d (.int .i64 (p.1:Int)))),(12,.c (.d (.int .i64 (p.2:Int))))],
     aM (λ_=>.hole) 0 (.cells true false 2 (wK .i64 (List.replicate (k+1) 0++qs)))⟩) 1
     (λp=>p.1<=Q/\Q<=p.2/\p.2<=999999999) (λp=>p.2-p.1) (D1,H) (Le.keys [(0,0,.cells true false 2 (wK .i64 (List.replicate (k+1) 0++qs)))] 19 _ rfl rfl zp zp (by simp[l19]) ?_ ?_) ⟨hlo,hhi2,hhB⟩ ?_
    ·intro e he;simp only[aZ,bw,or_false]at he;subst he;simpa[l0]using ng .i64 2 (List.replicate (k+1) 0++qs) _
    ·simp[aV,z0,z1,z6,z7,z8,z9]
    rintro⟨lo,hi⟩ ⟨q1,q2,q3⟩;simp only at q1 q2 q3;refine aac λK8 hK8=>aah ?_
    by_cases hlh:lo<hi
    ·have u1:i64.wrap ((lo:Int)+hi)=((lo+hi:Nat):Int):=by rw[bP zd zd];omega
     have u2:i64.wrap (((lo+hi:Nat):Int)+1)=((lo+hi+1:Nat):Int):=by rw[bP zd zd];omega
     have u3:(((lo+hi+1:Nat):Int)).tdiv 2=(((lo+hi+1)/2:Nat):Int):=nE _ 2;obtain⟨mi,hmi⟩:∃mi,(lo+hi+1)/2=mi:=⟨_,rfl⟩
     rw[hmi]at u3;have u4:=bP (n:=(mi:Int)) zd zd;have u5:=bP (n:=(mi:Int)-1) zd zd;have hpr:=prG mi zd;have hcm:=cmG (vb*mi) V;refine aaB (by simp[hlh]<;>omega) (aan (hK8 _ _ (aaw (aaF λK9 hK9=>?_))));simp[u1,u2,u3,u4,-Int.natCast_add];apply hK9;refine aac λK9 hK9=>?_
     by_cases hle:vb*mi<=V
     ·have hc:eO (vb*mi) V<=0:=by
       by_cases e:vb*mi=V
       ·rw[o5 e];omega
       ·rw[lq zd];omega
      have hmQ:mi<=Q:=by rw[<-hQ,afY hvp,aed];exact hle
      refine aai ?_;simp[hbs,-aB];refine ag.JI (T:=2) (l:=[mi]) 2 9 1 px zp hpr zp zp zp ?_;simp;refine ag.p 2 9 hcm ?_;simp[hc];apply hK9;refine aaE (aai ?_);simp;refine⟨mi,hi,Le.keys [(0,0,.cells true false 2 (wK .i64 (List.replicate (k+1) 0++qs)))] 19 _ rfl rfl zp zp zp ?_ xa,⟨hmQ,q2,q3⟩,zd⟩;intro e he;simp only[aZ,bw,or_false]at he;subst he;simpa using ng .i64 2 (List.replicate (k+1) 0++qs) _
     ·have hc:¬eO (vb*mi) V<=0:=by rw[mz zd];omega
      have hmQ:Q<=mi-1:=by
       have:¬mi<=Q:=by rw[<-hQ,afY hvp,aed];exact hle
       omega
      have u6:(mi:Int)-1=((mi-1:Nat):Int):=zd
      refine aai ?_;simp[hbs,-aB];refine ag.JI (T:=2) (l:=[mi]) 2 9 1 px zp hpr zp zp zp ?_;simp;refine ag.p 2 9 hcm ?_;simp[hc];apply hK9;refine aax (aai ?_);simp[u5];refine⟨lo,mi-1,Le.keys [(0,0,.cells true false 2 (wK .i64 (List.replicate (k+1) 0++qs)))] 19 _ rfl rfl zp zp zp ?_ (by simp[aV,u6]),⟨q1,hmQ,zd⟩,zd⟩;intro e he;simp only[aZ,bw,or_false]at he;subst he;simpa using ng .i64 2 (List.replicate (k+1) 0++qs) _
    ·refine aaD (by simp[hlh]<;>omega) (aaR (hK7 _ _ ?_));obtain rfl:lo=Q:=by omega
     have f5:ai (wK .i64 (List.replicate (k+1) 0++qs)) k [CV.d (.int .i64 (lo:Int))]=wK .i64 (List.replicate k 0++(lo::qs)):=by
      rw[iU _ yv,sF]
     have hk2:(k:Int)<((dO a).length:Int):=zd
     have hk3:k<k+1+qs.length:=zd
     refine aaF λK8 hK8=>?_;simp[f5,hk2];apply hK8;refine abP 1 ?_;have hpr:=prG lo zd;have hle:vb*lo<=V:=by rw[<-hQ];exact Nat.mul_div_le _ _
     have hdf:=dfG V (vb*lo) zd hle
     have hmod:V-vb*lo=V%vb:=by
      have:=afI V vb;rw[hQ]at this;omega
     rw[hmod]at hdf;refine aai ?_;simp[hbs,-aB];refine ag.JI (T:=2) (l:=[lo]) 2 9 1 px zp hpr zp zp zp ?_;simp;refine ag.p 2 9 hdf ?_;simp;apply hK5;refine aai ?_;simp[w9];refine⟨k,lo::qs,V%vb,Le.keys [(0,0,.cells true false 2 (wK .i64 (List.replicate k 0++lo::qs)))] 19 _ rfl rfl zp zp zp ?_ ?_,⟨yv,b6.2 ⟨zd,h2⟩,adx _ hvp,λh=>absurd h hkn,hnext⟩,zd⟩
     ·intro e he;simp only[aZ,bw,or_false]at he;subst he;simpa using ng .i64 2 (List.replicate k 0++lo::qs) _
     ·simp[aV,hkn]
   refine aah ?_
   by_cases hln:n<(aL 1000000000 V).length
   ·obtain⟨r2,hr2⟩:∃r2,(aL 1000000000 V)[n]=r2:=⟨_,rfl⟩
    have hr2B:r2<1000000000:=by rw[<-hr2];exact hokV _ (cn _)
    have hr2g:(aL 1000000000 V).getD n 0=r2:=by rw[ab6,fy hln,hr2];rfl
    rw[hr2g]at hX
    have hix2:∀lv,aq prog 40 lv (nK .i64 (some (aL 1000000000 V))) (.c (.d (.int .i64 ((n:Nat):Int))))=some (.c (.d (.ptr [DV.int .i64 (r2:Int)])),[],[],True):=λlv=>by
     have:=jh (P:=prog) (T:=40) (lv:=lv) (k:=.i64) (k':=.i64) (o:=some (aL 1000000000 V)) (i:=n) zp (by simpa using hln);rw[this];simp only[aS,hr2]
    have v1:i64.wrap (1000000000*(r2:Int))=((1000000000*r2:Nat):Int):=by rw[bP zd zd];omega
    have v2:i64.wrap ((r1:Int)+((1000000000*r2:Nat):Int))=(X:Int):=by rw[bP zd zd];omega
    refine aaB (by simp[hln]<;>omega) (aai ?_);simp[hix2,v1,v2,-jh,-Int.natCast_mul];exact g1 _ _ zp zp zp zp zp zp zp _ zp zp
   ·have hX0:X=r1:=by
     rw[ab6,agr zd]at hX;simpa using hX
    refine aaD (by simp[hln]<;>omega) (aan ?_);simp;exact g1 _ _ zp zp zp zp zp zp (by simp[hX0]) _ zp zp
theorem EP(ha:A%2=0)(hb:B%2=1):Nat.gcd (A/2) B=Nat.gcd A B:=by
 have h:Nat.Coprime 2 B:=by
  have:Nat.gcd 2 B=Nat.gcd (B%2) 2:=Nat.gcd_rec 2 B;unfold Nat.Coprime;rw[this,hb];rfl
 have e:A=2*(A/2):=zd
 conv=>rhs;rw[e]
 exact(Nat.Coprime.gcd_mul_left_cancel _ h).symm
theorem IN(ha:A%2=0)(hb:B%2=0):2*Nat.gcd (A/2) (B/2)=Nat.gcd A B:=by
 rw[<-Nat.gcd_mul_left]
 grind
theorem PC(h:B<=A):Nat.gcd (A-B) B=Nat.gcd A B:=by
 simp_all
theorem Oh{tw:Nat}(h:2^tw<=vb)(hl:(aL 1000000000 vb).length<=n):tw<30*n:=by
 have h1:=oe (B:=1000000000) zr (n:=vb);have h2:1000000000^(aL 1000000000 vb).length<=1000000000^n:=adK zr hl;have h3:1000000000^n<=(2^30)^n:=afq zr n;rw[<-aeT]at h3;exact(agd (zr:1<2)).1 (aeR h (adA h1 (HQ h2 h3)))
theorem TD:(aL 1000000000 n).length=0↔n=0:=by
 rw[List.length_eq_zero_iff];exact cL zr
theorem LF(G:List (List DV))(A:Nat):aa prog G 242 [(nK .i64 (some (aL 1000000000 (A))))] (.c (.d (.bool (decide (A%2=1))))):=by
 have h:=Pc G (some (aL 1000000000 A))
 rwa[aS,bE zr]at h
theorem Jf(G:List (List DV))(A:Nat)(h:(aL 1000000000 A).length<=100000000000):aa prog G 243 [(nK .i64 (some (aL 1000000000 (A))))] (nK .i64 (some (aL 1000000000 (A/2)))):=by
 have h:=Mh G (some (aL 1000000000 A)) (bO zr A).1 kp
 rwa[aS,bE zr]at h
theorem Ch(G:List (List DV))(A B:Nat)(h:(aL 1000000000 A).length<=400000000000)(h':(aL 1000000000 B).length<=400000000000):aa prog G 146 [(nK .i64 (some (aL 1000000000 (A)))),(nK .i64 (some (aL 1000000000 (B))))] (nK .i64 (some (aL 1000000000 (A+B)))):=by
 have h:=Oj G (some (aL 1000000000 A)) (some (aL 1000000000 B)) (bO zr A) (bO zr B) h h'
 rwa[aS,aS,bE zr,bE zr]at h
theorem zT(G:List (List DV))(A B:Nat)(h:(aL 1000000000 A).length<=400000000000)(hle:B<=A):aa prog G 148 [(nK .i64 (some (aL 1000000000 (A)))),(nK .i64 (some (aL 1000000000 (B))))] (nK .i64 (some (aL 1000000000 (A-B)))):=by
 have hl:=eE (B:=1000000000) zr hle;have h:=pX G (some (aL 1000000000 A)) (some (aL 1000000000 B)) (bO zr A).1 (bO zr B).1 h kp (by rw[aS,aS,bE zr,bE zr];exact hle)
 rwa[aS,aS,bE zr,bE zr]at h
theorem rT(G:List (List DV))(A B:Nat):aa prog G 147 [(nK .i64 (some (aL 1000000000 (A)))),(nK .i64 (some (aL 1000000000 (B))))] (.c (.d (.int .i64 (eO A B)))):=by
 have h:=pz G (a:=some (aL 1000000000 A)) (b:=some (aL 1000000000 B)) (bO zr A) (bO zr B)
 rwa[aS,aS,bE zr,bE zr]at h
theorem Dw(G:List (List DV))(va vb:Nat)(ha0:0<va)(hb0:0<vb)(hal:(aL 1000000000 va).length<=100000000000)(hbl:(aL 1000000000 vb).length<=100000000000):
 aa prog G 195 [(nK .i64 (some (aL 1000000000 (va)))),(nK .i64 (some (aL 1000000000 (vb))))] (nK .i64 (some (aL 1000000000 (Nat.gcd va vb)))):=by
 have hdv:=pe G (some (aL 1000000000 va)) (some (aL 1000000000 vb)) (bO zr va).1 (bO zr vb) (by rw[aS];intro h;have:=(cL zr).1 h;omega) hal hbl
 have hrm:Hf (some (aL 1000000000 va)) (some (aL 1000000000 vb))=some (aL 1000000000 (va%vb)):=by
  unfold Hf;rw[aS,aS,if_neg (by intro h;have:=(cL zr).1 h;omega),bE zr,bE zr]
 rw[hrm]at hdv;have dle:∀n,n<=vb->(aL 1000000000 n).length<=100000000000:=λn h=>HQ (eE zr h) hbl
 have tw_le:∀tw,2^tw<=vb->tw<3000000000000:=λtw h=>adA (Oh h hbl) zr
 have hg0:Nat.gcd va vb=Nat.gcd (va%vb) vb:=by rw[afL,Nat.gcd_rec]
 have oddG:∀A,aa prog G 242 [(nK .i64 (some (aL 1000000000 (A))))] (.c (.d (.bool (decide (A%2=1))))):=λA=>LF G A
 have halfG:∀A,A<=vb->aa prog G 243 [(nK .i64 (some (aL 1000000000 (A))))] (nK .i64 (some (aL 1000000000 (A/2)))):=λA h=>Jf G A (dle A h)
 have sumG:∀A,A<=vb->aa prog G 146 [(nK .i64 (some (aL 1000000000 (A)))),(nK .i64 (some (aL 1000000000 (A))))] (nK .i64 (some (aL 1000000000 (A+A)))):=λA h=>Ch G A A yn yn
 have diffG:∀A B,A<=vb->B<=A->aa prog G 148 [(nK .i64 (some (aL 1000000000 (A)))),(nK .i64 (some (aL 1000000000 (B))))] (nK .i64 (some (aL 1000000000 (A-B)))):=λA B h h'=>zT G A B yn h'
 have cmpG:∀A B,aa prog G 147 [(nK .i64 (some (aL 1000000000 (A)))),(nK .i64 (some (aL 1000000000 (B))))] (.c (.d (.int .i64 (eO A B)))):=λA B=>rT G A B
 refine aa.en func195 rfl λ_=>aah ?_;refine aaF λK hK=>?_;simp;refine ag.pure 0 9 hdv (tY _ _) zp rfl ?_;simp;apply hK;refine aac λK hK=>aah ?_
 by_cases hm:va%vb=0
 ·have h1:aL 1000000000 (va%vb)=[]:=(cL zr).2 hm;have hgv:Nat.gcd va vb=vb:=by rw[hg0,hm,agD]
  rw[hgv];refine aaB yk (aah ?_);exact aaq (aD.rt (t:=4) rfl 9 zp)
 have h1:¬aL 1000000000 (va%vb)=[]:=λh=>hm ((cL zr).1 h)
 have hmlt:va%vb<vb:=adx _ hb0;refine aaD yk (aan (hK _ _ (aah ?_)));refine aac λK hK=>aaw ?_
 refine aaY (λ(p:Nat×Nat×Nat)=>⟨aT [(0,(nK .i64 (some (aL 1000000000 (p.1))))),(1,(nK .i64 (some (aL 1000000000 (p.2.1))))),(5,.c (.d (.int .i64 (p.2.2:Int))))],λ_=>.hole⟩) 0
  (λp=>0<p.1/\0<p.2.1/\p.1<=vb/\p.2.1<=vb/\2^p.2.2*Nat.gcd p.1 p.2.1=Nat.gcd va vb/\2^p.2.2*p.2.1<=vb) (λp=>p.1) (va%vb,vb,0) (Le.mk' _ rfl bG zp) ⟨zd,hb0,zd,bf _,by simp[hg0],zp⟩ ?_
 rintro⟨A,B,tw⟩ ⟨hA,hB,hA2,hB2,hg,ht⟩;simp only at hA hB hA2 hB2 hg ht;have htw:tw<3000000000000:=tw_le tw (HQ (Nat.le_mul_of_pos_right _ hB) ht);have wt:=bP (n:=(tw:Int)+1) zd zd;have oA:=oddG A;have oB:=oddG B;have hAl:=dle (A) zd;have hBl:=dle (B) zd
 have st2:(A%2=1\/B%2=1)->∀(fr:Nat->AV) (κ:Nat),fr 0=(nK .i64 (some (aL 1000000000 (A))))->fr 1=(nK .i64 (some (aL 1000000000 (B))))->fr 5=.c (.d (.int .i64 (tw:Int)))->K ⟨fr,λ_=>.hole⟩ κ:=by
  intro hodd fr κ z0 z1 z5;apply hK;refine aac λK hK=>aaw ?_
  refine aaY (λ(p:Nat×Nat)=>⟨aT [(0,(nK .i64 (some (aL 1000000000 (p.1))))),(1,(nK .i64 (some (aL 1000000000 (p.2))))),(5,.c (.d (.int .i64 (tw:Int))))],λ_=>.hole⟩) 0
   (λp=>0<p.2/\p.1<=vb/\p.2<=vb/\(p.1%2=1\/p.2%2=1)/\2^tw*Nat.gcd p.1 p.2=Nat.gcd va vb) (λp=>p.1+p.2) (A,B) (Le.mk' _ rfl bG yk) ⟨hB,hA2,hB2,hodd,hg⟩ ?_
  rintro⟨C,D⟩ ⟨i1,i2,i3,i4,i5⟩;simp only at i1 i2 i3 i4 i5
  have fin:∀(Z:Nat) (fr:Nat->AV) (κ:Nat),Z<=vb->2^tw*Z=Nat.gcd va vb->fr 1=(nK .i64 (some (aL 1000000000 (Z))))->fr 5=.c (.d (.int .i64 (tw:Int)))->K ⟨fr,λ_=>.hole⟩ κ:=by
   intro Z fr κ hZ0 hZ z1 z5;apply hK;refine aac λK hK=>aah ?_;refine aaw ?_;refine aaY (λ(i:Nat)=>⟨aT [(1,(nK .i64 (some (aL 1000000000 (Z*2^i))))),(5,.c (.d (.int .i64 (tw:Int)))),(6,.c (.d (.int .i64 (i:Int))))],λ_=>.hole⟩) 0 (λi=>i<=tw) (λi=>tw-i) 0 (Le.mk' _ rfl bG yk) (ab5 _) ?_;intro i hi
   try simp only at hi
   refine aac λK2 hK2=>aah ?_
   by_cases hlt:i<tw
   ·have wi:=bP (n:=(i:Int)+1) zd zd;have hgv:Nat.gcd va vb<=vb:=Nat.gcd_le_right _ hb0
    have hle:Z*2^i<=vb:=by
     rw[aed];exact HQ (adh Z (adK zr (aeV hlt))) zd
    have hll:=dle (Z*2^i) zd;have hs:=sumG (Z*2^i) hle;have he:Z*2^i+Z*2^i=Z*2^(i+1):=by rw[adk,<-adQ];omega
    rw[he]at hs;refine aaB yk (aan (hK2 _ _ (aac λK5 hK5=>aaw (acq 0 hs (hK5 _ _ ?_)))));refine aai ?_;simp[wi];exact⟨i+1,Le.mk' _ rfl bG zp,zd,zd⟩
   ·obtain rfl:i=tw:=by omega
    refine aaD zp (aaR (hK _ _ (aah ?_)));rw[<-hZ,aed];exact aaq (aD.rt (t:=4) rfl 9 zp)
  have hCl:=dle (C) zd;refine aac λK2 hK2=>aah ?_
  by_cases hC0:C=0
  ·have h2:¬0<(aL 1000000000 C).length:=by rw[Nat.pos_iff_ne_zero];exact λh=>h (TD.2 hC0)
   subst hC0;rw[agD]at i5;refine aaD xr (aaR ?_);simp;exact fin D _ _ i3 i5 zp zp
  have h2:0<(aL 1000000000 C).length:=aeJ λh=>hC0 (TD.1 h)
  refine aaB yk (aan (hK2 _ _ (aaw (aac λK5 hK5=>aaw ?_))))
  refine aaY (λ(C':Nat)=>⟨aT [(0,(nK .i64 (some (aL 1000000000 (C'))))),(1,(nK .i64 (some (aL 1000000000 (D))))),(5,.c (.d (.int .i64 (tw:Int))))],λ_=>.hole⟩) 0
   (λC'=>0<C'/\C'<=C/\(C' % 2=1\/D%2=1)/\Nat.gcd C' D=Nat.gcd C D) (λC'=>C') C (Le.mk' _ rfl bG zp) ⟨zd,bf _,i4,rfl⟩ ?_
  rintro C' ⟨j1,j2,j3,j4⟩;have oC:=oddG C';have hhC:=halfG C' zd;refine aac λK6 hK6=>aaF λK7 hK7=>?_;simp
  by_cases c1:C' % 2=1
  rotate_left
  ·have hd1:D%2=1:=by omega
   refine ag.p 0 9 oC ?_;simp[c1];apply hK7;refine aaE (aan (hK6 _ _ (aaw (aai ?_))));simp;refine ag.p 0 9 hhC ?_;simp;exact⟨C' / 2,Le.mk' _ rfl bG zp,⟨zd,zd,.inr hd1,by rw[EP zd hd1,j4]⟩,zd⟩
  refine ag.p 0 9 oC ?_;simp[c1];apply hK7;refine aax (aaR (hK5 _ _ (aac λK8 hK8=>aaw ?_)))
  refine aaY (λ(D':Nat)=>⟨aT [(0,(nK .i64 (some (aL 1000000000 (C'))))),(1,(nK .i64 (some (aL 1000000000 (D'))))),(5,.c (.d (.int .i64 (tw:Int))))],λ_=>.hole⟩) 0
   (λD'=>0<D'/\D'<=D/\Nat.gcd C' D'=Nat.gcd C D) (λD'=>D') D (Le.mk' _ rfl bG zp) ⟨i1,bf _,j4⟩ ?_
  rintro D' ⟨l1,l2,l3⟩;have oD:=oddG D';have hhD:=halfG D' zd;refine aac λK9 hK9=>aaF λK10 hK10=>?_;simp
  by_cases d1:D' % 2=1
  rotate_left
  ·refine ag.p 0 9 oD ?_;simp[d1];apply hK10;refine aaE (aan (hK9 _ _ (aaw (aai ?_))));simp;refine ag.p 0 9 hhD ?_;simp;exact⟨D' / 2,Le.mk' _ rfl bG zp,⟨zd,zd,by rw[afL,EP zd c1,afL,l3]⟩,zd⟩
  have hDl:=dle (D') zd;refine ag.p 0 9 oD ?_;simp[d1];apply hK10;refine aax (aaR (hK8 _ _ ?_));rw[<-l3]at i5;refine aac λK11 hK11=>aac λK12 hK12=>?_
  by_cases hD1:D'=1
  ·subst hD1;have e1:aL 1000000000 1=[1]:=(iT (zr:2<=1000000000) (l:=[1]) ⟨by intro d hd;simp at hd;omega,zp⟩ zp).symm;have e2:=jh (P:=prog) (T:=40) (lv:=λ_=>.hole) (k:=.i64) (k':=.i64) (o:=some [1]) (i:=0) zp zp;simp only[agi,aS,aeC]at e2;rw[e1];rw[af1,aeu]at i5;refine aai ?_;simp[e2,-jh];apply hK12;refine aaE (aaR ?_);simp;exact fin 1 _ _ zd zd (by simp[e1]) zp
  have one:∀lv:Key->LB,(aL 1000000000 D').length=1->aq prog 40 lv (nK .i64 (some (aL 1000000000 D'))) (.c (.d (.int .i64 0)))=some (.c (.d (.ptr [DV.int .i64 (D':Int)])),[],[],True):=λlv h=>by
   have h0:0<(dO (some (aL 1000000000 D'))).length:=kp
   have h2:=jh (P:=prog) (T:=40) (lv:=lv) (k:=.i64) (k':=.i64) (o:=some (aL 1000000000 D')) (i:=0) zp h0
   have hx:(aL 1000000000 D')[0]' zd=D':=by
    obtain⟨x,hx⟩:∃x,aL 1000000000 D'=[x]:=by match hd:aL 1000000000 D',h with|[x],_=>exact⟨x,rfl⟩
    have hv:=bE (B:=1000000000) zr D';rw[hx]at hv;simp at hv;simp[hx,hv]
   simp only[agi,aS,hx]at h2;exact h2
  have hD1':¬(D':Int)=1:=zd
  have rest:∀(fr:Nat->AV) (κ:Nat),fr 0=(nK .i64 (some (aL 1000000000 (C'))))->fr 1=(nK .i64 (some (aL 1000000000 (D'))))->fr 5=.c (.d (.int .i64 (tw:Int)))->K11 ⟨fr,λ_=>.hole⟩ κ:=by
   intro fr κ z0 z1 z5;apply hK11;refine aac λK13 hK13=>?_
   have fin2:∀(X Y:Nat) (fr:Nat->AV) (κ:Nat),Y<=X->X<=vb->0<Y->Y%2=1->X%2=1->X+Y=C'+D'->Nat.gcd X Y=Nat.gcd C' D'->fr 0=(nK .i64 (some (aL 1000000000 (X))))->fr 1=(nK .i64 (some (aL 1000000000 (Y))))->fr 5=.c (.d (.int .i64 (tw:Int)))->K13 ⟨fr,λ_=>.hole⟩ κ:=by
    intro X Y fr κ hXY hXv hY hY1 hX1 hs hgg z0 z1 z5;have hdf:=diffG X Y hXv hXY;apply hK13;refine aai ?_;simp[z0,z1];refine ag.p 0 9 hdf ?_;simp;refine⟨X-Y,Y,Le.mk' _ rfl bG (by simp[z1,z5]),⟨hY,zd,zd,.inr hY1,by rw[PC hXY,hgg];exact i5⟩,zd⟩
   have hcm:=cmpG C' D';refine aac λK14 hK14=>?_
   by_cases hlt:C'<D'
   ·have hc:eO C' D'<0:=by rw[lq hlt];omega
    refine aai ?_;simp[z0,z1];refine ag.p 0 9 hcm ?_;simp[hc];apply hK14;refine aaE (aai ?_);simp[z0,z1];exact fin2 D' C' _ _ zd zd j1 c1 d1 zd (afL _ _) zp zp pp
   ·have hc:¬eO C' D'<0:=by
     by_cases e:C'=D'
     ·rw[o5 e];omega
     ·rw[mz zd];omega
    refine aai ?_;simp[z0,z1];refine ag.p 0 9 hcm ?_;simp[hc];apply hK14;refine aax (aan ?_);simp;exact fin2 C' D' _ _ zd zd l1 d1 c1 rfl rfl lw sk pp
  by_cases hl1:(aL 1000000000 D').length=1
  ·have o1:=λlv=>one lv hl1
   refine aai ?_;simp[hl1,o1,hD1',-jh];apply hK12;refine aax (aan ?_);simp;exact rest _ _ zp zp zp
  ·have hl1':¬((aL 1000000000 D').length:Int)=1:=by omega
   refine abG hl1 hl1' (hK12 _ _ ?_);refine aax (aan ?_);simp;exact rest _ _ zp zp zp
 refine aac λK2 hK2=>aaF λK3 hK3=>?_;simp
 by_cases a1:A%2=1
 ·refine ag.p 0 9 oA ?_;simp[a1];apply hK3;refine aax (aaR ?_)
  simp_all
 by_cases b1:B%2=1
 ·refine ag.p 0 9 oA ?_;simp[a1];refine ag.p 0 9 oB ?_;simp[b1];apply hK3;refine aax (aaR ?_)
  simp_all
 have hhA:=halfG A zd;have hhB:=halfG B zd;refine ag.p 0 9 oA ?_;simp[a1];refine ag.p 0 9 oB ?_;simp[b1];apply hK3;refine aaE (aan (hK2 _ _ (aaw (aaF λK5 hK5=>?_))));simp;refine ag.p 0 9 hhA ?_;simp;refine ag.p 0 9 hhB ?_;simp;apply hK5;refine aai ?_;simp[wt];refine⟨A/2,B/2,tw+1,Le.mk' _ rfl bG zp,⟨zd,zd,zd,zd,?_,?_⟩,zd⟩
 ·rw[adk,adQ,IN zd zd];exact hg
 ·have e:2^(tw+1)*(B/2)=2^tw*(2*(B/2)):=by rw[adk,adQ]
  rw[e,show 2*(B/2)=B by omega];exact ht
def cu(x:Rat):Int:=if x.num=0 then 0 else if x.num<0 then -1 else 1
def cw(x:Rat):Option (List Nat):=if x.num=0 then none else some (aL 1000000000 x.num.natAbs)
def cU(x:Rat):Option (List Nat):=if x.num=0 then none else some (aL 1000000000 x.den)
abbrev bQ(x:Rat):AV:=rA (cu x) (cw x) (cU x)
theorem iW(x:Rat):dO (cw x)=aL 1000000000 x.num.natAbs:=by
 unfold cw;split
 ·simp_all
 ·rfl
theorem FH{x:Rat}(h:x.num=0):x.den=1:=by
 simp_all
theorem LS:aL 1000000000 1=[1]:=(iT (zr:2<=1000000000) (l:=[1]) ⟨by intro d hd;grind,zp⟩ zp).symm
theorem UI(x:Rat):Qj (cu x) (cU x)=some (aL 1000000000 x.den):=by
 unfold Qj cu cU
 by_cases h:x.num=0
 ·rw[if_pos h,if_pos rfl,FH h,LS]
 grind
theorem Vu(n:Nat):(aL 1000000000 n).length<=2*nl n:=by
 refine cE zr ?_;rw[aeT];exact adA (zO n) (afq zr _)
theorem oX(G:List (List DV)):aa prog G 135 [] (nK .i64 (some (aL 1000000000 (1)))):=by rw[LS];exact Ax G
theorem rW(G:List (List DV))(A B:Nat)(hB:0<B)(h:(aL 1000000000 A).length<=100000000000)(h':(aL 1000000000 B).length<=100000000000):∃o,aa prog G 196 [(nK .i64 (some (aL 1000000000 (A)))),(nK .i64 (some (aL 1000000000 (B))))] (.tup [(nK .i64 (some (aL 1000000000 (A/B)))),nK .i64 o]):=by
 have h:=pe G (some (aL 1000000000 A)) (some (aL 1000000000 B)) (bO zr A).1 (bO zr B) (by rw[aS];intro e;have:=(cL zr).1 e;omega) h h';rw[aS,aS,bE zr,bE zr]at h
 grind
theorem Rb(neg:Bool){Q:Nat}(hP:P≠0)(hQ:Q≠0):bQ (mkRat (ei neg P) Q)=rA (if neg then -1 else 1) (some (aL 1000000000 (P/Nat.gcd P Q))) (some (aL 1000000000 (Q/Nat.gcd P Q))):=by
 obtain⟨n1,n2⟩:=jY neg (a:=P) hQ;have hg:P/Nat.gcd P Q≠0:=aeg (Nat.div_pos (Nat.le_of_dvd zd (agk _ _)) (af0 _ zd))
 have h0:(mkRat (ei neg P) Q).num≠0:=by
  rw[n1];unfold ei;split<;>omega
 unfold bQ cu cw cU;rw[if_neg h0,if_neg h0,if_neg h0,n1,n2,rX]
 cases neg with
 |true=>
  rw[if_pos (show ei true (P/Nat.gcd P Q)<0 from Int.neg_neg_of_pos (Int.ofNat_lt.2 (aeJ hg)))];rfl
 |false=>
  rfl
theorem L5:bQ 0=rA 0 none none:=rfl
attribute [local irreducible] aF
theorem B7(G:List (List DV))(s:Int)(neg:Bool)(P Q:Nat)(p:Option (List Nat))(hp:dO p=aL 1000000000 P)(hs:P≠0->s=if neg then -1 else 1)(hQ:0<Q)(hPl:(aL 1000000000 P).length<=100000000000)(hQl:(aL 1000000000 Q).length<=100000000000):
 aa prog G 133 [.c (.d (.int .i64 s)),nK .i64 p,(nK .i64 (some (aL 1000000000 (Q))))] (bQ (mkRat (ei neg P) Q)):=by
 have oneG:=oX G;have cmG:=λA B=>rT G A B
 by_cases hP0:P=0
 ·subst hP0;have e0:dO p=[]:=by rw[hp];exact XK
  have e2:ei neg 0=0:=by cases neg<;>rfl
  have e1:mkRat (ei neg 0) Q=0:=by rw[e2];exact Rat.zero_mkRat Q
  rw[e1,L5];refine aa.enc func133 rfl (λlv=>bT lv _ _ _) λ_=>aah ?_;refine aac λK hK=>aaN e0 ?_;refine aaE (aaN @Q8 ?_);refine aal ?_;refine aF.cell (T:=42) (t:=6) (k:=0) (off:=0) (own:=true) (fz:=false) (U:=42) (cs:=[.d (.int .i64 0),.d .nilsl,.d .nilsl]) rfl ?_ ?_ ?_
  ·simp
  ·rfl
  rfl
 have hp1:p=some (aL 1000000000 P):=by
  cases p with
  |none=>exact absurd ((cL zr).1 hp.symm) hP0
  |some l=>simp_all
 subst hp1;have hs1:=hs hP0;have hs0:¬s=0:=by rw[hs1];split<;>omega
 rw[Rb neg hP0 zd,<-hs1];have hdv:=Dw G P Q zd hQ hPl hQl;obtain⟨g,hg⟩:∃g,Nat.gcd P Q=g:=⟨_,rfl⟩
 have hg0:0<g:=by rw[<-hg];exact af0 _ zd
 have hgl:(aL 1000000000 g).length<=100000000000:=HQ (eE zr (by rw[<-hg];exact Nat.gcd_le_right _ hQ)) hQl;obtain⟨o1,hd1⟩:=rW G P g hg0 hPl hgl;obtain⟨o2,hd2⟩:=rW G Q g hg0 hQl hgl;rw[hg]at hdv⊢;have hne:¬aL 1000000000 P=[]:=λe=>hP0 ((cL zr).1 e)
 have c0:∀A B,(eO A B=0)↔A=B:=λA B=>by unfold eO;omega
 refine aa.enc func133 rfl (λlv=>bT lv _ _ _) λ_=>aah ?_;refine aac λK hK=>abk hne hs0 ?_;refine aax (aan (hK _ _ (aac λK hK=>?_)))
 by_cases h1:P=1
 ·have hc:=(c0 P 1).2 h1;have hg1:g=1:=by rw[<-hg,h1,Nat.gcd_one_left]
  refine aaF λK1 hK1=>?_;simp;refine ag.p 1 9 oneG ?_;simp;refine ag.p 1 9 (cmG P 1) ?_;simp[hc];apply hK1;refine aaE (abk @bR @fj ?_);refine aal ?_;refine aF.cell (T:=42) (t:=6) (k:=0) (off:=0) (own:=true) (fz:=false) (U:=42) (cs:=[.d (.int .i64 s),rC (some (aL 1000000000 P)),rC (some (aL 1000000000 Q))]) rfl ?_ ?_ ?_
  ·simp
  ·rfl
  simp_all
 have hc1:¬eO P 1=0:=λe=>h1 ((c0 P 1).1 e)
 by_cases h2:Q=1
 ·have hc:=(c0 Q 1).2 h2;have hg1:g=1:=by rw[<-hg,h2,af1]
  refine aaF λK1 hK1=>?_;simp;refine ag.p 1 9 oneG ?_;simp;refine ag.p 1 9 (cmG P 1) ?_;simp[hc1];refine ag.p 1 9 oneG ?_;simp;refine ag.p 1 9 (cmG Q 1) ?_;simp[hc];apply hK1;refine aaE (abk @bR @fj ?_);refine aal ?_;refine aF.cell (T:=42) (t:=6) (k:=0) (off:=0) (own:=true) (fz:=false) (U:=42) (cs:=[.d (.int .i64 s),rC (some (aL 1000000000 P)),rC (some (aL 1000000000 Q))]) rfl ?_ ?_ ?_
  ·simp
  ·rfl
  simp_all
 have hc2:¬eO Q 1=0:=λe=>h2 ((c0 Q 1).1 e)
 refine aaF λK1 hK1=>?_;simp;refine ag.p 1 9 oneG ?_;simp;refine ag.p 1 9 (cmG P 1) ?_;simp[hc1];refine ag.p 1 9 oneG ?_;simp;refine ag.p 1 9 (cmG Q 1) ?_;simp[hc2];apply hK1;refine aax (aan (hK _ _ (abi 1 hdv ?_)));refine aac λK hK=>?_
 have fin:∀(fr:Nat->AV) (κ:Nat),fr 0=.c (.d (.int .i64 s))->fr 1=(nK .i64 (some (aL 1000000000 (P/g))))->fr 2=(nK .i64 (some (aL 1000000000 (Q/g))))->fr 6=.c (.ptr 0 0) ->
  K ⟨fr,aM (λ_=>.hole) 0 (.cells true false 42 [.d (.int .i64 0),.d .nilsl,.d .nilsl])⟩ κ:=by
  intro fr κ z0 z1 z2 z6;apply hK;refine AW.f6 z0 z1 z2 z6 @fj @bR ?_;refine aal ?_;refine aF.cell (T:=42) (t:=6) (k:=0) (off:=0) (own:=true) (fz:=false) (U:=42) (cs:=[.d (.int .i64 s),rC (some (aL 1000000000 (P/g))),rC (some (aL 1000000000 (Q/g)))]) rfl ?_ ?_ ?_
  ·simp[z6]
  ·rfl
  ·rfl
 by_cases hg1:g=1
 ·have hc:=(c0 g 1).2 hg1;refine aaF λK1 hK1=>?_;simp;refine ag.p 1 9 oneG ?_;simp;refine ag.p 1 9 (cmG g 1) ?_;simp[hc];apply hK1;refine aax (aan ?_)
  simp_all
 ·have hc:¬eO g 1=0:=λe=>hg1 ((c0 g 1).1 e)
  refine aaF λK1 hK1=>?_;simp;refine ag.p 1 9 oneG ?_;simp;refine ag.p 1 9 (cmG g 1) ?_;simp[hc];apply hK1;refine aaE (aaF λK1 hK1=>?_);simp;refine ag.pure 1 9 hd1 (tY _ _) zp zp ?_;simp;apply hK1;refine aai ?_;simp;refine ag.pure 1 9 hd2 (tY _ _) zp zp ?_;simp
  simp_all
end Go.Am
namespace Go.Am
open Go.Am.Ty Go.Proofs N
attribute [local irreducible] aF
def rV(x:Rat):cu x=0\/cu x=1\/cu x = -1:=by unfold cu;omega
def jf{x:Rat}:cu x=0↔x.num=0:=by unfold cu;omega
def mX{x:Rat}(h:x.num≠0):cu x=if decide (x.num<0)then -1 else 1:=by
 unfold cu;grind
def J4(x:Rat):(jq x).num=(x.num.natAbs:Int)/\(jq x).den=x.den:=by
 unfold jq;split
 ·rename_i h
  have:x.num<0:=by
   have:=(Rat.lt_iff x 0).1 h;simpa using this
  rw[afc,afN];omega
 ·rename_i h
  have:¬x.num<0:=λhn=>h ((Rat.lt_iff x 0).2 yk)
  omega
def MO(x:Rat):bQ (-x)=rA (-cu x) (cw x) (cU x):=by
 unfold bQ cu cw cU;rw[afc,afN,agm]
 grind
def NC(x:Rat):bQ (jq x)=rA (cu x*cu x) (cw x) (cU x):=by
 obtain⟨e1,e2⟩:=J4 x;unfold bQ cu cw cU
 grind
def Ei{n L:Nat}(h:nl n<=L):(aL 1000000000 n).length<=2*L:=HQ (Vu n) zd
def iH(G:List (List DV))(x:Rat):aa prog G 145 [bQ x] (.c (rC (some (aL 1000000000 x.den)))):=by
 have:=Fh G (cu x) (cw x) (cU x)
 rwa[UI]at this
def gm(G:List (List DV))(p q:Option (List Nat))(A B L:Nat)(hp:dO p=aL 1000000000 A)(hq:dO q=aL 1000000000 B)(hA:nl A<=L)(hB:nl B<=L)(hL:L<=200000000000):aa prog G 144 [.c (rC p),.c (rC q)] (.c (rC (some (aL 1000000000 (A*B))))):=by
 have h1:=Ei hA;have h2:=Ei hB;have h:=uV G p q (by rw[hp];exact(bO zr _).1) (by rw[hq];exact(bO zr _).1) yn yn;rw[hp,hq,bE zr,bE zr]at h;rw[<-fj,<-fj,<-fj];exact h
def vW(G:List (List DV))(A B L:Nat)(hA:nl A<=L)(hB:nl B<=L)(hL:L<=200000000000):aa prog G 146 [.c (rC (some (aL 1000000000 A))),.c (rC (some (aL 1000000000 B)))] (.c (rC (some (aL 1000000000 (A+B))))):=by
 have h1:=Ei hA;have h2:=Ei hB;have:=Ch G A B zd zd;rw[fj,fj,fj]at this;omega
def GI(G:List (List DV))(A B L:Nat)(hA:nl A<=L)(hL:L<=200000000000)(h:B<=A):aa prog G 148 [.c (rC (some (aL 1000000000 A))),.c (rC (some (aL 1000000000 B)))] (.c (rC (some (aL 1000000000 (A-B))))):=by
 have h1:=Ei hA;have:=zT G A B zd h;rw[fj,fj,fj]at this;omega
def vQ(G:List (List DV))(A B:Nat):aa prog G 147 [.c (rC (some (aL 1000000000 A))),.c (rC (some (aL 1000000000 B)))] (.c (.d (.int .i64 (eO A B)))):=by
 have:=rT G A B;rw[fj,fj]at this;omega
def lB(G:List (List DV))(s:Int)(neg:Bool)(P Q L:Nat)(p:Option (List Nat))(hp:dO p=aL 1000000000 P)(hs:P≠0->s=if neg then -1 else 1)(hQ:0<Q)(hP:nl P<=L)(hQl:nl Q<=L)(hL:L<=50000000000):
 aa prog G 133 [.c (.d (.int .i64 s)),.c (rC p),.c (rC (some (aL 1000000000 Q)))] (bQ (mkRat (ei neg P) Q)):=by
 have h1:=Ei hP;have h2:=Ei hQl;have:=B7 G s neg P Q p hp hs hQ zd zd;rw[fj,fj]at this;omega
def oI(G:List (List DV))(x:Rat):aa prog G 80 [bQ x] (bQ (-x)):=by
 have hr:=rV x;have hw:=bP (n:=-cu x) zd zd;rw[MO];refine aa.enc func80 rfl (λlv=>bT lv _ _ _) λ_=>aah ?_;refine abk hw @bR ?_;refine aal ?_;refine aF.cell (T:=42) (t:=2) (k:=1) (off:=0) (own:=true) (fz:=false) (U:=42) (cs:=[.d (.int .i64 (-cu x)),rC (cw x),rC (cU x)]) rfl ?_ ?_ ?_
 ·simp
 ·rfl
 rfl
def m5(G:List (List DV))(x:Rat):aa prog G 151 [bQ x] (bQ (jq x)):=by
 have hr:=rV x;have hw:i64.wrap (cu x*cu x)=cu x*cu x:=by rcases hr with h|h|h<;>rw[h]<;>rfl
 rw[NC];refine aa.enc func151 rfl (λlv=>bT lv _ _ _) λ_=>aah ?_;refine abk hw @bR ?_;refine aal ?_;refine aF.cell (T:=42) (t:=2) (k:=1) (off:=0) (own:=true) (fz:=false) (U:=42) (cs:=[.d (.int .i64 (cu x*cu x)),rC (cw x),rC (cU x)]) rfl ?_ ?_ ?_
 ·simp
 ·rfl
 rfl
def Bq(G:List (List DV))(x:Rat):aa prog G 165 [bQ x] (.c (.d (.bool (decide (x.den=1))))):=by
 have hb:=iH G x;have ho:=oX G;rw[fj]at ho;have hc:=vQ G x.den 1;have e:(eO x.den 1=0)↔x.den=1:=pf
 refine aa.en func165 rfl λ_=>aah ?_;refine aaF λK hK=>?_;simp;refine ag.p 1 9 hb ?_;simp;refine ag.p 1 9 ho ?_;simp;refine ag.p 1 9 hc ?_;simp;apply hK;exact aaq (aD.rt (t:=2) rfl 9 (by simp[e]))
def JJ(x:Rat):ou (decide (x.num<0)) (aW x.num.natAbs)=cu x:=by
 unfold ou cu;rw[jG];simp only[cL (zr:2<=4294967296),decide_eq_true_eq];simp
def VP(x y:Rat):bS x y=if cu x<cu y then -1 else if cu y<cu x then 1 else cu x*eO (x.num.natAbs*y.den) (y.num.natAbs*x.den):=by
 rw[<-Jo];unfold VL;rw[JJ,JJ,kW,kW,wo,wo];omega
def fS(G:List (List DV))(x y:Rat)(hx:bF x 20000000000)(hy:bF y 20000000000):aa prog G 128 [bQ x,bQ y] (.c (.d (.int .i64 (bS x y)))):=by
 have b1:=iH G x;have b2:=iH G y;have m1:=gm G (cw x) (some (aL 1000000000 y.den)) x.num.natAbs y.den 20000000000 (iW x) rfl hx.1 hy.2 zr;have m2:=gm G (cw y) (some (aL 1000000000 x.den)) y.num.natAbs x.den 20000000000 (iW y) rfl hy.1 hx.2 zr;have cc:=vQ G (x.num.natAbs*y.den) (y.num.natAbs*x.den);have hr:=VP x y
 have hw:i64.wrap (cu x*eO (x.num.natAbs*y.den) (y.num.natAbs*x.den))=cu x*eO (x.num.natAbs*y.den) (y.num.natAbs*x.den):=by
  have h1:=F2 (x.num.natAbs*y.den) (y.num.natAbs*x.den);rcases rV x with h|h|h<;>rw[h]<;>exact bP zd zd
 rw[hr];refine aa.en func128 rfl λ_=>aah ?_;refine aac λK hK=>aaw (aah ?_)
 by_cases h1:cu x<cu y
 ·refine aaB yk (aah ?_);exact aaq (aD.rt (t:=4) rfl 9 (by simp[h1]))
 ·refine aaD yk (aah ?_)
  by_cases h2:cu y<cu x
  ·refine aaB yk (aah ?_);exact aaq (aD.rt (t:=4) rfl 9 yk)
  ·refine aaD yk (aan (hK _ _ (aac λK hK=>?_)));refine aaT mixed zt rfl ?_;simp;refine ag.p 2 9 b2 ?_;simp;refine ag.p 2 9 m1 ?_;simp;refine ag.p 2 9 b1 ?_;simp;refine ag.p 2 9 m2 ?_;simp;refine ag.p 2 9 cc ?_;simp;simp[hw];refine⟨zt,?_⟩;apply hK;exact aaq (aD.rt (t:=4) rfl 9 (by simp[h1,h2]))
end Go.Am
namespace Go.Am
open Go.Am.Ty Go.Proofs N
attribute [local irreducible] aF
def jS(lv:Key->LB)(s:Int)(p q:Option (List Nat))(n:Int):gq lv (.tup [rA s p q,.c (.d (.int .i64 n))])=some (.tup [rA s p q,.c (.d (.int .i64 n))],[]):=by
 cases p<;>cases q<;>rfl
def aF.ref{c:Ctx}{fn:Func}{z:Rat}{t k:Nat}{s:aJ}{κ:Nat}(hr:fn.results=#[.cell t 42])(ht:s.fr t=.c (.ptr k 0))(hk:s.lv k=.cells true false 42 [.d (.int .i64 (cu z)),rC (cw z),rC (cU z)])(hP:c.P=prog):aF c fn (bQ z) .ret s κ:=
 aF.cell hr ht hk yk
def oJ(G:List (List DV))(x y:Rat)(hx:bF x 10000000000)(hy:bF y 10000000000):aa prog G 74 [bQ x,bQ y] (bQ (x+y)):=by
 have b1:=iH G x;have b2:=iH G y;have m1:=gm G (cw x) (some (aL 1000000000 y.den)) x.num.natAbs y.den 10000000000 (iW x) rfl hx.1 hy.2 zr;have m2:=gm G (cw y) (some (aL 1000000000 x.den)) y.num.natAbs x.den 10000000000 (iW y) rfl hy.1 hx.2 zr;have m3:=gm G (some (aL 1000000000 x.den)) (some (aL 1000000000 y.den)) x.den y.den 10000000000 rfl rfl hx.2 hy.2 zr;have l1:=cK x.num.natAbs y.den;have l2:=cK y.num.natAbs x.den;have l3:=cK x.den y.den;have hq0:0<x.den*y.den:=adJ x.den_pos y.den_pos;have hx1:=hx.1;have hx2:=hx.2;have hy1:=hy.1;have hy2:=hy.2;have zx:x.num.natAbs*y.den=0↔x.num=0:=by rw[Nat.mul_eq_zero];have:=y.den_nz;omega
 have zy:y.num.natAbs*x.den=0↔y.num=0:=by rw[Nat.mul_eq_zero];have:=x.den_nz;omega
 rw[CT];generalize x.num.natAbs*y.den=A at*
 generalize y.num.natAbs*x.den=B at*
 generalize x.den*y.den=Q at*
 have ad:=vW G A B 20000000000 zd zd zr;have l4:=lY A B;have cm:=vQ G A B;have mk:=λ(s:Int) (neg:Bool) (P:Nat) (hs:P≠0->s=if neg then -1 else 1) (hP:nl P<=20000000001)=>lB G s neg P Q 20000000001 (some (aL 1000000000 P)) rfl hs hq0 hP zd zr
 have df1:A<B->_:=λh=>GI G B A 20000000000 zd zr (aeV h)
 have df2:¬A<B->_:=λh=>GI G A B 20000000000 zd zr (Nat.not_lt.1 h)
 have nA:∀n,n<=A->nl n<=20000000001:=λn h=>by have:=dZ h;omega
 have nB:∀n,n<=B->nl n<=20000000001:=λn h=>by have:=dZ h;omega
 refine aa.enc func74 rfl (λlv=>bT lv _ _ _) λ_=>aah ?_;refine aac λK hK=>?_;refine aaT mixed zt rfl ?_;simp;refine ag.p 3 9 b2 ?_;simp;refine ag.p 3 9 m1 ?_;simp;refine ag.p 3 9 b1 ?_;simp;refine ag.p 3 9 m2 ?_;simp;refine⟨zt,?_⟩;apply hK;refine aac λK hK=>?_;refine aaT mixed zt rfl ?_;simp;refine ag.p 3 9 b1 ?_;simp;refine ag.p 3 9 b2 ?_;simp;refine ag.p 3 9 m3 ?_;simp;refine⟨zt,?_⟩;apply hK;refine aac λK hK=>aac λK1 hK1=>?_
 by_cases hs:cu x=0\/cu y=0\/cu x=cu y
 ·obtain⟨s,hse⟩:∃s,(if cu x=0 then cu y else cu x)=s:=⟨_,rfl⟩
  obtain⟨neg,hn1,hn2⟩:∃neg:Bool,(A+B≠0->s=if neg then -1 else 1)/\ei (decide (x.num<0)) A+ei (decide (y.num<0)) B=ei neg (A+B):=by
   by_cases hx0:x.num=0
   ·have hA:A=0:=zx.2 hx0;have hs1:s=cu y:=by rw[<-hse,if_pos (jf.2 hx0)]
    refine⟨decide (y.num<0),λh=>?_,?_⟩
    ·rw[hs1];exact mX (λe=>h zd)
    ·rw[hA,aej];have:ei (decide (x.num<0)) 0=0:=by unfold ei;split<;>rfl
     omega
   ·have hs1:s=cu x:=by rw[<-hse,if_neg (λe=>hx0 (jf.1 e))]
    refine⟨decide (x.num<0),λ_=>?_,?_⟩
    ·rw[hs1];exact mX hx0
    ·by_cases hy0:y.num=0
     ·have hB:B=0:=zy.2 hy0;rw[hB,ad9];have:ei (decide (y.num<0)) 0=0:=by unfold ei;split<;>rfl
      omega
     ·have he:cu x=cu y:=by
       rcases hs with h|h|h
       ·omega
       ·exact absurd (jf.1 h) hy0
       ·exact h
      rw[mX hx0,mX hy0]at he
      have hd:decide (x.num<0)=decide (y.num<0):=by
       cases h1:decide (x.num<0)<;>cases h2:decide (y.num<0)<;>simp[h1,h2]at he ⊢
      rw[hd,ze]
  have mk1:=mk s neg (A+B) hn1 zd;rw[<-hn2]at mk1
  by_cases c1:cu x=0
  ·refine aby c1 (hK1 _ _ ?_);refine aaE (aaN c1 ?_);refine aac λK1 hK1=>aah ?_;refine aaE ?_;rw[if_pos c1]at hse;refine aby hse (hK1 _ _ ?_);refine aaF λK1 hK1=>?_;simp;refine ag.p 3 9 ad ?_;simp;refine ag.p 3 9 mk1 ?_;simp;simp[ai];apply hK1;exact aal (aF.ref (k:=2) rfl zp zp rfl)
  ·rw[if_neg c1]at hse
   by_cases c2:cu y=0
   ·refine abG c1 c2 (hK1 _ _ ?_);refine aaE (aaN hse ?_);refine aac λK1 hK1=>aah ?_;have c3:¬s=0:=by rw[<-hse];exact c1
    refine aaD yk (aan (hK1 _ _ (aaF λK1 hK1=>?_)));simp;refine ag.p 3 9 ad ?_;simp;refine ag.p 3 9 mk1 ?_;simp;simp[ai];apply hK1;exact aal (aF.ref (k:=2) rfl zp zp rfl)
   ·have c4:cu x=cu y:=hs.elim (λh=>absurd h c1) λh=>h.elim (λh=>absurd h c2) id
    have c5:cu y=s:=by rw[<-c4];exact hse
    have c3:¬s=0:=by rw[<-hse];exact c1
    refine aai ?_;simp[hse,c5,c3];apply hK1;refine aaE (aaN hse ?_);refine aac λK1 hK1=>aah ?_;refine aaD yk (aan (hK1 _ _ (aaF λK1 hK1=>?_)));simp;refine ag.p 3 9 ad ?_;simp;refine ag.p 3 9 mk1 ?_;simp;simp[ai];apply hK1;exact aal (aF.ref (k:=2) rfl zp zp rfl)
 ·have c1:¬cu x=0:=λh=>hs (.inl h)
  have c2:¬cu y=0:=λh=>hs (.inr (.inl h))
  have c3:¬cu x=cu y:=λh=>hs (.inr (.inr h))
  have hx0:x.num≠0:=λh=>c1 (jf.2 h)
  have hy0:y.num≠0:=λh=>c2 (jf.2 h)
  have hne:decide (x.num<0)≠decide (y.num<0):=λh=>c3 (by rw[mX hx0,mX hy0,h])
  refine acm c1 c2 c3 (hK1 _ _ ?_);refine aax (aan (hK _ _ (aac λK hK=>aac λK1 hK1=>?_)))
  by_cases hlt:A<B
  ·have hc:eO A B<0:=by rw[lq hlt];omega
   have d1:=df1 hlt;have mk1:=mk (cu y) (decide (y.num<0)) (B-A) (λ_=>mX hy0) (nB _ (afr _ _));rw[<-DP hne hlt]at mk1;refine abI 3 cm hc (hK1 _ _ ?_);refine aaE (aac λK1 hK1=>?_);refine aaT mixed zt rfl ?_;simp;refine ag.p 3 9 d1 ?_;simp;refine ag.p 3 9 mk1 ?_;simp;simp[ai];refine⟨zt,?_⟩;apply hK1;exact aal (aF.ref (k:=2) rfl zp zp rfl)
  ·have hc:¬eO A B<0:=by
    by_cases e:A=B
    ·rw[o5 e];omega
    ·rw[mz zd];omega
   have d1:=df2 hlt;have mk1:=mk (cu x) (decide (x.num<0)) (A-B) (λ_=>mX hx0) (nA _ (afr _ _));rw[<-DL hne hlt]at mk1;refine abI 3 cm hc (hK1 _ _ ?_);refine aax (aan (hK _ _ (aac λK hK=>?_)));refine aaT mixed zt rfl ?_;simp;refine ag.p 3 9 d1 ?_;simp;refine ag.p 3 9 mk1 ?_;simp;simp[ai];refine⟨zt,?_⟩;apply hK;exact aal (aF.ref (k:=2) rfl zp zp rfl)
def Fy(G:List (List DV))(x y:Rat)(hx:bF x 10000000000)(hy:bF y 10000000000):aa prog G 150 [bQ x,bQ y] (bQ (x-y)):=by
 have h1:=oI G y;have h2:=oJ G x (-y) hx (fk hy);rw[<-afs]at h2;refine aa.enc func150 rfl (λlv=>bT lv _ _ _) λ_=>aah ?_;refine aac λK hK=>?_;refine aaT mixed zt rfl ?_;simp;refine ag.p 3 9 h1 ?_;simp;refine ag.p 3 9 h2 ?_;simp;simp[ai];refine⟨zt,?_⟩;apply hK;exact aal (aF.ref (k:=2) rfl zp zp rfl)
end Go.Am
