/- Helpers. -/
import Derived.Test.YtldhlnmnfokbeaaGreatDoorTn09

set_option linter.all false
set_option maxHeartbeats 8000000
set_option maxRecDepth 100000
open Go.Proofs.Tryz
namespace Go.Am
variable {a b dx dy:Iv}{is l:List Iv}{D dl:DV}{p:PD}{i L A M m n node B N:Nat}{o r d:Nat->Iv}{lv:Key->LB}{x y t w:Rat}{k:Key}{c c0:Ctx}{Q:Ex->aJ->Nat->Prop}{T:TypeId}{dp:Nat->Bool}{fr:Nat->AV}{α:Type}{K:AV->List (Key×LB)->List Key->Nat->Prop}{op e inp:Int}{own fz up:Bool}{X:AV}{P:Iv->Prop}{fid:FuncId}
abbrev acF:=@Prod.mk.inj
abbrev agE:=@Rat.le_of_mul_le_mul_right
abbrev agF:=@Bool.true_eq_false
open Go.Am.Ty Go.Proofs N
@[simp]theorem Yx(a b:List UInt8):(AV.agg [.d (.str a),.d (.str b)]).pure=true:=rfl
@[simp]theorem U9(al ah bl bh:List UInt8)(bits:Int)(X:List UInt8):(AV.agg [.d (.str al),.d (.str ah),.d (.str bl),.d (.str bh),.d (.int .i64 bits),.d (.str X)]).pure=true:=rfl
theorem Kg{z:Rat}(h1:bF w L)(h2:bF x L)(h3:bF y L)(h4:bF z L):(gG w x y z).sz L:=⟨mC (mC (mC h1 h2) h3) h4,lp (lp (lp h1 h2) h3) h4⟩
theorem Ua(ha:a.sz L)(hb:b.sz L):(a.mul b).sz (2*L):=Kg (pI ha.1 hb.1) (pI ha.1 hb.2) (pI ha.2 hb.1) (pI ha.2 hb.2)
theorem nY(h:1<=L):Iv.sz (0,0) L:=⟨gQ _ h,gQ _ h⟩
def y9(D:DV)(l:List Iv):Prop:=D=.sl (l.map iQ)\/(D=.nilsl/\l=[])
theorem uf(hT:(fU prog T).map (·.2)=some 6)(h:y9 D l)(lv:Key->LB)(hi:i<l.length):aq prog T lv (.c (.d D)) (.c (.d (.int .i64 (i:Int))))=some (.c (.d (.ptr (iQ l[i]))),[],[],True):=by
 rcases h with rfl|⟨-,rfl⟩
 ·refine Sm (o:=some (l.map iQ)) (sz:=6) hT zd (by simp[sO];omega) ?_ rfl;show(l.map iQ).getD _ []=iQ l[i];rw[adW,ab6,aez,fy hi];rfl
 ·cases hi
def uu(op:Int)(k:List Iv):Iv×Int:=
 let a:=k.getD 0 (0,0)
 let b:=k.getD 1 (0,0)
 let c:=k.getD 2 (0,0)
 let d:=k.getD 3 (0,0)
 if op=4 then(a.neg,0)else if op=5 then(a.abs,0)else if op=6 then(LX a 96,Hu a.1)else if op=7 then(a,0)
 else if op=8 then(a.add b,0)else if op=9 then(a.sub b,0)else if op=10 then(a.mul b,0)else if op=11 then(nq a b,if b.has 0 then 8 else 0)
 else if op=12 then((eM a.1 b.1,eM a.2 b.2),0)else if op=13 then((fh a.1 b.1,fh a.2 b.2),0)else if op=14 then((a.mul b).add c,0)
 else if a.2<=b.1 then(c,0)else if b.2<a.1 then(d,0)else(c.join d,0)
def Iv.g(a:Iv):Prop:=a.sz 300/\a.1<=a.2
theorem FK{k:List α}(h:k.length=1):∃a,k=[a]:=by
 match k,h with
 |[a],_=>exact⟨a,rfl⟩
theorem yM{k:List α}(h:k.length=2):∃a b,k=[a,b]:=by
 match k,h with
 |[a,b],_=>exact⟨a,b,rfl⟩
theorem Xi{k:List α}(h:k.length=3):∃a b c,k=[a,b,c]:=by
 match k,h with
 |[a,b,c],_=>exact⟨a,b,c,rfl⟩
theorem Yt{k:List α}(h:k.length=4):∃a b c d,k=[a,b,c,d]:=by
 match k,h with
 |[a,b,c,d],_=>exact⟨a,b,c,d,rfl⟩
theorem Rg(h:y9 D [a]):(∀lv,aq prog 61 lv (.c (.d D)) (.c (.d (.int .i64 0)))=some (.c (.d (.ptr (iQ a))),[],[],True)):=
 λlv=>uf zp h lv (i:=0) zp
theorem LL(h:y9 D [a,b]):(∀lv,aq prog 61 lv (.c (.d D)) (.c (.d (.int .i64 0)))=some (.c (.d (.ptr (iQ a))),[],[],True))/\(∀lv,aq prog 61 lv (.c (.d D)) (.c (.d (.int .i64 1)))=some (.c (.d (.ptr (iQ b))),[],[],True)):=
 ⟨λlv=>uf zp h lv (i:=0) zp,λlv=>uf zp h lv (i:=1) zp⟩
theorem acD{c:Iv}(h:y9 D [a,b,c]):(∀lv,aq prog 61 lv (.c (.d D)) (.c (.d (.int .i64 0)))=some (.c (.d (.ptr (iQ a))),[],[],True))/\(∀lv,aq prog 61 lv (.c (.d D)) (.c (.d (.int .i64 1)))=some (.c (.d (.ptr (iQ b))),[],[],True))/\(∀lv,aq prog 61 lv (.c (.d D)) (.c (.d (.int .i64 2)))=some (.c (.d (.ptr (iQ c))),[],[],True)):=
 ⟨λlv=>uf zp h lv (i:=0) zp,λlv=>uf zp h lv (i:=1) zp,λlv=>uf zp h lv (i:=2) zp⟩
theorem aa5{c d:Iv}(h:y9 D [a,b,c,d]):(∀lv,aq prog 61 lv (.c (.d D)) (.c (.d (.int .i64 0)))=some (.c (.d (.ptr (iQ a))),[],[],True))/\(∀lv,aq prog 61 lv (.c (.d D)) (.c (.d (.int .i64 1)))=some (.c (.d (.ptr (iQ b))),[],[],True))/\(∀lv,aq prog 61 lv (.c (.d D)) (.c (.d (.int .i64 2)))=some (.c (.d (.ptr (iQ c))),[],[],True))/\(∀lv,aq prog 61 lv (.c (.d D)) (.c (.d (.int .i64 3)))=some (.c (.d (.ptr (iQ d))),[],[],True)):=
 ⟨λlv=>uf zp h lv (i:=0) zp,λlv=>uf zp h lv (i:=1) zp,λlv=>uf zp h lv (i:=2) zp,λlv=>uf zp h lv (i:=3) zp⟩
theorem Pu(m:Int)(op:Int)(k:List Iv)(hD:y9 D k)(h4:4<=op)(h15:op<=15)(hk:k.length=cH op)(hg:∀a∈k,a.g):aa prog (GG m) 320 [.c (.d (.int .i64 op)),.c (.d D)] (.tup [eo (uu op k).1,.c (.d (.int .i64 (uu op k).2))]):=by
 obtain⟨⟨⟨r1,r2⟩,e⟩,hv⟩:∃v,uu op k=v:=⟨_,rfl⟩
 rw[hv];refine aa.enc func320 rfl (λlv=>bY lv _ _ _ _ _ _ _ rfl) λ_=>?_;rcases Rk (show 1<=op by omega) h15 with rfl|rfl|rfl|rfl|rfl|rfl|rfl|rfl|rfl|rfl|rfl|rfl|rfl|rfl|rfl
 ·omega
 ·omega
 ·omega
 ·obtain⟨a,rfl⟩:=FK hk;have X:=Rg hD;have ga:=hg a zp;obtain⟨hr,he⟩:=acF (show(a.neg,(0:Int))=((r1,r2),e) from hv);have c1:=xC (GG m) a;rw[hr]at c1;obtain⟨a1,a2⟩:=a;subst he;refine aau mixed c1 (mo @iQ.eq_1 @iA @ai.eq_1 X) ?_;exact aal (aF.kP (κ:=0) (t:=4) (k:=0) (u:=5) ⟨rfl,rfl⟩ zp yi zp)
 ·obtain⟨a,rfl⟩:=FK hk;have X:=Rg hD;have ga:=hg a zp;obtain⟨hr,he⟩:=acF (show(a.abs,(0:Int))=((r1,r2),e) from hv);have c1:=Uk (GG m) a (Iv.aC ga.1 zr);rw[hr]at c1;obtain⟨a1,a2⟩:=a;subst he;refine aau mixed c1 (mo @iQ.eq_1 @iA @ai.eq_1 X) ?_;exact aal (aF.kP (κ:=0) (t:=4) (k:=0) (u:=5) ⟨rfl,rfl⟩ zp yi zp)
 ·obtain⟨a,rfl⟩:=FK hk;have X:=Rg hD;have ga:=hg a zp;obtain⟨hr,he⟩:=acF (show(LX a 96,(Hu a.1:Int))=((r1,r2),e) from hv);have c1:=Sx (GG m) a 96 ga.2 ga.1.1 ga.1.2;rw[hr]at c1;rw[he]at c1;obtain⟨a1,a2⟩:=a;refine aau mixed c1 (mo @iQ.eq_1 @iA @ai.eq_1 X) ?_;exact aal (aF.kP (κ:=0) (t:=4) (k:=0) (u:=5) ⟨rfl,rfl⟩ zp yi zp)
 ·obtain⟨a,rfl⟩:=FK hk;have X:=Rg hD;have ga:=hg a zp;obtain⟨hr,he⟩:=acF (show(a,(0:Int))=((r1,r2),e) from hv);subst hr;subst he;refine aau mixed trivial (mo @iQ.eq_1 @iA @ai.eq_1 X) ?_;exact aal (aF.kP (κ:=0) (t:=4) (k:=0) (u:=5) ⟨rfl,rfl⟩ zp yi zp)
 ·obtain⟨a,b,rfl⟩:=yM hk;have X:=LL hD;have ga:=hg a zp;have gb:=hg b zp;obtain⟨hr,he⟩:=acF (show(a.add b,(0:Int))=((r1,r2),e) from hv);have c1:=tM (GG m) a b (Iv.aC ga.1 zr) (Iv.aC gb.1 zr);rw[hr]at c1;obtain⟨a1,a2⟩:=a;obtain⟨b1,b2⟩:=b;subst he;refine aau mixed c1 (mo @iQ.eq_1 @iA @ai.eq_1 X) ?_;exact aal (aF.kP (κ:=0) (t:=4) (k:=0) (u:=5) ⟨rfl,rfl⟩ zp yi zp)
 ·obtain⟨a,b,rfl⟩:=yM hk;have X:=LL hD;have ga:=hg a zp;have gb:=hg b zp;obtain⟨hr,he⟩:=acF (show(a.sub b,(0:Int))=((r1,r2),e) from hv);have c1:=Hy (GG m) a b (Iv.aC ga.1 zr) (Iv.aC gb.1 zr);rw[hr]at c1;obtain⟨a1,a2⟩:=a;obtain⟨b1,b2⟩:=b;subst he;refine aau mixed c1 (mo @iQ.eq_1 @iA @ai.eq_1 X) ?_;exact aal (aF.kP (κ:=0) (t:=4) (k:=0) (u:=5) ⟨rfl,rfl⟩ zp yi zp)
 ·obtain⟨a,b,rfl⟩:=yM hk;have X:=LL hD;have ga:=hg a zp;have gb:=hg b zp;obtain⟨hr,he⟩:=acF (show(a.mul b,(0:Int))=((r1,r2),e) from hv);have c1:=rj (GG m) a b (Iv.aC ga.1 zr) (Iv.aC gb.1 zr) ga.2 gb.2;rw[hr]at c1;obtain⟨a1,a2⟩:=a;obtain⟨b1,b2⟩:=b;subst he;refine aau mixed c1 (mo @iQ.eq_1 @iA @ai.eq_1 X) ?_;exact aal (aF.kP (κ:=0) (t:=4) (k:=0) (u:=5) ⟨rfl,rfl⟩ zp yi zp)
 ·obtain⟨a,b,rfl⟩:=yM hk;have X:=LL hD;have ga:=hg a zp;have gb:=hg b zp;obtain⟨hr,he⟩:=acF (show(nq a b,(if b.has 0 then(8:Int)else 0:Int))=((r1,r2),e) from hv);have c1:=Jm (GG m) a b (Iv.aC ga.1 zr) (Iv.aC gb.1 zr) ga.2 gb.2;rw[hr]at c1;rw[he]at c1;obtain⟨a1,a2⟩:=a;obtain⟨b1,b2⟩:=b;refine aau mixed c1 (mo @iQ.eq_1 @iA @ai.eq_1 X) ?_;exact aal (aF.kP (κ:=0) (t:=4) (k:=0) (u:=5) ⟨rfl,rfl⟩ zp yi zp)
 ·obtain⟨a,b,rfl⟩:=yM hk;have X:=LL hD;have ga:=hg a zp;have gb:=hg b zp;obtain⟨hr,he⟩:=acF (show((eM a.1 b.1,eM a.2 b.2),(0:Int))=((r1,r2),e) from hv);have c1:=uJ (GG m) a.1 b.1 (au ga.1.1 zr) (au gb.1.1 zr);have c2:=uJ (GG m) a.2 b.2 (au ga.1.2 zr) (au gb.1.2 zr)
  cases hr
  generalize eM a.1 b.1=r1 at*
  generalize eM a.2 b.2=r2 at*
  obtain⟨a1,a2⟩:=a;obtain⟨b1,b2⟩:=b;subst he;refine aau mixed (eY c1 c2) (BF @iQ.eq_1 @iA @ai.eq_1 @DZ X) ?_;exact aal (aF.kP (κ:=0) (t:=4) (k:=0) (u:=5) ⟨rfl,rfl⟩ zp yi zp)
 ·obtain⟨a,b,rfl⟩:=yM hk;have X:=LL hD;have ga:=hg a zp;have gb:=hg b zp;obtain⟨hr,he⟩:=acF (show((fh a.1 b.1,fh a.2 b.2),(0:Int))=((r1,r2),e) from hv);have c1:=uO (GG m) a.1 b.1 (au ga.1.1 zr) (au gb.1.1 zr);have c2:=uO (GG m) a.2 b.2 (au ga.1.2 zr) (au gb.1.2 zr)
  cases hr
  generalize fh a.1 b.1=r1 at*
  generalize fh a.2 b.2=r2 at*
  obtain⟨a1,a2⟩:=a;obtain⟨b1,b2⟩:=b;subst he;refine aau mixed (eY c1 c2) (BF @iQ.eq_1 @iA @ai.eq_1 @DZ X) ?_;exact aal (aF.kP (κ:=0) (t:=4) (k:=0) (u:=5) ⟨rfl,rfl⟩ zp yi zp)
 ·obtain⟨a,b,c,rfl⟩:=Xi hk;have X:=acD hD;have ga:=hg a zp;have gb:=hg b zp;have gc:=hg c zp;obtain⟨hr,he⟩:=acF (show((a.mul b).add c,(0:Int))=((r1,r2),e) from hv);have c1:=rj (GG m) a b (Iv.aC ga.1 zr) (Iv.aC gb.1 zr) ga.2 gb.2;have c2:=tM (GG m) (a.mul b) c (Iv.aC (Ua ga.1 gb.1) zr) (Iv.aC gc.1 zr);rw[hr]at c2;generalize a.mul b=q at*
  obtain⟨a1,a2⟩:=a;obtain⟨b1,b2⟩:=b;obtain⟨c1',c2'⟩:=c;obtain⟨q1,q2⟩:=q;subst he;refine aau mixed (eY c1 c2) (mo @iQ.eq_1 @iA @ai.eq_1 X) ?_;exact aal (aF.kP (κ:=0) (t:=4) (k:=0) (u:=5) ⟨rfl,rfl⟩ zp yi zp)
 ·obtain⟨a,b,c,d,rfl⟩:=Yt hk;have X:=aa5 hD;have ga:=hg a zp;have gb:=hg b zp;have gc:=hg c zp;have gd:=hg d zp
  by_cases h1:a.2<=b.1
  ·obtain⟨hr,he⟩:=acF ((if_pos h1).symm.trans hv);have c1:=iZ (GG m) a.2 b.1 (au ga.1.2 zr) (au gb.1.1 zr);have g1:=gJ.2 h1;generalize bS a.2 b.1=k1 at*
   subst hr;obtain⟨a1,a2⟩:=a;obtain⟨b1,b2⟩:=b;obtain⟨q1,q2⟩:=d;subst he;refine aau mixed c1 (BF @iQ.eq_1 @iA @ai.eq_1 g1 X) ?_;exact aal (aF.kP (κ:=0) (t:=4) (k:=0) (u:=5) ⟨rfl,rfl⟩ zp yi zp)
  by_cases h2:b.2<a.1
  ·obtain⟨hr,he⟩:=acF (((if_neg h1).trans (if_pos h2)).symm.trans hv);have c1:=iZ (GG m) a.2 b.1 (au ga.1.2 zr) (au gb.1.1 zr);have c2:=iZ (GG m) a.1 b.2 (au ga.1.1 zr) (au gb.1.2 zr);have g1:¬bS a.2 b.1<=0:=λh=>h1 (gJ.1 h)
   have g2:0<bS a.1 b.2:=by
    have:¬bS a.1 b.2<=0:=λh=>by have:=gJ.1 h;grind
    omega
   generalize bS a.2 b.1=k1 at*
   generalize bS a.1 b.2=k2 at*
   subst hr;obtain⟨a1,a2⟩:=a;obtain⟨b1,b2⟩:=b;obtain⟨p1,p2⟩:=c;subst he;refine aau mixed (eY c1 c2) (me @iQ.eq_1 @iA @ai.eq_1 g1 g2 X) ?_;exact aal (aF.kP (κ:=0) (t:=4) (k:=0) (u:=5) ⟨rfl,rfl⟩ zp yi zp)
  obtain⟨hr,he⟩:=acF (((if_neg h1).trans (if_neg h2)).symm.trans hv);have c1:=iZ (GG m) a.2 b.1 (au ga.1.2 zr) (au gb.1.1 zr);have c2:=iZ (GG m) a.1 b.2 (au ga.1.1 zr) (au gb.1.2 zr);have c3:=Qw (GG m) c d (Iv.aC gc.1 zr) (Iv.aC gd.1 zr);have g1:¬bS a.2 b.1<=0:=λh=>h1 (gJ.1 h)
  have g2:¬0<bS a.1 b.2:=by
   have:bS a.1 b.2<=0:=gJ.2 yn;omega
  generalize bS a.2 b.1=k1 at*
  generalize bS a.1 b.2=k2 at*
  rw[show c.join d=(r1,r2) from hr]at c3;obtain⟨a1,a2⟩:=a;obtain⟨b1,b2⟩:=b;obtain⟨p1,p2⟩:=c;obtain⟨q1,q2⟩:=d;subst he;refine aau mixed (lD c1 c2 c3) (me @iQ.eq_1 @iA @ai.eq_1 g1 g2 X) ?_;exact aal (aF.kP (κ:=0) (t:=4) (k:=0) (u:=5) ⟨rfl,rfl⟩ zp yi zp)
theorem Js(n:Nat):n<10^(eP n).length:=by
 by_cases h:n=0
 ·subst h;decide
 ·have e:(eP n).length=jV n:=by unfold eP jV;rw[if_neg h];simp
  rw[e];exact ve n
theorem PL(h:eS x=false):bF x 300:=by
 have h:¬2000<s9 x:=of_decide_eq_false h;unfold s9 at h;have h1:(eP x.num.natAbs).length<=2000:=zd
 have h2:(eP x.den).length<=2000:=zd
 have q1:=Jh (Js x.num.natAbs);have q2:=Jh (Js x.den);generalize (eP x.num.natAbs).length=l1 at*
 generalize (eP x.den).length=l2 at*
 exact⟨zd,zd⟩
theorem ID(h:pq a=true):a.sz 300:=by
 unfold pq at h
 cases h1:eS a.1<;>cases h2:eS a.2<;>simp[h1,h2]at h
 exact⟨PL h1,PL h2⟩
theorem WX{u v:Rat}(hv:0<=v)(h:u*u<=v*v):u<=v:=by
 by_cases hu:u<=v
 ·exact hu
 ·exfalso;have h1:v<u:=by grind
  have h2:0<u:=yn
  have h3:=Rat.mul_lt_mul_of_pos_right h1 h2;have h5:v*v<=v*u:=Rat.mul_le_mul_of_nonneg_left yn hv
  grind
theorem xO(t:Rat):t*(t.den:Rat)=(t.num:Rat):=by
 have h:t=(t.num:Rat)/(t.den:Rat):=by
  rw[<-Rat.mkRat_eq_div,agn]
 have hd:(t.den:Rat)≠0:=by
  have:=t.den_pos;intro e;have:t.den=0:=by exact_mod_cast e
  omega
 conv=>lhs;lhs;rw[h]
 rw[afa,Rat.mul_assoc,Rat.inv_mul_cancel _ hd,Rat.mul_one]
theorem Za(ht:0<=t):((s7 t false:Nat):Rat)*((s7 t false:Nat):Rat)<=t:=by
 have hn:0<=t.num:=Rat.num_nonneg.2 ht;have e:s7 t false=si (t.num.natAbs/t.den):=by unfold s7;rw[if_neg zp]
 rw[e];have h1:=AS (t.num.natAbs/t.den);generalize si (t.num.natAbs/t.den)=s at*
 have h2:s*s*t.den<=t.num.natAbs:=HQ (adh _ h1) (afp _ _);have hd:(0:Rat)<(t.den:Rat):=by exact_mod_cast t.den_pos
 refine agE (c:=(t.den:Rat)) ?_ hd;rw[xO]
 have e2:(t.num:Rat)=((t.num.natAbs:Nat):Rat):=by
  have:t.num=((t.num.natAbs:Nat):Int):=zd
  rw[this];rfl
 rw[e2,<-Rat.natCast_mul,<-Rat.natCast_mul]
 exact_mod_cast h2
theorem Xv(ht:0<=t):t<=((s7 t true:Nat):Rat)*((s7 t true:Nat):Rat):=by
 have hn:0<=t.num:=Rat.num_nonneg.2 ht
 have h2:t.num.natAbs<=s7 t true*s7 t true*t.den:=by
  unfold s7;split
  ·have h1:=Vb (t.num.natAbs/t.den);generalize si (t.num.natAbs/t.den)=s at*
   have h3:=Nat.lt_div_mul_add (a:=t.num.natAbs) t.den_pos;have h4:(t.num.natAbs/t.den+1)*t.den<=(s+1)*(s+1)*t.den:=adh _ h1;rw[adn,aes]at h4;omega
  ·rename_i h
   simp only[true_and]at h;omega
 generalize s7 t true=s at*
 have hd:(0:Rat)<(t.den:Rat):=by exact_mod_cast t.den_pos
 refine agE (c:=(t.den:Rat)) ?_ hd;rw[xO]
 have e2:(t.num:Rat)=((t.num.natAbs:Nat):Rat):=by
  have:t.num=((t.num.natAbs:Nat):Int):=zd
  rw[this];rfl
 rw[e2,<-Rat.natCast_mul,<-Rat.natCast_mul]
 exact_mod_cast h2
theorem Fc{P:Rat}(hP:0<P)(ht:t=x*(P⁻¹*P⁻¹)):t*(P*P)=x:=by
 have h:P*P⁻¹=1:=Rat.mul_inv_cancel _ yn;rw[ht];grind
theorem Gt(k:Int):(2:Rat)^(-2*k)=((2:Rat)^k)⁻¹*((2:Rat)^k)⁻¹:=by
 rw[show -2*k = -k+-k by omega,Rat.zpow_add zr,Rat.zpow_neg]
theorem P4(h0:0<=x)(bits:Int):gH x bits false*gH x bits false<=x:=by
 unfold gH
 by_cases hx:x=0
 ·subst hx;rw[if_pos rfl,af3];exact aev
 rw[if_neg hx];generalize fL x bits=k;have ht:=fN x (-2*k);rw[Gt]at ht;generalize aH x (-2*k)=t at*
 rw[fN];have hP:=two_pos k;generalize (2:Rat)^k=P at*
 have hb:=Fc hP ht;have hPP:0<P*P:=Rat.mul_pos hP hP
 have h1:0<=t:=by
  refine agE (c:=P*P) ?_ hPP;rw[hb,Rat.zero_mul];exact h0
 have h2:=Za h1;have e:((((s7 t false:Nat):Int):Rat))=((s7 t false:Nat):Rat):=rfl;rw[e];generalize ((s7 t false:Nat):Rat)=s at*
 have h3:=agp h2 (afP hPP);rw[hb]at h3
 grind
theorem MQ(h0:0<=x)(bits:Int):x<=gH x bits true*gH x bits true/\0<=gH x bits true:=by
 unfold gH
 by_cases hx:x=0
 ·subst hx;rw[if_pos rfl,af3];exact⟨aev,aev⟩
 rw[if_neg hx];generalize fL x bits=k;have ht:=fN x (-2*k);rw[Gt]at ht;generalize aH x (-2*k)=t at*
 rw[fN];have hP:=two_pos k;generalize (2:Rat)^k=P at*
 have hb:=Fc hP ht;have hPP:0<P*P:=Rat.mul_pos hP hP
 have h1:0<=t:=by
  refine agE (c:=P*P) ?_ hPP;rw[hb,Rat.zero_mul];exact h0
 have h2:=Xv h1;have e:((((s7 t true:Nat):Int):Rat))=((s7 t true:Nat):Rat):=rfl;rw[e];have hs:(0:Rat)<=((s7 t true:Nat):Rat):=by exact_mod_cast ab5 _
 generalize ((s7 t true:Nat):Rat)=s at*
 have h3:=agp h2 (afP hPP);rw[hb]at h3;exact⟨yn,Rat.mul_nonneg hs (afP hP)⟩
theorem VE(h:a.1<=a.2)(bits:Int):(LX a bits).1<=(LX a bits).2:=by
 unfold LX;split
 ·exact aev
 ·rename_i h0
  have h1:0<=a.1:=yn
  have h2:0<=a.2:=aeW h1 h;have l:=P4 h1 bits;have u:=MQ h2 bits;exact WX u.2 (aeW l (aeW h u.1))
def hU(a:Iv):Iv:=(ja a.1 96,DW a.2 96)
theorem KK(h:a.1<=a.2):(hU a).1<=(hU a).2:=aeW (QE _ _) (aeW h (Yi _ _))
theorem O3(w x y z:Rat):(gG w x y z).1<=(gG w x y z).2:=aeW (Oz w x y z).1 (N9 w x y z).1
theorem Iv.qU(a b:Iv):(a.mul b).1<=(a.mul b).2:=O3 ..
theorem CX(a b:Iv):(nq a b).1<=(nq a b).2:=by
 unfold nq;split
 ·exact aev
 ·exact Iv.qU ..
theorem Iv.xy(ha:a.1<=a.2)(hb:b.1<=b.2):(a.add b).1<=(a.add b).2:=by simp only[Iv.add];grind
theorem Iv.sub_le{a b:Iv}(ha:a.1<=a.2)(hb:b.1<=b.2):(a.sub b).1<=(a.sub b).2:=by simp only[Iv.sub];grind
theorem Iv.P0(ha:a.1<=a.2):a.neg.1<=a.neg.2:=by simp only[Iv.neg];grind
theorem Iv.Ux(a:Iv):a.abs.1<=a.abs.2:=by
 show a.near<=a.size;unfold Iv.near Iv.size eM fh b9;grind
theorem Iv.join_le(ha:a.1<=a.2):(a.join b).1<=(a.join b).2:=aeW (UM _ _) (aeW ha (Uw _ _))
theorem EO(hx:bF x L)(hy:bF y M):bF (x/y) (L+M+1):=by
 by_cases h0:y=0
 ·have:x/y=0:=by rw[h0,afa,Rat.inv_zero,af3]
  rw[this];exact gQ _ zd
 have e1:=cK x.num.natAbs y.den;have e2:=cK x.den y.num.natAbs;obtain⟨a1,a2⟩:=hx;obtain⟨b1,b2⟩:=hy;rw[Dx h0];exact jF _ (aeg (adJ x.den_pos (aeJ (C8 h0)))) zd zd
theorem cX(ha:a.sz L)(hb:b.sz M):(a.mul b).sz (L+M):=Kg (gu ha.1 hb.1) (gu ha.1 hb.2) (gu ha.2 hb.1) (gu ha.2 hb.2)
theorem DN(ha:a.sz L)(hb:b.sz M):(nq a b).sz (L+(M+2)):=by
 unfold nq;split
 ·exact nY zd
 ·have s1:bF (1:Rat) 1:=⟨wd,wd⟩
  have u:Iv.sz (1/b.2,1/b.1) (M+2):=⟨au (EO s1 hb.2) zd,au (EO s1 hb.1) zd⟩
  exact cX ha u
theorem T9(ha:a.sz 300)(bits:Int):(LX a bits).sz 1300:=by
 unfold LX;split
 ·exact nY zr
 ·exact⟨KN ha.1 bits false,KN ha.2 bits true⟩
theorem jy(ha:a.sz L)(hb:b.sz M):(a.add b).sz (L+M+1):=⟨jg ha.1 hb.1,jg ha.2 hb.2⟩
theorem Du(ha:a.sz L):a.neg.sz L:=⟨fk ha.2,fk ha.1⟩
theorem uL(ha:a.sz L)(hb:b.sz M):(a.sub b).sz (L+M+1):=by rw[sub_neg];exact jy ha (Du hb)
theorem SU(ha:a.sz L)(hL:1<=L):a.abs.sz L:=by
 refine⟨?_,lp (fH ha.1) (fH ha.2)⟩;show bF a.near L;unfold Iv.near;split
 ·exact gQ _ hL
 ·exact mC (fH ha.1) (fH ha.2)
theorem N5(ha:a.sz L)(hb:b.sz L):(a.join b).sz L:=⟨mC ha.1 hb.1,lp ha.2 hb.2⟩
theorem tE:Iv.g (0,0):=⟨nY zr,aev⟩
theorem jn{c:Prop}[Decidable c]{x y:Iv×Int}(hx:P x.1)(hy:P y.1):P (if c then x else y).1:=by split<;>assumption
theorem KB(P:Iv->Prop){c d:Iv}(h4:P a.neg)(h5:P a.abs)(h6:P (LX a 96))(h7:P a)(h8:P (a.add b))(h9:P (a.sub b))(h10:P (a.mul b))(h11:P (nq a b))(h12:P (eM a.1 b.1,eM a.2 b.2))(h13:P (fh a.1 b.1,fh a.2 b.2))(h14:P ((a.mul b).add c))(hc:P c)(hd:P d)(hj:P (c.join d)){k:List Iv}(ea:k.getD 0 (0,0)=a)(eb:k.getD 1 (0,0)=b)(ec:k.getD 2 (0,0)=c)(ed:k.getD 3 (0,0)=d):P (uu op k).1:=by
 subst ea eb ec ed;unfold uu;exact jn h4 (jn h5 (jn h6 (jn h7 (jn h8 (jn h9 (jn h10 (jn h11 (jn h12 (jn h13 (jn h14 (jn hc (jn hd hj))))))))))))
theorem Uo{k:List Iv}(hg:∀j,(k.getD j (0,0)).g):(uu op k).1.1<=(uu op k).1.2:=by
 have ga:=(hg 0).2;have gb:=(hg 1).2;have gc:=(hg 2).2;have gd:=(hg 3).2;refine KB (λv=>v.1<=v.2) (Iv.P0 ga) (Iv.Ux _) (VE ga 96) ga (Iv.xy ga gb) (Iv.sub_le ga gb) (Iv.qU _ _) (CX _ _) ?_ ?_ (Iv.xy (Iv.qU _ _) gc) gc gd (Iv.join_le gc) rfl rfl rfl rfl
 ·simp only[eM];grind
 ·simp only[fh];grind
theorem HG{k:List Iv}(hg:∀j,(k.getD j (0,0)).g):(uu op k).1.sz 1300:=by
 have ga:=(hg 0).1;have gb:=(hg 1).1;have gc:=(hg 2).1;have gd:=(hg 3).1;have up:∀{v:Iv}{L:Nat},v.sz L->L<=1300->v.sz 1300:=λh h'=>Iv.aC h h'
 exact KB (λv=>v.sz 1300) (up (Du ga) zr) (up (SU ga zr) zr) (T9 ga 96) (up ga zr) (up (jy ga gb) zr) (up (uL ga gb) zr) (up (cX ga gb) zr) (up (DN ga gb) zr) (up ⟨mC ga.1 gb.1,mC ga.2 gb.2⟩ zr) (up ⟨lp ga.1 gb.1,lp ga.2 gb.2⟩ zr) (up (jy (cX ga gb) gc) zr) (up gc zr) (up gd zr) (up (N5 gc gd) zr) rfl rfl rfl rfl
theorem FZ(h:bF x 2000)(away:Bool):bF (n9 x 96 away) 1000000:=by
 unfold n9;split
 ·exact au h zr
 ·rename_i h0
  have hl:=jv h0 h;have hb:=qY 96;have z1:=cZ h (-(dm x-kI 96+1));have z2:=r5 z1 away;exact au (cZ z2 (dm x-kI 96+1)) zd
theorem DB(h:a.sz 2000):(hU a).sz 1000000:=⟨FZ h.1 _,FZ h.2 _⟩
def Wd(o:Nat->Iv)(n:Nd):List Iv:=(aP n).map λk=>o k.toNat
def BZ(p:PD)(is:List Iv)(o:Nat->Iv)(i:Nat):Iv×Int:=
 if (p.nd i).op=2 then((0,0),160)else if (p.nd i).op=1 then(is.getD (p.nd i).a.toNat (0,0),0)else if (p.nd i).op=3 then((cj (p.nd i).v,cj (p.nd i).v),0)
 else(hU (uu (p.nd i).op (Wd o (p.nd i))).1,(uu (p.nd i).op (Wd o (p.nd i))).2)
def Ki(p:PD)(is:List Iv)(dp:Nat->Bool)(s:(Nat->Iv)×Int)(i:Nat):(Nat->Iv)×Int:=
 if s.2≠0 then s else if dp i=false then s else if (BZ p is s.1 i).2≠0 then(s.1,(BZ p is s.1 i).2)else if pq (BZ p is s.1 i).1 then(λj=>if j=i then(BZ p is s.1 i).1 else s.1 j,0)else(s.1,3)
def jx(p:PD)(is:List Iv)(dp:Nat->Bool):Nat->(Nat->Iv)×Int
 |0=>(λ_=>(0,0),0)
 |i+1=>Ki p is dp (jx p is dp i) i
theorem Kt(h:(jx p is dp i).2≠0):∀j,i<=j->jx p is dp j=jx p is dp i:=by
 intro j hj;obtain⟨d,rfl⟩:∃d,j=i+d:=⟨j-i,zd⟩
 induction d with
 |zero=>rfl
 |succ d ih=>
  show Ki p is dp (jx p is dp (i+d)) (i+d)=_;rw[ih zd];exact if_pos h
theorem TC(ho:∀j,(o j).g)(n:Nd)(j:Nat):((Wd o n).getD j (0,0)).g:=by
 unfold Wd;rw[ab6,aez]
 cases(aP n)[j]? with
 |none=>exact tE
 |some k=>exact ho _
theorem Ig(ho:∀j,(o j).g)(hi:∀a∈is,a.sz 10000/\a.1<=a.2)(i:Nat):(BZ p is o i).1.1<=(BZ p is o i).1.2/\(BZ p is o i).1.sz 1000000:=by
 unfold BZ;split
 ·exact⟨aev,nY zr⟩
 split
 ·rw[ab6]
  cases h:is[(p.nd i).a.toNat]? with
  |none=>exact⟨aev,nY zr⟩
  |some a=>
   have:=hi a (aet h);exact⟨this.2,Iv.aC this.1 zr⟩
 split
 ·have:=j6 (p.nd i).v;exact⟨aev,au this zr,au this zr⟩
 ·exact⟨KK (Uo (TC ho _)),DB (Iv.aC (HG (TC ho _)) zr)⟩
theorem tj{p:PD}{is:List Iv}{dp:Nat->Bool}(hi:∀a∈is,a.sz 10000/\a.1<=a.2):∀i j,((jx p is dp i).1 j).g
 |0,_=>tE
 |i+1,j=>by
  have ih:=tj (p:=p) (dp:=dp) hi i;show((Ki p is dp (jx p is dp i) i).1 j).g;unfold Ki;split
  ·exact ih j
  split
  ·exact ih j
  split
  ·exact ih j
  split
  ·rename_i h
   show(if j=i then _ else _:Iv).g;split
   ·exact⟨ID h,(Ig ih hi i).1⟩
   ·exact ih j
  ·exact ih j
def vK(o:Nat->Iv)(n:Nat):List CV:=iK ((List.range n).map o)
theorem pN(o:Nat->Iv)(n:Nat):(vK o n).length=n*6:=by unfold vK;rw[C5];simp
theorem D5(o:Nat->Iv)(n:Nat)(g:Key->Key):(vK o n).map (CV.dA g)=vK o n:=Ao _ g
theorem IC{o':Nat->Iv}(h:∀i,i<n->o i=o' i):vK o n=vK o' n:=by
 unfold vK;rw[aen λi hi=>h i (List.mem_range.1 hi)]
theorem vw(o:Nat->Iv)(n:Nat):vK o (n+1)=vK o n++[.d (.bool (decide ((o n).1.num<0))),nC (aW (o n).1.num.natAbs),nC (bB (o n).1.den),.d (.bool (decide ((o n).2.num<0))),nC (aW (o n).2.num.natAbs),nC (bB (o n).2.den)]:=by
 unfold vK;rw[List.range_succ,aeD,adi,ael,<-zk]
theorem FP(o:Nat->Iv)(h:i<m):∃r,vK o m=vK o i++[.d (.bool (decide ((o i).1.num<0))),nC (aW (o i).1.num.natAbs),nC (bB (o i).1.den),.d (.bool (decide ((o i).2.num<0))),nC (aW (o i).2.num.natAbs),nC (bB (o i).2.den)]++r/\∀g:Nat->Iv,(∀j,j<m->j≠i->g j=o j)->vK g m=vK o i++[.d (.bool (decide ((g i).1.num<0))),nC (aW (g i).1.num.natAbs),nC (bB (g i).1.den),.d (.bool (decide ((g i).2.num<0))),nC (aW (g i).2.num.natAbs),nC (bB (g i).2.den)]++r:=by
 induction m with
 |zero=>omega
 |succ m ih=>
  by_cases e:i=m
  ·subst e;exact⟨[],by rw[vw,ad5],λg hg=>by rw[vw,ad5,IC λj hj=>hg j zd zd]⟩
  ·obtain⟨r,h1,h2⟩:=ih zd;refine⟨r++[.d (.bool (decide ((o m).1.num<0))),nC (aW (o m).1.num.natAbs),nC (bB (o m).1.den),.d (.bool (decide ((o m).2.num<0))),nC (aW (o m).2.num.natAbs),nC (bB (o m).2.den)],by rw[vw,h1,acR],λg hg=>?_⟩;rw[vw,h2 g λj hj hne=>hg j zd hne,hg m zd zd,acR]
theorem EG(o:Nat->Iv)(h:i<m):∃r,(vK o m).drop (i*6)=[.d (.bool (decide ((o i).1.num<0))),nC (aW (o i).1.num.natAbs),nC (bB (o i).1.den),.d (.bool (decide ((o i).2.num<0))),nC (aW (o i).2.num.natAbs),nC (bB (o i).2.den)]++r:=by
 obtain⟨r,h1,_⟩:=FP o h;refine⟨r,?_⟩;rw[h1,acR,afA (by rw[pN])]
theorem qE(o:Nat->Iv)(h:i<m)(v:Iv):ai (vK o m) (i*6) [.d (.bool (decide (v.1.num<0))),nC (aW v.1.num.natAbs),nC (bB v.1.den),.d (.bool (decide (v.2.num<0))),nC (aW v.2.num.natAbs),nC (bB v.2.den)]=vK (λj=>if j=i then v else o j) m:=by
 obtain⟨r,h1,h2⟩:=FP o h;rw[h2 (λj=>if j=i then v else o j) λj _ hne=>if_neg hne,h1];unfold ai;have hl:(vK o i).length=i*6:=pN o i;have e:=acR (vK o i) [.d (.bool (decide ((o i).1.num<0))),nC (aW (o i).1.num.natAbs),nC (bB (o i).1.den),.d (.bool (decide ((o i).2.num<0))),nC (aW (o i).2.num.natAbs),nC (bB (o i).2.den)] r;rw[e,List.take_left' hl,<-e,afA (by rw[adl,hl];rfl)];simp only[if_true]
theorem zc(M:Nat):gh M [CV.d (.bool false),CV.d .nilsl,CV.d .nilsl,CV.d (.bool false),CV.d .nilsl,CV.d .nilsl]=vK (λ_=>(0,0)) M:=by
 have h:∀M,gh M [CV.d (.bool false),CV.d .nilsl,CV.d .nilsl,CV.d (.bool false),CV.d .nilsl,CV.d .nilsl]++[CV.d (.bool false),CV.d .nilsl,CV.d .nilsl,CV.d (.bool false),CV.d .nilsl,CV.d .nilsl]=[CV.d (.bool false),CV.d .nilsl,CV.d .nilsl,CV.d (.bool false),CV.d .nilsl,CV.d .nilsl]++gh M [CV.d (.bool false),CV.d .nilsl,CV.d .nilsl,CV.d (.bool false),CV.d .nilsl,CV.d .nilsl]:=by
  intro M
  induction M with
  |zero=>rfl
  |succ M ih=>
   show([CV.d (.bool false),CV.d .nilsl,CV.d .nilsl,CV.d (.bool false),CV.d .nilsl,CV.d .nilsl]++gh M _)++_=_++([CV.d (.bool false),CV.d .nilsl,CV.d .nilsl,CV.d (.bool false),CV.d .nilsl,CV.d .nilsl]++gh M _)
   rw[acR,ih]
 induction M with
 |zero=>rfl
 |succ M ih=>
  show [CV.d (.bool false),CV.d .nilsl,CV.d .nilsl,CV.d (.bool false),CV.d .nilsl,CV.d .nilsl]++gh M _=vK _ (M+1);rw[<-h,ih,vw];rfl
section
variable {lv:Key->LB}{own fz:Bool}{T:TypeId}
theorem Tq{cs:List CV}(h:lv k=.cells own fz T cs):aq prog 61 lv (.c (.aO k 0 n 6)) (.c (.d (.int .i64 (i:Int))))=some (.c (.ptr k (i*6)),[],[k],i<n):=by
 simp[aq,h]
theorem Vv(h:lv k=.cells own fz T (vK o m))(hi:i<m):aA prog 36 lv (.c (.ptr k (i*6)))=some (eo (o i),[],[k],True):=by
 obtain⟨r,hr⟩:=EG o hi;simp[aA,h,hr]
theorem stV(h:lv k=.cells own false T (vK o m))(hi:i<m)(v:Iv):aG prog 36 lv (.c (.ptr k (i*6))) (eo v)=some (.undef,[(k,.cells own false T (vK (λj=>if j=i then v else o j) m))],[],True):=by
 have e:=qE o hi v;have hl:i*6+6<=(vK o m).length:=by rw[pN];omega
 simp[aG,h,AV.cells,e,hl]
end
theorem Sk(h:lv k=.cells own fz T (vK o n))(hl:n<=1000000)(h0:n≠0):gq lv (.c (.aO k 0 n 6))=some (.c (dc (iO ((List.range n).map o))),[k]):=by
 have:=Er (l:=(List.range n).map o) (k:=k) h yv cf;rw[sC,List.length_range]at this;exact this
theorem qQ(G:List (List DV))(x:Rat):aa prog G 48 [bu x] (eo (x,x)):=by
 refine aa.enc func48 rfl (λlv=>jA lv _ _ _ _ _ _) λ_=>aah ?_;refine abk @DZ @ai.eq_1 ?_;exact aal (aF.iv (κ:=0) (t:=2) (k:=1) (a:=(x,x)) ⟨rfl,rfl⟩ zp yi)
theorem LN(G:List (List DV))(hD:y9 D is)(i:Nat)(hi:i<is.length):aa prog G 317 [.c (.d D),.c (.d (.int .i64 (i:Int)))] (eo is[i]):=by
 have x0:=λlv=>uf (T:=66) zp hD lv hi
 generalize is[i]=a at*
 refine aa.enc func317 rfl (λlv=>jA lv _ _ _ _ _ _) λ_=>aah ?_;refine aaF λK hK=>?_;simp[x0,iQ,iA,ai]
 repeat refine az ?_
 apply hK;exact aal (aF.iv (κ:=0) (t:=4) (k:=0) ⟨rfl,rfl⟩ zp yi)
theorem C1(G:List (List DV))(D:DV)(x:Rat):aa prog G 316 [.c (.d D),bu x] (eo (x,x)):=by
 have c1:=qQ G x;refine aa.enc func316 rfl (λlv=>jA lv _ _ _ _ _ _) λ_=>aah ?_;refine abx 3 c1 @ai.eq_1 ?_;exact aal (aF.iv (κ:=0) (t:=4) (k:=1) (a:=(x,x)) ⟨rfl,rfl⟩ zp yi)
theorem ag.TX{f:FuncId}(κ' kh κb:Key)
 (hk:lv κb=.cells true false T ((dY x++dY y).map CV.d)) (hc:aa c.P c.G f [mW [x,y]] X) (hX:X.pure=true) (hh:lv kh=.hole) (hkh:kh≠κb)
 (hK:K X [(κb,.cells true true T ((dY x++dY y).map CV.d))] [kh] κ'):ag c f [.c (.aO κb 0 2 3)] lv K:=by
 refine ag.MD κ' kh κb T _ [kh] hc hX hk hh hkh rfl (λi p q=>?_) (λa ha j hj=>?_) zp hK
 ·have hi:i=0:=by simp at p;omega
  subst hi;right;simp only[aeC,fO,fX,aI];rfl
 ·simp only[aeH]at ha;subst ha;simp only[ql,jB,aZ,aI]at hj;rcases hj with rfl|hj
  ·exact .inr rfl
  ·simp only[aeO]at hj;obtain⟨y,hy,hj⟩:=hj;simp only[aeA]at hy;obtain⟨z,_,rfl⟩:=hy
   cases hj
theorem Ml(m:Int)(D:DV)(a:Iv)(ha:a.sz 1000000):aa prog (GG m) 319 [.c (.d D),eo a] (.c (.d (.bool (pq a)))):=by
 have c1:=wF m a.1 a.2 ha.1 ha.2;have e:pq a = !(eS a.1 ||eS a.2):=rfl;rw[<-e]at c1;generalize pq a=b at*
 obtain⟨a1,a2⟩:=a;simp only at c1;refine aa.en func319 rfl λ_=>aac λK hK=>aai ?_;simp
 repeat refine az ?_
 apply hK;refine aac λK hK=>aai ?_;simp[JC];refine ag.TX (T:=34) 4 9 1 (x:=a1) (y:=a2) ?_ c1 ?_ ?_ ?_ ?_
 ·simp[dY,gT]
 ·simp
 ·simp
 ·decide
 simp
 repeat refine az ?_
 apply hK;exact aaq (aD.rt rfl 4 zp)
theorem EZ(m:Int)(D:DV)(op:Int)(k:List Iv){E:DV}(hE:y9 E k)(h4:4<=op)(h15:op<=15)(hk:k.length=cH op)(hg:∀a∈k,a.g)(hs:(uu op k).1.sz 10000):
 aa prog (GG m) 318 [.c (.d D),.c (.d (.int .i64 op)),.c (.d E)] (.tup [eo (hU (uu op k).1),.c (.d (.int .i64 (uu op k).2))]):=by
 have c1:=Pu m op k hE h4 h15 hk hg;have c2:=I7 (GG m) (uu op k).1 96 hs;have e:(ja (uu op k).1.1 96,DW (uu op k).1.2 96)=hU (uu op k).1:=rfl;rw[e]at c2;generalize hU (uu op k).1=r at*
 generalize (uu op k).2=w at*
 generalize (uu op k).1=a at*
 obtain⟨a1,a2⟩:=a;obtain⟨r1,r2⟩:=r;refine aa.enc func318 rfl (λlv=>bY lv _ _ _ _ _ _ _ rfl) λ_=>aah ?_;refine abx 2 c1 @ai.eq_1 ?_;refine abx 4 c2 @ai.eq_1 ?_;exact aal (aF.kP (κ:=0) (t:=6) (k:=0) (u:=7) (a:=(r1,r2)) ⟨rfl,rfl⟩ zp yi zp)
abbrev E3(p:PD)(o:Nat->Iv)(N:Nat):Key->LB:=aM (aM (λ_=>.hole) 0 (.cells true false 27 p.cs)) 1 (.cells true false 36 (vK o N))
theorem u9(o:Nat->Iv)(n:Nat)(g:Key->Key):(LB.cells own fz T (vK o n)).like (.cells own fz T (vK o n)) g:=LB.aN.2 ⟨rfl,rfl,(D5 o n g).symm,id⟩
abbrev evM(p:PD)(o:Nat->Iv)(N:Nat):List (Key×Key×LB):=[(0,0,.cells true false 27 p.cs),(1,1,.cells true false 36 (vK o N))]
theorem Fi(hc:c.jd=λ_=>.hole)(l:List (Nat×AV))(h0:lv 0=.cells true false 27 p.cs)(h1:lv 1=.cells true false 36 (vK o N))(h9:lv 9=.hole)
 (hl:∀x∈l,x.2.cG=true/\fr x.1=x.2.dA (aV (evM p o N) 9)):Le c ⟨fr,lv⟩ ⟨aT l,E3 p o N⟩:=by
 refine Le.keys (evM p o N) 9 l rfl hc zp zp h9 ?_ hl;intro e he;simp only[aZ,bw,or_false]at he;rcases he with rfl|rfl
 ·show(lv 0).like _ _;rw[h0];exact mb p _
 ·show(lv 1).like _ _;rw[h1];exact u9 o N _
theorem Lp(hD:y9 D l):lS prog "vernier/ranges.short" (.c (.d (.iface 66 D)))=some (319,[.c (.d D)],[]):=by rcases hD with rfl|⟨rfl,-⟩<;>kernel_rfl
theorem KT(hD:y9 D l):lS prog "vernier/ranges.input" (.c (.d (.iface 66 D)))=some (317,[.c (.d D)],[]):=by rcases hD with rfl|⟨rfl,-⟩<;>kernel_rfl
theorem Es(hD:y9 D l):lS prog "vernier/ranges.constant" (.c (.d (.iface 66 D)))=some (316,[.c (.d D)],[]):=by rcases hD with rfl|⟨rfl,-⟩<;>kernel_rfl
theorem FN(hD:y9 D l):lS prog "vernier/ranges.operate" (.c (.d (.iface 66 D)))=some (318,[.c (.d D)],[]):=by rcases hD with rfl|⟨rfl,-⟩<;>kernel_rfl
theorem RN(m:Int)(z:Ev)(p:PD)(N i:Nat)(hD:y9 D is)(o:Nat->Iv)(e:Int)(hi:i<N)(hs:(o i).sz 1000000)
 (hret:∀E s κ,E=(if e≠0 then e else 3)->(e≠0\/pq (o i)=false)->s.fr 6=.c (.d .nilsl)->s.fr 7=.c (.d (.int .i64 E))->s.lv 9=.hole->Q .ret s κ)
 (hn:e=0->pq (o i)=true->∀s κ,Le (⟨prog,GG m,z.w,z.F,z.W,Tryz.f22.ntmps,λ_=>.hole,z.b,z.d⟩:Ctx) s ⟨aT [(2,.c (.d (.iface 66 D))),(3,.c (.ptr 0 0)),(8,.c (.aO 1 0 N 6)),(9,.c (.d (.int .i64 (i:Int)))),(23,.c (.d dl)),(24,.c (.d (.int .i64 (N:Int)))),(25,.c (.d (.int .i64 (i:Int))))],E3 p o N⟩->Q .normal s κ) :
 AW (⟨prog,GG m,z.w,z.F,z.W,Tryz.f22.ntmps,λ_=>.hole,z.b,z.d⟩:Ctx) none (cW [1,1,0,1,2,3,1,1,0,2,1,1,1,1] Tryz.f22) ⟨aT [(2,.c (.d (.iface 66 D))),(3,.c (.ptr 0 0)),(8,.c (.aO 1 0 N 6)),(9,.c (.d (.int .i64 (i:Int)))),(12,.c (.d (.int .i64 (e)))),(23,.c (.d dl)),(24,.c (.d (.int .i64 (N:Int)))),(25,.c (.d (.int .i64 (i:Int))))],E3 p o N⟩ 20 Q:=by
 conv=>
  enter [3]
  whnf
 by_cases he:e=0
 rotate_left
 ·refine aac λK hK=>AW.d1 mixed he ?_;refine aax (aan (hK _ _ (aaN he ?_)));refine aaE (aah ?_);exact aal (hret _ _ _ rfl (.inl he) zp (by simp[he]) zp)
 have c1:=Ml m D (o i) hs;subst he;obtain⟨a,ha⟩:∃a,o i=a:=⟨_,rfl⟩
 obtain⟨b,hb⟩:∃b,pq a=b:=⟨_,rfl⟩
 rw[ha]at c1;rw[hb]at c1;rw[ha,hb]at hret hn;refine aac λK hK=>aac λK1 hK1=>?_;obtain⟨lv,hlv⟩:∃lv,E3 p o N=lv:=⟨_,rfl⟩
 have q1:lv 1=.cells true false 36 (vK o N):=xc
 have q9:lv 9=.hole:=xc
 have x0:=Tq (n:=N) (i:=i) q1;rw[eq_true hi]at x0;have x1:=Vv (i:=i) q1 hi;rw[ha]at x1;rw[hlv];refine AW.MR mixed zt ?_;refine xV.run 9 zt ?_;simp[x0,x1,oQ,lK,lZ,mZ,cQ,-aA];refine xV.stepG (x:=.c (.d (.func (.method "vernier/ranges.short") [.iface 66 D] []))) (us:=[]) (rds:=[]) 21 zt xr ?_ ?_
 ·have hm:(wH prog 66 "vernier/ranges.short").isSome=true:=by kernel_rfl
  simp[Am.ij,Op.operands,FY,hm]
 refine xV.run 4 zt ?_;simp[Lp hD];refine ag.p 21 9 c1 ?_ (hh:=q9);simp;refine xV.done ?_;refine⟨zt,?_⟩
 repeat refine az ?_
 rw[<-hlv];apply hK1
 cases b with
 |true=>
  refine aax (aan (hK _ _ (aah ?_)));refine aax (aan ?_);exact hn rfl rfl _ _ (Fi rfl _ zp zp zp xa)
 |false=>
  refine aaE (abS (hK _ _ ?_));refine aah ?_;refine aaE (aah ?_);exact aal (hret _ _ _ rfl (.inr rfl) zp zp zp)
theorem ag.opI{a b:AV}(κ':Nat)(kb:Key)(l:List Iv)(ha:a.pure=true)(hb:b.pure=true)(hl:l≠[])(hl2:l.length<=1000)(hc:aa c0.P c0.G fid [a,b,.c (.d (.sl (l.map iQ)))] X)(hX:X.pure=true)
 (hk:lv kb=.cells true false 36 (iK l)) (hh:lv 9=.hole) (hkb:(9:Key)≠kb) (hK:K X [(kb,.cells true true 36 (iK l))] [9] κ'):ag c0 fid [a,b,.c (.aO kb 0 l.length 6)] lv K:=by
 have hd:fO (aM lv kb (.cells true true 36 (iK l))) (.c (.aO kb 0 l.length 6))=some (.c (.d (.sl (l.map iQ))),[kb]):=by
  have:=Er (lv:=aM lv kb (.cells true true 36 (iK l))) (k:=kb) (own:=true) (fz:=true) (T:=36) (l:=l) (aI _ _ _) zd hl;have e:dc (iO l)=.d (.sl (l.map iQ)):=by unfold iO;rw[if_neg hl];rfl
  rw[e]at this;exact this
 refine ag.MD κ' 9 kb 36 (iK l) [9] hc hX hk hh hkb rfl (λi p q=>?_) (λx hx j hj=>?_) zp hK
 ·match i,p,q with
  |0,_,_=>exact .inl ⟨ha,rfl⟩
  |1,_,_=>exact .inl ⟨hb,rfl⟩
  |2,_,_=>exact .inr hd
 ·simp only[aZ,bw,or_false]at hx;rcases hx with rfl|rfl|rfl
  ·rw[dX ha]at hj;cases hj
  ·rw[dX hb]at hj;cases hj
  ·have hj:j∈jB (aM lv kb (.cells true true 36 (iK l))) 8 (.aO kb 0 l.length 6):=hj;simp only[jB,aI]at hj;rcases List.mem_cons.1 hj with rfl|hj
   ·exact .inr rfl
   ·obtain⟨y,hy,hj⟩:=List.mem_flatMap.1 hj;unfold iK at hy;obtain⟨w,_,rfl⟩:=List.mem_map.1 hy
    cases hj
theorem Nn{i:Int}{n:Nd}(h:l6 p i n=0)(h1:n.op=1):0<=n.a/\n.a<p.ni:=by
 by_cases hc:0<=n.a/\n.a<p.ni
 ·exact hc
 ·exfalso;unfold l6 at h;omega
theorem M6{k:List Iv}(h:∀x∈k,x.g)(j:Nat):(k.getD j (0,0)).g:=by
 rw[ab6]
 cases he:k[j]? with
 |none=>exact tE
 |some x=>exact h x (aet he)
def tT(k:Key)(l:List Iv):AV:=if l=[]then .c (.d .nilsl)else .c (.aO k 0 l.length 6)
theorem qS(k:Key)(l:List Iv)(a:Iv):tT k (l++[a])=.c (.aO k 0 (l.length+1) 6):=by
 unfold tT;rw[if_neg zp];simp
abbrev FR(p:PD)(o:Nat->Iv)(N:Nat)(n:Nd):Key->LB:=aM (E3 p o N) 10 (.cells true false 85 [.d (.int .i64 n.op),.d (.int .i64 n.a),.d (.int .i64 n.b),.d (.int .i64 n.c),.d (.int .i64 n.d),.d (.int .i64 n.f),.d (.str n.v)])
abbrev Xw(p:PD)(o:Nat->Iv)(N:Nat)(n:Nd)(k:Key)(l:List Iv):List (Key×Key×LB):=[(0,0,.cells true false 27 p.cs),(1,1,.cells true false 36 (vK o N)),(10,10,.cells true false 85 [.d (.int .i64 n.op),.d (.int .i64 n.a),.d (.int .i64 n.b),.d (.int .i64 n.c),.d (.int .i64 n.d),.d (.int .i64 n.f),.d (.str n.v)]),(30,k,iB l)]
theorem Kw{n:Nd}(k:Key){L:List Iv}(hc:c.jd=λ_=>.hole)(l:List (Nat×AV))(hk:k≠0/\k≠1/\k≠10/\k≠9)(h0:lv 0=.cells true false 27 p.cs)(h1:lv 1=.cells true false 36 (vK o N))(h2:lv 10=.cells true false 85 [.d (.int .i64 n.op),.d (.int .i64 n.a),.d (.int .i64 n.b),.d (.int .i64 n.c),.d (.int .i64 n.d),.d (.int .i64 n.f),.d (.str n.v)])(h3:lv k=iB L)(h9:lv 9=.hole)
 (hl:∀x∈l,x.2.cG=true/\fr x.1=x.2.dA (aV (Xw p o N n k L) 9)):Le c ⟨fr,lv⟩ ⟨aT l,aM (FR p o N n) 30 (iB L)⟩:=by
 obtain⟨k0,k1,k2,k3⟩:=hk;refine Le.keys (Xw p o N n k L) 9 l rfl hc zp kw h9 ?_ hl;intro e he;simp only[aZ,bw,or_false]at he;rcases he with rfl|rfl|rfl|rfl
 ·show(lv 0).like _ _;rw[h0];exact mb p _
 ·show(lv 1).like _ _;rw[h1];exact u9 o N _
 ·show(lv 10).like _ _;rw[h2];exact LB.aN.2 ⟨rfl,rfl,zp,id⟩
 ·show(lv k).like _ _;rw[h3];unfold iB;split
  ·rfl
  ·exact LB.aN.2 ⟨rfl,rfl,(Ao _ _).symm,id⟩
theorem Tb(m:Int)(z:Ev)(p:PD)(N i:Nat){kz:DV}(o:Nat->Iv)(n:Nd)(kl:List Int)(ak:List Iv)(hak:kl.map (λk=>o k.toNat)=ak)(hi:i<N)(hN:N<=64)(hk4:kl.length<=4)(hkr:∀x∈kl,0<=x/\x<i)
 (hkd:aa prog (GG m) 44 [n.A] (.c (.d kz)))
 (lpk:∀lv,eT prog 92 lv (.c (.d kz))=some (.c (.d (.int .i64 (kl.length:Int))),[],[],True))
 (ixk:∀lv (q:Nat) (hq:q<kl.length),aq prog 92 lv (.c (.d kz)) (.c (.d (.int .i64 (q:Int))))=some (.c (.d (.ptr [.int .i64 kl[q]])),[],[],True))
 (hn:∀s κ,Le (⟨prog,GG m,z.w,z.F,z.W,Tryz.f22.ntmps,λ_=>.hole,z.b,z.d⟩:Ctx) s ⟨aT [(2,.c (.d (.iface 66 D))),(3,.c (.ptr 0 0)),(8,.c (.aO 1 0 N 6)),(9,.c (.d (.int .i64 (i:Int)))),(11,.c (.ptr 10 0)),(12,.c (.d (.int .i64 0))),(15,tT 30 ak),(23,.c (.d dl)),(24,.c (.d (.int .i64 (N:Int)))),(25,.c (.d (.int .i64 (i:Int))))],aM (FR p o N n) 30 (iB ak)⟩->Q .normal s κ) :
 AW (⟨prog,GG m,z.w,z.F,z.W,Tryz.f22.ntmps,λ_=>.hole,z.b,z.d⟩:Ctx) none (cW [1,1,0,1,2,3,1,1,0,2,1,1,1,0,1,2,1,5,1,5,1,5,1,0] Tryz.f22) ⟨aT [(2,.c (.d (.iface 66 D))),(3,.c (.ptr 0 0)),(8,.c (.aO 1 0 N 6)),(9,.c (.d (.int .i64 (i:Int)))),(11,.c (.ptr 10 0)),(12,.c (.d (.int .i64 0))),(15,.c (.d .nilsl)),(23,.c (.d dl)),(24,.c (.d (.int .i64 (N:Int)))),(25,.c (.d (.int .i64 (i:Int))))],FR p o N n⟩ 20 Q:=by
 conv=>
  enter [3]
  whnf
 obtain⟨op,a,b,c,d,f,v⟩:=n;refine abx 21 hkd lpk ?_;refine aaw ?_
 refine aaY (λ(q:Nat)=>⟨aT [(2,.c (.d (.iface 66 D))),(3,.c (.ptr 0 0)),(8,.c (.aO 1 0 N 6)),(9,.c (.d (.int .i64 (i:Int)))),(11,.c (.ptr 10 0)),(12,.c (.d (.int .i64 0))),(15,tT 30 (ak.take q)),(40,.c (.d kz)),(41,.c (.d (.int .i64 (kl.length:Int)))),(42,.c (.d (.int .i64 (q:Int)))),(23,.c (.d dl)),(24,.c (.d (.int .i64 (N:Int)))),(25,.c (.d (.int .i64 (i:Int))))],aM (FR p o N ⟨op,a,b,c,d,f,v⟩) 30 (iB (ak.take q))⟩) 40
  (λq=>q<=kl.length) (λq=>kl.length-q) 0 (Kw 30 rfl _ zr zp zp zp (by simp[iB]) zp dk) (ab5 _) ?_
 rintro q hq
 try simp only at hq ⊢
 refine aah ?_;refine aac λK4 hK4=>?_
 by_cases hlt:q<kl.length
 ·have hlt':(q:Int)<(kl.length:Int):=by omega
  have hx:=λlv=>ixk lv q hlt
  have f1:=bP (n:=(q:Int)+1) zd zd;have hxr:=hkr _ (cn hlt)
  have hnx:ak.take (q+1)=ak.take q++[o kl[q].toNat]:=by
   rw[<-hak,afi,aez,fy hlt];rfl
  have hll:(ak.take q).length=q:=by rw[<-hak,acM,sC];omega
  generalize kl[q]=x at*
  obtain⟨x,rfl⟩:∃y:Nat,x=y:=⟨x.toNat,zd⟩
  rw[adW]at hnx;obtain⟨l,hl⟩:∃l,ak.take q=l:=⟨_,rfl⟩
  rw[hl]at hnx hll⊢;have hxN:x<N:=zd
  have q1:(aM (FR p o N ⟨op,a,b,c,d,f,v⟩) 30 (iB l)) 1=.cells true false 36 (vK o N):=rfl;have x0:=Tq (n:=N) (i:=x) q1;rw[eq_true hxN]at x0;have x1:=Vv (i:=x) q1 hxN;refine aaB xn (aan (hK4 _ _ (aac λK5 hK5=>aaw (aaN hx ?_))))
  by_cases hl0:l=[]
  ·have e1:iB l=.hole:=by subst hl0;rfl
   have e2:tT 30 l=.c (.d .nilsl):=if_pos hl0;rw[e1]at x0 x1⊢;rw[e2];refine aai ?_;simp[x0,x1,Mr,cC,keyOf,ai,-aB,-aA]
   repeat refine az ?_
   apply hK5;refine aai ?_;simp[f1];subst hl0;refine⟨q+1,?_,zd,zd⟩;rw[hnx];exact Kw 41 rfl _ zr zp zp zp (by simp[iB,iK,y6]) zp pC
  ·have e1:iB l=.cells true false 36 (iK l):=if_neg hl0;have e2:tT 30 l=.c (.aO 30 0 l.length 6):=if_neg hl0;have hzl:=C5 l;rw[e1]at x0 x1⊢;rw[e2];refine aai ?_;simp[x0,x1,Mr,cC,keyOf,hzl,ai,-aB,-aA]
   repeat refine az ?_
   apply hK5;refine aai ?_;simp[f1];refine⟨q+1,?_,zd,zd⟩;rw[hnx];exact Kw 41 rfl _ zr zp zp zp (by rw[vO,<-zk];simp) zp pC
 ·have hqe:ak.take q=ak:=aeE (by rw[<-hak,sC];omega);rw[hqe];refine aaD tm (aaR ?_);simp;exact hn _ _ (Kw 30 rfl _ zr zp zp zp zp zp (by unfold tT;split<;>simp[aV]))
theorem QN(m:Int)(z:Ev)(p:PD)(hp:p.ok)(hg:p.good)(N i:Nat)(hD:y9 D is)(o:Nat->Iv)(hi:i<N)(hN:N<=p.nn)(hlen:is.length=p.ni)(ho:∀j,(o j).g)
 (hret:(p.nd i).op=2->∀s κ,s.fr 6=.c (.d .nilsl)->s.fr 7=.c (.d (.int .i64 160))->s.lv 9=.hole->Q .ret s κ)
 (hn:(p.nd i).op≠2->∀v e,(v,e)=BZ p is o i->∀s κ,Le (⟨prog,GG m,z.w,z.F,z.W,Tryz.f22.ntmps,λ_=>.hole,z.b,z.d⟩:Ctx) s ⟨aT [(2,.c (.d (.iface 66 D))),(3,.c (.ptr 0 0)),(8,.c (.aO 1 0 N 6)),(9,.c (.d (.int .i64 (i:Int)))),(12,.c (.d (.int .i64 (e)))),(23,.c (.d dl)),(24,.c (.d (.int .i64 (N:Int)))),(25,.c (.d (.int .i64 (i:Int))))],E3 p (λj=>if j=i then v else o j) N⟩->Q .normal s κ) :
 AW (⟨prog,GG m,z.w,z.F,z.W,Tryz.f22.ntmps,λ_=>.hole,z.b,z.d⟩:Ctx) none (cW [1,1,0,1,2,3,1,1,0,2,1,1,1,0] Tryz.f22) ⟨aT [(2,.c (.d (.iface 66 D))),(3,.c (.ptr 0 0)),(8,.c (.aO 1 0 N 6)),(9,.c (.d (.int .i64 (i:Int)))),(11,.c (.ptr 10 0)),(12,.c (.d (.int .i64 (0)))),(23,.c (.d dl)),(24,.c (.d (.int .i64 (N:Int)))),(25,.c (.d (.int .i64 (i:Int))))],aM (aM (aM (λ_=>.hole) 0 (.cells true false 27 p.cs)) 1 (.cells true false 36 (vK (o) N))) 10 (.cells true false 85 [.d (.int .i64 (p.nd i).op),.d (.int .i64 (p.nd i).a),.d (.int .i64 (p.nd i).b),.d (.int .i64 (p.nd i).c),.d (.int .i64 (p.nd i).d),.d (.int .i64 (p.nd i).f),.d (.str (p.nd i).v)])⟩ 20 Q:=by
 conv=>
  enter [3]
  whnf
 obtain⟨hn1,hn2,hn3,-,-,hnn,hns⟩:=eX hg.gen;have hiN:i<p.nn:=zd
 obtain⟨⟨h1,h15⟩,-,hkr⟩:=tQ hg hiN;have hin:(p.nd i).op=1->0<=(p.nd i).a/\(p.nd i).a<p.ni:=Nn (hg.nodes i hiN);have hev:BZ p is o i=BZ p is o i:=rfl
 conv at hev=>rhs;unfold BZ Wd
 have hkl:(aP (p.nd i)).length=if 1<=(p.nd i).op/\(p.nd i).op<=15 then cH (p.nd i).op else 0:=by
  unfold aP;split
  ·rw[acM,Nd.qV];exact aea (lF _)
  ·rfl
 rw[if_pos ⟨h1,h15⟩]at hkl;have hkd:=vq m (p.nd i);generalize BZ p is o i=R at*
 generalize p.nd i=n at*
 obtain⟨op,a,b,c,d,f,v⟩:=n;simp only at*
 by_cases h2:op=2
 ·subst h2;refine aah ?_;refine aaw (aah ?_);refine aaE (aah ?_);exact aal (hret rfl _ _ zp zp zp)
 have hset:=λv=>qE o hi v
 have hvl:=pN (o) N;have hvl0:=pN o N;have hle0:i*6+6<=N*6:=zd
 by_cases h1':op=1
 ·subst h1';obtain⟨a0,a1⟩:=hin rfl;have hai:a.toNat<is.length:=by omega
  have c1:=LN (GG m) hD a.toNat hai;rw[show((a.toNat:Nat):Int)=a by omega]at c1
  have hR:R=(is[a.toNat],0):=by
   rw[hev,if_neg zr,if_pos rfl,ab6,fy hai];rfl
  generalize is[a.toNat]=w at*
  have hset:=hset w;refine aah ?_;refine aaw (aah ?_);refine aax (aah ?_);refine aaE (aai ?_);simp[KT hD];refine ag.p 21 9 c1 ?_;simp[hset,hvl0,hle0,hi]
  repeat refine az ?_
  exact hn zr _ _ hR.symm _ _ (Fi rfl _ zp zp zp xa)
 by_cases h3:op=3
 ·subst h3;have c1:=oU m v;have c2:=C1 (GG m) D (cj v);have hR:R=((cj v,cj v),0):=by rw[hev,if_neg zr,if_neg zr,if_pos rfl]
  generalize cj v=w at*
  have hset:=hset (w,w);refine aah ?_;refine aaw (aah ?_);refine aax (aah ?_);refine aax (aah ?_);refine aaE (abx 21 c1 @ai.eq_1 ?_);refine aai ?_;simp[Es hD];refine ag.p 22 9 c2 ?_;simp[hset,hvl0,hle0,hi]
  repeat refine az ?_
  exact hn zr _ _ hR.symm _ _ (Fi rfl _ zp zp zp xa)
 have h4:4<=op:=zd
 have lpk:=λlv=>Un (T:=92) zp lv (js ⟨op,a,b,c,d,f,v⟩)
 have ixk:∀lv (q:Nat) (hq:q<(aP ⟨op,a,b,c,d,f,v⟩).length),aq prog 92 lv (.c (zC (js ⟨op,a,b,c,d,f,v⟩))) (.c (.d (.int .i64 (q:Int))))=some (.c (.d (.ptr [.int .i64 (aP ⟨op,a,b,c,d,f,v⟩)[q]])),[],[],True):=by
  intro lv q hq;have:=V6 (T:=92) zp lv (js ⟨op,a,b,c,d,f,v⟩) (i:=q) (by rw[mG];exact hq);simp only[mG]at this;exact this
 rw[mG]at lpk;obtain⟨kz,hkz⟩:∃kz:DV,zC (js ⟨op,a,b,c,d,f,v⟩)=.d kz:=by cases js ⟨op,a,b,c,d,f,v⟩<;>exact⟨_,rfl⟩
 simp only[hkz]at hkd lpk ixk;rw[if_neg h2,if_neg h1',if_neg h3]at hev;generalize aP ⟨op,a,b,c,d,f,v⟩=kl at*
 have hk0:kl.length≠0:=ma
 have hk4:kl.length<=4:=by rw[hkl];exact lF op
 obtain⟨ak,hak⟩:∃ak,(kl.map λk=>o k.toNat)=ak:=⟨_,rfl⟩
 have hpr:∀x∈ak,x.g:=λx hx=>by
  rw[<-hak]at hx;obtain⟨k,_,rfl⟩:=List.mem_map.1 hx;exact ho _
 have hakl:ak.length=kl.length:=by rw[<-hak,sC]
 have hsz:=HG (op:=op) (M6 hpr);have c3:=EZ m D op ak (E:=.sl (ak.map iQ)) (.inl rfl) h4 h15 (hakl.trans hkl) hpr (Iv.aC hsz zr);rw[hak]at hev;obtain⟨w,hw⟩:∃w,hU (uu op ak).1=w:=⟨_,rfl⟩
 obtain⟨e,he⟩:∃e,(uu op ak).2=e:=⟨_,rfl⟩
 rw[hw,he]at c3 hev;have n2:¬op=2:=h2;refine aah ?_;refine aaw (aaN n2 ?_);refine aax (aaN h1' ?_);refine aax (aaN h3 ?_);refine aax (aah ?_)
 have hne:ak≠[]:=by
  intro e0;rw[e0]at hakl;exact hk0 hakl.symm
 have e1:iB ak=.cells true false 36 (iK ak):=if_neg hne;have e2:tT 30 ak=.c (.aO 30 0 ak.length 6):=if_neg hne;have hset:=hset w;have hR:R=(w,e):=hev;refine aac λK2 hK2=>?_;refine abC (y:=cW [1,1,0,1,2,3,1,1,0,2,1,1,1,0,1,2,1,5,1,5,1,5,1,0] Tryz.f22) zt (abA (Le.fJ _) (Tb m z p N i (D:=D) (dl:=dl) (kz:=kz) o ⟨op,a,b,c,d,f,v⟩ kl ak hak hi zd hk4 hkr hkd lpk ixk λs κ hle=>?_));rw[e1,e2]at hle;apply hK2;refine abA (κ2:=50) hle ?_;refine aai ?_;simp[FN hD];refine ag.opI 60 30 ak zp zp hne zd c3 zp zp zp zr ?_;simp[hset,hvl0,hle0,hi]
 repeat refine az ?_
 exact hn n2 _ _ hR.symm _ _ (Fi rfl _ zp zp zp xa)
def iP(p:PD)(node:Nat)(j:Nat):Bool:=(jR p node (node+1)).getD j false
def Vc(s:(Nat->Iv)×Int)(n:Nat):AV:=if s.2=0 then .tup [.c (dc (iO ((List.range n).map s.1))),.c (.d (.int .i64 0))]else .tup [.c (.d .nilsl),.c (.d (.int .i64 s.2))]
theorem Sd(h:(jx p is dp i).2=e)(he:e≠0)(hi:i<=n):Vc (jx p is dp n) n=.tup [.c (.d .nilsl),.c (.d (.int .i64 e))]:=by
 have h1:=Kt (p:=p) (is:=is) (dp:=dp) (i:=i) bo n hi;unfold Vc;rw[h1,h,if_neg he]
theorem kf(lv:Key->LB)(e:Int):gq lv (.tup [.c (.d .nilsl),.c (.d (.int .i64 e))])=some (.tup [.c (.d .nilsl),.c (.d (.int .i64 e))],[]):=rfl
theorem qg(m:Int)(p:PD)(hp:p.ok)(hg:p.good)(node:Nat)(hn:node<p.nn)(hD:y9 D is)(hlen:is.length=p.ni)(his:∀a∈is,a.sz 10000/\a.1<=a.2):
 aa prog (GG m) 22 [p.A,.c (.d (.int .i64 (node:Int))),.c (.d (.iface 66 D))] (Vc (jx p is (iP p node) (node+1)) (node+1)):=by
 obtain⟨hn1,hn2,hn3,-,-,hnn,hns⟩:=eX hg.gen;have hw1:=bP (n:=(node:Int)+1) zd zd;have c1:=pJ m p hp hg node hn;have hdl:=sQ p node (node+1);have hlb:=λlv=>lpB (T:=82) zp lv (some (jR p node (node+1)))
 have hib:=λlv {i:Nat} hi=>Wv (T:=82) zp lv (some (jR p node (node+1))) (i:=i) hi
 have hgd:∀{i:Nat}(hi:i<(bL (some (jR p node (node+1)))).length),(bL (some (jR p node (node+1))))[i]=iP p node i:=λ{i} hi=>by
  unfold iP;rw[ab6,fy (show i<(jR p node (node+1)).length from hi)];rfl
 have hbl:(bL (some (jR p node (node+1)))).length=node+1:=hdl;obtain⟨dl,hdl2⟩:∃dl:DV,bC (some (jR p node (node+1)))=.d dl:=⟨_,rfl⟩
 simp only[hdl2]at c1 hlb hib;rw[hbl]at hlb;obtain⟨dp,hdp⟩:∃dp,iP p node=dp:=⟨_,rfl⟩
 simp only[hdp]at hgd⊢;have hg':=λi j=>tj (p:=p) (dp:=dp) his i j
 obtain⟨X,hX⟩:∃X,Vc (jx p is dp (node+1)) (node+1)=X:=⟨_,rfl⟩
 have herr:∀i e,i<=node+1->(jx p is dp i).2=e->e≠0->X=.tup [.c (.d .nilsl),.c (.d (.int .i64 e))]:=λi e h1 h2 h3=>by
  rw[<-hX];exact Sd h2 h3 h1
 have hres:(jx p is dp (node+1)).2=0->X=.tup [.c (dc (iO ((List.range (node+1)).map (jx p is dp (node+1)).1))),.c (.d (.int .i64 0))]:=λh=>by
  rw[<-hX];exact if_pos h
 rw[hX];obtain⟨N,hN⟩:∃N,node+1=N:=⟨_,rfl⟩
 have hNi:((node:Int)+1)=(N:Int):=zd
 simp only[hN,hNi]at hlb hbl herr hres hw1;have hN0:N<=p.nn:=zd
 clear hX;refine aa.ed func22 rfl λ_=>aah ?_;refine abk hNi hw1 ?_;rw[zc];refine aac λK hK=>abx 3 c1 hlb ?_;refine aaw ?_
 refine aaY (λ(q:Nat)=>⟨aT [(2,.c (.d (.iface 66 D))),(3,.c (.ptr 0 0)),(8,.c (.aO 1 0 N 6)),(23,.c (.d dl)),(24,.c (.d (.int .i64 (N:Int)))),(25,.c (.d (.int .i64 (q:Int))))],E3 p (jx p is dp q).1 N⟩) 10
  (λq=>q<=N/\(jx p is dp q).2=0) (λq=>N-q) 0 (Fi rfl _ zp (by simp[jx]) zp xa) ⟨ab5 _,rfl⟩ ?_
 rintro q ⟨hq,hE⟩
 try simp only at hq hE ⊢
 refine aah ?_;refine aac λK3 hK3=>?_
 by_cases hlt:q<N
 ·have hlt':(q:Int)<(N:Int):=by omega
  have hqn:q<p.nn:=zd
  have hq1:q<(bL (some (jR p node (node+1)))).length:=by
   show q<(jR p node (node+1)).length;rw[hdl,hN];exact hlt
  have hx:=λlv=>hib lv hq1
  have hgq:=hgd hq1;have hxn:=λlv=>wI p lv hp q hqn
  have f1:=bP (n:=(q:Int)+1) zd zd;have hstp:jx p is dp (q+1)=Ki p is dp (jx p is dp q) q:=rfl;have hog:=hg' q;have hnl:=λi=>Ig (p:=p) (o:=(jx p is dp q).1) hog his i
  have herr1:=herr (q+1);obtain⟨S,hS⟩:∃S,jx p is dp q=S:=⟨_,rfl⟩
  obtain⟨S',hS'⟩:∃S,jx p is dp (q+1)=S:=⟨_,rfl⟩
  rw[hS,hS']at hstp;rw[hS]at hog hE;simp only[hS]at hnl⊢;rw[hS']at herr1;obtain⟨o,e0⟩:=S;have hE:e0=0:=hE;subst hE;obtain⟨b,hb⟩:∃b,dp q=b:=⟨_,rfl⟩
  simp only at hog hnl;refine aaB xn (aan (hK3 _ _ (aac λK4 hK4=>aaw (abN hx hgq hb ?_))));refine aac λK5 hK5=>aah ?_
  cases b with
  |false=>
   have e:S'=(o,0):=by rw[hstp];unfold Ki;rw[if_neg zp,if_pos hb]
   refine aaE (aaR (hK4 _ _ (aai ?_)));simp[f1];refine⟨q+1,?_,⟨zd,pk⟩,zd⟩;rw[hS',e];exact Fi rfl _ zp zp zp xa
  |true=>
   refine aax (aan (hK5 _ _ (abk hxn @ai.eq_1 ?_)));refine aac λK5 hK5=>?_;have hd0:¬dp q=false:=sv
   refine abC (y:=cW [1,1,0,1,2,3,1,1,0,2,1,1,1,0] Tryz.f22) zt (abA (Le.fJ _) (QN m _ p hp hg N q (dl:=dl) hD o hlt hN0 hlen hog ?_ ?_))
   ·intro h2 s κ h6 h7 h9;have en:BZ p is o q=((0,0),160):=if_pos h2;have e:S'=(o,160):=by rw[hstp];unfold Ki;rw[if_neg zp,if_neg hd0,if_pos (by rw[en];decide),en]
    have hX:=herr1 160 zd (by rw[e]) zr;show cq _ _ X .ret s κ;rw[hX];exact cq.iJ rfl h6 h7 rfl rfl (kf _ _)
   ·intro h2 v e he s κ hle;apply hK5;refine abA (κ2:=20) hle ?_;have hv:=hnl q;rw[<-he]at hv;have hsv:(if q=q then v else o q)=v:=if_pos rfl;refine abC (y:=cW [1,1,0,1,2,3,1,1,0,2,1,1,1,1] Tryz.f22) zt (RN m _ p N q (dl:=dl) hD (λj=>if j=q then v else o j) e hlt (by rw[hsv];exact hv.2) ?_ ?_)
    ·intro E s κ hEe hc h6 h7 h9;have hc:e≠0\/pq v=false:=by simpa using hc
     have hE2:S'.2=E:=by
      rw[hstp,hEe];unfold Ki;rw[if_neg zp,if_neg hd0]
      by_cases h0:e=0
      ·have hsh:pq v=false:=hc.resolve_left (λh=>h h0);rw[if_neg mv,if_neg (by rw[<-he];simp[hsh]),if_neg cf]
      ·rw[if_pos (by rw[<-he];exact h0),if_pos h0,<-he]
     have hE0:E≠0:=lc
     have hX:=herr1 E zd hE2 hE0;show cq _ _ X .ret s κ;rw[hX];exact cq.iJ rfl h6 h7 rfl rfl (kf _ _)
    ·intro h0 hsh s κ hle2;have hsh:pq v=true:=by simpa using hsh
     have e:S'=(λj=>if j=q then v else o j,0):=by
      rw[hstp];unfold Ki;rw[if_neg zp,if_neg hd0,if_neg mv,if_pos (by rw[<-he];exact hsh),<-he]
     apply hK4;refine abA (κ2:=30) hle2 ?_;refine aai ?_;simp[f1];refine⟨q+1,?_,⟨zd,pk⟩,zd⟩;rw[hS',e];exact Fi rfl _ zp zp zp xa
 ·have hqe:q=N:=by omega
  subst hqe;have hX:=hres hE;refine aaD tm (aaR (hK _ _ (aah ?_)));refine aal (κ:=0) ?_;show cq _ _ X .ret _ _;rw[hX];exact cq.iJ (κ:=0) (X:=.c (.aO 1 0 q 6)) (Y:=.c (.d (.int .i64 0))) (ks:=[1]) rfl zp zp rfl rfl (Aq (Sk (own:=true) (fz:=false) (T:=36) zp zd zd))
def gS(p:PD)(b:List Sp)(node:Int):Int:=if (jT p).2.2≠0 then(jT p).2.2 else if (b.length:Int)≠p.ni then 2 else if pZ b 0≠0 then pZ b 0 else if node<0\/(p.nn:Int)<=node then 7 else 0
theorem jZ{b:List Sp}{node:Int}(hp:p.ok)(h:gS p b node=0):p.good/\b.length=p.ni/\pZ b 0=0/\0<=node/\node<p.nn:=by
 unfold gS at h
 by_cases h1:(jT p).2.2=0
 ·rw[if_neg (not_not_intro h1)]at h
  by_cases h2:(b.length:Int)=p.ni
  ·rw[if_neg (not_not_intro h2)]at h
   by_cases h3:pZ b 0=0
   ·rw[if_neg (not_not_intro h3)]at h
    by_cases h4:node<0\/(p.nn:Int)<=node
    ·rw[if_pos h4]at h;exact absurd h zr
    ·exact⟨vf hp h1,zd,h3,zd,zd⟩
   ·rw[if_pos h3]at h;exact absurd h h3
  ·rw[if_pos h2]at h;exact absurd h zr
 ·rw[if_pos h1]at h;exact absurd h h1
theorem wX(l:List Iv):∃D:DV,dc (iO l)=.d D/\y9 D l:=by
 unfold iO
 by_cases h:l=[]
 ·rw[if_pos h];exact⟨.nilsl,rfl,.inr ⟨rfl,h⟩⟩
 ·rw[if_neg h];exact⟨.sl (l.map iQ),rfl,.inl rfl⟩
theorem Hi(m:Int)(p:PD)(hp:p.ok)(b:Option (List Sp))(node:Int):
 aa prog (GG m) 20 [p.A,.c (dc (uh b)),.c (.d (.int .i64 node))] (.tup [.c (dc (if gS p (bH b) node=0 then iO (gM (bH b))else none)),.c (.d (.int .i64 (gS p (bH b) node)))]):=by
 have c1:=MN m p hp;have hlb:=λlv=>Ra lv b
 have hli:=λlv=>MI p lv
 have hln:=λlv=>s8 p lv
 generalize (jT p).1=w1 at c1;generalize (jT p).2.1=w2 at c1;obtain⟨ce,hce⟩:∃ce,(jT p).2.2=ce:=⟨_,rfl⟩
 rw[hce]at c1
 by_cases h1:ce=0
 rotate_left
 ·have e:gS p (bH b) node=ce:=by unfold gS;rw[hce];exact if_pos h1
  rw[e,if_neg h1];refine aa.en func20 rfl λ_=>?_;refine aau mixed c1 h1 ?_;exact aaq (aD.t2 rfl 9 wr zp)
 subst h1;have hg:=vf hp hce;obtain⟨hn1,hn2,hn3,hnf,hni,hnn,hns⟩:=eX hg.gen
 by_cases h2:((bH b).length:Int)=p.ni
 rotate_left
 ·have e:gS p (bH b) node=2:=by unfold gS;rw[hce,if_neg zr];exact if_pos h2
  rw[e,if_neg zr];refine aa.en func20 rfl λ_=>?_;refine aau mixed c1 (lD hlb hli h2) ?_;exact aaq (aD.t2 rfl 9 wr zp)
 have c2:=Pw m b zd;have h3':pZ (bH b) 0≠0->gS p (bH b) node=pZ (bH b) 0:=λh=>by unfold gS;rw[hce,if_neg zr,if_neg (not_not_intro h2)];exact if_pos h
 have h4':pZ (bH b) 0=0->gS p (bH b) node=if node<0\/(p.nn:Int)<=node then 7 else 0:=λh=>by unfold gS;rw[hce,if_neg zr,if_neg (not_not_intro h2),if_neg (not_not_intro h)]
 obtain⟨D,hD,-⟩:=wX (gM (bH b));generalize gS p (bH b) node=E at*
 generalize pZ (bH b) 0=be at*
 by_cases h3:be=0
 rotate_left
 ·rw[if_neg h3]at c2;obtain rfl:=h3' h3;rw[if_neg h3];refine aa.en func20 rfl λ_=>?_;refine aau mixed (eY c1 c2) (mo hlb hli h2 h3) ?_;exact aaq (aD.t2 rfl 9 wr zp)
 rw[if_pos h3]at c2;have h4:=h4' h3;subst h3;simp only[hD]at c2 ⊢
 by_cases h5:node<0\/(p.nn:Int)<=node
 ·rw[if_pos h5]at h4;subst h4;rw[if_neg zr]
  by_cases h6:node<0
  ·refine aa.en func20 rfl λ_=>?_;refine aau mixed (eY c1 c2) (mo hlb hli h2 h6) ?_;exact aaq (aD.t2 rfl 9 wr zp)
  ·have h7:(p.nn:Int)<=node:=by omega
   refine aa.en func20 rfl λ_=>?_;refine aau mixed (eY c1 c2) (me hlb hli h2 h6 hln h7) ?_;exact aaq (aD.t2 rfl 9 wr zp)
 ·rw[if_neg h5]at h4;subst h4;rw[if_pos rfl];have h6:¬node<0:=by omega
  have h7:¬(p.nn:Int)<=node:=zd
  rw[hD];refine aa.en func20 rfl λ_=>?_;refine aau mixed (eY c1 c2) (me hlb hli h2 h6 hln h7) ?_;exact aaq (aD.t2 rfl 9 zp zp)
def lW(p:PD)(is:List Iv)(node:Nat):Iv×Int:=(if (jx p is (iP p node) (node+1)).2=0 then(jx p is (iP p node) (node+1)).1 node else(0,0),(jx p is (iP p node) (node+1)).2)
theorem uC(m:Int)(p:PD)(hp:p.ok)(hg:p.good)(node:Nat)(hn:node<p.nn)(hD:y9 D is)(hlen:is.length=p.ni)(his:∀a∈is,a.sz 10000/\a.1<=a.2):
 aa prog (GG m) 15 [p.A,.c (.d D),.c (.d (.int .i64 (node:Int)))] (.tup [eo (lW p is node).1,.c (.d (.int .i64 (lW p is node).2))]):=by
 have c1:=qg m p hp hg node hn hD hlen his;have hix:=λlv (l:List Iv) (hl:l.length=node+1)=>BO lv l (i:=node) zd
 unfold lW;obtain⟨S,hS⟩:∃S,jx p is (iP p node) (node+1)=S:=⟨_,rfl⟩
 rw[hS]at c1⊢;obtain⟨o,e⟩:=S;have bz:bM prog 36 [] []=some (eo (0,0),[],[],True):=AB
 have hm:qH (.c (.d D))=some D:=by
  rcases hD with rfl|⟨rfl,-⟩<;>rfl
 by_cases h0:e=0
 ·subst h0;simp only[if_pos];have c1:aa prog (GG m) 22 [p.A,.c (.d (.int .i64 (node:Int))),.c (.d (.iface 66 D))] (.tup [.c (dc (iO ((List.range (node+1)).map o))),.c (.d (.int .i64 0))]):=c1;have hx:=λlv=>hix lv ((List.range (node+1)).map o) zp
  simp only[rP,ae8]at hx;obtain⟨L,hL,-⟩:=wX ((List.range (node+1)).map o);simp only[hL]at c1 hx;generalize o node=a at*
  refine aa.enc func15 rfl (λlv=>bY lv _ _ _ _ _ _ _ rfl) λ_=>?_;refine aau mixed c1 (BF hm hx @iQ.eq_1 @iA @ai.eq_1) ?_;exact aal (aF.kP (κ:=0) (t:=6) (k:=1) (u:=7) (a:=a) ⟨rfl,rfl⟩ zp yi zp)
 ·simp only[if_neg h0]
  have c1:aa prog (GG m) 22 [p.A,.c (.d (.int .i64 (node:Int))),.c (.d (.iface 66 D))] (.tup [.c (.d .nilsl),.c (.d (.int .i64 e))]):=by
   have h:Vc (o,e) (node+1)=.tup [.c (.d .nilsl),.c (.d (.int .i64 e))]:=if_neg h0;rw[h]at c1;exact c1
  generalize hz:((0:Rat),(0:Rat))=z at*
  refine aa.enc func15 rfl (λlv=>bY lv _ _ _ _ _ _ _ rfl) λ_=>?_;refine aau mixed c1 (mo hm h0 bz @ai.eq_1) ?_;exact aal (aF.kP (κ:=0) (t:=6) (k:=1) (u:=7) (a:=z) ⟨rfl,rfl⟩ zp yi zp)
def qe(p:PD)(b:List Sp)(node:Int)(r:Iv×Int):Iv×Int:=if gS p b node=0 then r else((0,0),gS p b node)
theorem Dg(m:Int)(p:PD)(hp:p.ok)(b:Option (List Sp))(node:Int)(F:FuncId)(hF:aE prog F=true)(r:Iv×Int)(hc:gS p (bH b) node=0->∀D,dc (iO (gM (bH b)))=.d D->y9 D (gM (bH b))->aa prog (GG m) F [p.A,.c (.d D),.c (.d (.int .i64 node))] (.tup [eo r.1,.c (.d (.int .i64 r.2))])):
 aa prog (GG m) 14 [p.A,.c (dc (uh b)),.c (.d (.int .i64 node)),.c (.d (.func (.func F) [] []))] (.tup [eo (qe p (bH b) node r).1,.c (.d (.int .i64 (qe p (bH b) node r).2))]):=by
 have c1:=Hi m p hp b node;have bz:bM prog 36 [] []=some (eo (0,0),[],[],True):=AB;unfold qe;obtain⟨E,hE⟩:∃E,gS p (bH b) node=E:=⟨_,rfl⟩
 rw[hE]at c1 hc ⊢
 by_cases h0:E=0
 ·subst h0;simp only[if_pos]at c1⊢;obtain⟨D,hD,hD2⟩:=wX (gM (bH b));rw[hD]at c1;have c2:=hc rfl D hD hD2;obtain⟨a,e⟩:=r;simp only at c2⊢;obtain⟨a1,a2⟩:=a;refine aa.enc func14 rfl (λlv=>bY lv _ _ _ _ _ _ _ rfl) λ_=>?_;refine aau mixed (eY c1 c2) (eY hF @ai.eq_1) ?_;exact aal (aF.kP (κ:=0) (t:=8) (k:=1) (u:=9) (a:=(a1,a2)) ⟨rfl,rfl⟩ zp yi zp)
 ·simp only[if_neg h0]at c1⊢;generalize hz:((0:Rat),(0:Rat))=z at*
  have c1:aa prog (GG m) 20 [p.A,.c (dc (uh b)),.c (.d (.int .i64 node))] (.tup [.c (.d .nilsl),.c (.d (.int .i64 E))]):=c1;refine aa.enc func14 rfl (λlv=>bY lv _ _ _ _ _ _ _ rfl) λ_=>?_;refine aau mixed c1 (lD h0 bz @ai.eq_1) ?_;exact aal (aF.kP (κ:=0) (t:=8) (k:=1) (u:=9) (a:=z) ⟨rfl,rfl⟩ zp yi zp)
theorem DK:∀{l:List Sp}{w:Int},pZ l w=0->w=0/\∀s∈l,od s.1 s.2=0
 |[],w,h=>⟨h,λs hs=>by cases hs⟩
 |s::l,w,h=>by
  rw[pZ]at h
  by_cases h7:od s.1 s.2=7
  ·rw[if_pos h7]at h;exact absurd (DK h).1 zr
  ·rw[if_neg h7]at h
   by_cases h0:od s.1 s.2=0
   ·rw[if_neg (not_not_intro h0)]at h;obtain⟨h1,h2⟩:=DK h;refine⟨h1,λu hu=>?_⟩;rcases List.mem_cons.1 hu with rfl|hu
    ·exact h0
    ·exact h2 u hu
   ·rw[if_pos h0]at h;exact absurd h h0
theorem jJ{b:List Sp}(h:pZ b 0=0):∀a∈gM b,a.sz 300/\a.1<=a.2:=by
 intro a ha;unfold gM at ha;obtain⟨s,hs,rfl⟩:=List.mem_map.1 ha;exact⟨Vt _ _,UP ((DK h).2 s hs)⟩
def Qp(p:PD)(b:List Sp)(node:Int):Iv×Int:=qe p b node (lW p (gM b) node.toNat)
theorem J6(m:Int)(p:PD)(hp:p.ok)(b:Option (List Sp))(node:Int):
 aa prog (GG m) 4 [p.A,.c (dc (uh b)),.c (.d (.int .i64 node))] (.tup [eo (Qp p (bH b) node).1,.c (.d (.int .i64 (Qp p (bH b) node).2))]):=by
 have c1:=Dg m p hp b node 15 zt (lW p (gM (bH b)) node.toNat) λh D _ hD=>by
  obtain⟨hg,hl,hb,h0,h1⟩:=jZ hp h;have:=uC m p hp hg node.toNat zd hD pc (λa ha=>⟨Iv.aC (jJ hb a ha).1 zr,(jJ hb a ha).2⟩);rw[show((node.toNat:Nat):Int)=node by omega]at this;exact this
 change aa _ _ _ _ (.tup [eo (Qp p (bH b) node).1,.c (.d (.int .i64 (Qp p (bH b) node).2))])at c1;generalize Qp p (bH b) node=r at*
 obtain⟨a,e⟩:=r;obtain⟨a1,a2⟩:=a;simp only at c1⊢;refine aa.enc func4 rfl (λlv=>bY lv _ _ _ _ _ _ _ rfl) λ_=>?_;refine aau mixed c1 @ai.eq_1 ?_;exact aal (aF.kP (κ:=0) (t:=6) (k:=1) (u:=7) (a:=(a1,a2)) ⟨rfl,rfl⟩ zp yi zp)
def Bt(op:Int):Bool:=decide (op=2) ||decide (op=5) ||decide (op=12) ||decide (op=13) ||decide (op=15)
def Aj(p:PD)(node:Nat):Bool:=(List.range (node+1)).all λi=>!(iP p node i&&Bt (p.nd i).op)
theorem XS(m:Int)(z:Ev)(p:PD)(N q:Nat)(is:Bool)(op:Int)
 (hn:∀s κ,Le (⟨prog,GG m,z.w,z.F,z.W,Tryz.f21.ntmps,λ_=>.hole,z.b,z.d⟩:Ctx) s ⟨aT [(2,.c (.ptr 0 0)),(6,.c (.d (.bool is))),(9,.c (.d dl)),(10,.c (.d (.int .i64 (N:Int)))),(11,.c (.d (.int .i64 (q:Int)))),(21,.c (.d (.int .i64 op))),(22,.c (.d (.bool (Bt op))))],aM (λ_=>.hole) 0 (.cells true false 27 p.cs)⟩->Q .normal s κ) :
 AW (⟨prog,GG m,z.w,z.F,z.W,Tryz.f21.ntmps,λ_=>.hole,z.b,z.d⟩:Ctx) none (cW [1,0,1,2,3,1,1,0,2,1,1,2,0] Tryz.f21) ⟨aT [(2,.c (.ptr 0 0)),(6,.c (.d (.bool is))),(9,.c (.d dl)),(10,.c (.d (.int .i64 (N:Int)))),(11,.c (.d (.int .i64 (q:Int)))),(21,.c (.d (.int .i64 op)))],aM (λ_=>.hole) 0 (.cells true false 27 p.cs)⟩ 10 Q:=by
 conv=>
  enter [3]
  whnf
 by_cases h2:op=2
 ·subst h2;refine aau mixed trivial trivial ?_;exact hn _ _ (Le.fJ _ rfl cp)
 by_cases h5:op=5
 ·subst h5;refine aau mixed trivial h2 ?_;exact hn _ _ (Le.fJ _ rfl cp)
 by_cases h12:op=12
 ·subst h12;refine aau mixed trivial (eY h2 h5) ?_;exact hn _ _ (Le.fJ _ rfl cp)
 by_cases h13:op=13
 ·subst h13;refine aau mixed trivial (lD h2 h5 h12) ?_;exact hn _ _ (Le.fJ _ rfl cp)
 by_cases h15:op=15
 ·subst h15;refine aau mixed trivial (mo h2 h5 h12 h13) ?_;exact hn _ _ (Le.fJ _ rfl cp)
 refine aau mixed trivial (BF h2 h5 h12 h13 h15) ?_;exact hn _ _ (Le.fJ _ rfl (by simp[Bt,h2,h5,h12,h13,h15]))
theorem CG(m:Int)(p:PD)(hp:p.ok)(hg:p.good)(node:Nat)(hn:node<p.nn):aa prog (GG m) 21 [p.A,.c (.d (.int .i64 (node:Int)))] (.c (.d (.bool (Aj p node)))):=by
 obtain⟨hn1,hn2,hn3,-,-,hnn,hns⟩:=eX hg.gen;have c1:=pJ m p hp hg node hn;have hdl:=sQ p node (node+1);have hlb:=λlv=>lpB (T:=82) zp lv (some (jR p node (node+1)))
 have hib:=λlv {i:Nat} hi=>Wv (T:=82) zp lv (some (jR p node (node+1))) (i:=i) hi
 have hgd:∀{i:Nat}(hi:i<(bL (some (jR p node (node+1)))).length),(bL (some (jR p node (node+1))))[i]=iP p node i:=λ{i} hi=>by
  unfold iP;rw[ab6,fy (show i<(jR p node (node+1)).length from hi)];rfl
 have hbl:(bL (some (jR p node (node+1)))).length=node+1:=hdl;obtain⟨dl,hdl2⟩:∃dl:DV,bC (some (jR p node (node+1)))=.d dl:=⟨_,rfl⟩
 simp only[hdl2]at c1 hlb hib;rw[hbl]at hlb
 have hf:∀i,i<node+1->(iP p node i&&Bt (p.nd i).op)=true->Aj p node=false:=λi hi h=>by
  unfold Aj;rw[af2];exact⟨i,List.mem_range.2 hi,by rw[h];decide⟩
 have ht:(∀i,i<node+1->(iP p node i&&Bt (p.nd i).op)=false)->Aj p node=true:=λh=>by
  unfold Aj;rw[adG];intro i hi;rw[h i (List.mem_range.1 hi)];rfl
 obtain⟨X,hX⟩:∃X,Aj p node=X:=⟨_,rfl⟩
 simp only[hX]at hf ht⊢;obtain⟨dp,hdp⟩:∃dp,iP p node=dp:=⟨_,rfl⟩
 simp only[hdp]at hgd hf ht;obtain⟨N,hN⟩:∃N,node+1=N:=⟨_,rfl⟩
 have hNi:((node:Int)+1)=(N:Int):=zd
 simp only[hN,hNi]at hlb hf ht;refine aa.ML func21 rfl λ_=>?_;refine aau mixed c1 hlb ?_
 refine aaY (λ(q:Nat)=>⟨aT [(2,.c (.ptr 0 0)),(9,.c (.d dl)),(10,.c (.d (.int .i64 (N:Int)))),(11,.c (.d (.int .i64 (q:Int))))],aM (λ_=>.hole) 0 (.cells true false 27 p.cs)⟩) 10
  (λq=>q<=N/\∀i,i<q->(dp i&&Bt (p.nd i).op)=false) (λq=>N-q) 0 (Le.fJ _) ⟨ab5 _,λi hi=>absurd hi zd⟩ ?_
 rintro q ⟨hq,hE⟩
 try simp only at hq hE ⊢
 refine aau mixed trivial trivial ?_
 by_cases hlt:q<N
 ·have hlt':(q:Int)<(N:Int):=by omega
  have hqn:q<p.nn:=zd
  have hq1:q<(bL (some (jR p node (node+1)))).length:=by
   show q<(jR p node (node+1)).length;rw[hdl,hN];exact hlt
  have hx:=λlv=>hib lv hq1
  have hgq:=hgd hq1;have hxn:=λlv=>wI p lv hp q hqn
  have f1:=bP (n:=(q:Int)+1) zd zd;have hfq:=hf q hlt;obtain⟨b,hb⟩:∃b,dp q=b:=⟨_,rfl⟩
  obtain⟨op,hop⟩:∃op,(p.nd q).op=op:=⟨_,rfl⟩
  rw[hb,hop]at hfq;refine abF mixed trivial hlt' ?_;refine abF mixed trivial trivial ?_;refine abM ?_;refine abF mixed trivial trivial ?_;refine abM ?_;refine abF mixed trivial (lD hx hgq hb) ?_;refine abM ?_;refine abF mixed trivial (eY hxn hop) ?_;refine abF mixed trivial trivial ?_;refine abM ?_;refine abC (y:=cW [1,0,1,2,3,1,1,0,2,1,1,2,0] Tryz.f21) zt (abA ?_ (XS m _ p N q b op (dl:=dl) λs κ hle=>?_))
  ·exact Le.fJ _
  refine wN ?_;refine abA (κ2:=20) hle ?_
  have nx:(b&&Bt op)=false->∀i,i<q+1->(dp i&&Bt (p.nd i).op)=false:=λh i hi=>by
   by_cases e:i=q
   ·subst e;rw[hb,hop];exact h
   ·exact hE i zd
  obtain⟨so,hso⟩:∃so,Bt op=so:=⟨_,rfl⟩
  rw[hso]at hfq nx hle ⊢
  cases so with
  |false=>
   refine aau mixed trivial f1 ?_;exact⟨q+1,Le.fJ _,⟨zd,by simpa using nx (by cases b<;>rfl)⟩,zd⟩
  |true=>
   refine aau mixed trivial trivial ?_
   cases b with
   |false=>
    refine aau mixed trivial f1 ?_;exact⟨q+1,Le.fJ _,⟨zd,eQ⟩,zd⟩
   |true=>
    have hX:=hfq rfl;refine aau mixed trivial trivial ?_;exact aaq (aD.rt rfl 4 QQ)
 ·have hX:=ht λi hi=>hE i zd
  refine aau mixed trivial hlt ?_;exact aaq (aD.rt rfl 4 QQ)
abbrev sL5(l:List Iv)(d:Nat->Iv)(M a b:Nat):Key->LB:=
 aM (aM (aM (aM (aM (λ_=>.hole) 0 (.cells false false 61 [dc (iO l)])) 1 (.cells false false 3 [.d (.int .i64 (a:Int))])) 2 (.cells false false 61 [.aO 4 0 M 6])) 3 (.cells false false 3 [.d (.int .i64 (b:Int))])) 4 (.cells false false 36 (vK d M))
abbrev WQ(l:List Iv)(d:Nat->Iv)(M a b:Nat):List LB:=
 [.cells false false 61 [dc (iO l)],.cells false false 3 [.d (.int .i64 (a:Int))],.cells false false 61 [.aO 4 0 M 6],.cells false false 3 [.d (.int .i64 (b:Int))],.cells false false 36 (vK d M)]
def MM(x y dx dy:Iv):Iv:=(x.mul dy).add (y.mul dx)
theorem Ck(G:List (List DV))(l:List Iv)(d:Nat->Iv)(M a b:Nat){x y:Iv}(ha:a<l.length)(hb:b<l.length)(haM:a<M)(hbM:b<M)(ex:l[a]=x)(ey:l[b]=y)(edx:d a=dx)(edy:d b=dy)(gx:x.g)(gy:y.g)(gdx:dx.g)(gdy:dy.g):
 aQ prog G 45 [.c (.ptr 0 0),.c (.ptr 1 0),.c (.ptr 2 0),.c (.ptr 3 0)] (WQ l d M a b) (.ret (eo (MM x y dx dy)) (WQ l d M a b) []):=by
 have hσ:cY (WQ l d M a b) []=sL5 l d M a b:=by
  funext k;match k with|0=>rfl|1=>rfl|2=>rfl|3=>rfl|4=>rfl|k+5=>simp[cY,aM]
 have s1:=cX gx.1 gdy.1;have s2:=cX gy.1 gdx.1;have c1:=rj G x dy (Iv.aC gx.1 zr) (Iv.aC gdy.1 zr) gx.2 gdy.2;have c2:=rj G y dx (Iv.aC gy.1 zr) (Iv.aC gdx.1 zr) gy.2 gdx.2;have c3:=tM G (x.mul dy) (y.mul dx) (Iv.aC s1 zr) (Iv.aC s2 zr);have hia:=λlv=>BO lv l ha
 have hib:=λlv=>BO lv l hb
 rw[ex]at hia;rw[ey]at hib;have va:=λ{lv:Key->LB}(h:lv 4=.cells false false 36 (vK d M))=>Vv h haM
 have vb:=λ{lv:Key->LB}(h:lv 4=.cells false false 36 (vK d M))=>Vv h hbM
 rw[edx]at va;rw[edy]at vb;show aQ _ _ _ _ _ (.ret (eo ((x.mul dy).add (y.mul dx))) _ _);obtain⟨p1,hp1⟩:∃z,x.mul dy=z:=⟨_,rfl⟩
 obtain⟨p2,hp2⟩:∃z,y.mul dx=z:=⟨_,rfl⟩
 rw[hp1]at c1 c3⊢;rw[hp2]at c2 c3⊢;obtain⟨p3,hp3⟩:∃z,p1.add p2=z:=⟨_,rfl⟩
 rw[hp3]at c3⊢;refine aQ.enm func45 rfl hσ λ_=>aac λK hK=>aai ?_;simp
 repeat refine az ?_
 apply hK;obtain⟨lv,hlv⟩:∃lv,aM (sL5 l d M a b) 1000 (.cells true false 36 [.d (.bool false),.d .nilsl,.d .nilsl,.d (.bool false),.d .nilsl,.d .nilsl])=lv:=⟨_,rfl⟩
 rw[hlv];have l0:aA prog 61 lv (.c (.ptr 0 0))=some (.c (dc (iO l)),[],[0],True):=t0
 have l1:aA prog 3 lv (.c (.ptr 1 0))=some (.c (.d (.int .i64 (a:Int))),[],[1],True):=t0
 have l2:aA prog 61 lv (.c (.ptr 2 0))=some (.c (.aO 4 0 M 6),[],[2],True):=t0
 have l3:aA prog 3 lv (.c (.ptr 3 0))=some (.c (.d (.int .i64 (b:Int))),[],[3],True):=t0
 have lP:∀x,aA prog 36 lv (.c (.d (.ptr (iQ x))))=some (eo x,[],[],True):=λx=>by simp[aA,iQ,iA]
 have h4:lv 4=.cells false false 36 (vK d M):=xc
 have h9:lv 9=.hole:=xc
 have la:=va h4;have lb:=vb h4;have ia:=Tq h4 (n:=M) (i:=a);have ib:=Tq h4 (n:=M) (i:=b);have hst:aG prog 36 lv (.c (.ptr 1000 0)) (eo p3)=some (.undef,[(1000,.cells true false 36 [.d (.bool (decide (p3.1.num<0))),nC (aW p3.1.num.natAbs),nC (bB p3.1.den),.d (.bool (decide (p3.2.num<0))),nC (aW p3.2.num.natAbs),nC (bB p3.2.den)])],[],True):=by rw[<-hlv];simp[aG,AV.cells,ai]
 refine aac λK hK=>?_;refine aaT mixed zt rfl ?_;simp[hia,hib,l0,l1,l2,l3,lP,la,lb,ia,ib,haM,hbM,hst,-aA,-aG];refine ag.p 1001 9 c1 ?_ (hh:=h9);simp[l0,l1,l2,l3,lP,la,lb,ia,ib,haM,hbM,hia,hib,hst,-aA,-aG];refine ag.p 1001 9 c2 ?_ (hh:=h9);simp[hst,-aA,-aG];refine ag.p 1001 9 c3 ?_ (hh:=h9);simp[hst,-aA,-aG];refine⟨zt,?_⟩
 repeat refine az ?_
 apply hK;refine aal ?_;refine⟨[(0,0,.cells false false 61 [dc (iO l)]),(1,1,.cells false false 3 [.d (.int .i64 (a:Int))]),(2,2,.cells false false 61 [.aO 4 0 M 6]),(3,3,.cells false false 3 [.d (.int .i64 (b:Int))]),(4,4,.cells false false 36 (vK d M))],9,?_,zp,zp,xc,?_,?_,?_,?_⟩
 ·rw[hσ];rfl
 ·intro k hk
  match k with
  |0=>exact .inr rfl
  |1=>exact .inr rfl
  |2=>exact .inr rfl
  |3=>exact .inr rfl
  |4=>exact .inr rfl
  |k+5=>exact absurd np hk
 ·intro e he;rw[<-hlv];simp only[aZ,bw,or_false]at he;rcases he with rfl|rfl|rfl|rfl|rfl
  ·exact LB.aN.2 ⟨rfl,rfl,zp,id⟩
  ·exact LB.aN.2 ⟨rfl,rfl,rfl,id⟩
  ·exact LB.aN.2 ⟨rfl,rfl,rfl,id⟩
  ·exact LB.aN.2 ⟨rfl,rfl,rfl,id⟩
  ·exact LB.aN.2 ⟨rfl,rfl,(D5 _ _ _).symm,id⟩
 ·simp
 ·show fq _ _ [.cell 4 36]=_;simp[fq,kH,mj,ai]
abbrev z6:List CV:=[.d (.bool false),.d .nilsl,.d .nilsl,.d (.bool false),.d .nilsl,.d .nilsl]
abbrev Xt(n:Nd):List CV:=[.d (.int .i64 n.op),.d (.int .i64 n.a),.d (.int .i64 n.b),.d (.int .i64 n.c),.d (.int .i64 n.d),.d (.int .i64 n.f),.d (.str n.v)]
abbrev s4L(p:PD)(l:List Iv)(M:Nat):Key->LB:=aM (aM (aM (aM (λ_=>.hole) 0 (.cells true false 27 p.cs)) 1 (.cells true false 61 [dc (iO l)])) 2 (.cells true false 61 [.aO 3 0 M 6])) 4 (.cells true false 36 z6)
abbrev LJ(p:PD)(l:List Iv)(d:Nat->Iv)(M:Nat):Key->LB:=aM (s4L p l M) 3 (.cells true false 36 (vK d M))
abbrev ZO(p:PD)(l:List Iv)(d:Nat->Iv)(M:Nat)(n:Nd):Key->LB:=aM (aM (aM (aM (s4L p l M) 10 (.cells true false 85 (Xt n))) 11 (.cells true false 3 [.d (.int .i64 n.a)])) 12 (.cells true false 3 [.d (.int .i64 n.b)])) 3 (.cells true false 36 (vK d M))
abbrev slM(p:PD)(l:List Iv)(d:Nat->Iv)(M:Nat):List (Key×Key×LB):=[(0,0,.cells true false 27 p.cs),(1,1,.cells true false 61 [dc (iO l)]),(2,2,.cells true false 61 [.aO 3 0 M 6]),(4,4,.cells true false 36 z6),(3,3,.cells true false 36 (vK d M))]
theorem Je(hc:c.jd=λ_=>.hole)(L:List (Nat×AV))(h0:lv 0=.cells true false 27 p.cs)(h1:lv 1=.cells true false 61 [dc (iO l)])(h2:lv 2=.cells true false 61 [.aO 3 0 M 6])(h4:lv 4=.cells true false 36 z6)(h3:lv 3=.cells true false 36 (vK d M))(h9:lv 9=.hole)
 (hl:∀x∈L,x.2.cG=true/\fr x.1=x.2.dA (aV (slM p l d M) 9)):Le c ⟨fr,lv⟩ ⟨aT L,LJ p l d M⟩:=by
 refine Le.keys (slM p l d M) 9 L rfl hc zp zp h9 ?_ hl;intro e he;simp only[aZ,bw,or_false]at he;rcases he with rfl|rfl|rfl|rfl|rfl
 ·show(lv 0).like _ _;rw[h0];exact mb p _
 ·show(lv 1).like _ _;rw[h1];exact LB.aN.2 ⟨rfl,rfl,zp,id⟩
 ·show(lv 2).like _ _;rw[h2];exact LB.aN.2 ⟨rfl,rfl,rfl,id⟩
 ·show(lv 4).like _ _;rw[h4];exact LB.aN.2 ⟨rfl,rfl,rfl,id⟩
 ·show(lv 3).like _ _;rw[h3];exact u9 d M _
theorem ldP(x:Iv):aA prog 36 lv (.c (.d (.ptr (iQ x))))=some (eo x,[],[],True):=by simp[aA,iQ,iA]
theorem rZ{lv:Key->LB}:∀us:List (Key×LB),(∀x∈us,lv x.1=x.2)->b8 lv us=lv
 |[],_=>rfl
 |(k,b)::us,h=>by
  have e:aM lv k b=lv:=by
   funext j;unfold aM;split
   ·next hj=>subst hj;exact(h (_,b) zp).symm
   ·rfl
  show b8 (aM lv k b) us=lv;rw[e];exact rZ us λx hx=>h x rc
theorem ag.prod(κ':Nat){a b:Nat}{v:Iv}
 (hc:aQ c0.P c0.G 45 [.c (.ptr 0 0),.c (.ptr 1 0),.c (.ptr 2 0),.c (.ptr 3 0)] (WQ l d M a b) (.ret (eo v) (WQ l d M a b) []))
 (h0:lv 1=.cells true false 61 [dc (iO l)]) (h1:lv 11=.cells true false 3 [.d (.int .i64 (a:Int))]) (h2:lv 2=.cells true false 61 [.aO 3 0 M 6]) (h3:lv 12=.cells true false 3 [.d (.int .i64 (b:Int))]) (h4:lv 3=.cells true false 36 (vK d M)) (hh:lv 9=.hole)
 (hK:K (eo v) [(1,.cells true false 61 [dc (iO l)]),(11,.cells true false 3 [.d (.int .i64 (a:Int))]),(2,.cells true false 61 [.aO 3 0 M 6]),(12,.cells true false 3 [.d (.int .i64 (b:Int))]),(3,.cells true false 36 (vK d M))] [9,1,11,2,12,3] κ') :
 ag c0 45 [.c (.ptr 1 0),.c (.ptr 11 0),.c (.ptr 2 0),.c (.ptr 12 0)] lv K:=by
 obtain⟨g,hg⟩:∃g,aY [1,11,2,12,3] [] 9=g:=⟨_,rfl⟩
 have g0:g 0=1:=lk
 have g1:g 1=11:=lk
 have g2:g 2=2:=lk
 have g3:g 3=12:=lk
 have g4:g 4=3:=lk
 have er:∀n,jB lv n (dc (iO l))=[]:=λn=>by cases n<;>cases iO l<;>rfl
 have ev:∀n,(vK d M).flatMap (jB lv n)=[]:=λn=>by
  rw[List.flatMap_eq_nil_iff];intro x hx;unfold vK iK at hx;obtain⟨w,_,rfl⟩:=List.mem_map.1 hx
  cases n<;>rfl
 refine ag.TR κ' 9 true [1,11,2,12,3] [] _ _ _ (us:=[.c (.ptr 0 0),.c (.ptr 1 0),.c (.ptr 2 0),.c (.ptr 3 0)]) [9,1,11,2,12,3] hc zp zp rfl rfl rfl zp ?_ zp hh ?_ ?_ ?_ rfl ?_ ?_ zp ?_
 ·rw[hg];intro i q1 q2
  match i,q1,q2 with
  |0,_,_=>
   show(lv 1).like _ _;rw[h0];exact LB.aN.2 ⟨rfl,rfl,zp,λh=>by cases h⟩
  |1,_,_=>
   show(lv 11).like _ _;rw[h1];exact LB.aN.2 ⟨rfl,rfl,rfl,λh=>by cases h⟩
  |2,_,_=>
   show(lv 2).like _ _;rw[h2];exact LB.aN.2 ⟨rfl,rfl,by show _=[CV.aO (g 4) 0 M 6];rw[g4],λh=>by cases h⟩
  |3,_,_=>
   show(lv 12).like _ _;rw[h3];exact LB.aN.2 ⟨rfl,rfl,rfl,λh=>by cases h⟩
  |4,_,_=>
   show(lv 3).like _ _;rw[h4];exact LB.aN.2 ⟨rfl,rfl,(D5 d M g).symm,λh=>by cases h⟩
 ·intro b hb;simp only[aZ,bw,or_false]at hb;rcases hb with rfl|rfl|rfl|rfl|rfl<;>rfl
 ·intro b hb;simp only[afB,aew,ad5,aZ,bw,or_false]at hb;rcases hb with rfl|rfl|rfl|rfl|rfl|rfl|rfl|rfl|rfl|rfl<;>exact λh=>by cases h
 ·intro _ k hk;simp only[aZ,bw,or_false]at hk;rcases hk with rfl|rfl|rfl|rfl|rfl
  ·rw[h0];rfl
  ·rw[h1];rfl
  ·rw[h2];rfl
  ·rw[h3];rfl
  ·rw[h4];rfl
 ·rw[hg];intro i q1 q2
  match i,q1,q2 with
  |0,_,_=>exact⟨rfl,by show _=AV.c (.ptr (g 0) 0);rw[g0];rfl⟩
  |1,_,_=>exact⟨rfl,by show _=AV.c (.ptr (g 1) 0);rw[g1];rfl⟩
  |2,_,_=>exact⟨rfl,by show _=AV.c (.ptr (g 2) 0);rw[g2];rfl⟩
  |3,_,_=>exact⟨rfl,by show _=AV.c (.ptr (g 3) 0);rw[g3];rfl⟩
 ·intro a ha k hk;simp only[aZ,bw,or_false]at ha;rcases ha with rfl|rfl|rfl|rfl
  ·have hk:k∈jB lv 8 (.ptr 1 0):=hk;simp only[jB,h0,er,afV,List.flatMap_nil,ad5,aZ,bw,or_false]at hk;subst hk;simp
  ·have hk:k∈jB lv 8 (.ptr 11 0):=hk;simp only[jB,h1,afV,List.flatMap_nil,ad5,aZ,bw,or_false]at hk;subst hk;simp
  ·have hk:k∈jB lv 8 (.ptr 2 0):=hk;simp only[jB,h2,h4,afV,List.flatMap_nil,ev,ad5,aZ,bw,or_false]at hk;rcases hk with rfl|rfl<;>simp
  ·have hk:k∈jB lv 8 (.ptr 12 0):=hk;simp only[jB,h3,afV,List.flatMap_nil,ad5,aZ,bw,or_false]at hk;subst hk;simp
 ·rw[hg]
  have e:cM g true [1,11,2,12,3] (WQ l d M a b)++cM g true [] []=[(1,.cells true false 61 [dc (iO l)]),(11,.cells true false 3 [.d (.int .i64 (a:Int))]),(2,.cells true false 61 [.aO 3 0 M 6]),(12,.cells true false 3 [.d (.int .i64 (b:Int))]),(3,.cells true false 36 (vK d M))]:=by
   simp[cM,LB.fix,g4,D5]
  rw[e];have e2:(eo v).dA g=eo v:=zp
  rw[e2];exact hK
noncomputable abbrev slC(m:Int)(z:Ev):Ctx:=⟨prog,GG m,z.w,z.F,z.W,Tryz.f23.ntmps,λ_=>.hole,z.b,z.d⟩
abbrev slI(nd i N:Nat)(inp:Int)(dl:DV):List (Nat×AV):=[(2,.c (.d (.int .i64 (nd:Int)))),(3,.c (.d (.int .i64 inp))),(4,.c (.ptr 0 0)),(5,.c (.ptr 1 0)),(8,.c (.ptr 4 0)),(10,.c (.ptr 2 0)),(11,.c (.d (.int .i64 (i:Int)))),(13,.c (.ptr 10 0)),(14,.c (.d (.int .i64 0))),(15,.c (.ptr 11 0)),(16,.c (.ptr 12 0)),(17,.c (.func (.func 45) [] [.ptr 1 0,.ptr 11 0,.ptr 2 0,.ptr 12 0])),(23,.c (.d dl)),(24,.c (.d (.int .i64 (N:Int)))),(25,.c (.d (.int .i64 (i:Int))))]
abbrev slZ(nd i N:Nat)(inp:Int)(dl:DV)(e:Int):List (Nat×AV):=[(2,.c (.d (.int .i64 (nd:Int)))),(3,.c (.d (.int .i64 inp))),(4,.c (.ptr 0 0)),(5,.c (.ptr 1 0)),(8,.c (.ptr 4 0)),(10,.c (.ptr 2 0)),(11,.c (.d (.int .i64 (i:Int)))),(14,.c (.d (.int .i64 e))),(23,.c (.d dl)),(24,.c (.d (.int .i64 (N:Int)))),(25,.c (.d (.int .i64 (i:Int))))]
abbrev PO:List Nat:=[1,1,0,1,2,3,1,1,0,2,1,1,1,1,1,0]
def R8(m:Int)(z:Ev)(p:PD)(l:List Iv)(d:Nat->Iv)(N i nd:Nat)(inp:Int)(dl:DV)(n:Nd)(q:List Nat)(v:Iv)(e:Int):Prop:=
 ∀Q:Ex->aJ->Nat->Prop,(∀s κ,Le (slC m z) s ⟨aT (slZ nd i N inp dl e),LJ p l (λj=>if j=i then v else d j) N⟩->Q .normal s κ) ->
  AW (slC m z) none (cW (PO++q) Tryz.f23) ⟨aT (slI nd i N inp dl),ZO p l d N n⟩ 30 Q
theorem Qv(p:PD)(l:List Iv)(d:Nat->Iv)(N i:Nat)(n:Nd)(hi:i<N):∃lv,ZO p l d N n=lv/\lv 1=.cells true false 61 [dc (iO l)]/\lv 2=.cells true false 61 [.aO 3 0 N 6]/\lv 3=.cells true false 36 (vK d N)/\lv 9=.hole/\lv 10=.cells true false 85 (Xt n)/\lv 11=.cells true false 3 [.d (.int .i64 n.a)]/\lv 12=.cells true false 3 [.d (.int .i64 n.b)] /\
 (i<N/\aA prog 61 lv (.c (.ptr 1 0))=some (.c (dc (iO l)),[],[1],True)/\aA prog 61 lv (.c (.ptr 2 0))=some (.c (.aO 3 0 N 6),[],[2],True) /\
  aA prog 3 lv (.c (.ptr 11 0))=some (.c (.d (.int .i64 n.a)),[],[11],True)/\aA prog 3 lv (.c (.ptr 12 0))=some (.c (.d (.int .i64 n.b)),[],[12],True)/\aA prog 3 lv (.c (.ptr 10 3))=some (.c (.d (.int .i64 n.c)),[],[10],True) /\
  (∀A:Nat,aq prog 61 lv (.c (.aO 3 0 N 6)) (.c (.d (.int .i64 (A:Int))))=some (.c (.ptr 3 (A*6)),[],[3],A<N)) /\
  (∀A,A<N->aA prog 36 lv (.c (.ptr 3 (A*6)))=some (eo (d A),[],[3],True)) /\
  (∀v,aG prog 36 lv (.c (.ptr 3 (i*6))) (eo v)=some (.undef,[(3,.cells true false 36 (vK (λj=>if j=i then v else d j) N))],[],True)) /\
  (∀v:Iv,aA prog 36 lv (.c (.d (.ptr (iQ v))))=some (eo v,[],[],True))) /\
 ∀{c:Ctx}{fr:Nat->AV}(v:Iv) (L:List (Nat×AV)),(c.jd=λ_=>.hole)->(∀x∈L,x.2.cG=true/\fr x.1=x.2.dA (aV (slM p l (λj=>if j=i then v else d j) N) 9)) ->
  Le c ⟨fr,aM lv 3 (.cells true false 36 (vK (λj=>if j=i then v else d j) N))⟩ ⟨aT L,LJ p l (λj=>if j=i then v else d j) N⟩:=
 ⟨_,rfl,rfl,rfl,rfl,rfl,rfl,rfl,rfl,⟨hi,UV,UV,UV,UV,UV,λA=>Tq rfl,λA h=>Vv rfl h,λv=>stV rfl hi v,ldP⟩,
  λv L hc hl=>Je hc L rfl rfl rfl rfl rr rfl hl⟩
theorem XG(m:Int)(z:Ev)(p:PD)(l:List Iv)(d:Nat->Iv)(N i nd:Nat)(inp:Int)(n:Nd)(hi:i<N):R8 m z p l d N i nd inp dl n [1,2,1,4,1,4] ((1,1)) (0):=by
 intro Q hn;obtain⟨lv,hlv,f1,h2,h3,h9,h10,f11,f12,e,fin⟩:=Qv p l d N i n hi;unfold PO;rw[hlv]
 conv=>
  enter [3]
  whnf
 have c1:=mD (GG m) 1 zr zr;change aa _ _ _ _ (bu (1:Rat))at c1;have c2:=qQ (GG m) 1;generalize ((1:Rat),(1:Rat))=w at c2 hn;generalize (1:Rat)=u at c1 c2;refine aaT mixed zt rfl ?_;simp[e,-aA,-aG,oQ,lK,lZ,mZ,cQ];refine ag.p 31 9 c1 ?_ (hh:=h9);simp[e,-aA,-aG];refine ag.p 31 9 c2 ?_ (hh:=h9);simp[e,-aA,-aG];refine⟨zt,?_⟩
 repeat refine az ?_
 exact hn _ _ (fin _ _ rfl xa)
theorem Zh(m:Int)(z:Ev)(p:PD)(l:List Iv)(d:Nat->Iv)(N i nd:Nat)(inp:Int)(n:Nd)(hi:i<N)(hd:∀j,(d j).g)(hr:∀j (h:j<l.length),(l[j]).g)(hl:l.length=N)(eA:n.a=(A:Int))(hA:A<i):R8 m z p l d N i nd inp dl n [1,2,1,5,1,4] ((d A).neg) (0):=by
 intro Q hn;obtain⟨lv,hlv,f1,h2,h3,h9,h10,f11,f12,e,fin⟩:=Qv p l d N i n hi;unfold PO;rw[hlv]
 conv=>
  enter [3]
  whnf
 have gA:=hd A;have hAN:A<N:=zd
 have c1:=xC (GG m) (d A);generalize (d A).neg=w1 at c1 hn;refine aaT mixed zt rfl ?_;simp[e,eA,hAN,-aA,-aG,oQ,lK,lZ,mZ,cQ];refine ag.p 31 9 c1 ?_ (hh:=h9);simp[e,eA,hAN,-aA,-aG];refine⟨zt,?_⟩
 repeat refine az ?_
 exact hn _ _ (fin _ _ rfl xa)
theorem Xu(m:Int)(z:Ev)(p:PD)(l:List Iv)(d:Nat->Iv)(N i nd:Nat)(inp:Int)(n:Nd)(hi:i<N)(hd:∀j,(d j).g)(hr:∀j (h:j<l.length),(l[j]).g)(hl:l.length=N)(eA:n.a=(A:Int))(hA:A<i):R8 m z p l d N i nd inp dl n [1,2,1,5,1,5,1,4] (d A) (0):=by
 intro Q hn;obtain⟨lv,hlv,f1,h2,h3,h9,h10,f11,f12,e,fin⟩:=Qv p l d N i n hi;unfold PO;rw[hlv]
 conv=>
  enter [3]
  whnf
 have gA:=hd A;have hAN:A<N:=zd
 refine aaT mixed zt rfl ?_;simp[e,eA,hAN,-aA,-aG,oQ,lK,lZ,mZ,cQ];refine⟨zt,?_⟩
 repeat refine az ?_
 exact hn _ _ (fin _ _ rfl xa)
theorem Zk(m:Int)(z:Ev)(p:PD)(l:List Iv)(d:Nat->Iv)(N i nd:Nat)(inp:Int)(n:Nd)(hi:i<N)(hd:∀j,(d j).g)(hr:∀j (h:j<l.length),(l[j]).g)(hl:l.length=N)(eA:n.a=(A:Int))(hA:A<i)(eB:n.b=(B:Int))(hB:B<i):R8 m z p l d N i nd inp dl n [1,2,1,5,1,5,1,5,1,4] ((d A).add (d B)) (0):=by
 intro Q hn;obtain⟨lv,hlv,f1,h2,h3,h9,h10,f11,f12,e,fin⟩:=Qv p l d N i n hi;unfold PO;rw[hlv]
 conv=>
  enter [3]
  whnf
 have gA:=hd A;have hAN:A<N:=zd
 have gB:=hd B;have hBN:B<N:=zd
 have c1:=tM (GG m) (d A) (d B) (Iv.aC gA.1 zr) (Iv.aC gB.1 zr);generalize (d A).add (d B)=w1 at c1 hn;refine aaT mixed zt rfl ?_;simp[e,eA,hAN,eB,hBN,-aA,-aG,oQ,lK,lZ,mZ,cQ];refine ag.p 31 9 c1 ?_ (hh:=h9);simp[e,eA,hAN,eB,hBN,-aA,-aG];refine⟨zt,?_⟩
 repeat refine az ?_
 exact hn _ _ (fin _ _ rfl xa)
theorem XF(m:Int)(z:Ev)(p:PD)(l:List Iv)(d:Nat->Iv)(N i nd:Nat)(inp:Int)(n:Nd)(hi:i<N)(hd:∀j,(d j).g)(hr:∀j (h:j<l.length),(l[j]).g)(hl:l.length=N)(eA:n.a=(A:Int))(hA:A<i)(eB:n.b=(B:Int))(hB:B<i):R8 m z p l d N i nd inp dl n [1,2,1,5,1,5,1,5,1,5,1,4] ((d A).sub (d B)) (0):=by
 intro Q hn;obtain⟨lv,hlv,f1,h2,h3,h9,h10,f11,f12,e,fin⟩:=Qv p l d N i n hi;unfold PO;rw[hlv]
 conv=>
  enter [3]
  whnf
 have gA:=hd A;have hAN:A<N:=zd
 have gB:=hd B;have hBN:B<N:=zd
 have c1:=Hy (GG m) (d A) (d B) (Iv.aC gA.1 zr) (Iv.aC gB.1 zr);generalize (d A).sub (d B)=w1 at c1 hn;refine aaT mixed zt rfl ?_;simp[e,eA,hAN,eB,hBN,-aA,-aG,oQ,lK,lZ,mZ,cQ];refine ag.p 31 9 c1 ?_ (hh:=h9);simp[e,eA,hAN,eB,hBN,-aA,-aG];refine⟨zt,?_⟩
 repeat refine az ?_
 exact hn _ _ (fin _ _ rfl xa)
theorem Vi(m:Int)(z:Ev)(p:PD)(l:List Iv)(d:Nat->Iv)(N i nd:Nat)(inp:Int)(n:Nd)(hi:i<N)(hd:∀j,(d j).g)(hr:∀j (h:j<l.length),(l[j]).g)(hl:l.length=N)(eA:n.a=(A:Int))(hA:A<i)(eB:n.b=(B:Int))(hB:B<i):R8 m z p l d N i nd inp dl n [1,2,1,5,1,5,1,5,1,5,1,5,1,5,1,5,1,4] (nq ((l[B].mul (d A)).sub (l[A].mul (d B))) (l[B].mul l[B])) (if (l[B].mul l[B]).has 0 then 8 else 0):=by
 intro Q hn;obtain⟨lv,hlv,f1,h2,h3,h9,h10,f11,f12,e,fin⟩:=Qv p l d N i n hi;unfold PO;rw[hlv]
 conv=>
  enter [3]
  whnf
 have gA:=hd A;have hAN:A<N:=zd
 have gB:=hd B;have hBN:B<N:=zd
 have qA:=hr A zd;have hxA:=λlv=>BO lv l (i:=A) zd
 have qB:=hr B zd;have hxB:=λlv=>BO lv l (i:=B) zd
 have c1:=rj (GG m) l[B] (d A) (Iv.aC qB.1 zr) (Iv.aC gA.1 zr) qB.2 gA.2;have c2:=rj (GG m) l[A] (d B) (Iv.aC qA.1 zr) (Iv.aC gB.1 zr) qA.2 gB.2;have s1:=cX qB.1 gA.1;have s2:=cX qA.1 gB.1;have s3:=uL s1 s2;have s4:=cX qB.1 qB.1;have c3:=Hy (GG m) _ _ (Iv.aC s1 zr) (Iv.aC s2 zr);have c4:=rj (GG m) l[B] l[B] (Iv.aC qB.1 zr) (Iv.aC qB.1 zr) qB.2 qB.2;have c5:=Jm (GG m) _ _ (Iv.aC s3 zr) (Iv.aC s4 zr) (Iv.sub_le (Iv.qU _ _) (Iv.qU _ _)) (Iv.qU _ _);generalize l[B].mul (d A)=w1 at c1 c3 c5 hn;generalize l[A].mul (d B)=w2 at c2 c3 c5 hn;generalize w1.sub w2=w3 at c3 c5 hn;generalize l[B].mul l[B]=w4 at c4 c5 hn;generalize nq w3 w4=w5 at c5 hn;generalize (if w4.has 0 then(8:Int)else 0)=we at c5 hn;generalize l[A]' zd=rA at hxA c2;generalize l[B]' zd=rB at hxB c1 c4;refine aaT mixed zt rfl ?_;simp[e,eA,hAN,eB,hBN,hxA,hxB,-aA,-aG,oQ,lK,lZ,mZ,cQ];refine ag.p 31 9 c1 ?_ (hh:=h9);simp[e,eA,hAN,eB,hBN,hxA,hxB,-aA,-aG];refine ag.p 31 9 c2 ?_ (hh:=h9);simp[e,eA,hAN,eB,hBN,hxA,hxB,-aA,-aG];refine ag.p 31 9 c3 ?_ (hh:=h9);simp[e,eA,hAN,eB,hBN,hxA,hxB,-aA,-aG];refine ag.p 31 9 c4 ?_ (hh:=h9);simp[e,eA,hAN,eB,hBN,hxA,hxB,-aA,-aG];refine ag.p 31 9 c5 ?_ (hh:=h9);simp[e,eA,hAN,eB,hBN,hxA,hxB,-aA,-aG];refine⟨zt,?_⟩
 repeat refine az ?_
 exact hn _ _ (fin _ _ rfl xa)
theorem XH(m:Int)(z:Ev)(p:PD)(l:List Iv)(d:Nat->Iv)(N i nd:Nat)(inp:Int)(n:Nd)(hi:i<N)(hd:∀j,(d j).g)(hr:∀j (h:j<l.length),(l[j]).g)(hl:l.length=N)(eA:n.a=(A:Int))(hA:A<i):R8 m z p l d N i nd inp dl n [1,2,1,5,1,5,1,5,1,5,1,5,1,5,1,5,1,5,1,4] (nq (d A) (l[i].add l[i])) (if (l[i].add l[i]).has 0 then 8 else 0):=by
 intro Q hn;obtain⟨lv,hlv,f1,h2,h3,h9,h10,f11,f12,e,fin⟩:=Qv p l d N i n hi;unfold PO;rw[hlv]
 conv=>
  enter [3]
  whnf
 have gA:=hd A;have hAN:A<N:=zd
 have qi:=hr i zd;have hxi:=λlv=>BO lv l (i:=i) zd
 have c1:=tM (GG m) l[i] l[i] (Iv.aC qi.1 zr) (Iv.aC qi.1 zr);have s1:=jy qi.1 qi.1;have c2:=Jm (GG m) (d A) _ (Iv.aC gA.1 zr) (Iv.aC s1 zr) gA.2 (Iv.xy qi.2 qi.2);generalize l[i].add l[i]=w1 at c1 c2 hn;generalize nq (d A) w1=w2 at c2 hn;generalize (if w1.has 0 then(8:Int)else 0)=we at c2 hn;generalize l[i]' zd=ri at hxi c1;refine aaT mixed zt rfl ?_;simp[e,eA,hAN,hxi,-aA,-aG,oQ,lK,lZ,mZ,cQ];refine ag.p 31 9 c1 ?_ (hh:=h9);simp[e,eA,hAN,hxi,-aA,-aG];refine ag.p 31 9 c2 ?_ (hh:=h9);simp[e,eA,hAN,hxi,-aA,-aG];refine⟨zt,?_⟩
 repeat refine az ?_
 exact hn _ _ (fin _ _ rfl xa)
theorem U3(m:Int)(z:Ev)(p:PD)(l:List Iv)(d:Nat->Iv)(N i nd:Nat)(inp:Int)(n:Nd)(hi:i<N)(hd:∀j,(d j).g)(hr:∀j (h:j<l.length),(l[j]).g)(hl:l.length=N)(eA:n.a=(A:Int))(hA:A<i)(eB:n.b=(B:Int))(hB:B<i):R8 m z p l d N i nd inp dl n [1,2,1,5,1,5,1,5,1,5,1,5,1,4] (MM l[A] l[B] (d A) (d B)) (0):=by
 intro Q hn;obtain⟨lv,hlv,f1,h2,h3,h9,h10,f11,f12,e,fin⟩:=Qv p l d N i n hi;unfold PO;rw[hlv]
 conv=>
  enter [3]
  whnf
 have gA:=hd A;have hAN:A<N:=zd
 have gB:=hd B;have hBN:B<N:=zd
 have qA:=hr A zd;have hxA:=λlv=>BO lv l (i:=A) zd
 have qB:=hr B zd;have hxB:=λlv=>BO lv l (i:=B) zd
 have c1:=Ck (GG m) l d N A B zd zd hAN hBN rfl rfl rfl rfl qA qB gA gB;generalize MM l[A] l[B] (d A) (d B)=w1 at c1 hn;rw[eA]at f11;rw[eB]at f12;have he:=rZ (lv:=lv) [(1,.cells true false 61 [dc (iO l)]),(11,.cells true false 3 [.d (.int .i64 (A:Int))]),(2,.cells true false 61 [.aO 3 0 N 6]),(12,.cells true false 3 [.d (.int .i64 (B:Int))]),(3,.cells true false 36 (vK d N))] (by simp[*]);have e2:aM lv 2 (lv 2)=lv:=rZ [(2,lv 2)] zp;refine AW.Pv 60 mixed zt ?_;refine kK.read 45 2 (lv 2) rfl rfl (x:=.c (.aO 3 0 N 6)) lj oj ?_;refine kK.op (κ:=45) rfl rfl ?_;simp only[m7];refine kK.op (κ:=45) rfl rfl ?_;simp only[m7];refine kK.op (κ:=45) rfl rfl ?_;simp[oQ,lK,lZ,mZ,cQ];refine⟨zp,?_⟩;show ag _ 45 [.c (.ptr 1 0),.c (.ptr 11 0),.c (.ptr 2 0),.c (.ptr 12 0)] _ _;refine ag.prod 46 c1 f1 f11 h2 f12 h3 h9 ?_;rw[he];refine kK.op (κ:=46) rfl rfl ?_;simp[e,eA,hAN,eB,hBN,hxA,hxB,-aA,-aG];refine kK.op (κ:=46) rfl rfl ?_;simp[e,eA,hAN,eB,hBN,hxA,hxB,-aA,-aG];refine kK.done ⟨da,?_,hn _ _ (fin _ _ rfl xa)⟩;intro p' hp' q' hq' W' B' hs' hw';simp[Z4,List.zipIdx]at hp';simp[wrt,List.zipIdx]at hq';rcases hp' with rfl
 all_goals
  cases hs'
  rcases hq' with rfl|rfl
  all_goals first
   |(exfalso;simp at hw';done)
   |exact .inr ⟨.inl rfl,.inl (by first|exact h2.symm|exact h3.symm)⟩
   |exact .inl zt
theorem T5(m:Int)(z:Ev)(p:PD)(l:List Iv)(d:Nat->Iv)(N i nd:Nat)(inp:Int)(n:Nd)(hi:i<N)(hd:∀j,(d j).g)(hr:∀j (h:j<l.length),(l[j]).g)(hl:l.length=N)(eA:n.a=(A:Int))(hA:A<i)(eB:n.b=(B:Int))(hB:B<i){C:Nat}(eC:n.c=(C:Int))(hC:C<i):R8 m z p l d N i nd inp dl n [1,2,1,5,1,5,1,5,1,5,1,5,1,5,1,4] ((MM l[A] l[B] (d A) (d B)).add (d C)) (0):=by
 intro Q hn;obtain⟨lv,hlv,f1,h2,h3,h9,h10,f11,f12,e,fin⟩:=Qv p l d N i n hi;unfold PO;rw[hlv]
 conv=>
  enter [3]
  whnf
 have gA:=hd A;have hAN:A<N:=zd
 have gB:=hd B;have hBN:B<N:=zd
 have gC:=hd C;have hCN:C<N:=zd
 have qA:=hr A zd;have hxA:=λlv=>BO lv l (i:=A) zd
 have qB:=hr B zd;have hxB:=λlv=>BO lv l (i:=B) zd
 have c1:=Ck (GG m) l d N A B zd zd hAN hBN rfl rfl rfl rfl qA qB gA gB;have s1:(MM l[A] l[B] (d A) (d B)).sz 1201:=jy (cX qA.1 gB.1) (cX qB.1 gA.1);have c2:=tM (GG m) (MM l[A] l[B] (d A) (d B)) (d C) (Iv.aC s1 zr) (Iv.aC gC.1 zr);generalize MM l[A] l[B] (d A) (d B)=w1 at c1 c2 hn;generalize w1.add (d C)=w2 at c2 hn;have e3:aM lv 3 (lv 3)=lv:=rZ [(3,lv 3)] zp;rw[eA]at f11;rw[eB]at f12;have he:=rZ (lv:=lv) [(1,.cells true false 61 [dc (iO l)]),(11,.cells true false 3 [.d (.int .i64 (A:Int))]),(2,.cells true false 61 [.aO 3 0 N 6]),(12,.cells true false 3 [.d (.int .i64 (B:Int))]),(3,.cells true false 36 (vK d N))] (by simp[*]);have e2:aM lv 2 (lv 2)=lv:=rZ [(2,lv 2)] zp;refine AW.Pv 60 mixed zt ?_;refine kK.read 45 2 (lv 2) rfl rfl (x:=.c (.aO 3 0 N 6)) lj oj ?_;refine kK.op (κ:=45) rfl rfl ?_;simp only[m7];refine kK.op (κ:=45) rfl rfl ?_;simp only[m7];refine kK.op (κ:=45) rfl rfl ?_;simp[oQ,lK,lZ,mZ,cQ];refine⟨zp,?_⟩;show ag _ 45 [.c (.ptr 1 0),.c (.ptr 11 0),.c (.ptr 2 0),.c (.ptr 12 0)] _ _;refine ag.prod 46 c1 f1 f11 h2 f12 h3 h9 ?_;rw[he];refine kK.read 46 2 (lv 2) rfl rfl (x:=.c (.aO 3 0 N 6)) lj oj ?_;refine kK.op (κ:=46) rfl rfl ?_;simp[e,eA,hAN,eB,hBN,eC,hCN,h10,hxA,hxB,-aA,-aG];refine kK.op (κ:=46) rfl rfl ?_;simp[e,eA,hAN,eB,hBN,eC,hCN,h10,hxA,hxB,-aA,-aG];refine kK.read 46 3 (lv 3) rfl rfl (x:=.c (.ptr 3 (C*6))) (by simp[dg,Op.operands,e,hCN]) (by simp[dg,Op.operands,e,hCN,e3]) ?_;refine kK.read 46 3 (lv 3) rfl rfl (x:=eo (d C)) (by simp[dg,Op.operands,e,hCN,-aA]) (by simp[dg,Op.operands,e,hCN,e3,-aA]) ?_;refine kK.op (κ:=46) rfl rfl ?_;simp[e,eA,hAN,eB,hBN,eC,hCN,h10,hxA,hxB,-aA,-aG];refine ag.p 47 9 c2 ?_ (hh:=h9);simp[e,eA,hAN,eB,hBN,eC,hCN,h10,hxA,hxB,-aA,-aG];refine kK.op (κ:=47) rfl rfl ?_;simp[e,eA,hAN,eB,hBN,eC,hCN,h10,hxA,hxB,-aA,-aG];refine kK.op (κ:=47) rfl rfl ?_;simp[e,eA,hAN,eB,hBN,eC,hCN,h10,hxA,hxB,-aA,-aG];refine kK.done ⟨da,?_,hn _ _ (fin _ _ rfl xa)⟩;intro p' hp' q' hq' W' B' hs' hw';simp[Z4,List.zipIdx]at hp';simp[wrt,List.zipIdx]at hq';rcases hp' with rfl|rfl|rfl|rfl
 all_goals
  cases hs'
  rcases hq' with rfl|rfl
  all_goals first
   |(exfalso;simp at hw';done)
   |exact .inr ⟨.inl rfl,.inl (by first|exact h2.symm|exact h3.symm)⟩
   |exact .inl zt
def yd(inp:Int)(r d:Nat->Iv)(i:Nat)(n:Nd):Iv×Int:=
 if n.op=1 then(if n.a=inp then(1,1)else d i,0)else if n.op=4 then((d n.a.toNat).neg,0)else if n.op=7 then(d n.a.toNat,0)
 else if n.op=8 then((d n.a.toNat).add (d n.b.toNat),0)else if n.op=9 then((d n.a.toNat).sub (d n.b.toNat),0)
 else if n.op=10 then(MM (r n.a.toNat) (r n.b.toNat) (d n.a.toNat) (d n.b.toNat),0)
 else if n.op=14 then((MM (r n.a.toNat) (r n.b.toNat) (d n.a.toNat) (d n.b.toNat)).add (d n.c.toNat),0)
 else if n.op=11 then(nq (((r n.b.toNat).mul (d n.a.toNat)).sub ((r n.a.toNat).mul (d n.b.toNat))) ((r n.b.toNat).mul (r n.b.toNat)),if ((r n.b.toNat).mul (r n.b.toNat)).has 0 then 8 else 0)
 else if n.op=6 then(nq (d n.a.toNat) ((r i).add (r i)),if ((r i).add (r i)).has 0 then 8 else 0)else(d i,0)
theorem Xk(m:Int)(z:Ev)(p:PD)(l:List Iv)(r d:Nat->Iv)(N i nd:Nat)(inp:Int)(n:Nd)(hi:i<N)(hd:∀j,(d j).g)(hr:∀j (h:j<l.length),(l[j]).g)(hl:l.length=N)(hlr:∀j (h:j<l.length),l[j]=r j)(hk:∀x∈aP n,0<=x/\x<i)
 (hn:∀v e,(v,e)=yd inp r d i n->∀s κ,Le (slC m z) s ⟨aT (slZ nd i N inp dl e),LJ p l (λj=>if j=i then v else d j) N⟩->Q .normal s κ) :
 AW (slC m z) none (cW PO Tryz.f23) ⟨aT (slI nd i N inp dl),ZO p l d N n⟩ 30 Q:=by
 conv=>
  enter [3]
  whnf
 have hdd:(λj=>if j=i then d i else d j)=d:=by
  funext j;split
  ·next h=>subst h;rfl
  ·rfl
 obtain⟨op,a,b,c,d',f,v'⟩:=n;refine aah ?_;refine aaw ?_
 by_cases h1:op=1
 ·subst h1;refine aah ?_;refine aaE ?_
  by_cases ha:a=inp
  ·subst ha;refine aah ?_;refine aaE ?_;refine abC (y:=_) zt (abA (κ2:=30) ?_ (XG m z p l d N i nd a ⟨1,a,b,c,d',f,v'⟩ (dl:=dl) hi _ λs κ hle=>?_))
   ·exact Le.fJ _
   refine hn _ _ ?_ s κ hle;simp[yd]
  refine aah ?_;refine aaD (by simp[ha]<;>omega) (aan ?_);refine hn (d i) 0 ?_ _ _ ?_
  ·simp[yd,ha]
  ·exact Je rfl _ rfl rfl rfl rfl (by rw[hdd];rfl) rfl xa
 refine aaN h1 ?_;refine aax ?_
 by_cases h4:op=4
 ·subst h4;have kA:=hk a xi;obtain⟨A,eA⟩:∃A:Nat,a=(A:Int):=⟨a.toNat,zd⟩
  refine aah ?_;refine aaE ?_;refine abC (y:=_) zt (abA (κ2:=30) ?_ (Zh m z p l d N i nd inp ⟨4,a,b,c,d',f,v'⟩ (dl:=dl) hi hd hr hl eA zd _ λs κ hle=>?_))
  ·exact Le.fJ _
  refine hn _ _ ?_ s κ hle;simp[yd,hlr,eA]
 refine aaN h4 ?_;refine aax ?_
 by_cases h7:op=7
 ·subst h7;have kA:=hk a xi;obtain⟨A,eA⟩:∃A:Nat,a=(A:Int):=⟨a.toNat,zd⟩
  refine aah ?_;refine aaE ?_;refine abC (y:=_) zt (abA (κ2:=30) ?_ (Xu m z p l d N i nd inp ⟨7,a,b,c,d',f,v'⟩ (dl:=dl) hi hd hr hl eA zd _ λs κ hle=>?_))
  ·exact Le.fJ _
  refine hn _ _ ?_ s κ hle;simp[yd,hlr,eA]
 refine aaN h7 ?_;refine aax ?_
 by_cases h8:op=8
 ·subst h8;have kA:=hk a xi;obtain⟨A,eA⟩:∃A:Nat,a=(A:Int):=⟨a.toNat,zd⟩
  have kB:=hk b xi;obtain⟨B,eB⟩:∃B:Nat,b=(B:Int):=⟨b.toNat,zd⟩
  refine aah ?_;refine aaE ?_;refine abC (y:=_) zt (abA (κ2:=30) ?_ (Zk m z p l d N i nd inp ⟨8,a,b,c,d',f,v'⟩ (dl:=dl) hi hd hr hl eA zd eB zd _ λs κ hle=>?_))
  ·exact Le.fJ _
  refine hn _ _ ?_ s κ hle;simp[yd,hlr,eA,eB]
 refine aaN h8 ?_;refine aax ?_
 by_cases h9:op=9
 ·subst h9;have kA:=hk a xi;obtain⟨A,eA⟩:∃A:Nat,a=(A:Int):=⟨a.toNat,zd⟩
  have kB:=hk b xi;obtain⟨B,eB⟩:∃B:Nat,b=(B:Int):=⟨b.toNat,zd⟩
  refine aah ?_;refine aaE ?_;refine abC (y:=_) zt (abA (κ2:=30) ?_ (XF m z p l d N i nd inp ⟨9,a,b,c,d',f,v'⟩ (dl:=dl) hi hd hr hl eA zd eB zd _ λs κ hle=>?_))
  ·exact Le.fJ _
  refine hn _ _ ?_ s κ hle;simp[yd,hlr,eA,eB]
 refine aaN h9 ?_;refine aax ?_
 by_cases h10:op=10
 ·subst h10;have kA:=hk a xi;obtain⟨A,eA⟩:∃A:Nat,a=(A:Int):=⟨a.toNat,zd⟩
  have kB:=hk b xi;obtain⟨B,eB⟩:∃B:Nat,b=(B:Int):=⟨b.toNat,zd⟩
  refine aah ?_;refine aaE ?_;refine abC (y:=_) zt (abA (κ2:=30) ?_ (U3 m z p l d N i nd inp ⟨10,a,b,c,d',f,v'⟩ (dl:=dl) hi hd hr hl eA zd eB zd _ λs κ hle=>?_))
  ·exact Le.fJ _
  refine hn _ _ ?_ s κ hle;simp[yd,hlr,eA,eB]
 refine aaN h10 ?_;refine aax ?_
 by_cases h14:op=14
 ·subst h14;have kA:=hk a xi;obtain⟨A,eA⟩:∃A:Nat,a=(A:Int):=⟨a.toNat,zd⟩
  have kB:=hk b xi;obtain⟨B,eB⟩:∃B:Nat,b=(B:Int):=⟨b.toNat,zd⟩
  have kC:=hk c xi;obtain⟨C,eC⟩:∃C:Nat,c=(C:Int):=⟨c.toNat,zd⟩
  refine aah ?_;refine aaE ?_;refine abC (y:=_) zt (abA (κ2:=30) ?_ (T5 m z p l d N i nd inp ⟨14,a,b,c,d',f,v'⟩ (dl:=dl) hi hd hr hl eA zd eB zd eC zd _ λs κ hle=>?_))
  ·exact Le.fJ _
  refine hn _ _ ?_ s κ hle;simp[yd,hlr,eA,eB,eC]
 refine aaN h14 ?_;refine aax ?_
 by_cases h11:op=11
 ·subst h11;have kA:=hk a xi;obtain⟨A,eA⟩:∃A:Nat,a=(A:Int):=⟨a.toNat,zd⟩
  have kB:=hk b xi;obtain⟨B,eB⟩:∃B:Nat,b=(B:Int):=⟨b.toNat,zd⟩
  refine aah ?_;refine aaE ?_;refine abC (y:=_) zt (abA (κ2:=30) ?_ (Vi m z p l d N i nd inp ⟨11,a,b,c,d',f,v'⟩ (dl:=dl) hi hd hr hl eA zd eB zd _ λs κ hle=>?_))
  ·exact Le.fJ _
  refine hn _ _ ?_ s κ hle;simp[yd,hlr,eA,eB]
 refine aaN h11 ?_;refine aax ?_
 by_cases h6:op=6
 ·subst h6;have kA:=hk a xi;obtain⟨A,eA⟩:∃A:Nat,a=(A:Int):=⟨a.toNat,zd⟩
  refine aah ?_;refine aaE ?_;refine abC (y:=_) zt (abA (κ2:=30) ?_ (XH m z p l d N i nd inp ⟨6,a,b,c,d',f,v'⟩ (dl:=dl) hi hd hr hl eA zd _ λs κ hle=>?_))
  ·exact Le.fJ _
  refine hn _ _ ?_ s κ hle;simp[yd,hlr,eA]
 refine aaN h6 ?_;refine aax (aan ?_);refine hn (d i) 0 ?_ _ _ ?_
 ·simp[yd,h1,h4,h7,h8,h9,h10,h14,h11,h6]
 ·exact Je rfl _ rfl rfl rfl rfl (by rw[hdd];rfl) rfl xa
section
variable {lv:Key->LB}{own fz:Bool}{T:TypeId}
theorem abD(h:lv k=.cells own fz T (vK o m))(hi:i<m):aA prog 34 lv (.c (.ptr k (i*6)))=some (bu (o i).1,[],[k],True):=by
 obtain⟨r,hr⟩:=EG o hi;simp[aA,h,hr]
theorem abn(h:lv k=.cells own fz T (vK o m))(hi:i<m):aA prog 34 lv (.c (.ptr k (i*6+3)))=some (bu (o i).2,[],[k],True):=by
 obtain⟨r,hr⟩:=EG o hi;have h3:(vK o m).drop (i*6+3)=((vK o m).drop (i*6)).drop 3:=by rw[afe]
 simp[aA,h,h3,hr]
end
theorem VW(m:Int)(z:Ev)(p:PD)(l:List Iv)(o:Nat->Iv)(N i nd:Nat)(inp e:Int)(hi:i<N)(hs:(o i).sz 10000)
 (hn:AW (⟨prog,GG m,z.w,z.F,z.W,Tryz.f23.ntmps,λ_=>.hole,z.b,z.d⟩:Ctx) none (cW [1,1,0,1,2,3,1,1,0,2,1,1,1,1,1,1,1] Tryz.f23) ⟨aT [(2,.c (.d (.int .i64 (nd:Int)))),(3,.c (.d (.int .i64 inp))),(4,.c (.ptr 0 0)),(5,.c (.ptr 1 0)),(8,.c (.ptr 4 0)),(10,.c (.ptr 2 0)),(11,.c (.d (.int .i64 (i:Int)))),(14,.c (.d (.int .i64 e))),(23,.c (.d dl)),(24,.c (.d (.int .i64 (N:Int)))),(25,.c (.d (.int .i64 (i:Int))))],LJ p l (λj=>if j=i then hU (o i)else o j) N⟩ 40 Q) :
 AW (⟨prog,GG m,z.w,z.F,z.W,Tryz.f23.ntmps,λ_=>.hole,z.b,z.d⟩:Ctx) none (cW [1,1,0,1,2,3,1,1,0,2,1,1,1,1,1,1] Tryz.f23) ⟨aT [(2,.c (.d (.int .i64 (nd:Int)))),(3,.c (.d (.int .i64 inp))),(4,.c (.ptr 0 0)),(5,.c (.ptr 1 0)),(8,.c (.ptr 4 0)),(10,.c (.ptr 2 0)),(11,.c (.d (.int .i64 (i:Int)))),(14,.c (.d (.int .i64 e))),(23,.c (.d dl)),(24,.c (.d (.int .i64 (N:Int)))),(25,.c (.d (.int .i64 (i:Int))))],LJ p l o N⟩ 30 Q:=by
 have c1:=I7 (GG m) (o i) 96 hs;change aa _ _ _ _ (eo (hU (o i)))at c1;obtain⟨w,hw⟩:∃w,hU (o i)=w:=⟨_,rfl⟩
 rw[hw]at c1 hn;obtain⟨lv,hlv⟩:∃lv,LJ p l o N=lv:=⟨_,rfl⟩
 rw[hlv];have h3:lv 3=.cells true false 36 (vK o N):=xc
 have h9:lv 9=.hole:=xc
 have l2:aA prog 61 lv (.c (.ptr 2 0))=some (.c (.aO 3 0 N 6),[],[2],True):=t0
 have ii:=Tq h3 (n:=N) (i:=i);have vv:=Vv h3 hi;have st:=stV (lv:=lv) h3 hi w
 conv=>
  enter [3]
  whnf
 refine aac λK hK=>?_;refine aaT mixed zt rfl ?_;simp[l2,hi,ii,vv,st,-aA,-aG];refine ag.p 31 9 c1 ?_ (hh:=h9);simp[l2,hi,ii,vv,st,-aA,-aG];refine⟨zt,?_⟩
 repeat refine az ?_
 apply hK;refine abC (y:=cW [1,1,0,1,2,3,1,1,0,2,1,1,1,1,1,1,1] Tryz.f23) zt (abA (Je rfl _ xc xc xc xc rr xc xa) hn)
theorem RO(m:Int)(z:Ev)(p:PD)(l:List Iv)(o:Nat->Iv)(N i nd:Nat)(inp e:Int)(hi:i<N)(hs:(o i).sz 1000000)
 (hret:∀E s κ,E=(if e≠0 then e else 3)->(e≠0\/pq (o i)=false)->s.fr 8=.c (.ptr 4 0)->s.fr 9=.c (.d (.int .i64 E))->s.lv 4=.cells true false 36 z6->s.lv 9=.hole->Q .ret s κ)
 (hn:e=0->pq (o i)=true->∀s κ,Le (⟨prog,GG m,z.w,z.F,z.W,Tryz.f23.ntmps,λ_=>.hole,z.b,z.d⟩:Ctx) s ⟨aT [(2,.c (.d (.int .i64 (nd:Int)))),(3,.c (.d (.int .i64 inp))),(4,.c (.ptr 0 0)),(5,.c (.ptr 1 0)),(8,.c (.ptr 4 0)),(10,.c (.ptr 2 0)),(23,.c (.d dl)),(24,.c (.d (.int .i64 (N:Int)))),(25,.c (.d (.int .i64 (i:Int))))],LJ p l o N⟩->Q .normal s κ) :
 AW (⟨prog,GG m,z.w,z.F,z.W,Tryz.f23.ntmps,λ_=>.hole,z.b,z.d⟩:Ctx) none (cW [1,1,0,1,2,3,1,1,0,2,1,1,1,1,1,1,1] Tryz.f23) ⟨aT [(2,.c (.d (.int .i64 (nd:Int)))),(3,.c (.d (.int .i64 inp))),(4,.c (.ptr 0 0)),(5,.c (.ptr 1 0)),(8,.c (.ptr 4 0)),(10,.c (.ptr 2 0)),(11,.c (.d (.int .i64 (i:Int)))),(14,.c (.d (.int .i64 e))),(23,.c (.d dl)),(24,.c (.d (.int .i64 (N:Int)))),(25,.c (.d (.int .i64 (i:Int))))],LJ p l o N⟩ 40 Q:=by
 conv=>
  enter [3]
  whnf
 have bz:bM prog 36 [] []=some (eo (0,0),[],[],True):=AB;have z0:eo (0,0)=.agg z6:=zt
 by_cases he:e=0
 rotate_left
 ·refine aac λK hK=>AW.d1 mixed he ?_;refine aax (aan (hK _ _ (aaN he ?_)));refine aaE (abN bz z0 @ai.eq_1 ?_);exact aal (hret _ _ _ rfl (.inl he) zp (by simp[he]) zp zp)
 subst he;have c1:=wF m (o i).1 (o i).2 hs.1 hs.2;have ebb:pq (o i) = !(eS (o i).1 ||eS (o i).2):=rfl;rw[<-ebb]at c1;obtain⟨b,hb⟩:∃b,pq (o i)=b:=⟨_,rfl⟩
 rw[hb]at c1 hret hn;obtain⟨lv,hlv⟩:∃lv,LJ p l o N=lv:=⟨_,rfl⟩
 have h3:lv 3=.cells true false 36 (vK o N):=xc
 have h9:lv 9=.hole:=xc
 have h40:lv 40=.hole:=xc
 have l2:aA prog 61 lv (.c (.ptr 2 0))=some (.c (.aO 3 0 N 6),[],[2],True):=t0
 have ii:=Tq h3 (n:=N) (i:=i);have v1:=abD h3 hi;have v2:=abn h3 hi;rw[hlv];refine aac λK hK=>aac λK1 hK1=>?_;refine aaT mixed zt rfl ?_;simp[l2,h3,hi,ii,v1,v2,h40,JC,-aA];refine ag.TX (T:=34) 41 9 40 (x:=(o i).1) (y:=(o i).2) ?_ c1 ?_ ?_ ?_ ?_
 ·simp[dY,gT]
 ·simp
 ·simp[h9]
 ·decide
 simp;refine⟨zt,?_⟩
 repeat refine az ?_
 rw[<-hlv];apply hK1
 cases b with
 |true=>
  refine aax (aan (hK _ _ (aah ?_)));refine aax (aan ?_);exact hn rfl rfl _ _ (Je rfl _ zp zp zp zp zp zp xa)
 |false=>
  refine aaE (abS (hK _ _ ?_));refine aah ?_;refine aaE (abN bz z0 @ai.eq_1 ?_);exact aal (hret _ _ _ rfl (.inr rfl) zp zp zp zp)
theorem j9{c:Prop}[Decidable c]{x y:Iv×Int}(hx:c->P x.1)(hy:¬c->P y.1):P (if c then x else y).1:=by
 split
 ·exact hx ‹_›
 ·exact hy ‹_›
theorem YE:Iv.g (1,1):=⟨⟨⟨wd,wd⟩,⟨wd,wd⟩⟩,aev⟩
def Iv.gg(a:Iv):Prop:=a.sz 2000/\a.1<=a.2
theorem Iv.g.gg(h:a.g):a.gg:=⟨Iv.aC h.1 zr,h.2⟩
theorem C2{x y:Iv}(hx:x.g)(hy:y.g)(hdx:dx.g)(hdy:dy.g):(MM x y dx dy).sz 1201/\(MM x y dx dy).1<=(MM x y dx dy).2:=
 ⟨jy (cX hx.1 hdy.1) (cX hy.1 hdx.1),Iv.xy (Iv.qU _ _) (Iv.qU _ _)⟩
theorem Io(hr:∀j,(r j).g)(hd:∀j,(d j).g)(i:Nat)(n:Nd):(yd inp r d i n).1.gg:=by
 unfold yd;refine j9 (P:=Iv.gg) (λ_=>?_) λ_=>?_
 ·show Iv.gg (if n.a=inp then(1,1)else d i);split
  ·exact Iv.g.gg YE
  ·exact Iv.g.gg (hd i)
 refine j9 (P:=Iv.gg) (λ_=>⟨Iv.aC (Du (hd _).1) zr,Iv.P0 (hd _).2⟩) λ_=>?_;refine j9 (P:=Iv.gg) (λ_=>Iv.g.gg (hd _)) λ_=>?_;refine j9 (P:=Iv.gg) (λ_=>⟨Iv.aC (jy (hd _).1 (hd _).1) zr,Iv.xy (hd _).2 (hd _).2⟩) λ_=>?_;refine j9 (P:=Iv.gg) (λ_=>⟨Iv.aC (uL (hd _).1 (hd _).1) zr,Iv.sub_le (hd _).2 (hd _).2⟩) λ_=>?_;refine j9 (P:=Iv.gg) (λ_=>⟨Iv.aC (C2 (hr _) (hr _) (hd _) (hd _)).1 zr,(C2 (hr _) (hr _) (hd _) (hd _)).2⟩) λ_=>?_;refine j9 (P:=Iv.gg) (λ_=>⟨Iv.aC (jy (Iv.aC (C2 (hr _) (hr _) (hd _) (hd _)).1 (bf 1201)) (hd _).1) zr,Iv.xy (C2 (hr _) (hr _) (hd _) (hd _)).2 (hd _).2⟩) λ_=>?_;refine j9 (P:=Iv.gg) (λ_=>⟨Iv.aC (DN (uL (cX (hr _).1 (hd _).1) (cX (hr _).1 (hd _).1)) (cX (hr _).1 (hr _).1)) zr,CX _ _⟩) λ_=>?_;refine j9 (P:=Iv.gg) (λ_=>⟨Iv.aC (DN (hd _).1 (jy (hr _).1 (hr _).1)) zr,CX _ _⟩) λ_=>Iv.g.gg (hd i)
def Ms(p:PD)(inp:Int)(r:Nat->Iv)(dp:Nat->Bool)(s:(Nat->Iv)×Int)(i:Nat):(Nat->Iv)×Int:=
 if s.2≠0 then s else if dp i=false then s else if (yd inp r s.1 i (p.nd i)).2≠0 then(s.1,(yd inp r s.1 i (p.nd i)).2)
 else if pq (hU (yd inp r s.1 i (p.nd i)).1)then(λj=>if j=i then hU (yd inp r s.1 i (p.nd i)).1 else s.1 j,0)else(s.1,3)
def kU(p:PD)(inp:Int)(r:Nat->Iv)(dp:Nat->Bool):Nat->(Nat->Iv)×Int
 |0=>(λ_=>(0,0),0)
 |i+1=>Ms p inp r dp (kU p inp r dp i) i
theorem JX(h:(kU p inp r dp i).2≠0):∀j,i<=j->kU p inp r dp j=kU p inp r dp i:=by
 intro j hj;obtain⟨d,rfl⟩:∃d,j=i+d:=⟨j-i,zd⟩
 induction d with
 |zero=>rfl
 |succ d ih=>
  show Ms p inp r dp (kU p inp r dp (i+d)) (i+d)=_;rw[ih zd];exact if_pos h
theorem Fk{p:PD}{inp:Int}{r:Nat->Iv}{dp:Nat->Bool}(hr:∀j,(r j).g):∀i j,((kU p inp r dp i).1 j).g
 |0,_=>tE
 |i+1,j=>by
  have ih:=Fk (p:=p) (inp:=inp) (dp:=dp) hr i;show((Ms p inp r dp (kU p inp r dp i) i).1 j).g;unfold Ms;split
  ·exact ih j
  split
  ·exact ih j
  split
  ·exact ih j
  split
  ·rename_i h
   show(if j=i then _ else _:Iv).g;split
   ·exact⟨ID h,KK (Io hr ih i _).2⟩
   ·exact ih j
  ·exact ih j
def WB(s:(Nat->Iv)×Int)(n:Nat):AV:=if s.2=0 then .tup [eo (s.1 n),.c (.d (.int .i64 0))]else .tup [eo (0,0),.c (.d (.int .i64 s.2))]
theorem SH{k:Nat}(h:(kU p inp r dp i).2=e)(he:e≠0)(hi:i<=n):WB (kU p inp r dp n) k=.tup [eo (0,0),.c (.d (.int .i64 e))]:=by
 have h1:=JX (p:=p) (inp:=inp) (r:=r) (dp:=dp) (i:=i) bo n hi;unfold WB;rw[h1,h,if_neg he]
theorem cq.kP{fn:Func}{t k u:Nat}{s:aJ}{κ:Nat}(hr:c.P=prog/\fn.results=#[.cell t 36,.tmp u])(ht:s.fr t=.c (.ptr k 0))
 (hk:s.lv k=.cells true false 36 [.d (.bool (decide (a.1.num<0))),nC (aW a.1.num.natAbs),nC (bB a.1.den),.d (.bool (decide (a.2.num<0))),nC (aW a.2.num.natAbs),nC (bB a.2.den)]) (hy:s.fr u=.c (.d (.int .i64 e))):cq c fn (.tup [eo a,.c (.d (.int .i64 e))]) .ret s κ:=
 ⟨_,_,aF.kP (κ:=κ) hr ht hk hy,bY _ _ _ _ _ _ _ _ rfl⟩
theorem Xj:z6=[.d (.bool (decide ((0:Rat).num<0))),nC (aW (0:Rat).num.natAbs),nC (bB (0:Rat).den),.d (.bool (decide ((0:Rat).num<0))),nC (aW (0:Rat).num.natAbs),nC (bB (0:Rat).den)]:=zt
theorem Ft(m:Int)(p:PD)(hp:p.ok)(hg:p.good)(node:Nat)(hn:node<p.nn)(inp:Int)(hl:l.length=node+1)(hlr:∀j (h:j<l.length),l[j]=r j)(hr:∀j,(r j).g):
 aa prog (GG m) 23 [p.A,.c (dc (iO l)),.c (.d (.int .i64 (node:Int))),.c (.d (.int .i64 inp))] (WB (kU p inp r (iP p node) (node+1)) node):=by
 obtain⟨hn1,hn2,hn3,-,-,hnn,hns⟩:=eX hg.gen;have hw1:=bP (n:=(node:Int)+1) zd zd;have c1:=pJ m p hp hg node hn;have hdl:=sQ p node (node+1);have hlb:=λlv=>lpB (T:=82) zp lv (some (jR p node (node+1)))
 have hib:=λlv {i:Nat} hi=>Wv (T:=82) zp lv (some (jR p node (node+1))) (i:=i) hi
 have hgd:∀{i:Nat}(hi:i<(bL (some (jR p node (node+1)))).length),(bL (some (jR p node (node+1))))[i]=iP p node i:=λ{i} hi=>by
  unfold iP;rw[ab6,fy (show i<(jR p node (node+1)).length from hi)];rfl
 have hbl:(bL (some (jR p node (node+1)))).length=node+1:=hdl;obtain⟨dl,hdl2⟩:∃dl:DV,bC (some (jR p node (node+1)))=.d dl:=⟨_,rfl⟩
 simp only[hdl2]at c1 hlb hib;rw[hbl]at hlb;obtain⟨dp,hdp⟩:∃dp,iP p node=dp:=⟨_,rfl⟩
 simp only[hdp]at hgd⊢;have hg':=λi j=>Fk (p:=p) (inp:=inp) (dp:=dp) hr i j
 have hrl:∀j (h:j<l.length),(l[j]).g:=λj h=>by rw[hlr];exact hr j
 obtain⟨X,hX⟩:∃X,WB (kU p inp r dp (node+1)) node=X:=⟨_,rfl⟩
 have herr:∀i e,i<=node+1->(kU p inp r dp i).2=e->e≠0->X=.tup [eo (0,0),.c (.d (.int .i64 e))]:=λi e h1 h2 h3=>by
  rw[<-hX];exact SH h2 h3 h1
 have hres:(kU p inp r dp (node+1)).2=0->X=.tup [eo ((kU p inp r dp (node+1)).1 node),.c (.d (.int .i64 0))]:=λh=>by
  rw[<-hX];exact if_pos h
 rw[hX];obtain⟨N,hN⟩:∃N,node+1=N:=⟨_,rfl⟩
 have hNi:((node:Int)+1)=(N:Int):=zd
 simp only[hN,hNi]at hlb hbl herr hres hw1 hl;have hN0:N<=p.nn:=zd
 have hnN:node<N:=zd
 clear hX;refine aa.ed func23 rfl λ_=>aah ?_;refine abN hNi hw1 @ai.eq_1 ?_;rw[zc];refine aac λK hK=>abx 5 c1 hlb ?_;refine aaw ?_
 refine aaY (λ(q:Nat)=>⟨aT [(2,.c (.d (.int .i64 (node:Int)))),(3,.c (.d (.int .i64 inp))),(4,.c (.ptr 0 0)),(5,.c (.ptr 1 0)),(8,.c (.ptr 4 0)),(10,.c (.ptr 2 0)),(23,.c (.d dl)),(24,.c (.d (.int .i64 (N:Int)))),(25,.c (.d (.int .i64 (q:Int))))],LJ p l (kU p inp r dp q).1 N⟩) 10
  (λq=>q<=N/\(kU p inp r dp q).2=0) (λq=>N-q) 0 (Le.keys [(0,0,.cells true false 27 p.cs),(1,1,.cells true false 61 [dc (iO l)]),(2,4,.cells true false 61 [.aO 3 0 N 6]),(4,2,.cells true false 36 z6),(3,3,.cells true false 36 (vK (λ_=>(0,0)) N))] 9 _ rfl rfl zp zp zp (by
   intro e he;simp only[aZ,bw,or_false]at he;rcases he with rfl|rfl|rfl|rfl|rfl
   ·exact mb p _
   ·exact LB.aN.2 ⟨rfl,rfl,zp,id⟩
   ·exact LB.aN.2 ⟨rfl,rfl,rfl,id⟩
   ·exact LB.aN.2 ⟨rfl,rfl,rfl,id⟩
   ·exact u9 _ N _) xa) ⟨ab5 _,rfl⟩ ?_
 rintro q ⟨hq,hE⟩
 try simp only at hq hE ⊢
 refine aah ?_;refine aac λK3 hK3=>?_
 by_cases hlt:q<N
 ·have hlt':(q:Int)<(N:Int):=by omega
  have hqn:q<p.nn:=zd
  have hq1:q<(bL (some (jR p node (node+1)))).length:=by
   show q<(jR p node (node+1)).length;rw[hdl,hN];exact hlt
  have hx:=λlv=>hib lv hq1
  have hgq:=hgd hq1;have hxn:=λlv=>wI p lv hp q hqn
  have f1:=bP (n:=(q:Int)+1) zd zd;have hstp:kU p inp r dp (q+1)=Ms p inp r dp (kU p inp r dp q) q:=rfl;have hog:=hg' q;obtain⟨-,-,hkr⟩:=tQ hg hqn;have herr1:=herr (q+1);obtain⟨S,hS⟩:∃S,kU p inp r dp q=S:=⟨_,rfl⟩
  obtain⟨S',hS'⟩:∃S,kU p inp r dp (q+1)=S:=⟨_,rfl⟩
  rw[hS,hS']at hstp;rw[hS]at hog hE;simp only[hS];rw[hS']at herr1;obtain⟨o,e0⟩:=S;have hE:e0=0:=hE;subst hE;obtain⟨b,hb⟩:∃b,dp q=b:=⟨_,rfl⟩
  simp only at hog;have hnl:=Io (inp:=inp) hr hog q (p.nd q);refine aaB xn (aan (hK3 _ _ (aac λK4 hK4=>aaw (abN hx hgq hb ?_))));refine aac λK5 hK5=>aah ?_
  cases b with
  |false=>
   have e:S'=(o,0):=by rw[hstp];unfold Ms;rw[if_neg zp,if_pos hb]
   refine aaE (aaR (hK4 _ _ (aai ?_)));simp[f1];refine⟨q+1,?_,⟨zd,pk⟩,zd⟩;rw[hS',e];exact Je rfl _ zp zp zp zp zp zp xa
  |true=>
   refine aax (aan (hK5 _ _ (abk hxn @ai.eq_1 ?_)));have hd0:¬dp q=false:=sv
   refine AW.d1 mixed @ai.eq_1 ?_;refine aaF λK5 hK5=>?_;simp[oQ,lK,lZ,mZ,cQ]
   repeat refine az ?_
   apply hK5;refine aac λK5 hK5=>?_
   refine abC (y:=cW [1,1,0,1,2,3,1,1,0,2,1,1,1,1,1,0] Tryz.f23) zt (abA (κ2:=30) (s2:=⟨aT [(2,.c (.d (.int .i64 (node:Int)))),(3,.c (.d (.int .i64 inp))),(4,.c (.ptr 0 0)),(5,.c (.ptr 1 0)),(8,.c (.ptr 4 0)),(10,.c (.ptr 2 0)),(11,.c (.d (.int .i64 (q:Int)))),(13,.c (.ptr 10 0)),(14,.c (.d (.int .i64 0))),(15,.c (.ptr 11 0)),(16,.c (.ptr 12 0)),(17,.c (.func (.func 45) [] [.ptr 1 0,.ptr 11 0,.ptr 2 0,.ptr 12 0])),(23,.c (.d dl)),(24,.c (.d (.int .i64 (N:Int)))),(25,.c (.d (.int .i64 (q:Int))))],ZO p l o N (p.nd q)⟩) (Le.keys [(0,0,.cells true false 27 p.cs),(1,1,.cells true false 61 [dc (iO l)]),(2,2,.cells true false 61 [.aO 3 0 N 6]),(4,4,.cells true false 36 z6),(10,10,.cells true false 85 (Xt (p.nd q))),(11,12,.cells true false 3 [.d (.int .i64 (p.nd q).a)]),(12,13,.cells true false 3 [.d (.int .i64 (p.nd q).b)]),(3,3,.cells true false 36 (vK o N))] 9 _ rfl rfl zp zp zp (by
    intro e he;simp only[aZ,bw,or_false]at he;rcases he with rfl|rfl|rfl|rfl|rfl|rfl|rfl|rfl
    ·exact mb p _
    ·exact LB.aN.2 ⟨rfl,rfl,zp,id⟩
    ·exact LB.aN.2 ⟨rfl,rfl,rfl,id⟩
    ·exact LB.aN.2 ⟨rfl,rfl,rfl,id⟩
    ·exact LB.aN.2 ⟨rfl,rfl,rfl,id⟩
    ·exact LB.aN.2 ⟨rfl,rfl,rfl,id⟩
    ·exact LB.aN.2 ⟨rfl,rfl,rfl,id⟩
    ·exact u9 o N _) (by simp[aV];rfl)) (Xk m _ p l r o N q node inp (p.nd q) (dl:=dl) hlt hog hrl hl hlr hkr λv e he s κ hle=>?_))
   apply hK5;refine abA (κ2:=30) hle ?_;have hv:=hnl;rw[<-he]at hv;have hsv:(if q=q then v else o q)=v:=if_pos rfl
   have ho2:(λj=>if j=q then hU (if q=q then v else o q)else if j=q then v else o j)=λj=>if j=q then hU v else o j:=by
    funext j
    by_cases h:j=q<;>simp[h]
   refine abC (y:=cW [1,1,0,1,2,3,1,1,0,2,1,1,1,1,1,1] Tryz.f23) zt (VW m _ p l (λj=>if j=q then v else o j) N q node inp e (dl:=dl) hlt (by rw[hsv];exact Iv.aC hv.1 zr) ?_);show AW _ _ _ ⟨_,LJ p l (λj=>if j=q then hU (if q=q then v else o q)else if j=q then v else o j) N⟩ _ _;rw[ho2];refine RO m _ p l (λj=>if j=q then hU v else o j) N q node inp e (dl:=dl) hlt (by rw[if_pos rfl];exact DB hv.1) ?_ ?_
   ·intro E s κ hEe hc h8 h9' h4 h9;have hc:e≠0\/pq (hU v)=false:=by simpa using hc
    have hE2:S'.2=E:=by
     rw[hstp,hEe];unfold Ms;rw[if_neg zp,if_neg hd0]
     by_cases h0:e=0
     ·have hsh:pq (hU v)=false:=hc.resolve_left (λh=>h h0);rw[if_neg mv,if_neg (by rw[<-he];simp[hsh]),if_neg cf]
     ·rw[if_pos (by rw[<-he];exact h0),if_pos h0,<-he]
    have hE0:E≠0:=lc
    have hX:=herr1 E zd hE2 hE0;show cq _ _ X .ret s κ;rw[hX];exact cq.kP (κ:=κ) (k:=4) (t:=8) (u:=9) (a:=(0,0)) ⟨rfl,rfl⟩ h8 (by rw[h4,Xj]) h9'
   ·intro h0 hsh s κ hle2;have hsh:pq (hU v)=true:=by simpa using hsh
    have e:S'=(λj=>if j=q then hU v else o j,0):=by
     rw[hstp];unfold Ms;rw[if_neg zp,if_neg hd0,if_neg mv,if_pos (by rw[<-he];exact hsh),<-he]
    apply hK4;refine abA (κ2:=30) hle2 ?_;refine aai ?_;simp[f1];refine⟨q+1,?_,⟨zd,pk⟩,zd⟩;rw[hS',e];exact Je rfl _ zp zp zp zp zp zp xa
 ·have hqe:q=N:=by omega
  subst hqe;have hX:=hres hE;obtain⟨o,ho⟩:∃o,(kU p inp r dp q).1=o:=⟨_,rfl⟩
  rw[ho]at hX⊢;obtain⟨lv,hlv⟩:∃lv,LJ p l o q=lv:=⟨_,rfl⟩
  have h3:lv 3=.cells true false 36 (vK o q):=xc
  have h4:lv 4=.cells true false 36 z6:=xc
  have l2:aA prog 61 lv (.c (.ptr 2 0))=some (.c (.aO 3 0 q 6),[],[2],True):=t0
  have ii:=Tq h3 (n:=q) (i:=node);have vv:=Vv h3 hnN;rw[hlv];refine aaD tm (aaR (hK _ _ (aaF λK hK=>?_)));simp[l2,ii,vv,hnN,h4,ai,-aA]
  repeat refine az ?_
  apply hK;refine aal (κ:=0) ?_;show cq _ _ X .ret _ _;rw[hX];exact cq.kP (κ:=0) (k:=4) (t:=8) (u:=9) (a:=o node) ⟨rfl,rfl⟩ zp yi zp
theorem Ol(s:(Nat->Iv)×Int)(n:Nat):WB s n=.tup [eo (if s.2=0 then s.1 n else(0,0)),.c (.d (.int .i64 s.2))]:=by
 unfold WB;split
 ·next h=>rw[h]
 ·rfl
def slB(p:PD)(is:List Iv)(node:Nat)(inp:Int):Iv×Int:=
 if (jx p is (iP p node) (node+1)).2≠0 then((0,0),(jx p is (iP p node) (node+1)).2)
 else(if (kU p inp (jx p is (iP p node) (node+1)).1 (iP p node) (node+1)).2=0 then(kU p inp (jx p is (iP p node) (node+1)).1 (iP p node) (node+1)).1 node else(0,0),(kU p inp (jx p is (iP p node) (node+1)).1 (iP p node) (node+1)).2)
def Sb(p:PD)(b:List Sp)(node inp:Int):Iv×Int:=
 if gS p b node≠0 then((0,0),gS p b node)else if Aj p node.toNat=false then((0,0),161)else if inp<0\/(b.length:Int)<=inp then((0,0),7)else slB p (gM b) node.toNat inp
theorem Pa(m:Int)(p:PD)(hp:p.ok)(b:Option (List Sp))(node inp:Int):
 aa prog (GG m) 7 [p.A,.c (dc (uh b)),.c (.d (.int .i64 node)),.c (.d (.int .i64 inp))] (.tup [eo (Sb p (bH b) node inp).1,.c (.d (.int .i64 (Sb p (bH b) node inp).2))]):=by
 have c1:=Hi m p hp b node;have bz:bM prog 36 [] []=some (eo (0,0),[],[],True):=AB;unfold Sb;obtain⟨E,hE⟩:∃E,gS p (bH b) node=E:=⟨_,rfl⟩
 rw[hE]at c1 ⊢
 by_cases h0:E=0
 rotate_left
 ·rw[if_pos h0];rw[if_neg h0]at c1;generalize hz:((0:Rat),(0:Rat))=z at*
  have c1:aa prog (GG m) 20 [p.A,.c (dc (uh b)),.c (.d (.int .i64 node))] (.tup [.c (.d .nilsl),.c (.d (.int .i64 E))]):=c1;refine aa.enc func7 rfl (λlv=>bY lv _ _ _ _ _ _ _ rfl) λ_=>?_;refine aau mixed c1 (lD h0 bz @ai.eq_1) ?_;exact aal (aF.kP (κ:=0) (t:=8) (k:=1) (u:=9) (a:=z) ⟨rfl,rfl⟩ zp yi zp)
 subst h0;obtain⟨hg,hbl,hb,n0,n1⟩:=jZ hp hE;simp only[if_pos,ne_eq,not_true,if_false]at c1⊢;obtain⟨nd,rfl⟩:∃nd:Nat,node=(nd:Int):=⟨node.toNat,zd⟩
 rw[show((nd:Int)).toNat=nd by omega];have hnd:nd<p.nn:=zd
 obtain⟨D,hD,hD2⟩:=wX (gM (bH b));rw[hD]at c1
 have hm:qH (.c (.d D))=some D:=by
  rcases hD2 with rfl|⟨rfl,-⟩<;>rfl
 have hln:=λlv=>Rl lv (gM (bH b))
 simp only[hD,lA]at hln;have c2:=CG m p hp hg nd hnd;have his:∀a∈gM (bH b),a.sz 10000/\a.1<=a.2:=λa ha=>⟨Iv.aC (jJ hb a ha).1 zr,(jJ hb a ha).2⟩
 have c3:=qg m p hp hg nd hnd hD2 (by rw[lA];exact hbl) his;have hrg:=λj=>tj (p:=p) (dp:=iP p nd) his (nd+1) j
 have c4:=Ft m p hp hg nd hnd inp (l:=(List.range (nd+1)).map (jx p (gM (bH b)) (iP p nd) (nd+1)).1) zp (λj h=>by simp) hrg;rw[Ol]at c4;unfold slB;obtain⟨S,hS⟩:∃S,Aj p nd=S:=⟨_,rfl⟩
 rw[hS]at c2⊢;obtain⟨R,hR⟩:∃R,jx p (gM (bH b)) (iP p nd) (nd+1)=R:=⟨_,rfl⟩
 rw[hR]at c3 c4⊢;obtain⟨W,hW⟩:∃W,kU p inp R.1 (iP p nd) (nd+1)=W:=⟨_,rfl⟩
 rw[hW]at c4⊢;obtain⟨ln,hbn⟩:∃ln,(bH b).length=ln:=⟨_,rfl⟩
 rw[hbn]at hln⊢;clear hrg his hE hS hR hW
 cases S with
 |false=>
  simp only[if_true];generalize hz:((0:Rat),(0:Rat))=z at*
  refine aa.enc func7 rfl (λlv=>bY lv _ _ _ _ _ _ _ rfl) λ_=>?_;refine aau mixed (eY c1 c2) (eY bz @ai.eq_1) ?_;exact aal (aF.kP (κ:=0) (t:=8) (k:=1) (u:=9) (a:=z) ⟨rfl,rfl⟩ zp yi zp)
 |true=>
  simp only[agF,if_false]
  by_cases h1:inp<0
  ·rw[if_pos (.inl h1)];clear c3 c4;generalize hz:((0:Rat),(0:Rat))=z at*
   refine aa.enc func7 rfl (λlv=>bY lv _ _ _ _ _ _ _ rfl) λ_=>?_;refine aau mixed (eY c1 c2) (lD h1 bz @ai.eq_1) ?_;exact aal (aF.kP (κ:=0) (t:=8) (k:=1) (u:=9) (a:=z) ⟨rfl,rfl⟩ zp yi zp)
  by_cases h2:(ln:Int)<=inp
  ·rw[if_pos (.inr h2)];clear c3 c4;generalize hz:((0:Rat),(0:Rat))=z at*
   refine aa.enc func7 rfl (λlv=>bY lv _ _ _ _ _ _ _ rfl) λ_=>?_;refine aau mixed (eY c1 c2) (BF h1 hln h2 bz @ai.eq_1) ?_;exact aal (aF.kP (κ:=0) (t:=8) (k:=1) (u:=9) (a:=z) ⟨rfl,rfl⟩ zp yi zp)
  rw[if_neg zd];obtain⟨o,e⟩:=R;simp only
  by_cases h3:e=0
  rotate_left
  ·rw[if_pos h3]
   have c3:aa prog (GG m) 22 [p.A,.c (.d (.int .i64 (nd:Int))),.c (.d (.iface 66 D))] (.tup [.c (.d .nilsl),.c (.d (.int .i64 e))]):=by
    have h:Vc (o,e) (nd+1)=.tup [.c (.d .nilsl),.c (.d (.int .i64 e))]:=if_neg h3;rw[h]at c3;exact c3
   clear c4;generalize hz:((0:Rat),(0:Rat))=z at*
   refine aa.enc func7 rfl (λlv=>bY lv _ _ _ _ _ _ _ rfl) λ_=>?_;refine aau mixed (lD c1 c2 c3) (me h1 hln h2 hm h3 (eY bz @ai.eq_1)) ?_;exact aal (aF.kP (κ:=0) (t:=8) (k:=1) (u:=9) (a:=z) ⟨rfl,rfl⟩ zp yi zp)
  subst h3;rw[if_neg zp];have c3:aa prog (GG m) 22 [p.A,.c (.d (.int .i64 (nd:Int))),.c (.d (.iface 66 D))] (.tup [.c (dc (iO ((List.range (nd+1)).map o))),.c (.d (.int .i64 0))]):=c3;obtain⟨L,hL,-⟩:=wX ((List.range (nd+1)).map o);simp only[hL]at c3 c4;obtain⟨v,hv⟩:∃v:Iv,(if W.2=0 then W.1 nd else(0,0))=v:=⟨_,rfl⟩
  rw[hv]at c4⊢;obtain⟨we,hwe⟩:∃we,W.2=we:=⟨_,rfl⟩
  rw[hwe]at c4⊢;obtain⟨v1,v2⟩:=v;refine aa.enc func7 rfl (λlv=>bY lv _ _ _ _ _ _ _ rfl) λ_=>?_;refine aau mixed (mo c1 c2 c3 c4) (BF h1 hln h2 hm @ai.eq_1) ?_;exact aal (aF.kP (κ:=0) (t:=8) (k:=1) (u:=9) (a:=(v1,v2)) ⟨rfl,rfl⟩ zp yi zp)
def j7(p:PD)(r:Nat->Iv)(dp:Nat->Bool)(node:Nat):Nat->(Nat->Iv)×Int
 |0=>(λ_=>(0,0),0)
 |j+1=>if (j7 p r dp node j).2≠0 then j7 p r dp node j else if (kU p (j:Int) r dp (node+1)).2≠0 then((j7 p r dp node j).1,(kU p (j:Int) r dp (node+1)).2)
  else(λk=>if k=j then(kU p (j:Int) r dp (node+1)).1 node else(j7 p r dp node j).1 k,0)
theorem KM(h:(j7 p r dp node i).2≠0):∀j,i<=j->j7 p r dp node j=j7 p r dp node i:=by
 intro j hj;obtain⟨d,rfl⟩:∃d,j=i+d:=⟨j-i,zd⟩
 induction d with
 |zero=>rfl
 |succ d ih=>
  have e:=ih zd;show(if (j7 p r dp node (i+d)).2≠0 then j7 p r dp node (i+d)else _)=_;rw[e];exact if_pos h
def wk(p:PD)(is:List Iv)(node:Nat):Option (List Iv)×Int:=
 if Aj p node=false then(none,161)else if (jx p is (iP p node) (node+1)).2≠0 then(none,(jx p is (iP p node) (node+1)).2)
 else if (j7 p (jx p is (iP p node) (node+1)).1 (iP p node) node is.length).2≠0 then(none,(j7 p (jx p is (iP p node) (node+1)).1 (iP p node) node is.length).2)
 else(some ((List.range is.length).map (j7 p (jx p is (iP p node) (node+1)).1 (iP p node) node is.length).1),0)
def soC:Option (List Iv)->CV
 |none=>.d .nilsl
 |some l=>.d (.sl (l.map iQ))
theorem JA(h:lv k=.cells own fz T (vK o n))(hl:n<=1000000):gq lv (.c (.aO k 0 n 6))=some (.c (.d (.sl (((List.range n).map o).map iQ))),[k]):=by
 have:=ob (es:=((List.range n).map o).map iQ) (sz:=6) h wc yv;rw[sC,sC,List.length_range]at this;exact this
theorem Cn(m:Int)(p:PD)(hp:p.ok)(hg:p.good)(node:Nat)(hn:node<p.nn)(hD:dc (iO is)=.d D)(hD2:y9 D is)(hlen:is.length=p.ni)(his:∀a∈is,a.sz 10000/\a.1<=a.2)(h6:is.length<=1000):
 aa prog (GG m) 64 [p.A,.c (.d D),.c (.d (.int .i64 (node:Int)))] (.tup [.c (soC (wk p is node).1),.c (.d (.int .i64 (wk p is node).2))]):=by
 have c1:=CG m p hp hg node hn;have c2:=qg m p hp hg node hn hD2 hlen his
 have hm:qH (.c (.d D))=some D:=by
  rcases hD2 with rfl|⟨rfl,-⟩<;>rfl
 have hln:=λlv=>Rl lv is
 simp only[hD]at hln;have hrg:=λj=>tj (p:=p) (dp:=iP p node) his (node+1) j
 have c3:=λinp=>Ft m p hp hg node hn inp (l:=(List.range (node+1)).map (jx p is (iP p node) (node+1)).1) zp (λj h=>by simp) hrg
 simp only[Ol]at c3;unfold wk;obtain⟨S,hS⟩:∃S,Aj p node=S:=⟨_,rfl⟩
 rw[hS]at c1 ⊢
 cases S with
 |false=>
  simp only[if_true];refine aa.ed func64 rfl λ_=>aah ?_;refine aac λK hK=>aac λK1 hK1=>aai ?_;simp;refine ag.p 3 9 c1 ?_;simp
  repeat refine az ?_
  apply hK1;refine aaE (aac λK1 hK1=>aai ?_);simp
  repeat refine az ?_
  apply hK1;refine aal (κ:=0) ?_;exact cq.iJ (κ:=0) rfl zp zp rfl rfl (kf _ _)
 |true=>
  simp only[agF,if_false];obtain⟨R,hR⟩:∃R,jx p is (iP p node) (node+1)=R:=⟨_,rfl⟩
  rw[hR]at c2⊢;simp only[hR]at c3 hrg;obtain⟨o,e⟩:=R
  by_cases h3:e=0
  rotate_left
  ·rw[if_pos h3]
   have c2:aa prog (GG m) 22 [p.A,.c (.d (.int .i64 (node:Int))),.c (.d (.iface 66 D))] (.tup [.c (.d .nilsl),.c (.d (.int .i64 e))]):=by
    have h:Vc (o,e) (node+1)=.tup [.c (.d .nilsl),.c (.d (.int .i64 e))]:=if_neg h3;rw[h]at c2;exact c2
   refine aa.ed func64 rfl λ_=>aah ?_;refine aac λK hK=>abi 3 c1 ?_;refine aax (aan (hK _ _ (abx 3 c2 hm ?_)));refine aac λK hK=>aah ?_;refine aaB (by simp[h3]<;>omega) (aah ?_);refine aal (κ:=0) ?_;exact cq.iJ (κ:=0) rfl zp zp rfl rfl (kf _ _)
  subst h3;rw[if_neg zp];have c2:aa prog (GG m) 22 [p.A,.c (.d (.int .i64 (node:Int))),.c (.d (.iface 66 D))] (.tup [.c (dc (iO ((List.range (node+1)).map o))),.c (.d (.int .i64 0))]):=c2;obtain⟨L,hL,-⟩:=wX ((List.range (node+1)).map o);simp only[hL]at c2 c3;obtain⟨N,hN⟩:∃N,is.length=N:=⟨_,rfl⟩
  rw[hN]at h6⊢;simp only[hN]at hln;refine aa.ed func64 rfl λ_=>aah ?_;refine aac λK hK=>abi 3 c1 ?_;refine aax (aan (hK _ _ (abx 3 c2 hm ?_)));refine aac λK hK=>aah ?_;refine aax (aan (hK _ _ (aaN hln ?_)));rw[zc];obtain⟨dp,hdp⟩:∃dp,iP p node=dp:=⟨_,rfl⟩
  simp only[hdp]at c3⊢;obtain⟨X,hX⟩:∃X:AV,AV.tup [.c (soC (if (j7 p o dp node N).2≠0 then(none,(j7 p o dp node N).2)else(some ((List.range N).map (j7 p o dp node N).1),0):Option (List Iv)×Int).1),.c (.d (.int .i64 (if (j7 p o dp node N).2≠0 then(none,(j7 p o dp node N).2)else(some ((List.range N).map (j7 p o dp node N).1),0):Option (List Iv)×Int).2))]=X:=⟨_,rfl⟩
  have herr:∀i e,i<=N->(j7 p o dp node i).2=e->e≠0->X=.tup [.c (.d .nilsl),.c (.d (.int .i64 e))]:=λi e h1 h2 h3=>by
   have h4:=KM (p:=p) (r:=o) (dp:=dp) (node:=node) (i:=i) bc N h1;rw[<-hX,h4,h2,if_pos h3];rfl
  have hres:(j7 p o dp node N).2=0->X=.tup [.c (.d (.sl (((List.range N).map (j7 p o dp node N).1).map iQ))),.c (.d (.int .i64 0))]:=λh=>by
   rw[<-hX,if_neg (not_not_intro h)];rfl
  rw[hX];clear hX;refine aac λKZ hKZ=>aac λK1 hK1=>abS (hK1 _ _ ?_)
  refine aaw ?_
  refine aaY (λ(q:Nat)=>⟨aT [(2,.c (.d (.int .i64 (node:Int)))),(3,.c (.ptr 0 0)),(8,.c (.d L)),(10,.c (.aO 1 0 N 6)),(31,.c (.d (.int .i64 (N:Int)))),(32,.c (.d (.int .i64 (q:Int))))],E3 p (j7 p o dp node q).1 N⟩) 10
   (λq=>q<=N/\(j7 p o dp node q).2=0) (λq=>N-q) 0 (Le.keys [(0,0,.cells true false 27 p.cs),(1,3,.cells true false 36 (vK (λ_=>(0,0)) N))] 9 _ rfl rfl zp zp zp (by
    intro e he;simp only[aZ,bw,or_false]at he;rcases he with rfl|rfl
    ·exact mb p _
    ·exact u9 _ N _) xa) ⟨ab5 _,rfl⟩ ?_
  rintro q ⟨hq,hE⟩
  try simp only at hq hE ⊢
  refine aac λK2 hK2=>aai ?_;simp
  repeat refine az ?_
  apply hK2;refine aac λK3 hK3=>?_
  by_cases hlt:q<N
  ·have hlt':(q:Int)<(N:Int):=by omega
   have f1:=bP (n:=(q:Int)+1) zd zd;have c4:=c3 q;have herr1:=herr (q+1);have hstp:j7 p o dp node (q+1)=if (j7 p o dp node q).2≠0 then j7 p o dp node q else if (kU p (q:Int) o dp (node+1)).2≠0 then((j7 p o dp node q).1,(kU p (q:Int) o dp (node+1)).2)else(λk=>if k=q then(kU p (q:Int) o dp (node+1)).1 node else(j7 p o dp node q).1 k,0):=rfl
   rw[if_neg (not_not_intro hE)]at hstp;obtain⟨o',ho'⟩:∃o',(j7 p o dp node q).1=o':=⟨_,rfl⟩
   simp only[ho']at hstp⊢;obtain⟨W,hW⟩:∃W,kU p (q:Int) o dp (node+1)=W:=⟨_,rfl⟩
   rw[hW]at c4 hstp;obtain⟨S',hS'⟩:∃S,j7 p o dp node (q+1)=S:=⟨_,rfl⟩
   rw[hS']at hstp herr1;obtain⟨w,we⟩:=W;simp only at c4 hstp;obtain⟨v,hv⟩:∃v:Iv,(if we=0 then w node else(0,0))=v:=⟨_,rfl⟩
   rw[hv]at c4;have hset:=qE o' hlt v;have hvl:=pN o' N;have hle0:q*6+6<=N*6:=zd
   refine aaB xn (aan (hK3 _ _ (aac λK4 hK4=>aaw (aah ?_))));refine aac λK5 hK5=>aai ?_;simp;refine ag.p 11 9 c4 ?_;simp[hset,hvl,hle0,hlt]
   repeat refine az ?_
   apply hK5;refine aah ?_
   by_cases hw0:we=0
   ·rw[if_pos hw0]at hv;rw[if_neg (not_not_intro hw0),hv]at hstp;subst hw0;refine aax (aan (hK4 _ _ (aai ?_)));simp[f1];refine⟨q+1,?_,⟨zd,by rw[hS',hstp]⟩,zd⟩;rw[hS',hstp];exact Fi rfl _ zp zp zp xa
   ·rw[if_pos hw0]at hstp;have hX:=herr1 we zd fg hw0;refine aaB fi (aac λK5 hK5=>aai ?_);simp
    repeat refine az ?_
    apply hK5;refine aal (κ:=0) ?_;show cq _ _ X .ret _ 0;rw[hX];exact cq.iJ (κ:=0) (X:=.c (.d .nilsl)) (Y:=.c (.d (.int .i64 we))) (ks:=[]) rfl zp zp rfl rfl (kf _ _)
  ·have hqe:q=N:=by omega
   subst hqe;have hX:=hres hE;refine aaD tm (aaR ?_);simp
   repeat refine az ?_
   apply hKZ;refine aah ?_;refine aal (κ:=0) ?_;show cq _ _ X .ret _ _;rw[hX];exact cq.iJ (κ:=0) (X:=.c (.aO 1 0 q 6)) (Y:=.c (.d (.int .i64 0))) (ks:=[1]) rfl zp zp rfl rfl (Aq (JA (own:=true) (fz:=false) (T:=36) zp zd))
theorem zb(G:List (List DV))(x:Rat)(hx:bF x 10000000000):aa prog G 67 [bu x] (bu (aH x (-1))):=by
 have c1:=xj G x (-1) hx zr zr;generalize aH x (-1)=y at*
 refine aa.enc func67 rfl (λlv=>bZ lv _ _ _) λ_=>?_;refine aau mixed c1 @ai.eq_1 ?_;exact aal (aF.num (κ:=0) (t:=2) (k:=1) ⟨rfl,rfl⟩ zp yi)
def uk(a:Iv):Rat:=aH (a.1+a.2) (-1)
theorem wS(G:List (List DV))(a:Iv)(h:a.sz 10000):aa prog G 65 [eo a] (bu (uk a)):=by
 have c1:=gL G a.1 a.2 (au h.1 zr) (au h.2 zr);have c2:=zb G (a.1+a.2) (au (jg h.1 h.2) zr);change aa _ _ _ _ (bu (uk a))at c2;generalize uk a=y at*
 generalize a.1+a.2=s at*
 obtain⟨a1,a2⟩:=a;refine aa.enc func65 rfl (λlv=>bZ lv _ _ _) λ_=>?_;refine aau mixed (eY c1 c2) @ai.eq_1 ?_;exact aal (aF.num (κ:=0) (t:=2) (k:=1) ⟨rfl,rfl⟩ zp yi)
theorem PZ(h:a.sz 300):bF (uk a) 602:=au (cZ (jg h.1 h.2) (-1)) zr
def abZ(a:Iv):Iv:=(uk a,uk a)
def zU(is:List Iv)(j:Nat):Iv:=abZ (is.getD j (0,0))
def oV(is:List Iv):List Iv:=(List.range is.length).map (zU is)
def yH(is:List Iv):Nat->Nat->Iv
 |0=>λ_=>(0,0)
 |q+1=>λj=>if j=q then zU is q else yH is q j
theorem KI(is:List Iv):∀(q:Nat) {j:Nat},j<q->yH is q j=zU is j
 |0,_,h=>absurd h zd
 |q+1,j,h=>by
  show(if j=q then zU is q else yH is q j)=_
  by_cases e:j=q
  ·rw[if_pos e,e]
  ·rw[if_neg e];exact KI is q zd
def xQ(a:Iv):Rat:=aH (a.2-a.1) (-1)
def uo(is:List Iv)(d:Nat->Iv):Nat->Rat
 |0=>0
 |j+1=>uo is d j+xQ (is.getD j (0,0))*(d j).size
theorem Ks(hi:∀a∈is,a.sz 300)(j:Nat):(is.getD j (0,0)).sz 300:=by
 rw[ab6]
 cases h:is[j]? with
 |none=>exact nY zr
 |some a=>exact hi a (aet h)
theorem xw(h:a.sz 300):bF (xQ a) 602:=au (cZ (Iv.FA h) (-1)) zr
theorem v7(h:a.sz L):bF a.size L:=lp (fH h.1) (fH h.2)
theorem Ek{is:List Iv}{d:Nat->Iv}(hi:∀a∈is,a.sz 300)(hd:∀j,(d j).g):∀j,bF (uo is d j) (1+903*j)
 |0=>gQ _ zd
 |j+1=>au (jg (Ek hi hd j) (gu (xw (Ks hi j)) (v7 (hd j).1))) zd
theorem Bi(is:List Iv):(oV is).length=is.length:=by unfold oV;simp
theorem Eg(hi:∀a∈is,a.sz 300):∀a∈oV is,a.sz 10000/\a.1<=a.2:=by
 intro a ha;unfold oV at ha;obtain⟨j,_,rfl⟩:=List.mem_map.1 ha;have:=au (PZ (Ks hi j)) (show 602<=10000 by decide);exact⟨⟨this,this⟩,aev⟩
theorem Tp{p:PD}{r:Nat->Iv}{dp:Nat->Bool}{node:Nat}(hr:∀j,(r j).g):∀i k,((j7 p r dp node i).1 k).g
 |0,_=>tE
 |i+1,k=>by
  have ih:=Tp (p:=p) (dp:=dp) (node:=node) hr i;show((if (j7 p r dp node i).2≠0 then _ else if _ then _ else _:(Nat->Iv)×Int).1 k).g;split
  ·exact ih k
  split
  ·exact ih k
  ·show(if k=i then _ else _:Iv).g;split
   ·exact Fk hr _ _
   ·exact ih k
def tu(p:PD)(is:List Iv)(node:Nat):Nat->Iv:=(j7 p (jx p is (iP p node) (node+1)).1 (iP p node) node is.length).1
theorem Np(his:∀a∈is,a.sz 10000/\a.1<=a.2)(k:Nat):(tu p is node k).g:=Tp (λj=>tj his _ j) _ _
theorem DX(h:(wk p is node).2=0):(wk p is node).1=some ((List.range is.length).map (tu p is node)):=by
 unfold wk at h ⊢
 by_cases h1:Aj p node=false
 ·rw[if_pos h1]at h;exact absurd h zr
 rw[if_neg h1]at h ⊢
 by_cases h2:(jx p is (iP p node) (node+1)).2=0
 rotate_left
 ·rw[if_pos h2]at h;exact absurd h h2
 rw[if_neg (not_not_intro h2)]at h ⊢
 by_cases h3:(j7 p (jx p is (iP p node) (node+1)).1 (iP p node) node is.length).2=0
 rotate_left
 ·rw[if_pos h3]at h;exact absurd h h3
 rw[if_neg (not_not_intro h3)];rfl
theorem Dn(h:(wk p is node).2≠0):(wk p is node).1=none:=by
 unfold wk at h ⊢
 by_cases h1:Aj p node=false
 ·rw[if_pos h1]
 rw[if_neg h1]at h ⊢
 by_cases h2:(jx p is (iP p node) (node+1)).2=0
 rotate_left
 ·rw[if_pos h2]
 rw[if_neg (not_not_intro h2)]at h ⊢
 by_cases h3:(j7 p (jx p is (iP p node) (node+1)).1 (iP p node) node is.length).2=0
 rotate_left
 ·rw[if_pos h3]
 rw[if_neg (not_not_intro h3)]at h;exact absurd rfl h
theorem Cq(his:∀a∈is,a.sz 10000/\a.1<=a.2):(lW p is node).1.g:=by
 unfold lW;show(if _ then _ else _:Iv).g;split
 ·exact tj his _ _
 ·exact tE
def meW(p:PD)(is:List Iv)(node:Nat):Rat:=uo is (tu p is node) is.length
def FT(p:PD)(is:List Iv)(node:Nat):Iv:=(lW p (oV is) node).1.add (-(meW p is node),meW p is node)
def Gg(p:PD)(is:List Iv)(node:Nat):Iv×Int:=
 if (wk p is node).2≠0 then((0,0),(wk p is node).2)else if (lW p (oV is) node).2≠0 then((0,0),(lW p (oV is) node).2)
 else if pq (hU (FT p is node))then(hU (FT p is node),0)else((0,0),3)
theorem Nx(his:∀a∈is,a.sz 300/\a.1<=a.2)(h6:is.length<=6):(FT p is node).sz 6000:=by
 have h1:=(Cq (p:=p) (node:=node) (Eg λa ha=>(his a ha).1)).1;have h2:=Ek (d:=tu p is node) (λa ha=>(his a ha).1) (Np λa ha=>⟨Iv.aC (his a ha).1 zr,(his a ha).2⟩) is.length;have h3:bF (meW p is node) 5419:=au h2 zd;exact Iv.aC (jy h1 ⟨fk h3,h3⟩) zr
theorem Fp(h:bF x 6000)(away:Bool):bF (n9 x 96 away) 1000000:=by
 unfold n9;split
 ·exact au h zr
 ·rename_i h0
  have hl:=jv h0 h;have hb:=qY 96;have z1:=cZ h (-(dm x-kI 96+1));have z2:=r5 z1 away;exact au (cZ z2 (dm x-kI 96+1)) zd
theorem Hl(h:a.sz 6000):(hU a).sz 1000000:=⟨Fp h.1 _,Fp h.2 _⟩
theorem ag.frV{a b:AV}(κ':Nat)(kb:Key)(o:Nat->Iv)(n:Nat)(ha:a.pure=true)(hb:b.pure=true)(hl2:n<=1000)(hc:aa c0.P c0.G fid [a,.c (.d (.sl (((List.range n).map o).map iQ))),b] X)(hX:X.pure=true)
 (hk:lv kb=.cells true false 36 (vK o n)) (hh:lv 9=.hole) (hkb:(9:Key)≠kb) (hK:K X [(kb,.cells true true 36 (vK o n))] [9] κ'):ag c0 fid [a,.c (.aO kb 0 n 6),b] lv K:=by
 have hd:fO (aM lv kb (.cells true true 36 (vK o n))) (.c (.aO kb 0 n 6))=some (.c (.d (.sl (((List.range n).map o).map iQ))),[kb]):=
  JA (own:=true) (fz:=true) (T:=36) (aI _ _ _) zd
 refine ag.MD κ' 9 kb 36 (vK o n) [9] hc hX hk hh hkb rfl (λi p q=>?_) (λx hx j hj=>?_) zp hK
 ·match i,p,q with
  |0,_,_=>exact .inl ⟨ha,rfl⟩
  |1,_,_=>exact .inr hd
  |2,_,_=>exact .inl ⟨hb,rfl⟩
 ·simp only[aZ,bw,or_false]at hx;rcases hx with rfl|rfl|rfl
  ·rw[dX ha]at hj;cases hj
  ·have hj:j∈jB (aM lv kb (.cells true true 36 (vK o n))) 8 (.aO kb 0 n 6):=hj;simp only[jB,aI]at hj;rcases List.mem_cons.1 hj with rfl|hj
   ·exact .inr rfl
   ·obtain⟨y,hy,hj⟩:=List.mem_flatMap.1 hj;unfold vK iK at hy;obtain⟨w,_,rfl⟩:=List.mem_map.1 hy
    cases hj
  ·rw[dX hb]at hj;cases hj
abbrev Xn(p:PD)(w:Rat)(o:Nat->Iv)(N:Nat):Key->LB:=aM (aM (aM (aM (λ_=>.hole) 0 (.cells true false 27 p.cs)) 1 (.cells true false 36 z6)) 2 (.cells true false 34 [.d (.bool (decide (w.num<0))),nC (aW w.num.natAbs),nC (bB w.den)])) 3 (.cells true false 36 (vK o N))
abbrev meM(p:PD)(w:Rat)(o:Nat->Iv)(N:Nat)(k2 k3:Key):List (Key×Key×LB):=[(0,0,.cells true false 27 p.cs),(1,1,.cells true false 36 z6),(2,k2,.cells true false 34 [.d (.bool (decide (w.num<0))),nC (aW w.num.natAbs),nC (bB w.den)]),(3,k3,.cells true false 36 (vK o N))]
theorem W6(k2 k3:Key)(hc:c.jd=λ_=>.hole)(l:List (Nat×AV))(hk:([0,1,k2,k3,9]:List Key).Nodup)(h0:lv 0=.cells true false 27 p.cs)(h1:lv 1=.cells true false 36 z6)(h2:lv k2=.cells true false 34 [.d (.bool (decide (w.num<0))),nC (aW w.num.natAbs),nC (bB w.den)])(h3:lv k3=.cells true false 36 (vK o N))(h9:lv 9=.hole)
 (hl:∀x∈l,x.2.cG=true/\fr x.1=x.2.dA (aV (meM p w o N k2 k3) 9)):Le c ⟨fr,lv⟩ ⟨aT l,Xn p w o N⟩:=by
 refine Le.keys (meM p w o N k2 k3) 9 l rfl hc zp (by simp at hk⊢;grind) h9 ?_ hl;intro e he;simp only[aZ,bw,or_false]at he;rcases he with rfl|rfl|rfl|rfl
 ·show(lv 0).like _ _;rw[h0];exact mb p _
 ·show(lv 1).like _ _;rw[h1];exact LB.aN.2 ⟨rfl,rfl,rfl,id⟩
 ·show(lv k2).like _ _;rw[h2];exact LB.aN.2 ⟨rfl,rfl,zp,id⟩
 ·show(lv k3).like _ _;rw[h3];exact u9 o N _
theorem JM(m:Int)(p:PD)(hp:p.ok)(hg:p.good)(node:Nat)(hn:node<p.nn)(hD:dc (iO is)=.d D)(hD2:y9 D is)(hlen:is.length=p.ni)(his:∀a∈is,a.sz 300/\a.1<=a.2):
 aa prog (GG m) 27 [p.A,.c (.d D),.c (.d (.int .i64 (node:Int)))] (.tup [eo (Gg p is node).1,.c (.d (.int .i64 (Gg p is node).2))]):=by
 obtain⟨-,-,-,-,hni,-,-⟩:=eX hg.gen;have h6:is.length<=6:=zd
 have his':∀a∈is,a.sz 10000/\a.1<=a.2:=λa ha=>⟨Iv.aC (his a ha).1 zr,(his a ha).2⟩
 have c1:=Cn m p hp hg node hn hD hD2 hlen his' zd;have hcl:=Eg λa ha=>(his a ha).1
 have c2:=uC m p hp hg node hn (D:=.sl ((oV is).map iQ)) (is:=oV is) (.inl rfl) (by rw[Bi];exact hlen) hcl;have bz:bM prog 36 [] []=some (eo (0,0),[],[],True):=AB;have e1:=DX (p:=p) (is:=is) (node:=node);have e2:=Dn (p:=p) (is:=is) (node:=node);have hvg:=Cq (p:=p) (node:=node) hcl;have hms:=Nx (p:=p) (node:=node) his h6;have hdg:=Np (p:=p) (node:=node) his';have hwz:=Ek (d:=tu p is node) (λa ha=>(his a ha).1) hdg;have hmi:FT p is node=(lW p (oV is) node).1.add (-(uo is (tu p is node) is.length),uo is (tu p is node) is.length):=rfl;have hme:Gg p is node=if (wk p is node).2≠0 then((0,0),(wk p is node).2)else if (lW p (oV is) node).2≠0 then((0,0),(lW p (oV is) node).2)else if pq (hU (FT p is node))then(hU (FT p is node),0)else((0,0),3):=rfl
 obtain⟨X,hX⟩:∃X,Gg p is node=X:=⟨_,rfl⟩
 rw[hX]at hme⊢;obtain⟨z,hz⟩:∃z:Iv,((0:Rat),(0:Rat))=z:=⟨_,rfl⟩
 rw[hz]at bz hme;obtain⟨E,hE⟩:∃E,(wk p is node).2=E:=⟨_,rfl⟩
 rw[hE]at c1 e1 e2 hme
 by_cases h0:E=0
 rotate_left
 ·rw[if_pos h0]at hme;rw[e2 h0]at c1;have c1:aa prog (GG m) 64 [p.A,.c (.d D),.c (.d (.int .i64 (node:Int)))] (.tup [.c (.d .nilsl),.c (.d (.int .i64 E))]):=c1;rw[hme];clear c2 hvg hms hdg hwz hmi e1 e2 hcl his his';refine aa.enc func27 rfl (λlv=>bY lv _ _ _ _ _ _ _ rfl) λ_=>aah ?_;refine abi 3 c1 ?_;refine aac λK hK=>aah ?_;refine aaB ws (abk bz @ai.eq_1 ?_);exact aal (aF.kP (κ:=0) (t:=6) (k:=1) (u:=7) (a:=z) ⟨rfl,rfl⟩ zp yi zp)
 subst h0;rw[if_neg zp]at hme;rw[e1 rfl]at c1
 have hcs:oV is=(List.range is.length).map (yH is is.length):=by
  unfold oV;exact aen λj hj=>(KI is _ (List.mem_range.1 hj)).symm
 rw[hcs]at c2 hme hmi hvg;obtain⟨d,hd⟩:∃d,tu p is node=d:=⟨_,rfl⟩
 rw[hd]at c1 hdg hwz hmi;obtain⟨DD,hDD⟩:∃DD,DV.sl (((List.range is.length).map d).map iQ)=DD:=⟨_,rfl⟩
 have hDS:y9 DD ((List.range is.length).map d):=.inl hDD.symm;have c1:aa prog (GG m) 64 [p.A,.c (.d D),.c (.d (.int .i64 (node:Int)))] (.tup [.c (.d DD),.c (.d (.int .i64 0))]):=lL
 have hln:=λlv=>Rl lv is
 simp only[hD]at hln;have hib:=λlv (q:Nat) (h:q<is.length)=>uf (T:=61) zp hD2 lv (i:=q) h
 have hid:=λlv (q:Nat) (h:q<is.length)=>uf (T:=61) zp hDS lv (i:=q) ta
 simp only[rP,ae8]at hid;have hgd:∀q (h:q<is.length),is.getD q (0,0)=is[q]:=λq h=>by rw[ab6,fy h];rfl
 have hsz:∀q (h:q<is.length),is[q].sz 300:=λq h=>(his _ (cn h)).1
 have hst1:∀q (h:q<is.length),uo is d (q+1)=uo is d q+xQ is[q]*(d q).size:=λq h=>by rw[<-hgd q h];rfl
 have hst2:∀q (h:q<is.length),yH is (q+1)=λj=>if j=q then(uk is[q],uk is[q])else yH is q j:=λq h=>by rw[<-hgd q h];rfl
 have ci:aa prog (GG m) 49 [.c (.d (.int .i64 0))] (bu (uo is d 0)):=mD (GG m) 0 zr zr;have hc0:yH is 0=λ_=>(0,0):=rfl
 obtain⟨V,hV⟩:∃V,lW p ((List.range is.length).map (yH is is.length)) node=V:=⟨_,rfl⟩
 rw[hV]at c2 hme hmi hvg;obtain⟨v,e⟩:=V;simp only at c2 hme hmi hvg;obtain⟨r,hr⟩:∃r,hU (FT p is node)=r:=⟨_,rfl⟩
 have hrs:r.sz 1000000:=by rw[<-hr];exact Hl hms
 obtain⟨N,hN⟩:∃N,is.length=N:=⟨_,rfl⟩
 simp only[hN]at c2 hmi hln hib hid hst1 hst2 hsz h6;have hWz:=hwz N;have cN:=zo (GG m) (uo is d N);have cA:=tM (GG m) v (-(uo is d N),uo is d N) (Iv.aC hvg.1 zr) ⟨fk (au hWz zd),au hWz zd⟩;rw[<-hmi]at cA;have cO:=I7 (GG m) (FT p is node) 96 (Iv.aC hms zr);change aa _ _ _ _ (eo (hU (FT p is node)))at cO;rw[hr]at cO hme;have cS:=wF m r.1 r.2 hrs.1 hrs.2;have ebb:pq r = !(eS r.1 ||eS r.2):=rfl;rw[<-ebb]at cS;generalize FT p is node=u at*
 obtain⟨b,hb⟩:∃b,pq r=b:=⟨_,rfl⟩
 rw[hb]at cS hme;clear hX hE e1 e2 hcl hvg hms hmi hcs hV hr hd hc0 hDD;refine aa.ed func27 rfl λ_=>aah ?_;refine abi 3 c1 ?_;refine aac λK hK=>aah ?_;refine aax (aan ?_);simp
 repeat refine az ?_
 apply hK;refine aac λK hK=>?_;refine aaT mixed zt rfl ?_;simp[hln,ai]
 repeat refine az ?_
 refine ag.p 4 9 ci ?_;simp[ai];refine⟨zt,?_⟩
 repeat refine az ?_
 apply hK;rw[zc];refine aac λKZ hKZ=>aac λK1 hK1=>aai ?_;simp[hln]
 repeat refine az ?_
 apply hK1;refine aaw ?_
 refine aaY (λ(q:Nat)=>⟨aT [(2,.c (.d (.int .i64 (node:Int)))),(3,.c (.ptr 0 0)),(6,.c (.ptr 1 0)),(8,.c (.d DD)),(10,.c (.aO 3 0 N 6)),(11,.c (.ptr 2 0)),(30,.c (.d D)),(31,.c (.d (.int .i64 (N:Int)))),(32,.c (.d (.int .i64 (q:Int))))],Xn p (uo is d q) (yH is q) N⟩) 10
  (λq=>q<=N) (λq=>N-q) 0 (W6 4 3 rfl _ zr zp zp zp wr zp xa) (ab5 _) ?_
 rintro q hq
 try simp only at hq ⊢
 refine aah ?_;refine aac λK3 hK3=>?_
 by_cases hlt:q<N
 ·have hlt':(q:Int)<(N:Int):=by omega
  have f1:=bP (n:=(q:Int)+1) zd zd;have hxb:=λlv=>hib lv q hlt
  have hxd:=λlv=>hid lv q hlt
  have hst1:=hst1 q hlt;have hst2:=hst2 q hlt;have hsz:=hsz q hlt;have hdq:=hdg q;have hwq:=hwz q;obtain⟨a,ha⟩:∃a,is[q]=a:=⟨_,rfl⟩
  simp only[ha]at hxb hst1 hst2 hsz;obtain⟨dq,hdq'⟩:∃dq,d q=dq:=⟨_,rfl⟩
  simp only[hdq']at hxd hst1 hdq;have hset:=qE (yH is q) hlt (uk a,uk a);rw[<-hst2]at hset;have hvl:=pN (yH is q) N;have hle0:q*6+6<=N*6:=zd
  have d1:=wS (GG m) a (Iv.aC hsz zr);have d2:=qQ (GG m) (uk a);have d3:=AH (GG m) a hsz;have d4:=zb (GG m) (a.2-a.1) (au (Iv.FA hsz) zr);change aa _ _ _ _ (bu (xQ a))at d4;have d5:=J9 (GG m) dq (Iv.aC hdq.1 zr);have s6:=gu (xw hsz) (v7 hdq.1);have d6:=gI (GG m) (xQ a) dq.size (au (xw hsz) zr) (au (v7 hdq.1) zr);have d7:=gL (GG m) (uo is d q) (xQ a*dq.size) (au hwq zd) (au s6 zr);rw[<-hst1]at d7;generalize xQ a*dq.size=y1 at*
  generalize dq.size=y2 at*
  generalize xQ a=y3 at*
  generalize a.2-a.1=y4 at*
  generalize uk a=y5 at*
  generalize uo is d q=w1 at*
  refine aaB xn (aan (hK3 _ _ (aac λK4 hK4=>aaw (aaF λK5 hK5=>?_))));simp[hxb,iQ,iA,ai]
  repeat refine az ?_
  apply hK5;refine aaF λK5 hK5=>?_;simp;refine ag.p 11 9 d1 ?_;simp[ai];refine ag.p 12 9 d2 ?_;simp[hset,hvl,hle0,hlt]
  repeat refine az ?_
  apply hK5;refine aaT mixed zt rfl ?_;simp[hxd,iQ,iA,ai];refine ag.p 13 9 d3 ?_;simp[ai];refine ag.p 14 9 d4 ?_;simp[hxd,iQ,iA,ai];refine ag.p 15 9 d5 ?_;simp[ai];refine ag.p 16 9 d6 ?_;simp[ai];refine ag.p 17 9 d7 ?_;simp[ai];refine⟨zt,?_⟩
  repeat refine az ?_
  apply hK4;refine aai ?_;simp[f1];exact⟨q+1,W6 2 3 rfl _ zr zp zp zp zp zp xa,zd,zd⟩
 ·have hqe:q=N:=by omega
  subst hqe;obtain⟨w,hw⟩:∃w,uo is d q=w:=⟨_,rfl⟩
  rw[hw]at cN cA⊢;obtain⟨nw,hnw⟩:∃nw,-w=nw:=⟨_,rfl⟩
  rw[hnw]at cN cA;refine aaD tm (aaR (hKZ _ _ (aaF λK hK=>?_)));simp;refine ag.frV 20 3 (yH is q) q zp zp zd c2 zp zp zp zr ?_;simp
  repeat refine az ?_
  apply hK;refine aac λK hK=>aah ?_
  by_cases he:e=0
  rotate_left
  ·rw[if_pos he]at hme;refine aaB fx (abk bz @ai.eq_1 ?_);rw[hme];exact aal (cq.kP (κ:=0) (t:=6) (k:=1) (u:=7) (a:=z) ⟨rfl,rfl⟩ zp yi zp)
  subst he;rw[if_neg zp]at hme;refine aax (aan (hK _ _ (aac λK hK=>?_)));refine aaT mixed zt rfl ?_;simp[ai];refine ag.p 21 9 cN ?_;simp[ai,DZ];refine ag.p 22 9 cA ?_;simp[ai];refine ag.p 23 9 cO ?_;simp[ai];refine⟨zt,?_⟩
  repeat refine az ?_
  apply hK;refine aac λK hK=>aac λK1 hK1=>aai ?_;simp[JC];refine ag.TX (T:=34) 31 9 24 (x:=r.1) (y:=r.2) ?_ cS ?_ ?_ ?_ ?_
  ·simp[dY,gT]
  ·simp
  ·simp
  ·decide
  simp
  repeat refine az ?_
  apply hK1
  cases b with
  |true=>
   refine aax (aan (hK _ _ (aaN @ai.eq_1 ?_)));rw[hme];exact aal (cq.kP (κ:=0) (t:=6) (k:=1) (u:=7) (a:=r) ⟨rfl,rfl⟩ zp yi zp)
  |false=>
   refine aaE (abk bz @ai.eq_1 ?_);rw[hme];exact aal (cq.kP (κ:=0) (t:=6) (k:=1) (u:=7) (a:=z) ⟨rfl,rfl⟩ zp yi zp)
theorem SC(l:List Iv):∀e∈l.map iQ,e.length=6:=by intro e he;obtain⟨s,_,rfl⟩:=List.mem_map.1 he;rfl
theorem HF(G:List (List DV))(l:List Iv)(hl:l.length<=1048576):aQ prog G 81 [.c (.d (.sl (l.map iQ)))] [] (.ret (.c (.aO 1000 0 l.length 6)) [] [.cells true false 36 (iK l)]):=by
 have e2:∀es,aU prog .eql 61 (.c (.d (.sl es))) (.c (.d .nilsl))=some (.c (.d (.bool false)),[],[],True):=λes=>by kernel_rfl
 have hlen:(l.map iQ).length=l.length:=sC ..;have h:=SC l;unfold iK;rw[<-hlen]at hl⊢;generalize l.map iQ=es at*
 have hsrc:∀lv,cC lv 6 (.c (.d (.sl es)))=some (es.length,es.flatten.map CV.d):=λlv=>Hq h
 refine aQ.enn func81 rfl λ_=>aah ?_;refine aac λK hK=>aaN e2 ?_;refine aax (aan (hK _ _ (aaF λK hK=>?_)));simp[hsrc,gh,ic,keyOf,-List.map_flatten]
 repeat refine az ?_
 apply hK;refine aal (κ:=0) ⟨[(1000,1,.cells true false 36 (es.flatten.map CV.d))],9,Ku _,zp,zp,zp,?_,rfl,?_⟩
 ·intro e he;rw[List.mem_singleton.1 he];exact Iz 36 es _
 ·show fq _ _ [.tmp 2]=_;simp[fq,kH,mj,aV]
theorem E1(G:List (List DV)):aa prog G 81 [.c (.d .nilsl)] (.c (.d .nilsl)):=by
 have e2:aU prog .eql 61 (.c (.d .nilsl)) (.c (.d .nilsl))=some (.c (.d (.bool true)),[],[],True):=zt
 refine aa.en func81 rfl λ_=>?_;refine aau mixed trivial e2 ?_;exact aaq (aD.rt rfl 2 zp)
theorem W5(l:List Iv):iK l=vK (λj=>l.getD j (0,0)) l.length:=by
 unfold vK;congr 1;refine age zp λi h1 h2=>?_;rw[rP,ae8,ab6,fy h1];rfl
def Dj(up:Bool)(a s:Iv):Iv:=if 0<=s.1 then(if up then(a.2,a.2)else(a.1,a.1))else if s.2<=0 then(if up then(a.1,a.1)else(a.2,a.2))else a
def nL(is:List Iv)(d:Nat->Iv)(up:Bool):Nat->Nat->Iv
 |0=>λj=>is.getD j (0,0)
 |q+1=>λj=>if j=q then Dj up (is.getD q (0,0)) (d q)else nL is d up q j
def tK(is:List Iv)(d:Nat->Iv)(up:Bool):List Iv:=(List.range is.length).map (nL is d up is.length)
theorem Hz(is:List Iv)(d:Nat->Iv)(up:Bool):∀(q:Nat) {j:Nat},q<=j->nL is d up q j=is.getD j (0,0)
 |0,_,_=>rfl
 |q+1,j,h=>by
  show(if j=q then _ else nL is d up q j)=_;rw[if_neg zd];exact Hz is d up q zd
theorem XR{s:Iv}(h:a.g):(Dj up a s).g:=by
 have l:Iv.g (a.1,a.1):=⟨⟨h.1.1,h.1.1⟩,aev⟩
 have u:Iv.g (a.2,a.2):=⟨⟨h.1.2,h.1.2⟩,aev⟩
 unfold Dj
 (repeat' split)<;>assumption
theorem Jy(hi:∀a∈is,a.sz 300/\a.1<=a.2)(j:Nat):(is.getD j (0,0)).g:=by
 rw[ab6]
 cases h:is[j]? with
 |none=>exact tE
 |some a=>exact hi a (aet h)
theorem Tj{is:List Iv}{d:Nat->Iv}{up:Bool}(hi:∀a∈is,a.sz 300/\a.1<=a.2):∀q j,(nL is d up q j).g
 |0,j=>Jy hi j
 |q+1,j=>by
  show(if j=q then _ else nL is d up q j:Iv).g;split
  ·exact XR (Jy hi q)
  ·exact Tj hi q j
theorem Ds(is:List Iv)(d:Nat->Iv)(up:Bool):(tK is d up).length=is.length:=by unfold tK;simp
theorem A3(hi:∀a∈is,a.sz 300/\a.1<=a.2):∀a∈tK is d up,a.sz 10000/\a.1<=a.2:=by
 intro a ha;unfold tK at ha;obtain⟨j,_,rfl⟩:=List.mem_map.1 ha;have:=Tj (d:=d) (up:=up) hi is.length j;exact⟨Iv.aC this.1 zr,this.2⟩
def GW(p:PD)(is:List Iv)(node:Nat):Iv×Int:=
 if (wk p is node).2≠0 then((0,0),(wk p is node).2)else if (lW p (tK is (tu p is node) false) node).2≠0 then((0,0),(lW p (tK is (tu p is node) false) node).2)
 else if (lW p (tK is (tu p is node) true) node).2≠0 then((0,0),(lW p (tK is (tu p is node) true) node).2)else(((lW p (tK is (tu p is node) false) node).1.1,(lW p (tK is (tu p is node) true) node).1.2),0)
abbrev Xf(p:PD)(a b:Nat->Iv)(N:Nat):Key->LB:=aM (aM (aM (aM (λ_=>.hole) 0 (.cells true false 27 p.cs)) 1 (.cells true false 36 z6)) 3 (.cells true false 36 (vK a N))) 4 (.cells true false 36 (vK b N))
abbrev moM(p:PD)(a b:Nat->Iv)(N:Nat)(k3 k4:Key):List (Key×Key×LB):=[(0,0,.cells true false 27 p.cs),(1,1,.cells true false 36 z6),(3,k3,.cells true false 36 (vK a N)),(4,k4,.cells true false 36 (vK b N))]
theorem QS{a b:Nat->Iv}(k3 k4:Key)(hc:c.jd=λ_=>.hole)(l:List (Nat×AV))(hk:([0,1,k3,k4]:List Key).Nodup)(h0:lv 0=.cells true false 27 p.cs)(h1:lv 1=.cells true false 36 z6)(h2:lv k3=.cells true false 36 (vK a N))(h3:lv k4=.cells true false 36 (vK b N))(h9:lv 9=.hole)
 (hl:∀x∈l,x.2.cG=true/\fr x.1=x.2.dA (aV (moM p a b N k3 k4) 9)):Le c ⟨fr,lv⟩ ⟨aT l,Xf p a b N⟩:=by
 refine Le.keys (moM p a b N k3 k4) 9 l rfl hc zp ky h9 ?_ hl;intro e he;simp only[aZ,bw,or_false]at he;rcases he with rfl|rfl|rfl|rfl
 ·show(lv 0).like _ _;rw[h0];exact mb p _
 ·show(lv 1).like _ _;rw[h1];exact LB.aN.2 ⟨rfl,rfl,rfl,id⟩
 ·show(lv k3).like _ _;rw[h2];exact u9 a N _
 ·show(lv k4).like _ _;rw[h3];exact u9 b N _
theorem xS(m:Int)(p:PD)(hp:p.ok)(hg:p.good)(node:Nat)(hn:node<p.nn)(hD:dc (iO is)=.d D)(hD2:y9 D is)(hlen:is.length=p.ni)(his:∀a∈is,a.sz 300/\a.1<=a.2):
 aa prog (GG m) 29 [p.A,.c (.d D),.c (.d (.int .i64 (node:Int)))] (.tup [eo (GW p is node).1,.c (.d (.int .i64 (GW p is node).2))]):=by
 obtain⟨-,-,-,-,hni,-,-⟩:=eX hg.gen;have h6:is.length<=6:=zd
 have his':∀a∈is,a.sz 10000/\a.1<=a.2:=λa ha=>⟨Iv.aC (his a ha).1 zr,(his a ha).2⟩
 have c1:=Cn m p hp hg node hn hD hD2 hlen his' zd;have c2:=λd up=>uC m p hp hg node hn (D:=.sl ((tK is d up).map iQ)) (is:=tK is d up) (.inl rfl) fl (A3 his)
 have c2n:=λd up (h:is=[])=>uC m p hp hg node hn (D:=.nilsl) (is:=tK is d up) (.inr ⟨rfl,by subst h;rfl⟩) fl (A3 his)
 have bz:bM prog 36 [] []=some (eo (0,0),[],[],True):=AB;have e1:=DX (p:=p) (is:=is) (node:=node);have e2:=Dn (p:=p) (is:=is) (node:=node)
 have hme:GW p is node=if (wk p is node).2≠0 then((0,0),(wk p is node).2)else if (lW p (tK is (tu p is node) false) node).2≠0 then((0,0),(lW p (tK is (tu p is node) false) node).2)
  else if (lW p (tK is (tu p is node) true) node).2≠0 then((0,0),(lW p (tK is (tu p is node) true) node).2)else(((lW p (tK is (tu p is node) false) node).1.1,(lW p (tK is (tu p is node) true) node).1.2),0):=rfl
 obtain⟨X,hX⟩:∃X,GW p is node=X:=⟨_,rfl⟩
 rw[hX]at hme⊢;obtain⟨z,hz⟩:∃z:Iv,((0:Rat),(0:Rat))=z:=⟨_,rfl⟩
 rw[hz]at bz hme;obtain⟨E,hE⟩:∃E,(wk p is node).2=E:=⟨_,rfl⟩
 rw[hE]at c1 e1 e2 hme
 by_cases h0:E=0
 rotate_left
 ·rw[if_pos h0]at hme;rw[e2 h0]at c1;have c1:aa prog (GG m) 64 [p.A,.c (.d D),.c (.d (.int .i64 (node:Int)))] (.tup [.c (.d .nilsl),.c (.d (.int .i64 E))]):=c1;rw[hme];clear c2 c2n e1 e2 his his';refine aa.enc func29 rfl (λlv=>bY lv _ _ _ _ _ _ _ rfl) λ_=>?_;refine aau mixed c1 (lD h0 bz @ai.eq_1) ?_;exact aal (aF.kP (κ:=0) (t:=6) (k:=1) (u:=7) (a:=z) ⟨rfl,rfl⟩ zp yi zp)
 subst h0;rw[if_neg zp]at hme;rw[e1 rfl]at c1;obtain⟨d,hd⟩:∃d,tu p is node=d:=⟨_,rfl⟩
 rw[hd]at c1 hme;obtain⟨DD,hDD⟩:∃DD,DV.sl (((List.range is.length).map d).map iQ)=DD:=⟨_,rfl⟩
 have hDS:y9 DD ((List.range is.length).map d):=.inl hDD.symm;have c1:aa prog (GG m) 64 [p.A,.c (.d D),.c (.d (.int .i64 (node:Int)))] (.tup [.c (.d DD),.c (.d (.int .i64 0))]):=lL
 have hln:=λlv=>Rl lv is
 simp only[hD]at hln;have hib:=λlv (q:Nat) (h:q<is.length)=>uf (T:=61) zp hD2 lv (i:=q) h
 have hid:=λlv (q:Nat) (h:q<is.length)=>uf (T:=61) zp hDS lv (i:=q) ta
 simp only[rP,ae8]at hid;have hgd:∀q (h:q<is.length),is.getD q (0,0)=is[q]:=λq h=>by rw[ab6,fy h];rfl
 have hst:∀up q (h:q<is.length),nL is d up (q+1)=λj=>if j=q then Dj up is[q] (d q)else nL is d up q j:=λup q h=>by rw[<-hgd q h];rfl
 have hsame:∀up q (h:q<is.length),nL is d up q q=is[q]:=λup q h=>by rw[<-hgd q h];exact Hz is d up q (bf _)
 have hc2:=c2 d;have hc2n:=c2n d;clear c2 c2n;obtain⟨V,hV⟩:∃V,lW p (tK is d false) node=V:=⟨_,rfl⟩
 obtain⟨W,hW⟩:∃W,lW p (tK is d true) node=W:=⟨_,rfl⟩
 have l1:=hc2 false;have l2:=hc2 true;have n1:=hc2n false;have n2:=hc2n true;rw[hV]at l1 n1 hme;rw[hW]at l2 n2 hme;clear hV hW hc2 hc2n;obtain⟨v,e⟩:=V;obtain⟨w,f⟩:=W;simp only at l1 l2 n1 n2 hme
 by_cases hnil:is=[]
 ·have n1:=n1 hnil;have n2:=n2 hnil
  have hDn:D=.nilsl:=by
   rcases hD2 with h|⟨h,-⟩
   ·subst hnil;have:dc (iO [])=.d .nilsl:=rfl;rw[this]at hD;exact(CV.d.inj hD).symm
   ·exact h
  subst hDn;have hl0:is.length=0:=by rw[hnil];rfl
  rw[hl0]at hln;have k1:=E1 (GG m);clear hX hE e1 e2 his his' hst hsame hgd hid hib hDS l1 l2 hD hD2 hd hDD;refine aa.ed func29 rfl λ_=>?_;refine aau mixed (eY c1 k1) hln ?_
  refine aaY (λ(_:Unit)=>⟨aT [(2,.c (.d (.int .i64 (node:Int)))),(3,.c (.ptr 0 0)),(6,.c (.ptr 1 0)),(10,.c (.d .nilsl)),(11,.c (.d .nilsl)),(34,.c (.d (.int .i64 0))),(35,.c (.d (.int .i64 0)))],aM (aM (λ_=>.hole) 0 (.cells true false 27 p.cs)) 1 (.cells true false 36 z6)⟩) 10
   (λ_=>True) (λ_=>0) () (Le.fJ _) trivial ?_
  rintro⟨⟩ -
  try simp only
  refine aau mixed n1 @ai.eq_1 ?_
  by_cases he:e=0
  rotate_left
  ·rw[if_pos he]at hme;refine abF mixed trivial he ?_;refine abM ?_;refine abF mixed trivial (eY bz @ai.eq_1) ?_;rw[hme];exact aal (cq.kP (κ:=0) (t:=6) (k:=1) (u:=7) (a:=z) ⟨rfl,rfl⟩ zp yi zp)
  subst he;rw[if_neg zp]at hme;refine aau mixed n2 @ai.eq_1 ?_
  by_cases hf:f=0
  rotate_left
  ·rw[if_pos hf]at hme;refine abF mixed trivial hf ?_;refine abM ?_;refine abF mixed trivial (eY bz @ai.eq_1) ?_;rw[hme];exact aal (cq.kP (κ:=0) (t:=6) (k:=1) (u:=7) (a:=z) ⟨rfl,rfl⟩ zp yi zp)
  subst hf;rw[if_neg zp]at hme;refine abF mixed trivial trivial ?_;refine abF mixed trivial trivial ?_;refine abM ?_;refine abF mixed trivial (eY @DZ @ai.eq_1) ?_;rw[hme];exact aal (cq.kP (κ:=0) (t:=6) (k:=1) (u:=7) (a:=(v.1,w.2)) ⟨rfl,rfl⟩ zp yi zp)
 have hDs:D=.sl (is.map iQ):=by
  rcases hD2 with h|⟨-,h⟩
  ·exact h
  ·exact absurd h hnil
 have k1:=HF (GG m) is zd;have kv0:∀up,iK is=vK (nL is d up 0) is.length:=λup=>W5 is
 rw[<-hDs]at k1;have iren:=λg=>Ao is g
 clear hX hE e1 e2 his his' hDS n1 n2 hD hD2 hd hDD hDs hgd;have l1:aa prog (GG m) 15 [p.A,.c (.d (.sl (((List.range is.length).map (nL is d false is.length)).map iQ))),.c (.d (.int .i64 (node:Int)))] (.tup [eo v,.c (.d (.int .i64 e))]):=l1;have l2:aa prog (GG m) 15 [p.A,.c (.d (.sl (((List.range is.length).map (nL is d true is.length)).map iQ))),.c (.d (.int .i64 (node:Int)))] (.tup [eo w,.c (.d (.int .i64 f))]):=l2;obtain⟨N,hN⟩:∃N,is.length=N:=⟨_,rfl⟩
 simp only[hN]at k1 kv0 l1 l2 hln hib hid hst hsame h6;obtain⟨IK,hIK⟩:∃IK,iK is=IK:=⟨_,rfl⟩
 simp only[hIK]at k1 kv0 iren;have kvf:=kv0 false;have kvt:=kv0 true;refine aa.ed func29 rfl λ_=>?_;refine aau mixed c1 trivial ?_;refine acn λKX1 hKX1=>?_;simp;refine ag.Uc 5 9 [3] [.cells true false 36 IK] k1 zp zp zp rfl zp zp zp ?_;simp[cM,aY,iren,fixC];refine ag.Uc 6 9 [4] [.cells true false 36 IK] k1 zp zp zp rfl zp zp zp ?_;simp[cM,aY,iren,fixC]
 repeat refine az ?_
 refine hKX1 _ _ ?_;refine wN ?_;refine aau mixed trivial hln ?_
 refine aaY (λ(q:Nat)=>⟨aT [(2,.c (.d (.int .i64 (node:Int)))),(3,.c (.ptr 0 0)),(6,.c (.ptr 1 0)),(8,.c (.d DD)),(10,.c (.aO 3 0 N 6)),(11,.c (.aO 4 0 N 6)),(33,.c (.d D)),(34,.c (.d (.int .i64 (N:Int)))),(35,.c (.d (.int .i64 (q:Int))))],Xf p (nL is d false q) (nL is d true q) N⟩) 10
  (λq=>q<=N) (λq=>N-q) 0 (QS 3 4 rfl _ zr zp zp (by simp;exact kvf) (by simp;exact kvt) zp xa) (ab5 _) ?_
 rintro q hq
 try simp only at hq ⊢
 refine aau mixed trivial trivial ?_
 by_cases hlt:q<N
 ·have hlt':(q:Int)<(N:Int):=by omega
  have f1:=bP (n:=(q:Int)+1) zd zd;have hxb:=λlv=>hib lv q hlt
  have hxd:=λlv=>hid lv q hlt
  have hs1:=hst false q hlt;have hs2:=hst true q hlt;have hm1:=hsame false q hlt;have hm2:=hsame true q hlt;obtain⟨a,ha⟩:∃a,is[q]=a:=⟨_,rfl⟩
  simp only[ha]at hxb hs1 hs2 hm1 hm2;obtain⟨s,hs⟩:∃s,d q=s:=⟨_,rfl⟩
  simp only[hs]at hxd hs1 hs2;have d1:=qQ (GG m) a.1;have d2:=qQ (GG m) a.2;have g1:=dr (GG m) (decide (s.1.num<0)) (aW s.1.num.natAbs) (bB s.1.den);have g2:=dr (GG m) (decide (s.2.num<0)) (aW s.2.num.natAbs) (bB s.2.den);have p1:=Dd s.1;have p2:=II s.2;generalize ou (decide (s.1.num<0)) (aW s.1.num.natAbs)=y1 at*
  generalize ou (decide (s.2.num<0)) (aW s.2.num.natAbs)=y2 at*
  have hvf:=pN (nL is d false q) N;have hvt:=pN (nL is d true q) N;have hle0:q*6+6<=N*6:=zd
  refine aau mixed (lD d1 d2 g1) (me hlt' hxb @iQ.eq_1 @iA @ai.eq_1 hxd) ?_
  by_cases u1:0<=y1
  ·have i1:∀up,Dj up a s=if up then(a.2,a.2)else(a.1,a.1):=λup=>if_pos (p1.1 u1)
   have i1f:Dj false a s=(a.1,a.1):=i1 false;have i1t:Dj true a s=(a.2,a.2):=i1 true;have t1:=qE (nL is d false q) hlt (a.1,a.1);have t2:=qE (nL is d true q) hlt (a.2,a.2);rw[i1f]at hs1;rw[i1t]at hs2;rw[<-hs1]at t1;rw[<-hs2]at t2;refine aau mixed trivial (me u1 t1 t2 hvf hvt (lD hle0 hlt f1)) ?_;exact⟨q+1,QS 3 4 rfl _ zr zp zp zp zp zp xa,zd,zd⟩
  ·have nl:¬0<=s.1:=λh=>u1 (p1.2 h)
   refine aau mixed g2 (BF u1 hxd @iQ.eq_1 @iA @ai.eq_1) ?_
   by_cases u2:y2<=0
   ·have i1:∀up,Dj up a s=if up then(a.1,a.1)else(a.2,a.2):=λup=>(if_neg nl).trans (if_pos (p2.1 u2))
    have i1f:Dj false a s=(a.2,a.2):=i1 false;have i1t:Dj true a s=(a.1,a.1):=i1 true;have t1:=qE (nL is d false q) hlt (a.2,a.2);have t2:=qE (nL is d true q) hlt (a.1,a.1);rw[i1f]at hs1;rw[i1t]at hs2;rw[<-hs1]at t1;rw[<-hs2]at t2;refine aau mixed trivial (me u2 t1 t2 hvf hvt (lD hle0 hlt f1)) ?_;exact⟨q+1,QS 3 4 rfl _ zr zp zp zp zp zp xa,zd,zd⟩
   ·have nu:¬s.2<=0:=λh=>u2 (p2.2 h)
    have i1:∀up,Dj up a s=a:=λup=>(if_neg nl).trans (if_neg nu)
    rw[i1]at hs1 hs2
    have t1:vK (nL is d false q) N=vK (nL is d false (q+1)) N:=IC λj _=>by
     rw[hs1];show _=if j=q then a else _
     by_cases h:j=q
     ·rw[if_pos h,h,hm1]
     ·rw[if_neg h]
    have t2:vK (nL is d true q) N=vK (nL is d true (q+1)) N:=IC λj _=>by
     rw[hs2];show _=if j=q then a else _
     by_cases h:j=q
     ·rw[if_pos h,h,hm2]
     ·rw[if_neg h]
    refine aau mixed trivial (eY u2 f1) ?_;exact⟨q+1,QS 3 4 rfl _ zr zp zp (by simp[t1]) (by simp[t2]) zp xa,zd,zd⟩
 ·have hqe:q=N:=by omega
  subst hqe;refine aau mixed trivial hlt ?_;refine acn λKX2 hKX2=>?_;simp;refine ag.frV 20 3 (nL is d false q) q zp zp zd l1 zp zp zp zr ?_;simp
  repeat refine az ?_
  refine hKX2 _ _ ?_;refine wN ?_;refine aau mixed trivial trivial ?_
  by_cases he:e=0
  rotate_left
  ·rw[if_pos he]at hme;refine abF mixed trivial he ?_;refine abM ?_;refine abF mixed trivial (eY bz @ai.eq_1) ?_;rw[hme];exact aal (cq.kP (κ:=0) (t:=6) (k:=1) (u:=7) (a:=z) ⟨rfl,rfl⟩ zp yi zp)
  subst he;rw[if_neg zp]at hme;refine aau mixed trivial trivial ?_;refine acn λKX3 hKX3=>?_;simp;refine ag.frV 30 4 (nL is d true q) q zp zp zd l2 zp zp zp zr ?_;simp
  repeat refine az ?_
  refine hKX3 _ _ ?_;refine wN ?_;refine aau mixed trivial trivial ?_
  by_cases hf:f=0
  rotate_left
  ·rw[if_pos hf]at hme;refine abF mixed trivial hf ?_;refine abM ?_;refine abF mixed trivial (eY bz @ai.eq_1) ?_;rw[hme];exact aal (cq.kP (κ:=0) (t:=6) (k:=1) (u:=7) (a:=z) ⟨rfl,rfl⟩ zp yi zp)
  subst hf;rw[if_neg zp]at hme;refine abF mixed trivial trivial ?_;refine abF mixed trivial trivial ?_;refine abM ?_;refine abF mixed trivial (eY @DZ @ai.eq_1) ?_;rw[hme];exact aal (cq.kP (κ:=0) (t:=6) (k:=1) (u:=7) (a:=(v.1,w.2)) ⟨rfl,rfl⟩ zp yi zp)
def tn(p:PD)(b:List Sp)(node:Int):Iv×Int:=qe p b node (Gg p (gM b) node.toNat)
def uw(p:PD)(b:List Sp)(node:Int):Iv×Int:=qe p b node (GW p (gM b) node.toNat)
theorem JK(m:Int)(p:PD)(hp:p.ok)(b:Option (List Sp))(node:Int):
 aa prog (GG m) 9 [p.A,.c (dc (uh b)),.c (.d (.int .i64 node))] (.tup [eo (tn p (bH b) node).1,.c (.d (.int .i64 (tn p (bH b) node).2))]):=by
 have c1:=Dg m p hp b node 27 zt (Gg p (gM (bH b)) node.toNat) λh D hD hD2=>by
  obtain⟨hg,hl,hb,h0,h1⟩:=jZ hp h;have:=JM m p hp hg node.toNat zd hD hD2 pc (jJ hb);rw[show((node.toNat:Nat):Int)=node by omega]at this;exact this
 change aa _ _ _ _ (.tup [eo (tn p (bH b) node).1,.c (.d (.int .i64 (tn p (bH b) node).2))])at c1;generalize tn p (bH b) node=r at*
 obtain⟨a,e⟩:=r;obtain⟨a1,a2⟩:=a;simp only at c1⊢;refine aa.enc func9 rfl (λlv=>bY lv _ _ _ _ _ _ _ rfl) λ_=>?_;refine aau mixed c1 @ai.eq_1 ?_;exact aal (aF.kP (κ:=0) (t:=6) (k:=1) (u:=7) (a:=(a1,a2)) ⟨rfl,rfl⟩ zp yi zp)
theorem E2(m:Int)(p:PD)(hp:p.ok)(b:Option (List Sp))(node:Int):
 aa prog (GG m) 11 [p.A,.c (dc (uh b)),.c (.d (.int .i64 node))] (.tup [eo (uw p (bH b) node).1,.c (.d (.int .i64 (uw p (bH b) node).2))]):=by
 have c1:=Dg m p hp b node 29 zt (GW p (gM (bH b)) node.toNat) λh D hD hD2=>by
  obtain⟨hg,hl,hb,h0,h1⟩:=jZ hp h;have:=xS m p hp hg node.toNat zd hD hD2 pc (jJ hb);rw[show((node.toNat:Nat):Int)=node by omega]at this;exact this
 change aa _ _ _ _ (.tup [eo (uw p (bH b) node).1,.c (.d (.int .i64 (uw p (bH b) node).2))])at c1;generalize uw p (bH b) node=r at*
 obtain⟨a,e⟩:=r;obtain⟨a1,a2⟩:=a;simp only at c1⊢;refine aa.enc func11 rfl (λlv=>bY lv _ _ _ _ _ _ _ rfl) λ_=>?_;refine aau mixed c1 @ai.eq_1 ?_;exact aal (aF.kP (κ:=0) (t:=6) (k:=1) (u:=7) (a:=(a1,a2)) ⟨rfl,rfl⟩ zp yi zp)
attribute [local irreducible] aF
end Go.Am
namespace Go.Am
open Go.Am.Ty Go.Proofs N
attribute [local irreducible] aF
def E9(G:List (List DV))(r:List UInt8):aa prog G 57 [.c (.d (.str r))] (bQ (cj r)):=by
 have c1:=k5 G r;generalize cj r=y at*
 generalize cz r=e at*
 refine aa.enc func57 rfl (λlv=>bT lv _ _ _) λ_=>aah ?_;refine abx 3 c1 @ai.eq_1 ?_;refine aaN @ai.eq_1 ?_;exact aal (aF.ref (k:=0) rfl zp yi rfl)
end Go.Am
namespace Go.Am
open Go.Am.Ty Go.Proofs N
variable {e p:Int}{x:Rat}
attribute [local irreducible] aF
theorem xL(G:List (List DV))(e p:Int):aa prog G 156 [.agg [.d (.int .i64 e),.d (.int .i64 p)]] (.c (.d (.int .i64 (iV e p)))):=by
 refine aa.en func156 rfl λ_=>aah ?_;refine aac λK hK=>aac λK1 hK1=>?_
 have bad:∀(fr:Nat->AV) (κ:Nat) (lv:Key->LB),lv 9=.hole->fr 28=.c (.d (.bool true))->iV e p=2->K1 ⟨fr,lv⟩ κ:=by
  intro fr κ lv h9 z hf;apply hK1;refine aaB yk (aah ?_);exact aal (κ:=0) (aD.tmp (κ:=0) rfl 9 dE rfl oi rfl)
 by_cases h1:e<2
 ·refine aai ?_;simp[h1];exact bad _ _ _ zp zp vy
 by_cases h2:11<e
 ·refine aai ?_;simp[h1,h2];exact bad _ _ _ zp zp vy
 by_cases h3:p<2
 ·refine aai ?_;simp[h1,h2,h3];exact bad _ _ _ zp zp vy
 by_cases h4:113<p
 ·refine aai ?_;simp[h1,h2,h3,h4];exact bad _ _ _ zp zp vy
 have hw:IntKind.i64.wrap (e+p)=e+p:=bP zd zd
 by_cases h5:e+p<5
 ·refine aai ?_;simp[h1,h2,h3,h4,hw,h5];exact bad _ _ _ zp zp vy
 refine aai ?_;simp[h1,h2,h3,h4,hw,h5];apply hK1;refine aax (aan (hK _ _ (aah ?_)));have hf:iV e p=0:=by unfold iV;rw[if_neg zd]
 exact aaq (aD.rt rfl 9 dE)
theorem xb(G:List (List DV))(e p:Int)(h1:2<=e)(h2:e<=11):aa prog G 288 [fA e p] (.c (.d (.int .i64 (bX e)))):=by
 obtain⟨n,hn⟩:∃n:Nat,e=(n:Int):=⟨e.toNat,zd⟩
 have hb:bX e=((2^(n-1):Nat):Int)-1:=by
  unfold bX;rw[hn,show((n:Int)-1).toNat=n-1 by omega];simp
 have hp:∀i,i<=10->2^i<=1024:=λi h=>adK zr h
 rw[hb];refine aa.en func288 rfl λ_=>aah ?_;refine aah ?_;refine aac λK hK=>aah ?_;refine aaw ?_
 refine aaY (λ(i:Nat)=>⟨aT [(1,.c (.ptr 0 0)),(3,.c (.d (.int .i64 ((2^i:Nat):Int)))),(4,.c (.d (.int .i64 ((i+1:Nat):Int))))],aM (λ_=>.hole) 0 (.cells true false 119 [.d (.int .i64 e),.d (.int .i64 p)])⟩) 1
  (λi=>i+1<=n) (λi=>n-i) 0 (Le.mk' _ rfl zp zp) zd ?_
 intro i hi
 try simp only at hi
 have hpi:=hp i zd;have hpi1:2*2^i=2^(i+1):=by rw[adk,aed]
 obtain⟨T,hT⟩:∃T,2^i=T:=⟨_,rfl⟩
 rw[hT]at hpi hpi1;simp only[hT];have w1:IntKind.i64.wrap (2*(T:Int))=((2^(i+1):Nat):Int):=by rw[bP zd zd,<-hpi1];omega
 have w2:IntKind.i64.wrap (((i+1:Nat):Int)+1)=((i+1+1:Nat):Int):=by rw[bP zd zd];omega
 have w3:=bP (n:=(T:Int)-1) zd zd;refine aac λK3 hK3=>aaF λK4 hK4=>?_;simp[-Int.natCast_add];apply hK4
 by_cases hlt:i+1<n
 ·have hlt':((i+1:Nat):Int)<e:=by omega
  refine aaB yk (aan (hK3 _ _ (aac λK5 hK5=>aaw (aai ?_))));simp[w1,-Int.natCast_pow,-Int.natCast_add];apply hK5;refine aai ?_;simp[w2,-Int.natCast_pow,-Int.natCast_add];have w2':=bP (n:=(i:Int)+1+1) zd zd;exact⟨i+1,Le.mk' _ rfl zp zp,zd,zd⟩
 ·have hlt':¬((i+1:Nat):Int)<e:=by omega
  have e1:n-1=i:=zd
  refine aaD yk (aaR (hK _ _ (aaN w3 ?_)));rw[e1,hT];exact aaq (aD.rt (t:=2) rfl 9 zp)
theorem tN(h:iV e p=0):1<=bX e/\bX e<=1023:=by
 obtain⟨h1,h2,_⟩:=lu h;obtain⟨a,b,_⟩:=wB h1 h2;omega
theorem Ir(m:Int)(e p:Int)(hf:iV e p=0):aa prog (GG m) 273 [fA e p] (bQ (aH 1 (2-bX e-p))):=by
 obtain⟨h1,h2,h3,h4,_⟩:=lu hf;obtain⟨b1,b2⟩:=tN hf;have bb:=xb (GG m) e p h1 h2;generalize bX e=b at*
 have w1:=bP (n:=2-b) zd zd;have w2:=bP (n:=2-b-p) zd zd;have tw:=qq m (2-b-p) zd zd;refine aa.enc func273 rfl (λlv=>bT lv _ _ _) λ_=>aah ?_;refine aac λK hK=>?_;refine aaT mixed zt rfl ?_;simp;refine ag.p 2 9 bb ?_;simp[w1,w2];refine ag.p 2 9 tw ?_;simp[ai];refine⟨zt,?_⟩;apply hK;exact aal (aF.ref (k:=1) rfl zp zp rfl)
theorem Fm(m:Int)(e p:Int)(hf:iV e p=0):aa prog (GG m) 289 [fA e p] (bQ (aH 1 (1-bX e))):=by
 obtain⟨h1,h2,h3,h4,_⟩:=lu hf;obtain⟨b1,b2⟩:=tN hf;have bb:=xb (GG m) e p h1 h2;generalize bX e=b at*
 have w1:=bP (n:=1-b) zd zd;have tw:=qq m (1-b) zd zd;refine aa.enc func289 rfl (λlv=>bT lv _ _ _) λ_=>aah ?_;refine aaF λK hK=>?_;simp;refine ag.p 2 9 bb ?_;simp[w1];refine ag.p 2 9 tw ?_;simp[ai];apply hK;exact aal (aF.ref (k:=1) rfl zp zp rfl)
theorem Bu(m:Int)(e p:Int)(hf:iV e p=0):aa prog (GG m) 271 [fA e p] (bQ (gY p (bX e))):=by
 obtain⟨h1,h2,h3,h4,_⟩:=lu hf;obtain⟨b1,b2⟩:=tN hf;have bb:=xb (GG m) e p h1 h2;have tw:=qq m p zd zd;have i1:=sE m;have sb:=Fy (GG m) (aH 1 p) 1 (au (cZ (ki 1 zr) p) zd) (ki _ zr);have sg:=ue p zd zd;have sh:=iD (GG m) (aH 1 p-1) (bX e-p+1) (au sg zr) zd zd;have hgr:aH (aH 1 p-1) (bX e-p+1)=gY p (bX e):=rfl;rw[hgr]at sh;generalize gY p (bX e)=g at*
 generalize aH 1 p-1=g1 at*
 generalize aH 1 p=g2 at*
 generalize bX e=b at*
 have w1:=bP (n:=b-p) zd zd;have w2:=bP (n:=b-p+1) zd zd;refine aa.enc func271 rfl (λlv=>bT lv _ _ _) λ_=>aah ?_;refine aaF λK hK=>?_;simp;refine ag.p 2 9 tw ?_;simp;refine ag.p 2 9 i1 ?_;simp;refine ag.p 2 9 sb ?_;simp[ai];apply hK;refine aac λK hK=>?_;refine aaT mixed zt rfl ?_;simp;refine ag.p 3 9 bb ?_;simp[w1,w2];refine ag.p 3 9 sh ?_;simp[ai];refine⟨zt,?_⟩;apply hK;exact aal (aF.ref (k:=1) rfl zp zp rfl)
theorem Ic(m:Int)(e p:Int)(hf:iV e p=0)(x:Rat)(hx:bF x 300):aa prog (GG m) 272 [fA e p,bQ x] (.c (.d (.bool (decide (bS (jq x) (aH 1 (1-bX e))<0))))):=by
 obtain⟨b1,b2⟩:=tN hf;have ab:=m5 (GG m) x;have nm:=Fm m e p hf;have cm:=fS (GG m) (jq x) (aH 1 (1-bX e)) (y8 (au hx zr)) (au (cZ (ki 1 zr) _) zd);generalize aH 1 (1-bX e)=g at*
 refine aa.en func272 rfl λ_=>aah ?_;refine aac λK hK=>?_;refine aaT mixed zt rfl ?_;simp;refine ag.p 2 9 ab ?_;simp;refine ag.p 2 9 nm ?_;simp;refine ag.p 2 9 cm ?_;simp;refine⟨zt,?_⟩;apply hK;exact aaq (aD.rt (t:=4) rfl 9 zp)
theorem F6(m:Int)(e p:Int)(hf:iV e p=0)(x:Rat)(hx:bF x 300):aa prog (GG m) 246 [fA e p,bQ x] (.c (.d (.bool (decide (0<bS (jq x) (gY p (bX e))))))):=by
 obtain⟨h1,h2,h3,h4,_⟩:=lu hf;obtain⟨b1,b2⟩:=tN hf;have ab:=m5 (GG m) x;have nm:=Bu m e p hf;have cm:=fS (GG m) (jq x) (gY p (bX e)) (y8 (au hx zr)) (au (CK p (bX e) zd zd zd zd) zd);generalize gY p (bX e)=g at*
 refine aa.en func246 rfl λ_=>aah ?_;refine aac λK hK=>?_;refine aaT mixed zt rfl ?_;simp;refine ag.p 2 9 ab ?_;simp;refine ag.p 2 9 nm ?_;simp;refine ag.p 2 9 cm ?_;simp;refine⟨zt,?_⟩;apply hK;exact aaq (aD.rt (t:=4) rfl 9 zp)
def mg(e p:Int)(x:Rat):Int:=if bS (jq x) (aH 1 (1-bX e))<0 then 2-bX e-p else dm x-p+1
theorem FQ(h:x.num=0)(k:Int):bS (jq x) (aH 1 k)<0:=by
 rw[tV];have:x.num.natAbs=0:=zd
 rw[this,Nat.zero_mul];exact adJ x.den_pos (adR zr)
theorem L4(hf:iV e p=0)(hx:bF x 300):-15000<=mg e p x/\mg e p x<=15000:=by
 obtain⟨h1,h2,h3,h4,_⟩:=lu hf;obtain⟨b1,b2⟩:=tN hf;unfold mg;split
 ·omega
 ·rename_i h
  have hx0:x≠0:=λe=>h (FQ (Rat.num_eq_zero.2 e) _)
  have:=jv hx0 hx;omega
theorem Lq(m:Int)(e p:Int)(hf:iV e p=0)(x:Rat)(hx:bF x 300):aa prog (GG m) 248 [fA e p,bQ x] (bQ (aH 1 (mg e p x))):=by
 obtain⟨h1,h2,h3,h4,_⟩:=lu hf;obtain⟨b1,b2⟩:=tN hf;have bl:=Ic m e p hf x hx;have ls:=Ir m e p hf
 by_cases hb:bS (jq x) (aH 1 (1-bX e))<0
 ·have hs:mg e p x=2-bX e-p:=if_pos hb;rw[hs];generalize aH 1 (2-bX e-p)=g at*
  refine aa.enc func248 rfl (λlv=>bT lv _ _ _) λ_=>aah ?_;refine aac λK hK=>abx 3 bl hb ?_;refine aaE (abx 3 ls @ai.eq_1 ?_);exact aal (aF.ref (k:=2) rfl zp zp rfl)
 ·have hs:mg e p x=dm x-p+1:=if_neg hb;have hx0:x.num≠0:=λh=>hb (FQ h _)
  have hl:=jv (λe=>hx0 (Rat.num_eq_zero.2 e)) hx;have lg:=AN m x hx0 (au hx zr);have tw:=qq m (dm x-p+1) zd zd;have w1:=bP (n:=dm x-p) zd zd;have w2:=bP (n:=dm x-p+1) zd zd;rw[hs];generalize aH 1 (dm x-p+1)=g at*
  generalize dm x=l at*
  refine aa.enc func248 rfl (λlv=>bT lv _ _ _) λ_=>aah ?_;refine aac λK hK=>abx 3 bl hb ?_;refine aax (aan (hK _ _ (aac λK hK=>?_)));refine aaT mixed zt rfl ?_;simp;refine ag.p 3 9 lg ?_;simp[w1,w2];refine ag.p 3 9 tw ?_;simp[ai];refine⟨zt,?_⟩;apply hK;exact aal (aF.ref (k:=2) rfl zp zp rfl)
theorem QT(x:Rat)(k:Int):mkRat (ei (decide (x.num<0)) (x.num.natAbs*(aH 1 k).den)) (x.den*(aH 1 k).num.natAbs)=aH x (-k):=by
 obtain⟨b1,b2⟩:=wG k;have e2:(((2^(max k 0).toNat:Nat)):Int).natAbs=2^(max k 0).toNat:=Int.natAbs_natCast _;rw[b1,b2,e2]
 by_cases hk:-k<0
 ·rw[jE hk,show(max (-k) 0).toNat=0 by omega,show(max k 0).toNat=(- -k).toNat by omega,afK,aeu]
 ·rw[jK hk,show(max (-k) 0).toNat=(-k).toNat by omega,show(max k 0).toNat=0 by omega,afK,aeu]
theorem Mn(G:List (List DV))(x:Rat)(k:Int)(hx:bF x 300)(h1:-15000<=k)(h2:k<=15000):aa prog G 247 [bQ x,bQ (aH 1 k)] (bQ (aH x (-k))):=by
 have q:=PX G x (aH 1 k) (au hx zr) (au (cZ (ki 1 zr) k) zd) (by rw[(wG k).1];exact Int.natCast_pos.2 (adR zr));rw[QT]at q;generalize aH 1 k=y at*
 generalize aH x (-k)=z at*
 refine aa.enc func247 rfl (λlv=>bT lv _ _ _) λ_=>aah ?_;refine abx 3 q @ai.eq_1 ?_;refine aaN @ai.eq_1 ?_;exact aal (aF.ref (k:=2) rfl zp zp rfl)
end Go.Am
namespace Go.Am
open Go.Am.Ty Go.Proofs N
variable {n d:Nat}{k op:Int}{x:Rat}
def HI(n d:Nat)(k:Int):Prop:=n*2^(max (-k) 0).toNat<d*2^(max k 0).toNat
theorem OT(h:HI n d k):HI n d (k+1):=by
 unfold HI at*
 by_cases hk:0<=k
 ·obtain⟨j,hj⟩:∃j:Nat,k=j:=⟨k.toNat,zd⟩
  subst hj;rw[show(max (-(j:Int)) 0).toNat=0 by omega,show(max (j:Int) 0).toNat=j by omega]at h;rw[show(max (-((j:Int)+1)) 0).toNat=0 by omega,show(max ((j:Int)+1) 0).toNat=j+1 by omega,adk,<-adQ];omega
 ·obtain⟨j,hj⟩:∃j:Nat,k = -((j:Int)+1):=⟨(-k-1).toNat,zd⟩
  subst hj;rw[show(max (-(-((j:Int)+1))) 0).toNat=j+1 by omega,show(max (-((j:Int)+1)) 0).toNat=0 by omega,adk,<-adQ]at h
  grind
theorem Kr{n d:Nat}{k:Int}(h:HI n d k):∀j:Nat,HI n d (k+j)
 |0=>by grind
 |j+1=>by
  have:=OT (Kr h j)
  grind
theorem uy{l:Int}(h:HI n d k)(hl:k<=l):HI n d l:=by
 have:=Kr h (l-k).toNat
 grind
theorem RG(hd:d≠0):HI n d ((bk n:Int)-bk d+1):=by
 have h1:=mE n;have h2:=iY hd;have h3:1<=bk d:=by unfold bk;rw[if_neg hd];omega
 unfold HI;generalize bk n=a at*
 generalize bk d=b at*
 by_cases hk:b<=a+1
 ·rw[show(max (-((a:Int)-b+1)) 0).toNat=0 by omega,show(max ((a:Int)-b+1) 0).toNat=a+1-b by omega,afK,aeu];have h4:2^(b-1)*2^(a+1-b)<=d*2^(a+1-b):=adh _ h2;rw[<-aee,show b-1+(a+1-b)=a by omega]at h4;omega
 ·rw[show(max (-((a:Int)-b+1)) 0).toNat=b-a-1 by omega,show(max ((a:Int)-b+1) 0).toNat=0 by omega,afK,aeu];have h4:n*2^(b-a-1)<2^a*2^(b-a-1):=agK h1 (adR zr);rw[<-aee,show a+(b-a-1)=b-1 by omega]at h4;omega
theorem Rw(hn:n≠0):¬HI n d ((bk n:Int)-bk d-1):=by
 have h1:=mE d;have h2:=iY hn;have h3:1<=bk n:=by unfold bk;rw[if_neg hn];omega
 unfold HI;generalize bk n=a at*
 generalize bk d=b at*
 rw[Nat.not_lt]
 by_cases hk:b+1<=a
 ·rw[show(max (-((a:Int)-b-1)) 0).toNat=0 by omega,show(max ((a:Int)-b-1) 0).toNat=a-b-1 by omega,afK,aeu];have h4:d*2^(a-b-1)<=2^b*2^(a-b-1):=adh _ (aeV h1);rw[<-aee,show b+(a-b-1)=a-1 by omega]at h4;omega
 ·rw[show(max (-((a:Int)-b-1)) 0).toNat=b+1-a by omega,show(max ((a:Int)-b-1) 0).toNat=0 by omega,afK,aeu];have h4:2^(a-1)*2^(b+1-a)<=n*2^(b+1-a):=adh _ h2;rw[<-aee,show a-1+(b+1-a)=b by omega]at h4;omega
theorem Sh(hx:x.num≠0)(k:Int):bS (jq x) (aH 1 k)<0↔dm x<k:=by
 rw[tV];show HI x.num.natAbs x.den k↔_;have ht:=RG (n:=x.num.natAbs) x.den_nz;have hb:=Rw (n:=x.num.natAbs) (d:=x.den) zd
 have hl:(HI x.num.natAbs x.den ((bk x.num.natAbs:Int)-bk x.den)/\dm x=(bk x.num.natAbs:Int)-bk x.den-1)\/(¬HI x.num.natAbs x.den ((bk x.num.natAbs:Int)-bk x.den)/\dm x=(bk x.num.natAbs:Int)-bk x.den):=by
  unfold dm
  by_cases h:HI x.num.natAbs x.den ((bk x.num.natAbs:Int)-bk x.den)
  ·exact .inl ⟨h,if_pos h⟩
  ·exact .inr ⟨h,if_neg h⟩
 generalize (bk x.num.natAbs:Int)-bk x.den=q at*
 rcases hl with⟨h1,h2⟩|⟨h1,h2⟩<;>rw[h2]
 ·constructor
  ·intro h;apply ad0;intro hn;exact hb (uy h zd)
  ·intro h;exact uy h1 zd
 ·constructor
  ·intro h;apply ad0;intro hn;exact h1 (uy h zd)
  ·intro h;exact uy ht zd
theorem L1(h:0<=x.num)(k:Int):0<=(aH x k).num:=by
 have hd:decide (x.num<0)=false:=decide_eq_false zd
 by_cases hk:k<0
 ·rw[jE hk,hd,(jY false (tF x _)).1];exact afo _
 ·rw[jK hk,hd,(jY false x.den_nz).1];exact afo _
theorem NF(p b:Int)(hp:0<=p):0<=(gY p b).num:=by
 refine L1 ?_ _;rw[afO,afs]
 have h1:¬aH 1 p<1:=by
  rw[IX];obtain⟨b1,b2⟩:=wG p;rw[b1,b2];have e2:(((2^(max p 0).toNat:Nat)):Int).natAbs=2^(max p 0).toNat:=Int.natAbs_natCast _;have e4:decide ((((2^(max p 0).toNat:Nat)):Int)<0)=false:=decide_eq_false (Int.not_lt.2 (afo _));rw[e2,e4,show(max (-p) 0).toNat=0 by omega];show ¬((2^(max p 0).toNat*1:Nat):Int)<((1*2^0:Nat):Int)
  have:=adR (a:=2) (n:=(max p 0).toNat) zr;omega
 grind
theorem has_eq{e p:Int}(hf:iV e p=0)(x:Rat):hasB e p x=(decide (¬0<bS (jq x) (gY p (bX e)))&&decide ((aH x (-(mg e p x))).den=1)):=by
 obtain⟨h1,h2,h3,h4,_⟩:=lu hf;unfold hasB;rw[decide_eq_true hf,Bool.true_and]
 by_cases hx:x=0
 ·subst hx
  have e1:aH 0 (-(mg e p 0))=0:=by
   by_cases hk:-(mg e p 0)<0
   ·rw[jE hk];exact Rat.zero_mkRat _
   ·rw[jK hk,show(0:Rat).num.natAbs*2^(-(mg e p 0)).toNat=0 from Nat.zero_mul _];rfl
  have e2:¬0<bS (jq 0) (gY p (bX e)):=by
   have hg:=NF p (bX e) zd;have:jq 0=0:=by unfold jq;rw[if_neg zr]
   rw[this];intro h;unfold bS at h;have h5:¬gY p (bX e)<0:=Rat.not_lt.2 (Rat.num_nonneg.1 hg);rw[if_neg h5]at h;split at h<;>omega
  simp_all
 ·have hx0:x.num≠0:=λh=>hx (Rat.num_eq_zero.1 h)
  have hs:mg e p x=lE p (bX e) (dm x):=by
   unfold mg lE;have:=Sh hx0 (1-bX e)
   by_cases hb:bS (jq x) (aH 1 (1-bX e))<0
   ·omega
   ·omega
  grind
theorem G1(m:Int)(e p:Int)(x:Rat)(hx:bF x 300):aa prog (GG m) 202 [fA e p,bQ x] (.c (.d (.bool (hasB e p x)))):=by
 have ck:=xL (GG m) e p
 by_cases hf:iV e p=0
 rotate_left
 ·have hh:hasB e p x=false:=by unfold hasB;rw[decide_eq_false hf];rfl
  rw[hh];refine aa.en func202 rfl λ_=>aah ?_;refine aac λK hK=>?_;refine aaT mixed zt rfl ?_;simp;refine ag.p 2 9 ck ?_;simp[hf];refine⟨zt,?_⟩;apply hK;exact aaq (aD.rt (t:=4) rfl 9 zp)
 have by':=F6 m e p hf x hx;have st:=Lq m e p hf x hx;have sr:=L4 hf hx;have ov:=Mn (GG m) x (mg e p x) hx zd zd;have ii:=Bq (GG m) (aH x (-(mg e p x)));rw[has_eq hf];generalize aH 1 (mg e p x)=y at*
 generalize aH x (-(mg e p x))=z at*
 generalize bS (jq x) (gY p (bX e))=c at*
 by_cases hc:0<c
 ·refine aa.en func202 rfl λ_=>aah ?_;refine aac λK hK=>?_;refine aaT mixed zt rfl ?_;simp;refine ag.p 2 9 ck ?_;simp[hf];refine ag.p 2 9 by' ?_;simp[hc];refine⟨zt,?_⟩;apply hK;exact aaq (aD.rt (t:=4) rfl 9 il)
 ·refine aa.en func202 rfl λ_=>aah ?_;refine aac λK hK=>?_;refine aaT mixed zt rfl ?_;simp;refine ag.p 2 9 ck ?_;simp[hf];refine ag.p 2 9 by' ?_;simp[hc];refine ag.p 2 9 st ?_;simp;refine ag.p 2 9 ov ?_;simp;refine ag.p 2 9 ii ?_;simp;refine⟨zt,?_⟩;apply hK;exact aaq (aD.rt (t:=4) rfl 9 il)
theorem pE(G:List (List DV))(n m:Int):aa prog G 160 [.c (.d (.int .i64 n)),.c (.d (.int .i64 m))] (.c (.d (.bool (decide (0<=n/\n<m))))):=by
 refine aa.en func160 rfl λ_=>aah ?_;refine aac λK hK=>?_
 by_cases h:0<=n
 ·refine aby h (hK _ _ ?_);exact aaq (aD.rt rfl 4 pi)
 ·refine aby h (hK _ _ ?_);exact aaq (aD.rt rfl 4 pi)
theorem wZ(G:List (List DV))(p:PD)(i:Int):aa prog G 161 [p.A,.c (.d (.int .i64 i))] (.c (.d (.int .i64 (ot p i)))):=by
 refine aa.en func161 rfl λ_=>aah ?_;refine aac λK hK=>aah ?_
 by_cases h:i<p.head
 ·refine aaB yk (aah ?_);exact aaq (aD.rt rfl 4 (by simp[ot,h]))
 ·refine aaD yk (aan (hK _ _ (aac λK hK=>aah ?_)))
  by_cases h2:i<p.tail
  ·refine aaB yk (aah ?_);exact aaq (aD.rt rfl 4 gl)
  ·refine aaD yk (aan (hK _ _ (aah ?_)));exact aaq (aD.rt rfl 4 gl)
theorem KR(G:List (List DV))(p:PD)(i k:Int):aa prog G 204 [p.A,.c (.d (.int .i64 i)),.c (.d (.int .i64 k))] (.c (.d (.bool (fM p i k)))):=by
 have c1:=wZ G p k;have c2:=wZ G p i
 by_cases h1:0<=k
 rotate_left
 ·refine aa.en func204 rfl λ_=>aah ?_;refine AW.d1 mixed h1 ?_;exact aaq (aD.rt rfl 6 (by simp[fM,h1]))
 by_cases h2:k<i
 rotate_left
 ·refine aa.en func204 rfl λ_=>aah ?_;refine AW.d2 mixed h1 h2 ?_;exact aaq (aD.rt rfl 6 (by simp[fM,h1,h2]))
 by_cases h3:ot p k=0
 ·rw[h3]at c1;refine aa.en func204 rfl λ_=>aah ?_;refine aac λK hK=>?_;refine aaT mixed zt rfl ?_;simp[h1,h2];refine ag.p 3 9 c1 ?_;simp;refine⟨zt,?_⟩;apply hK;exact aaq (aD.rt rfl 6 (by simp[fM,h1,h2,h3]))
 ·refine aa.en func204 rfl λ_=>aah ?_;refine aac λK hK=>?_;refine aaT mixed zt rfl ?_;simp[h1,h2];refine ag.p 3 9 c1 ?_;simp[h3];refine ag.p 3 9 c1 ?_;simp;refine ag.p 3 9 c2 ?_;simp;refine⟨zt,?_⟩;apply hK;exact aaq (aD.rt rfl 6 (by simp[fM,h1,h2,h3]))
def gV(op:Int):Int:=if 1<=op/\op<=15 then cH op else -1
theorem Ru(h1:1<=op)(h2:op<=15):gV op=if op<=3 then 0 else if op<=7 then 1 else if op<=13 then 2 else if op=14 then 3 else 4:=by
 unfold gV cH;grind
theorem tW(G:List (List DV))(op:Int):aa prog G 119 [.c (.d (.int .i64 op))] (.c (.d (.int .i64 (gV op)))):=by
 by_cases h1:op<1
 ·have hr:gV op = -1:=if_neg zd;refine aa.en func119 rfl λ_=>aah ?_;refine aac λK hK=>aaw (aaN h1 ?_)
  refine aaE (aah ?_);exact aaq (aD.rt rfl 2 xf)
 by_cases h2:15<op
 ·have hr:gV op = -1:=if_neg zd;refine aa.en func119 rfl λ_=>aah ?_;refine aac λK hK=>aaw (abk h1 h2 ?_)
  refine aaE (aah ?_);exact aaq (aD.rt rfl 2 xf)
 have hv:=Ru (op:=op) zd zd;refine aa.en func119 rfl λ_=>aah ?_;refine aac λK hK=>aaw (abk h1 h2 ?_)
 refine aax ?_;refine aah ?_
 by_cases h3:op<=3
 ·have hr:gV op=0:=by rw[hv];rw[if_pos h3]
  refine aaB yk (aah ?_);exact aaq (aD.rt rfl 2 xf)
 refine aaD yk (aah ?_)
 by_cases h4:op<=7
 ·have hr:gV op=1:=by rw[hv];rw[if_neg h3];rw[if_pos h4]
  refine aaB yk (aah ?_);exact aaq (aD.rt rfl 2 xf)
 refine aaD yk (aah ?_)
 by_cases h5:op<=13
 ·have hr:gV op=2:=by rw[hv];rw[if_neg h3];rw[if_neg h4];rw[if_pos h5]
  refine aaB yk (aah ?_);exact aaq (aD.rt rfl 2 xf)
 refine aaD yk (aah ?_)
 by_cases h6:op=14
 ·have hr:gV op=3:=by rw[hv];rw[if_neg h3];rw[if_neg h4];rw[if_neg h5];rw[if_pos h6]
  refine aaB yk (aah ?_);exact aaq (aD.rt rfl 2 xf)
 refine aaD yk (aan (hK _ _ (aah ?_)));have hr:gV op=4:=by rw[hv,if_neg h3,if_neg h4,if_neg h5,if_neg h6]
 exact aaq (aD.rt rfl 2 xf)
abbrev l4A(n:Nd):AV:=.agg [.d (.int .i64 n.a),.d (.int .i64 n.b),.d (.int .i64 n.c),.d (.int .i64 n.d)]
theorem Qx(lv:Key->LB)(n:Nd):gq lv (l4A n)=some (l4A n,[]):=rfl
theorem xE(G:List (List DV))(n:Nd):aa prog G 118 [n.A] (l4A n):=by
 refine aa.enc func118 rfl (λlv=>Qx lv n) λ_=>aah ?_;refine abk @b85 @ai.eq_1 ?_;refine aal ?_;rfl
def zN(l:List Int):Option (List Int):=if l=[]then none else some l
theorem vh(l:List Int):zL (zN l)=l:=by unfold zN;split<;>simp_all [zL]
theorem QL(n:Nd)(i:Nat):((i:Int)<gV n.op)↔i<(aP n).length:=by
 unfold gV aP;have:=lF n.op;split
 ·rw[acM,Nd.qV];omega
 simp
theorem Ri(n:Nd){i:Nat}(h:i<(aP n).length):∃h4:i<n.l4.length,(aP n).take (i+1)=(aP n).take i++[n.l4[i]]:=by
 have h0:aP n=n.l4.take (cH n.op):=by
  unfold aP at h⊢;split
  ·rfl
  ·grind
 have h4:i<n.l4.length:=by rw[h0,acM]at h;omega
 refine⟨h4,?_⟩;rw[afi,fy h]
 grind
theorem GM(l:List Int)(g:Key->Key):(LB.cells true false 147 (zK l)).like (.cells true false 147 (zK l)) g:=by
 rw[Db];simp
abbrev bN(n:Nd):LB:=.cells true false 85 [.d (.int .i64 n.op),.d (.int .i64 n.a),.d (.int .i64 n.b),.d (.int .i64 n.c),.d (.int .i64 n.d),.d (.int .i64 n.f),.d (.str n.v)]
theorem RE{lv:Key->LB}{k:Key}{l:List Int}(hl:l.length<=1000)(h:lv k=zB l):∃ks,gq lv (Ts k l)=some (.c (zC (zN l)),ks):=by
 unfold Ts zN
 by_cases hn:l=[]
 ·rw[if_pos hn,if_pos hn];exact⟨[],rfl⟩
 ·rw[if_neg hn,if_neg hn];refine⟨[k],RZ (by rw[h];exact if_neg hn) hl⟩
theorem wC(G:List (List DV))(n:Nd):aa prog G 58 [n.A] (.c (zC (zN (aP n)))):=by
 have hf:=xE G n;have ha:=tW G n.op;have hka:=QL n;have hkl:=oN n;have hzk:[CV.d (.int .i64 n.a),.d (.int .i64 n.b),.d (.int .i64 n.c),.d (.int .i64 n.d)]=zK n.l4:=rfl;refine aa.ed func58 rfl λ_=>aah ?_;refine aaF λK hK=>?_;simp;refine ag.p 1 9 hf ?_;simp;simp[ai];apply hK;refine aah ?_;refine aac λK hK=>aah ?_;refine aaw ?_
 refine aaY (λ(i:Nat)=>⟨aT [(1,.c (.ptr 0 0)),(3,.c (.ptr 1 0)),(4,Ts 2 ((aP n).take i)),(5,.c (.d (.int .i64 i)))],aM (aM (aM (λ_=>.hole) 0 (bN n)) 1 (.cells true false 147 (zK n.l4))) 2 (zB ((aP n).take i))⟩) 10
  (λi=>i<=(aP n).length) (λi=>(aP n).length-i) 0 (Le.fJ _ (by rw[List.take_zero];exact(PY (k:=2) rfl).symm) (by simp[Ts])) (ab5 _) ?_
 rintro i hi
 try simp only at hi
 refine aac λK3 hK3=>abi 3 ha ?_
 by_cases hlt:i<(aP n).length
 ·have hlt':(i:Int)<gV n.op:=(hka i).2 hlt;obtain⟨h4,hnx⟩:=Ri n hlt;have hld:=EK (P:=prog) (T:=3) zp h4;have hbs:∀(lv:Key->LB) (h:lv 10=.hole) (a:CV),aB prog 92 1 [0] lv 10 [.c a]=some (.c (.aO 10 0 1 1),[(10,.cells true false 3 [a])],[],True):=λlv h a=>abm lv 10 h a
  have hle:((aP n).take i).length<=1000:=db
  have hli:((aP n).take i).length=i:=db
  have f12:=bP (n:=(i:Int)+1) zd zd;generalize (aP n).take i=l at*
  generalize n.l4[i]=x at*
  have h44:i<4:=zd
  refine aaB yk (aan (hK3 _ _ (aac λK5 hK5=>aaw ?_)));refine abP 10 ?_
  by_cases hl:l=[]
  ·subst hl;refine aai ?_;simp[hld,zB,Ts,hbs,cC,keyOf,-aB]
   repeat refine az ?_
   apply hK5;refine aai ?_;simp[f12];refine⟨i+1,Le.keys [(0,0,bN n),(1,1,.cells true false 147 (zK n.l4)),(2,11,zB ([]++[x]))] 19 _ rf rfl zp zp zp ?_ ?_,zd,zd⟩
   ·intro e he;simp only[aZ,bw,or_false]at he;rcases he with rfl|rfl|rfl
    ·simp
    ·exact GM _ _
    ·rw[Jv];exact PM [x] _
   ·rw[hnx,J3];simp[aV]
  ·have hzb:zB l=.cells true false 3 (zK l):=if_neg hl;have hzs:Ts 2 l=.c (.aO 2 0 l.length 1):=if_neg hl;have hzl:(zK l).length=l.length:=Qe l;refine aai ?_;simp[hld,hzb,hzs,hbs,cC,keyOf,hzl,-aB]
   repeat refine az ?_
   apply hK5;refine aai ?_;simp[f12];refine⟨i+1,Le.keys [(0,0,bN n),(1,1,.cells true false 147 (zK n.l4)),(2,11,zB (l++[x]))] 19 _ rf rfl zp zp zp ?_ ?_,zd,zd⟩
   ·intro e he;simp only[aZ,bw,or_false]at he;rcases he with rfl|rfl|rfl
    ·simp
    ·exact GM _ _
    ·rw[Jv,show zK l++[CV.d (.int .i64 x)]=zK (l++[x]) by simp[zK]];exact PM (l++[x]) _
   ·rw[hnx,J3];simp[aV]
 have hlt':¬(i:Int)<gV n.op:=λh=>hlt ((hka i).1 h)
 refine aaD yk (aaR ?_);simp;have hie:i=(aP n).length:=zd
 subst hie;rw[afQ];apply hK;refine aah ?_;obtain⟨ks,hd⟩:=RE (k:=2) (lv:=aM (aM (aM (λ_=>.hole) 0 (bN n)) 1 (.cells true false 147 (zK n.l4))) 2 (zB (aP n))) (l:=aP n) zd zp;exact aal (κ:=0) (cq.tmp (κ:=0) (ks:=ks) rfl zp hd)
theorem S9(h1:1<=op)(h2:op<=15):(kO op:Int)=if op=1\/op=2 then 1 else gV op:=by
 unfold kO gV
 grind
theorem Eo(G:List (List DV))(n:Nd)(h1:1<=n.op)(h2:n.op<=15):aa prog G 203 [n.A] (.c (.d (.bool (!oM n)))):=by
 have hf:=xE G n;have ha:=tW G n.op;have hle:=FL n.op;have hu:=S9 h1 h2;have hib:oM n=((n.l4.drop (kO n.op)).all (λx=>decide (x=0))&&(decide (n.v=[]) ||decide (n.op=3))):=rfl;generalize kO n.op=u at*
 refine aa.en func203 rfl λ_=>aah ?_;refine abi 1 ha ?_;refine aac λK hK=>?_
 have tail:∀(fr:Nat->AV) (κ:Nat),fr 1=.c (.ptr 0 0)->fr 3=.c (.d (.int .i64 u))->K ⟨fr,aM (λ_=>.hole) 0 (bN n)⟩ κ:=by
  intro fr κ z1 z3;apply hK;refine abP 1 ?_;refine aaF λK2 hK2=>?_;simp[z1];refine ag.p 1 9 hf ?_;simp;simp[ai];apply hK2;refine aac λK2 hK2=>abk z1 z3 ?_;refine aaw ?_
  refine aaY (λ(i:Nat)=>⟨aT [(1,.c (.ptr 0 0)),(4,.c (.ptr 1 0)),(5,.c (.d (.int .i64 i)))],aM (aM (λ_=>.hole) 0 (bN n)) 1 (.cells true false 147 (zK n.l4))⟩) 10
   (λi=>u<=i/\i<=4/\∀j (hj:u<=j) (hj2:j<i) (h:j<n.l4.length),n.l4[j]=0) (λi=>4-i) u (Le.fJ _ rfl sk) ⟨bf _,hle,λj a b=>absurd b zd⟩ ?_
  rintro i ⟨hi0,hi,hall⟩
  try simp only at hi0 hi hall
  refine aac λK3 hK3=>aah ?_
  by_cases hlt:i<4
  ·have h4:i<n.l4.length:=hlt;have hld:=EK (P:=prog) (T:=3) zp h4;have f12:=bP (n:=(i:Int)+1) zd zd;refine aaB xv (aan (hK3 _ _ (aac λK5 hK5=>aaw (abN hld hlt @Ye ?_))))
   by_cases h0:n.l4[i]=0
   ·refine aaD yk (aan (hK5 _ _ (aai ?_)));simp[f12];refine⟨i+1,Le.fJ _,⟨zd,zd,λj a b h=>?_⟩,zd⟩
    grind
   ·have hb:oM n=false:=by
     rw[hib]
     have:(n.l4.drop u).all (λx=>decide (x=0))=false:=by
      rw[af2];refine⟨n.l4[i],?_,yn⟩;rw[List.mem_iff_getElem];exact⟨i-u,yn,yn⟩
     rw[this];rfl
    refine aaB yk (aah ?_);exact aaq (aD.rt rfl 2 se)
  ·have hall2:(n.l4.drop u).all (λx=>decide (x=0))=true:=by
    rw[adG];intro x hx;obtain⟨j,hj,rfl⟩:=List.mem_iff_getElem.1 hx;rw[afl,Nd.qV]at hj;have:=hall (u+j) zd zd yn;simpa using this
   have hi2:oM n=(decide (n.v=[]) ||decide (n.op=3)):=by rw[hib,hall2];rfl
   refine aaD xv (aaR (hK2 _ _ (aac λK5 hK5=>?_)))
   by_cases h3:n.op=3
   ·have t3:(n.op=3)=True:=eq_true h3;refine aby t3 (hK5 _ _ ?_);exact aaq (aD.rt rfl 2 yk)
   ·refine abG h3 @D7 (hK5 _ _ ?_);exact aaq (aD.rt rfl 2 yk)
 refine aac λK1 hK1=>?_
 by_cases c1:n.op=1
 ·have hu1:u=1:=by rw[if_pos (.inl c1)]at hu;omega
  have t1:(n.op=1)=True:=eq_true c1;refine aby t1 (hK1 _ _ ?_);refine aaE (aai ?_);simp;exact tail _ _ zp (by simp[hu1])
 by_cases c2:n.op=2
 ·have hu1:u=1:=by rw[if_pos (.inr c2)]at hu;omega
  have t1:(n.op=2)=True:=eq_true c2;refine abG c1 t1 (hK1 _ _ ?_);refine aaE (aai ?_);simp;exact tail _ _ zp (by simp[hu1])
 rw[if_neg zd]at hu;refine abG c1 c2 (hK1 _ _ ?_);refine aax (aan ?_)
 simp_all
theorem IA(G:List (List DV))(p:PD):aa prog G 155 [p.A] (.c (.d (.int .i64 (gj p)))):=by
 refine aa.en func155 rfl λ_=>aah ?_;refine aaN @s8 ?_;have r0:gj p=if 6<p.nf\/6<p.ni\/64<p.nn\/4<p.ns then 3 else if p.nf=0\/p.nn=0\/p.mode<0\/4<p.mode then 2 else if p.head<0\/p.tail<p.head\/(p.nn:Int)<p.tail then 2 else if p.ns=0/\p.head≠p.nn then 2 else 0:=rfl
 refine aac λK hK=>aac λK1 hK1=>?_
 by_cases e00:6<p.nf
 ·have e00':(6:Int)<(p.nf:Int):=by omega
  have hr:gj p=3:=by rw[r0];exact if_pos (.inl e00)
  refine aai ?_;simp[CD,e00'];apply hK1;refine aaE (aah ?_);exact aaq (aD.rt rfl 2 xf)
 have e00':¬(6:Int)<(p.nf:Int):=zd
 by_cases e01:6<p.ni
 ·have e01':(6:Int)<(p.ni:Int):=by omega
  have hr:gj p=3:=by rw[r0];exact if_pos (.inr (.inl e01))
  refine aai ?_;simp[CD,MI,e00',e01'];apply hK1;refine aaE (aah ?_);exact aaq (aD.rt rfl 2 xf)
 have e01':¬(6:Int)<(p.ni:Int):=zd
 by_cases e02:64<p.nn
 ·have e02':(64:Int)<(p.nn:Int):=by omega
  have hr:gj p=3:=by rw[r0];exact if_pos (.inr (.inr (.inl e02)))
  refine aai ?_;simp[CD,MI,e00',e01',e02'];apply hK1;refine aaE (aah ?_);exact aaq (aD.rt rfl 2 xf)
 have e02':¬(64:Int)<(p.nn:Int):=zd
 by_cases e03:4<p.ns
 ·have e03':(4:Int)<(p.ns:Int):=by omega
  have hr:gj p=3:=by rw[r0];exact if_pos (.inr (.inr (.inr (e03))))
  refine aai ?_;simp[CD,MI,Qa,e00',e01',e02',e03'];apply hK1;refine aaE (aah ?_);exact aaq (aD.rt rfl 2 xf)
 have e03':¬(4:Int)<(p.ns:Int):=zd
 have r1:=r0;rw[if_neg zd]at r1;refine aai ?_;simp[CD,MI,Qa,e00',e01',e02',e03'];apply hK1;refine aax (aan (hK _ _ (aac λK hK=>aac λK1 hK1=>?_)))
 by_cases e10:p.nf=0
 ·have e10':(p.nf:Int)=0:=by omega
  have hr:gj p=2:=by rw[r1];exact if_pos (.inl e10)
  refine aai ?_;simp[CD,e10];apply hK1;refine aaE (aah ?_);exact aaq (aD.rt rfl 2 xf)
 have e10':¬(p.nf:Int)=0:=zd
 by_cases e11:p.nn=0
 ·have e11':(p.nn:Int)=0:=by omega
  have hr:gj p=2:=by rw[r1];exact if_pos (.inr (.inl e11))
  refine aai ?_;simp[CD,e10,e11];apply hK1;refine aaE (aah ?_);exact aaq (aD.rt rfl 2 xf)
 have e11':¬(p.nn:Int)=0:=zd
 by_cases e12:p.mode<0
 ·have e12':p.mode<0:=by omega
  have hr:gj p=2:=by rw[r1];exact if_pos (.inr (.inr (.inl e12)))
  refine aai ?_;simp[CD,e10,e11,e12];apply hK1;refine aaE (aah ?_);exact aaq (aD.rt rfl 2 xf)
 have e12':¬p.mode<0:=zd
 by_cases e13:4<p.mode
 ·have e13':4<p.mode:=by omega
  have hr:gj p=2:=by rw[r1];exact if_pos (.inr (.inr (.inr (e13))))
  refine aai ?_;simp[CD,e10,e11,e12,e13];apply hK1;refine aaE (aah ?_);exact aaq (aD.rt rfl 2 xf)
 have e13':¬4<p.mode:=zd
 have r2:=r1;rw[if_neg zd]at r2;refine aai ?_;simp[CD,e10,e11,e12,e13];apply hK1;refine aax (aan (hK _ _ (aac λK hK=>aac λK1 hK1=>?_)))
 by_cases e20:p.head<0
 ·have e20':p.head<0:=by omega
  have hr:gj p=2:=by rw[r2];exact if_pos (.inl e20)
  refine aai ?_;simp[e20];apply hK1;refine aaE (aah ?_);exact aaq (aD.rt rfl 2 xf)
 have e20':¬p.head<0:=zd
 by_cases e21:p.tail<p.head
 ·have e21':p.tail<p.head:=by omega
  have hr:gj p=2:=by rw[r2];exact if_pos (.inr (.inl e21))
  refine aai ?_;simp[e20,e21];apply hK1;refine aaE (aah ?_);exact aaq (aD.rt rfl 2 xf)
 have e21':¬p.tail<p.head:=zd
 by_cases e22:(p.nn:Int)<p.tail
 ·have e22':(p.nn:Int)<p.tail:=by omega
  have hr:gj p=2:=by rw[r2];exact if_pos (.inr (.inr (e22)))
  refine aai ?_;simp[e20,e21,e22];apply hK1;refine aaE (aah ?_);exact aaq (aD.rt rfl 2 xf)
 have e22':¬(p.nn:Int)<p.tail:=zd
 have r3:=r2;rw[if_neg zd]at r3
 have fin0:gj p=0->∀(fr:Nat->AV) (κ:Nat) (lv:Key->LB),lv 9=.hole->K ⟨fr,lv⟩ κ:=by
  intro hg fr κ lv h9;apply hK;refine aah ?_;exact aal (κ:=0) (aD.tmp (κ:=0) rfl 9 po rfl oi rfl)
 by_cases e3:p.ns=0
 ·have e3':(p.ns:Int)=0:=by omega
  by_cases e4:p.head<p.nn
  ·have hr:gj p=2:=by rw[r3,if_pos ⟨e3,zd⟩]
   refine aai ?_;simp[Qa,e20,e21,e22,e3,e4];apply hK1;refine aaE (aah ?_);exact aaq (aD.rt rfl 2 xf)
  ·have hr:gj p=0:=by rw[r3,if_neg (λh=>h.2 zd)]
   refine aai ?_;simp[Qa,e20,e21,e22,e3,e4];apply hK1;refine aax (aan ?_)
   simp_all
 ·have e3':¬(p.ns:Int)=0:=by omega
  have hr:gj p=0:=by rw[r3,if_neg (λh=>e3 h.1)]
  refine aai ?_;simp[Qa,e20,e21,e22,e3];apply hK1;refine aax (aan ?_)
  simp_all
abbrev In.A(x:In):AV:=.agg [.d (.int .i64 x.f),.d (.str x.lo),.d (.str x.hi)]
theorem HW(m:Int)(p:PD)(hp:p.ok)(x:In):aa prog (GG m) 157 [p.A,In.A x] (.c (.d (.int .i64 (wO p x)))):=by
 have hwf:=pE (GG m) x.f p.nf;have hP1:=k5 (GG m) x.lo;have hP2:=k5 (GG m) x.hi;have z1:=j6 x.lo;have z2:=j6 x.hi
 by_cases h1:0<=x.f/\x.f<p.nf
 rotate_left
 ·have hd:decide (0<=x.f/\x.f<(p.nf:Int))=false:=decide_eq_false h1;have hr:wO p x=7:=by unfold wO;rw[if_pos h1]
  rw[hd]at hwf;refine aa.en func157 rfl λ_=>aah ?_;refine aac λK hK=>abx 2 hwf @CD ?_;refine aaE (aah ?_);exact aaq (aD.rt (t:=4) rfl 9 xf)
 have hd:decide (0<=x.f/\x.f<(p.nf:Int))=true:=decide_eq_true h1;rw[hd]at hwf
 have r1:wO p x=if cz x.lo≠0 then cz x.lo else if cz x.hi≠0 then cz x.hi else if hasB (p.fm x.f.toNat).1 (p.fm x.f.toNat).2 (cj x.lo)=false then 7
  else if hasB (p.fm x.f.toNat).1 (p.fm x.f.toNat).2 (cj x.hi)=false then 7 else if 0<bS (cj x.lo) (cj x.hi)then 7 else 0:=by
  unfold wO;rw[if_neg (not_not_intro h1)]
 have hxf:=λlv=>ixF hp lv x.f h1.1 h1.2
 generalize p.fm x.f.toNat=fe at*
 have hb1:=G1 m fe.1 fe.2 (cj x.lo) z1;have hb2:=G1 m fe.1 fe.2 (cj x.hi) z2;have hcm:=fS (GG m) (cj x.lo) (cj x.hi) (au z1 zd) (au z2 zd);generalize cj x.lo=a at*
 generalize cj x.hi=b at*
 generalize cz x.lo=ea at*
 generalize cz x.hi=eb at*
 refine aa.en func157 rfl λ_=>aah ?_;refine aac λK hK=>abx 2 hwf @CD ?_;refine aax (aan (hK _ _ (abx 2 hP1 @ai.eq_1 ?_)));refine aac λK hK=>aah ?_
 by_cases q1:ea=0
 rotate_left
 ·have hr:wO p x=ea:=by rw[r1,if_pos q1]
  refine aaB yk (aah ?_);exact aaq (aD.rt (t:=4) rfl 9 xf)
 refine aaD yk (aan (hK _ _ (abx 3 hP2 @ai.eq_1 ?_)));refine aac λK hK=>aah ?_
 by_cases q2:eb=0
 rotate_left
 ·have hr:wO p x=eb:=by rw[r1,if_neg (not_not_intro q1),if_pos q2]
  refine aaB yk (aah ?_);exact aaq (aD.rt (t:=4) rfl 9 xf)
 have r2:wO p x=if hasB fe.1 fe.2 a=false then 7 else if hasB fe.1 fe.2 b=false then 7 else if 0<bS a b then 7 else 0:=by
  rw[r1,if_neg (not_not_intro q1),if_neg (not_not_intro q2)]
 refine aaD yk (aan (hK _ _ (abk hxf @ai.eq_1 ?_)));refine aac λK hK=>aac λK4 hK4=>?_
 cases g1:hasB fe.1 fe.2 a with
 |false=>
  have hr:wO p x=7:=by rw[r2,if_pos g1]
  rw[g1]at hb1;refine abI 5 hb1 @X6 (hK4 _ _ ?_);refine aaE (aah ?_);exact aaq (aD.rt (t:=4) rfl 9 xf)
 |true=>
 rw[g1]at hb1
 cases g2:hasB fe.1 fe.2 b with
 |false=>
  have hr:wO p x=7:=by rw[r2,g1,if_neg zr,if_pos g2]
  rw[g2]at hb2;refine aai ?_;simp;refine ag.p 5 9 hb1 ?_;simp;refine ag.p 5 9 hb2 ?_;simp;apply hK4;refine aaE (aah ?_);exact aaq (aD.rt (t:=4) rfl 9 xf)
 |true=>
 rw[g2]at hb2
 by_cases g3:0<bS a b
 ·have hr:wO p x=7:=by rw[r2,g1,if_neg zr,g2,if_neg zr,if_pos g3]
  refine aai ?_;simp;refine ag.p 5 9 hb1 ?_;simp;refine ag.p 5 9 hb2 ?_;simp;refine ag.p 5 9 hcm ?_;simp;apply hK4;refine aaB yk (aah ?_);exact aaq (aD.rt (t:=4) rfl 9 xf)
 ·have hr:wO p x=0:=by rw[r2,g1,if_neg zr,g2,if_neg zr,if_neg g3]
  refine aai ?_;simp;refine ag.p 5 9 hb1 ?_;simp;refine ag.p 5 9 hb2 ?_;simp;refine ag.p 5 9 hcm ?_;simp;apply hK4;refine aaD yk (aan (hK _ _ (aah ?_)));exact aaq (aD.rt (t:=4) rfl 9 xf)
theorem Lx(m:Int)(p:PD)(hp:p.ok)(i:Nat)(hi:i<p.nn)(hn2:p.nn<=1000):aa prog (GG m) 158 [p.A,.c (.d (.int .i64 i))] (.c (.d (.int .i64 (l6 p i (p.nd i))))):=by
 have hx:=λlv=>wI p lv hp i hi
 obtain⟨n,hn⟩:∃n,p.nd i=n:=⟨_,rfl⟩
 simp only[hn]at hx⊢;have har:=tW (GG m) n.op;have hwf:=pE (GG m) n.f p.nf;have hwa:=pE (GG m) n.a p.ni;have hws:=pE (GG m) n.a p.ns;have hsee:=λk=>KR (GG m) p i k
 have hck:=rJ (GG m) n.v;have hkd:=wC (GG m) n
 by_cases h1:1<=n.op/\n.op<=15
 rotate_left
 ·have hr:l6 p i n=2:=by unfold l6;rw[if_pos h1]
  have ha:gV n.op = -1:=if_neg h1;rw[ha]at har;refine aa.en func158 rfl λ_=>aah ?_;refine abk hx @ai.eq_1 ?_;refine aac λK hK=>abi 2 har ?_;refine aaE (aah ?_);exact aaq (aD.rt rfl 4 xf)
 have ha0:¬gV n.op<0:=by
  have:gV n.op=cH n.op:=if_pos h1;omega
 have hid:=Eo (GG m) n h1.1 h1.2;generalize gV n.op=ar at*
 cases hib:oM n with
 |false=>
  have hr:l6 p i n=2:=ph
  rw[hib]at hid;refine aa.en func158 rfl λ_=>aah ?_;refine abk hx @ai.eq_1 ?_;refine aac λK hK=>aaF λK1 hK1=>?_;simp;refine ag.p 2 9 har ?_;simp[ha0];refine ag.p 2 9 hid ?_;simp;apply hK1;refine aaE (aah ?_);exact aaq (aD.rt rfl 4 xf)
 |true=>
 rw[hib]at hid;have ib:¬oM n=false:=by rw[hib];decide
 refine aa.en func158 rfl λ_=>aah ?_;refine abk hx @ai.eq_1 ?_;refine aac λK hK=>aaF λK1 hK1=>?_;simp;refine ag.p 2 9 har ?_;simp[ha0];refine ag.p 2 9 hid ?_;simp;apply hK1;refine aax (aan (hK _ _ (aac λK hK=>aac λK1 hK1=>?_)))
 by_cases h2:0<=n.f/\n.f<p.nf
 rotate_left
 ·have hd2:decide (0<=n.f/\n.f<(p.nf:Int))=false:=decide_eq_false h2;have hr:l6 p i n=7:=by unfold l6;rw[if_neg (not_not_intro h1),if_neg ib,if_pos h2]
  rw[hd2]at hwf;refine abI 2 hwf @CD (hK1 _ _ ?_);refine aaE (aah ?_);exact aaq (aD.rt rfl 4 xf)
 have hd2:decide (0<=n.f/\n.f<(p.nf:Int))=true:=decide_eq_true h2;rw[hd2]at hwf
 have r2:l6 p i n=if n.op=1/\¬(0<=n.a/\n.a<p.ni)then 7 else if n.op=1/\(p.inp n.a.toNat).f≠n.f then 143 else if n.op=2/\((i:Int)<p.head\/¬(0<=n.a/\n.a<p.ns))then 7 else if n.op=3 then cz n.v else if (aP n).all (fM p i)then 0 else 7:=by
  unfold l6;rw[if_neg (not_not_intro h1),if_neg ib,if_neg (not_not_intro h2)]
 refine abI 2 hwf @CD (hK1 _ _ ?_);refine aax (aan (hK _ _ (aac λK hK=>?_)))
 have tail:∀(fr:Nat->AV) (κ:Nat),fr 1=.c (.d (.int .i64 i))->fr 2=.c (.ptr 0 0)->fr 5=.c (.ptr 1 0)->(l6 p i n=if (aP n).all (fM p i)then 0 else 7) ->
  K ⟨fr,aM (aM (λ_=>.hole) 0 (.cells true false 27 p.cs)) 1 (bN n)⟩ κ:=by
  intro fr κ z1 z2 z5 hr;have hkl:=oN n;have lpk:=λlv=>Un (T:=92) zp lv (zN (aP n))
  have ixk:∀lv (j:Nat) (hj:j<(aP n).length),aq prog 92 lv (.c (zC (zN (aP n)))) (.c (.d (.int .i64 (j:Int))))=some (.c (.d (.ptr [.int .i64 (aP n)[j]])),[],[],True):=by
   intro lv j hj;have:=V6 (T:=92) zp lv (zN (aP n)) (i:=j) (by rw[vh];exact hj);simp only[vh]at this;exact this
  rw[vh]at lpk;have hkz:(AV.c (zC (zN (aP n)))).pure=true:=R2 _;have hkf:(AV.c (zC (zN (aP n)))).cG=true:=Py _;generalize zC (zN (aP n))=kz at*
  generalize aP n=kl at*
  apply hK;refine aaF λK2 hK2=>?_;simp[z5];refine ag.pure 2 9 hkd hkz zp xr ?_;simp;apply hK2;refine aac λK2 hK2=>abN z1 z2 z5 ?_;refine aaw ?_
  refine aaY (λ(j:Nat)=>⟨aT [(1,.c (.d (.int .i64 i))),(2,.c (.ptr 0 0)),(6,.c kz),(7,.c (.d (.int .i64 j)))],aM (aM (λ_=>.hole) 0 (.cells true false 27 p.cs)) 1 (bN n)⟩) 10
   (λj=>j<=kl.length/\∀q,q<j->(h:q<kl.length)->fM p i kl[q]=true) (λj=>kl.length-j) 0 (Le.fJ _ rfl (by simp[z1,z2,hkf])) ⟨ab5 _,λq hq=>absurd hq zd⟩ ?_
  rintro j ⟨hj,hall⟩
  try simp only at hj hall
  refine aac λK5 hK5=>aaN lpk ?_
  by_cases hlt:j<kl.length
  ·have hlt':(j:Int)<(kl.length:Int):=by omega
   have hxk:=λlv=>ixk lv j hlt
   have hse:=hsee kl[j];have f12:=bP (n:=(j:Int)+1) zd zd;refine aaB xv (aan (hK5 _ _ (aac λK7 hK7=>aaw (aac λK8 hK8=>?_))))
   cases hs:fM p i kl[j]with
   |true=>
    rw[hs]at hse;refine aaT mixed zt rfl ?_;simp[hxk];refine ag.p 11 9 hse ?_;simp;refine⟨zt,?_⟩;apply hK8;refine aax (aan (hK7 _ _ (aai ?_)));simp[f12];refine⟨j+1,Le.fJ _,⟨zd,λq hq h=>?_⟩,zd⟩
    grind
   |false=>
    rw[hs]at hse
    have hb:l6 p i n=7:=by
     rw[hr,if_neg];rw[Bool.not_eq_true,af2];exact⟨kl[j],cn hlt,by rw[hs];decide⟩
    refine aaT mixed zt rfl ?_;simp[hxk];refine ag.p 11 9 hse ?_;simp;refine⟨zt,?_⟩;apply hK8;refine aaE (aah ?_);exact aaq (aD.rt rfl 4 se)
  ·have hlt':¬(j:Int)<(kl.length:Int):=by omega
   have hb:l6 p i n=0:=by
    rw[hr,if_pos];rw[adG];intro x hx;obtain⟨q,hq,rfl⟩:=List.mem_iff_getElem.1 hx;exact hall q zd hq
   refine aaD xv (aaR (hK2 _ _ (aah ?_)));exact aaq (aD.rt rfl 4 se)
 refine aah ?_;refine aaw ?_
 by_cases h3:n.op=1
 ·have n2:¬n.op=2:=by omega
  have n3:¬n.op=3:=zd
  have t3:(n.op=1)=True:=eq_true h3;refine aaN t3 ?_;refine aaE (aac λK2 hK2=>aac λK3 hK3=>?_)
  by_cases h4:0<=n.a/\n.a<p.ni
  rotate_left
  ·have hd4:decide (0<=n.a/\n.a<(p.ni:Int))=false:=decide_eq_false h4;have hr:l6 p i n=7:=by rw[r2,if_pos ⟨h3,h4⟩]
   rw[hd4]at hwa;refine abI 2 hwa @MI (hK3 _ _ ?_);refine aaE (aah ?_);exact aaq (aD.rt rfl 4 xf)
  have hd4:decide (0<=n.a/\n.a<(p.ni:Int))=true:=decide_eq_true h4;rw[hd4]at hwa;have hxi:=λlv=>Zz hp lv n.a h4.1 h4.2
  refine abI 2 hwa @MI (hK3 _ _ ?_);refine aax (aan (hK2 _ _ (aac λK2 hK2=>?_)))
  by_cases h5:(p.inp n.a.toNat).f=n.f
  ·have hr:l6 p i n=if (aP n).all (fM p i)then 0 else 7:=by
    rw[r2,if_neg (λh=>h.2 h4),if_neg (λh=>h.2 h5),if_neg (λh=>n2 h.1),if_neg n3]
   refine AW.el2 mixed hxi h5 (hK2 _ _ ?_);refine aax (aan ?_);simp;exact tail _ _ zp zp zp hr
  ·have hr:l6 p i n=143:=by rw[r2,if_neg (λh=>h.2 h4),if_pos ⟨h3,h5⟩]
   refine AW.el2 mixed hxi h5 (hK2 _ _ ?_);refine aaE (aah ?_);exact aaq (aD.rt rfl 4 xf)
 have r3:l6 p i n=if n.op=2/\((i:Int)<p.head\/¬(0<=n.a/\n.a<p.ns))then 7 else if n.op=3 then cz n.v else if (aP n).all (fM p i)then 0 else 7:=by
  rw[r2,if_neg (λh=>h3 h.1),if_neg (λh=>h3 h.1)]
 refine aaN h3 ?_;refine aax (aac λK2 hK2=>?_)
 by_cases h6:n.op=2
 ·have n3:¬n.op=3:=by omega
  have t6:(n.op=2)=True:=eq_true h6;refine aby t6 (hK2 _ _ ?_);refine aaE (aac λK2 hK2=>?_)
  by_cases h7:(i:Int)<p.head
  ·have hr:l6 p i n=7:=by rw[r3,if_pos ⟨h6,.inl h7⟩]
   refine aby h7 (hK2 _ _ ?_);refine aaE (aah ?_);exact aaq (aD.rt rfl 4 xf)
  by_cases h8:0<=n.a/\n.a<p.ns
  ·have hd8:decide (0<=n.a/\n.a<(p.ns:Int))=true:=decide_eq_true h8;rw[hd8]at hws
   have hr:l6 p i n=if (aP n).all (fM p i)then 0 else 7:=by
    rw[r3,if_neg (λh=>h.2.elim h7 (λh=>h h8)),if_neg n3]
   refine acp 2 hws h7 @Qa (hK2 _ _ ?_);refine aax (aan ?_);simp;exact tail _ _ zp zp zp hr
  ·have hd8:decide (0<=n.a/\n.a<(p.ns:Int))=false:=decide_eq_false h8;rw[hd8]at hws;have hr:l6 p i n=7:=by rw[r3,if_pos ⟨h6,.inr h8⟩]
   refine acp 2 hws h7 @Qa (hK2 _ _ ?_);refine aaE (aah ?_);exact aaq (aD.rt rfl 4 xf)
 have r4:l6 p i n=if n.op=3 then cz n.v else if (aP n).all (fM p i)then 0 else 7:=by
  rw[r3,if_neg (λh=>h6 h.1)]
 refine aby h6 (hK2 _ _ ?_);refine aax (aac λK2 hK2=>?_)
 by_cases h9:n.op=3
 ·have hr:l6 p i n=cz n.v:=by rw[r4,if_pos h9]
  have t9:(n.op=3)=True:=eq_true h9;rw[<-hr]at hck;refine aby t9 (hK2 _ _ ?_);refine aaE (abi 2 hck ?_);exact aaq (aD.rt rfl 4 zp)
 ·have hr:l6 p i n=if (aP n).all (fM p i)then 0 else 7:=by rw[r4,if_neg h9]
  refine aby h9 (hK2 _ _ ?_);refine aax (aan ?_)
  simp_all
theorem HV(m:Int)(p:PD)(hp:p.ok)(hg:gj p=0)(i:Nat)(hi:i<p.ns):aa prog (GG m) 159 [p.A,.c (.d (.int .i64 i))] (.c (.d (.int .i64 (zR p i (p.st i))))):=by
 obtain⟨g1,g2,g3,_,_,g4,_⟩:=eX hg;have hx:=λlv=>ixS hp lv (i:Int) zd zd
 simp only[adW]at hx;generalize p.st i=s at*
 have hw1:=pE (GG m) s.1 p.head;have hw2:=pE (GG m) s.2 p.tail
 by_cases h1:0<=s.1/\s.1<p.head
 rotate_left
 ·have hd:decide (0<=s.1/\s.1<p.head)=false:=decide_eq_false h1;have hr:zR p i s=7:=by unfold zR;rw[if_pos h1]
  rw[hd]at hw1;refine aa.en func159 rfl λ_=>aah ?_;refine abk hx @ai.eq_1 ?_;refine aac λK hK=>abi 2 hw1 ?_;refine aaE (aah ?_);exact aaq (aD.rt rfl 4 xf)
 have hd:decide (0<=s.1/\s.1<p.head)=true:=decide_eq_true h1;rw[hd]at hw1
 by_cases h2:0<=s.2/\s.2<p.tail
 rotate_left
 ·have hd2:decide (0<=s.2/\s.2<p.tail)=false:=decide_eq_false h2;have hr:zR p i s=7:=by unfold zR;rw[if_neg (not_not_intro h1),if_pos h2]
  rw[hd2]at hw2;refine aa.en func159 rfl λ_=>aah ?_;refine abk hx @ai.eq_1 ?_;refine aac λK hK=>aaF λK1 hK1=>?_;simp;refine ag.p 2 9 hw1 ?_;simp;refine ag.p 2 9 hw2 ?_;simp;apply hK1;refine aaE (aah ?_);exact aaq (aD.rt rfl 4 xf)
 have hd2:decide (0<=s.2/\s.2<p.tail)=true:=decide_eq_true h2;rw[hd2]at hw2;have x1:=λlv=>Xh hp lv s.1 h1.1 zd
 have x2:=λlv=>Xh hp lv s.2 h2.1 zd
 have hr:zR p i s=if (p.nd s.2.toNat).f≠(p.nd s.1.toNat).f then 143 else if (List.range p.nn).any (λj=>lJ i (p.nd s.1.toNat).f (p.nd j))then 143 else 0:=by
  unfold zR;rw[if_neg (not_not_intro h1),if_neg (not_not_intro h2)]
 generalize p.nd s.1.toNat=n1 at*
 generalize p.nd s.2.toNat=n2 at*
 refine aa.ML func159 rfl λ_=>aah ?_;refine abk hx @ai.eq_1 ?_;refine aac λK hK=>aaF λK1 hK1=>?_;simp;refine ag.p 2 9 hw1 ?_;simp;refine ag.p 2 9 hw2 ?_;simp;apply hK1;refine aax (aan (hK _ _ (aaN x1 ?_)));refine aac λK hK=>aac λK1 hK1=>?_
 by_cases h3:n2.f=n1.f
 rotate_left
 ·have hr2:zR p i s=143:=by rw[hr,if_pos h3]
  refine abG x2 h3 (hK1 _ _ ?_);refine aaE (aah ?_);exact aaq (aD.rt (t:=4) rfl 9 kt)
 refine abG x2 h3 (hK1 _ _ ?_);refine aax (aan (hK _ _ (aac λK hK=>aah ?_)));refine aaw ?_
 refine aaY (λ(j:Nat)=>⟨aT [(1,.c (.d (.int .i64 i))),(2,.c (.ptr 0 0)),(6,.c (.d (.int .i64 n1.f))),(7,.c (.d (.int .i64 j)))],aM (aM (λ_=>.hole) 0 (.cells true false 27 p.cs)) 1 (.cells true false 192 [.d (.int .i64 s.1),.d (.int .i64 s.2)])⟩) 2
  (λj=>j<=p.nn/\∀q,q<j->lJ i n1.f (p.nd q)=false) (λj=>p.nn-j) 0 (Le.fJ _) ⟨zd,λq hq=>absurd hq (aer q)⟩ ?_
 rintro j ⟨hj,hall⟩
 try simp only at hj hall
 refine aac λK3 hK3=>aaN @s8 ?_
 by_cases hlt:j<p.nn
 ·have hlt':(j:Int)<(p.nn:Int):=by omega
  have hxn:=λlv=>wI p lv hp j hlt
  have f12:=bP (n:=(j:Int)+1) zd zd;refine aaB xv (aan (hK3 _ _ (aac λK5 hK5=>aaw (abk hxn @ai.eq_1 ?_))));refine aac λK6 hK6=>?_;obtain⟨n,hn⟩:∃n,p.nd j=n:=⟨_,rfl⟩
  rw[hn]
  by_cases a1:n.op=2
  rotate_left
  ·have hs:lJ i n1.f (p.nd j)=false:=by rw[hn];simp[lJ,a1]
   refine aby a1 (hK6 _ _ ?_);refine aax (aan (hK5 _ _ (aai ?_)));simp[f12];refine⟨j+1,(Le.Cu [2] 9),⟨zd,λq hq=>?_⟩,zd⟩
   grind
  by_cases a2:n.a=(i:Int)
  rotate_left
  ·have hs:lJ i n1.f (p.nd j)=false:=by rw[hn];simp[lJ,a1,a2]
   refine abG a1 a2 (hK6 _ _ ?_);refine aax (aan (hK5 _ _ (aai ?_)));simp[f12];refine⟨j+1,(Le.Cu [2] 9),⟨zd,λq hq=>?_⟩,zd⟩
   grind
  by_cases a3:n.f=n1.f
  ·have hs:lJ i n1.f (p.nd j)=false:=by rw[hn];simp[lJ,a1,a2,a3]
   refine acm a1 a2 a3 (hK6 _ _ ?_);refine aax (aan (hK5 _ _ (aai ?_)));simp[f12];refine⟨j+1,(Le.Cu [2] 9),⟨zd,λq hq=>?_⟩,zd⟩
   grind
  have hs:lJ i n1.f (p.nd j)=true:=by rw[hn];simp[lJ,a1,a2,a3]
  have hr2:zR p i s=143:=by
   rw[hr,if_neg (not_not_intro h3),if_pos];exact List.any_eq_true.2 ⟨j,List.mem_range.2 hlt,hs⟩
  refine acm a1 a2 a3 (hK6 _ _ ?_);refine aaE (aah ?_);exact aaq (aD.rt (t:=4) rfl 9 kt)
 ·have hlt':¬(j:Int)<(p.nn:Int):=by omega
  have hs:(List.range p.nn).any (λj=>lJ i n1.f (p.nd j))=false:=by
   rw[List.any_eq_false];intro q hq;rw[hall q (by have:=List.mem_range.1 hq;omega)];decide
  have hr2:zR p i s=0:=by rw[hr,if_neg (not_not_intro h3),hs,if_neg zr]
  refine aaD xv (aaR (hK _ _ (aah ?_)));exact aaq (aD.rt (t:=4) rfl 9 kt)
end Go.Am
