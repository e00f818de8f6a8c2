/- Helpers. -/
import Derived.Test.YticmbkclbnjnaaaGreatDoorJn08

set_option linter.all false
set_option maxHeartbeats 8000000
set_option maxRecDepth 100000
open Go.IntKind
open Go.Proofs.Tryz
namespace Go.Am
abbrev aew:=@List.take_add_one
open Go.Am.Ty Go.Proofs N
attribute [local irreducible] cU
def yR(G:List (List DV))(x:Rat)(k:Int)(hx:kF x 10000)(h1:-20000<=k)(h2:k<=20000):aa prog G 272 [dM x,.c (.d (.int .i64 k))] (dM (aO x k)):=by
 have b1:=lE G x;have hx1:=hx.1;have hx2:=hx.2
 by_cases hk:k<0
 ·have hsh:=iU (x:=x) hk;obtain⟨j,hj⟩:∃j:Nat,(-k).toNat=j:=⟨_,rfl⟩
  rw[hj]at hsh;have w1:i64.wrap (-k)=(j:Int):=by rw[bE (by omega) (by omega)];omega
  have n1:=qx j;have pw:=A8 G j (by omega);have m1:=iK G (some (aI 1000000000 x.den)) (some (aI 1000000000 (2^j))) x.den (2^j) 10000 rfl rfl hx2 (by omega) (by decide);have l1:=gT x.den (2^j);have mk:=vv G (gb x) (decide (x.num<0)) x.num.natAbs (x.den*2^j) 20000 (kI x) (oP x) (λh=>qe (by omega)) (ad4 x.den_pos (adA (by decide))) (by omega) (by omega) (by decide);rw[<-hsh]at mk;generalize 2^j=T at*
  refine aa.enc func272 rfl (λlv=>fZ lv _ _ _) λ_=>aar ?_;refine aae λK hK=>aar ?_;refine abz (by simp_all) (aae λK1 hK1=>?_);refine acs mixed (by kernel_rfl) rfl ?_;simp;refine ag.p 2 9 b1 ?_;simp;simp[w1];refine ag.p 2 9 pw ?_;simp;refine ag.p 2 9 m1 ?_;simp;refine ag.p 2 9 mk ?_;simp[aj];refine⟨by kernel_rfl,?_⟩;apply hK1;exact acm (cU.ref (k:=1) rfl (by simp) (by simp) rfl)
 ·have hkn:k=((k.toNat:Nat):Int):=by omega
  have n1:=qx k.toNat;have pw:=A8 G k.toNat (by omega);rw[<-hkn]at pw;have m1:=iK G (kI x) (some (aI 1000000000 (2^k.toNat))) x.num.natAbs (2^k.toNat) 10000 (oP x) rfl hx1 (by omega) (by decide);have l1:=gT x.num.natAbs (2^k.toNat);have mk:=vv G (gb x) (decide (x.num<0)) (x.num.natAbs*2^k.toNat) x.den 20000 (some (aI 1000000000 (x.num.natAbs*2^k.toNat))) rfl (λh=>qe (λe=>h (by grind))) x.den_pos (by omega) (by omega) (by decide);rw[<-iS hk]at mk;generalize 2^k.toNat=T at*
  refine aa.enc func272 rfl (λlv=>fZ lv _ _ _) λ_=>aar ?_;refine aae λK hK=>aar ?_;refine abD (by simp[hk]<;>omega) (aaE (hK _ _ (aae λK hK=>?_)));refine acs mixed (by kernel_rfl) rfl ?_;simp;refine ag.p 2 9 pw ?_;simp;refine ag.p 2 9 m1 ?_;simp;refine ag.p 2 9 b1 ?_;simp;refine ag.p 2 9 mk ?_;simp[aj];refine⟨by kernel_rfl,?_⟩;apply hK;exact acm (cU.ref (k:=1) rfl (by simp) (by simp) rfl)
def pJ(m:Int)(k:Int)(h1:-20000<=k)(h2:k<=20000):aa prog (GG m) 237 [.c (.d (.int .i64 k))] (dM (aO 1 k)):=by
 have i1:=CH m;have sh:=yR (GG m) 1 k (j9 10000 (by decide)) h1 h2;refine aa.enc func237 rfl (λlv=>fZ lv _ _ _) λ_=>aar ?_;refine abU λK hK=>?_;simp;refine ag.p 1 9 i1 ?_;simp;refine ag.p 1 9 sh ?_;simp[aj];apply hK;exact acm (cU.ref (k:=0) rfl (by simp) (by simp) rfl)
def Ja{A k:Nat}:A<2^k↔bt A<=k:=by
 constructor
 ·intro h
  by_cases h0:A=0
  ·subst h0;exact ac1 _
  ·have h1:=kU h0;have:bt A-1<k:=(afG (by decide:1<2)).1 (aee h1 h);omega
 ·intro h;exact adD (tO A) (adS (by decide) h)
def Eo{A n:Nat}(h:(aI 1000000000 A).length<=n):bt A<=30*n:=by
 rw[<-Ja,aef];exact adD (sH (by decide)) (ab8 (adS (by decide) h) (aeY (by decide) _))
def Qu{A:Nat}:29*((aI 1000000000 A).length-1)<=bt A:=by
 by_cases h0:aI 1000000000 A=[]
 ·grind
 ·have h1:=Ie (bx (B:=1000000000) (by decide) A) h0;rw[bq (by decide)]at h1
  have h2:2^(29*((aI 1000000000 A).length-1))<=A:=by
   rw[aef];exact ab8 (aeY (by decide) _) h1
  by_cases h3:bt A<=29*((aI 1000000000 A).length-1)
  ·have:=Ja.2 h3;omega
  ·omega
def xd(G:List (List DV))(A:Nat)(hl:(aI 1000000000 A).length<=3000):aa prog G 275 [(nK .i64 (some (aI 1000000000 (A))))] (.c (.d (.int .i64 (bt A)))):=by
 have hlo:=Qu (A:=A);have hhi:=Eo (A:=A) (aU _);obtain⟨n,hn⟩:∃n,(aI 1000000000 A).length=n:=⟨_,rfl⟩
 have pwG:=λk (h:k<=100000)=>A8 G k h
 have cmG:∀k:Nat,aa prog G 188 [(nK .i64 (some (aI 1000000000 (A)))),.c (rC (some (aI 1000000000 (2^k))))] (.c (.d (.int .i64 (eA A (2^k))))):=λk=>by
  have:=rI G A (2^k);rw[<-gF];omega
 have hln:∀lv,dm prog 195 lv (nK .i64 (some (aI 1000000000 (A))))=some (.c (.d (.int .i64 n)),[],[],True):=λlv=>by
  simp_all
 rw[hn]at hlo hhi hl;have e1:=bE (n:=(n:Int)-1) (by omega) (by omega);have e2:=bE (n:=29*((n:Int)-1)) (by omega) (by omega);have e3:i64.wrap (30*(n:Int))=((30*n:Nat):Int):=by rw[bE (by omega) (by omega)];omega
 obtain⟨z,hz⟩:∃z:Int,29*((n:Int)-1)=z:=⟨_,rfl⟩
 rw[hz]at e2;have hmx:(if 0<z then z else 0)=((29*(n-1):Nat):Int):=by split<;>omega
 have blI:=λk=>Ja (A:=A) (k:=k)
 generalize bt A=L at*
 refine aa.en func275 rfl λ_=>aar ?_;refine abU λK hK=>?_;simp[eF,hln,e1,hz,e2,e3,hmx,-Int.natCast_mul,-OI];apply hK;refine aae λK hK=>abd ?_
 refine aco (λ(p:Nat×Nat)=>⟨aJ [(0,(nK .i64 (some (aI 1000000000 (A))))),(3,.c (.d (.int .i64 (p.1:Int)))),(4,.c (.d (.int .i64 (p.2:Int))))],λ_=>.hole⟩) 0
  (λp=>p.1<=L/\L<=p.2/\p.2<=90000) (λp=>p.2-p.1) (29*(n-1),30*n) (Le.mk' _ rfl aW (by simp)) ⟨hlo,hhi,by omega⟩ ?_
 rintro⟨lo,hi⟩ ⟨q1,q2,q3⟩;simp only at q1 q2 q3;refine aae λK2 hK2=>aar ?_
 by_cases hlh:lo<hi
 ·have u1:i64.wrap ((lo:Int)+hi)=((lo+hi:Nat):Int):=by rw[bE (by omega) (by omega)];omega
  have u3:(((lo+hi:Nat):Int)).tdiv 2=(((lo+hi)/2:Nat):Int):=n9 _ 2;obtain⟨mi,hmi⟩:∃mi,(lo+hi)/2=mi:=⟨_,rfl⟩
  rw[hmi]at u3;have u4:=bE (n:=(mi:Int)) (by omega) (by omega);have u5:=bE (n:=(mi:Int)+1) (by omega) (by omega);have pw:=pwG mi (by omega);have cm:=cmG mi;have bi:=blI mi;refine abz (by simp_all) (aaE (hK2 _ _ (abd (abU λK4 hK4=>?_))));simp[u1,u3,u4,-Int.natCast_add];apply hK4;refine aae λK4 hK4=>?_
  by_cases hc:eA A (2^mi)<0
  ·have hle:L<=mi:=bi.1 (by by_cases h:A<2^mi;exact h;exfalso;by_cases e:A=2^mi;rw[nX e]at hc;omega;rw[kW (by omega)]at hc;omega);refine aaJ ?_;simp;refine ag.p 0 9 pw ?_;simp;refine ag.p 0 9 cm ?_;simp[hc];apply hK4;refine abA (aaJ ?_);simp;exact⟨lo,mi,Le.mk' _ rfl aW (by simp),⟨q1,hle,by omega⟩,by omega⟩
  ·have hle:¬L<=mi:=λh=>hc (by rw[kf (bi.2 h)];omega)
   have e:(mi:Int)+1=((mi+1:Nat):Int):=by omega
   refine aaJ ?_;simp;refine ag.p 0 9 pw ?_;simp;refine ag.p 0 9 cm ?_;simp[hc];apply hK4;refine abg (aaJ ?_);simp[u5];exact⟨mi+1,hi,Le.mk' _ rfl aW (by simp),⟨by omega,q2,q3⟩,by omega⟩
 ·obtain rfl:lo=L:=by omega
  refine abD (by simp_all) (abX (hK _ _ (aar ?_)));exact aaV (aq.rt (t:=2) rfl 9 (by simp))
end Go.Am
namespace Go.Am
open Go.Am.Ty Go.Proofs N
attribute [local irreducible] cU
def DR(k:Int):(aO 1 k).num=((2^(max k 0).toNat:Nat):Int)/\(aO 1 k).den=2^(max (-k) 0).toNat:=by
 by_cases hk:k<0
 ·rw[iU hk];obtain⟨n1,n2⟩:=jA (decide ((1:Rat).num<0)) (a:=(1:Rat).num.natAbs) (b:=(1:Rat).den*2^(-k).toNat) (by simp);rw[n1,n2];have e1:(1:Rat).num.natAbs=1:=rfl;have e2:(1:Rat).den=1:=rfl;have e3:(max k 0).toNat=0:=by omega
  have e4:(max (-k) 0).toNat=(-k).toNat:=by omega
  rw[e1,e2,e3,e4,Nat.gcd_one_left,ad1];exact⟨rfl,aev _⟩
 ·rw[iS hk];obtain⟨n1,n2⟩:=jA (decide ((1:Rat).num<0)) (a:=(1:Rat).num.natAbs*2^k.toNat) (b:=(1:Rat).den) (by decide);rw[n1,n2];have e1:(1:Rat).num.natAbs=1:=rfl;have e2:(1:Rat).den=1:=rfl;have e3:(max k 0).toNat=k.toNat:=by omega
  have e4:(max (-k) 0).toNat=0:=by omega
  rw[e1,e2,e3,e4,aff,ad1,aev];exact⟨rfl,rfl⟩
def Sd{x y:Rat}:jc x y<0↔x<y:=by
 unfold jc
 grind
def sR(x:Rat)(k:Int):jc (iJ x) (aO 1 k)<0↔x.num.natAbs*2^(max (-k) 0).toNat<x.den*2^(max k 0).toNat:=by
 rw[Sd,I7];obtain⟨a1,a2⟩:=JS x;obtain⟨b1,b2⟩:=DR k;rw[a1,a2,b1,b2];have e1:((x.num.natAbs:Nat):Int).natAbs=x.num.natAbs:=by omega
 have e2:(((2^(max k 0).toNat:Nat)):Int).natAbs=2^(max k 0).toNat:=Int.natAbs_natCast _;have e3:decide (((x.num.natAbs:Nat):Int)<0)=false:=decide_eq_false (by omega);have e4:decide ((((2^(max k 0).toNat:Nat)):Int)<0)=false:=decide_eq_false (Int.not_lt.2 (aeH _));rw[e1,e2,e3,e4,adR (2^(max k 0).toNat)];show((x.num.natAbs*2^(max (-k) 0).toNat:Nat):Int)<((x.den*2^(max k 0).toNat:Nat):Int)↔_;omega
def Od(m:Int)(x:Rat)(hx0:x.num≠0)(hs:kF x 300):aa prog (GG m) 238 [dM x] (.c (.d (.int .i64 (gX x)))):=by
 have h1:=hs.1;have h2:=hs.2;have s1:=Pq h1;have s2:=Pq h2;have ln1:=xd (GG m) x.num.natAbs (by omega);have ln2:=xd (GG m) x.den (by omega);rw[gF,<-Sf hx0]at ln1;rw[gF,<-D9 hx0]at ln2;have b1:=Eo (A:=x.num.natAbs) s1;have b2:=Eo (A:=x.den) s2;have ab:=AP (GG m) x;obtain⟨k,hk⟩:∃k:Int,(bt x.num.natAbs:Int)-bt x.den=k:=⟨_,rfl⟩
 have hkr:-20000<=k/\k<=20000:=by omega
 have tw:=pJ m k hkr.1 hkr.2;have cm:=ua (GG m) (iJ x) (aO 1 k) (yb (ct hs (by decide))) (ct (jM (j9 1 (by decide)) k) (by omega));have hlt:=sR x k;have hlog:gX x=if x.num.natAbs*2^(max (-k) 0).toNat<x.den*2^(max k 0).toNat then k-1 else k:=by unfold gX;rw[hk]
 have w1:=bE (n:=k) (by omega) (by omega);have w2:=bE (n:=k-1) (by omega) (by omega);rw[<-hk]at w1;have sx:¬gb x=0:=λh=>hx0 (nP.1 h)
 generalize bt x.num.natAbs=B1 at*
 generalize bt x.den=B2 at*
 generalize aO 1 k=T at*
 generalize x.num.natAbs*2^(max (-k) 0).toNat=U at*
 generalize x.den*2^(max k 0).toNat=W at*
 rw[hk]at w1;refine aa.en func238 rfl λ_=>aar ?_;refine aae λK hK=>aar ?_;refine abD (by simp_all) (aaE (hK _ _ (aae λK hK=>?_)));refine acs mixed (by kernel_rfl) rfl ?_;simp;refine ag.p 2 9 ln1 ?_;simp;refine ag.p 2 9 ln2 ?_;simp;simp[hk,w1];refine⟨by kernel_rfl,?_⟩;apply hK;refine aae λK hK=>aae λK1 hK1=>?_
 by_cases hc:U<W
 ·have hc2:=hlt.2 hc;rw[if_pos hc]at hlog;refine aaJ ?_;simp;refine ag.p 2 9 ab ?_;simp;refine ag.p 2 9 tw ?_;simp;refine ag.p 2 9 cm ?_;simp[hc2];apply hK1;refine abA (acC w2 (hK _ _ ?_));refine aar ?_;exact aaV (aq.rt (t:=2) rfl 9 (by simp[hlog]))
 ·have hc2:¬jc (iJ x) T<0:=λh=>hc (hlt.1 h)
  rw[if_neg hc]at hlog;refine aaJ ?_;simp;refine ag.p 2 9 ab ?_;simp;refine ag.p 2 9 tw ?_;simp;refine ag.p 2 9 cm ?_;simp[hc2];apply hK1;refine abg (aaE (hK _ _ (aar ?_)));exact aaV (aq.rt (t:=2) rfl 9 (by simp[hlog]))
end Go.Am
namespace Go.Am
open Go.Am.Ty Go.Proofs N
variable {e p:Int}{x:Rat}
attribute [local irreducible] cU
theorem wW(G:List (List DV))(e p:Int):aa prog G 83 [.agg [.d (.int .i64 e),.d (.int .i64 p)]] (.c (.d (.int .i64 (gw e p)))):=by
 refine aa.en func83 rfl λ_=>aar ?_;refine aae λK hK=>aae λK1 hK1=>?_
 have bad:∀(fr:Nat->AV) (κ:Nat) (lv:Key->LB),lv 9=.hole->fr 28=.c (.d (.bool true))->gw e p=2->K1 ⟨fr,lv⟩ κ:=by
  intro fr κ lv h9 z hf;apply hK1;refine abz (by simp_all) (aar ?_);exact acm (κ:=0) (aq.tmp (κ:=0) rfl 9 (by simp[hf]) rfl (by simp[h9]) rfl)
 by_cases h1:e<2
 ·refine aaJ ?_;simp[h1];exact bad _ _ _ (by simp) (by simp) (by unfold gw;omega)
 by_cases h2:11<e
 ·refine aaJ ?_;simp[h1,h2];exact bad _ _ _ (by simp) (by simp) (by unfold gw;omega)
 by_cases h3:p<2
 ·refine aaJ ?_;simp[h1,h2,h3];exact bad _ _ _ (by simp) (by simp) (by unfold gw;omega)
 by_cases h4:113<p
 ·refine aaJ ?_;simp[h1,h2,h3,h4];exact bad _ _ _ (by simp) (by simp) (by unfold gw;omega)
 have hw:i64.wrap (e+p)=e+p:=bE (by omega) (by omega)
 by_cases h5:e+p<5
 ·refine aaJ ?_;simp[h1,h2,h3,h4,hw,h5];exact bad _ _ _ (by simp) (by simp) (by unfold gw;omega)
 refine aaJ ?_;simp[h1,h2,h3,h4,hw,h5];apply hK1;refine abg (aaE (hK _ _ (aar ?_)));have hf:gw e p=0:=by unfold gw;rw[if_neg (by omega)]
 exact aaV (aq.rt rfl 9 (by simp[hf]))
theorem wq(G:List (List DV))(e p:Int)(h1:2<=e)(h2:e<=11):aa prog G 273 [fA e p] (.c (.d (.int .i64 (bH e)))):=by
 obtain⟨n,hn⟩:∃n:Nat,e=(n:Int):=⟨e.toNat,by omega⟩
 have hb:bH e=((2^(n-1):Nat):Int)-1:=by
  unfold bH;rw[hn,show((n:Int)-1).toNat=n-1 by omega];simp
 have hp:∀i,i<=10->2^i<=1024:=λi h=>adS (by decide) h
 rw[hb];refine aa.en func273 rfl λ_=>aar ?_;refine aar ?_;refine aae λK hK=>aar ?_;refine abd ?_
 refine aco (λ(i:Nat)=>⟨aJ [(1,.c (.ptr 0 0)),(3,.c (.d (.int .i64 ((2^i:Nat):Int)))),(4,.c (.d (.int .i64 ((i+1:Nat):Int))))],au (λ_=>.hole) 0 (.cells true false 60 [.d (.int .i64 e),.d (.int .i64 p)])⟩) 1
  (λi=>i+1<=n) (λi=>n-i) 0 (Le.mk' _ rfl (by simp) (by simp)) (by omega) ?_
 intro i hi
 try simp only at hi
 have hpi:=hp i (by omega);have hpi1:2*2^i=2^(i+1):=by rw[adl,adR]
 obtain⟨T,hT⟩:∃T,2^i=T:=⟨_,rfl⟩
 rw[hT]at hpi hpi1;simp only[hT];have w1:i64.wrap (2*(T:Int))=((2^(i+1):Nat):Int):=by rw[bE (by omega) (by omega),<-hpi1];omega
 have w2:i64.wrap (((i+1:Nat):Int)+1)=((i+1+1:Nat):Int):=by rw[bE (by omega) (by omega)];omega
 have w3:=bE (n:=(T:Int)-1) (by omega) (by omega);refine aae λK3 hK3=>abU λK4 hK4=>?_;simp[-Int.natCast_add];apply hK4
 by_cases hlt:i+1<n
 ·have hlt':((i+1:Nat):Int)<e:=by omega
  refine abz (by simp_all) (aaE (hK3 _ _ (aae λK5 hK5=>abd (aaJ ?_))));simp[w1,-Int.natCast_pow,-Int.natCast_add];apply hK5;refine aaJ ?_;simp[w2,-Int.natCast_pow,-Int.natCast_add];have w2':=bE (n:=(i:Int)+1+1) (by omega) (by omega);exact⟨i+1,Le.mk' _ rfl (by simp) (by simp),by omega,by omega⟩
 ·have hlt':¬((i+1:Nat):Int)<e:=by omega
  have e1:n-1=i:=by omega
  refine abD (by simp_all) (abX (hK _ _ (acf w3 ?_)));rw[e1,hT];exact aaV (aq.rt (t:=2) rfl 9 (by simp))
theorem tn(h:gw e p=0):1<=bH e/\bH e<=1023:=by
 obtain⟨h1,h2,_⟩:=ke h;obtain⟨a,b,_⟩:=vZ h1 h2;omega
theorem Ig(m:Int)(e p:Int)(hf:gw e p=0):aa prog (GG m) 236 [fA e p] (dM (aO 1 (2-bH e-p))):=by
 obtain⟨h1,h2,h3,h4,_⟩:=ke hf;obtain⟨b1,b2⟩:=tn hf;have bb:=wq (GG m) e p h1 h2;generalize bH e=b at*
 have w1:=bE (n:=2-b) (by omega) (by omega);have w2:=bE (n:=2-b-p) (by omega) (by omega);have tw:=pJ m (2-b-p) (by omega) (by omega);refine aa.enc func236 rfl (λlv=>fZ lv _ _ _) λ_=>aar ?_;refine aae λK hK=>?_;refine acs mixed (by kernel_rfl) rfl ?_;simp;refine ag.p 2 9 bb ?_;simp[w1,w2];refine ag.p 2 9 tw ?_;simp[aj];refine⟨by kernel_rfl,?_⟩;apply hK;exact acm (cU.ref (k:=1) rfl (by simp) (by simp) rfl)
theorem Hl(m:Int)(e p:Int)(hf:gw e p=0):aa prog (GG m) 274 [fA e p] (dM (aO 1 (1-bH e))):=by
 obtain⟨h1,h2,h3,h4,_⟩:=ke hf;obtain⟨b1,b2⟩:=tn hf;have bb:=wq (GG m) e p h1 h2;generalize bH e=b at*
 have w1:=bE (n:=1-b) (by omega) (by omega);have tw:=pJ m (1-b) (by omega) (by omega);refine aa.enc func274 rfl (λlv=>fZ lv _ _ _) λ_=>aar ?_;refine abU λK hK=>?_;simp;refine ag.p 2 9 bb ?_;simp[w1];refine ag.p 2 9 tw ?_;simp[aj];apply hK;exact acm (cU.ref (k:=1) rfl (by simp) (by simp) rfl)
theorem Bf(m:Int)(e p:Int)(hf:gw e p=0):aa prog (GG m) 233 [fA e p] (dM (fI p (bH e))):=by
 obtain⟨h1,h2,h3,h4,_⟩:=ke hf;obtain⟨b1,b2⟩:=tn hf;have bb:=wq (GG m) e p h1 h2;have tw:=pJ m p (by omega) (by omega);have i1:=CH m;have sb:=M4 (GG m) (aO 1 p) 1 (ct (jM (j9 1 (by decide)) p) (by omega)) (j9 _ (by decide));have sg:=sC p (by omega) (by omega);have sh:=yR (GG m) (aO 1 p-1) (bH e-p+1) (ct sg (by decide)) (by omega) (by omega);have hgr:aO (aO 1 p-1) (bH e-p+1)=fI p (bH e):=rfl;rw[hgr]at sh;generalize fI p (bH e)=g at*
 generalize aO 1 p-1=g1 at*
 generalize aO 1 p=g2 at*
 generalize bH e=b at*
 have w1:=bE (n:=b-p) (by omega) (by omega);have w2:=bE (n:=b-p+1) (by omega) (by omega);refine aa.enc func233 rfl (λlv=>fZ lv _ _ _) λ_=>aar ?_;refine abU λK hK=>?_;simp;refine ag.p 2 9 tw ?_;simp;refine ag.p 2 9 i1 ?_;simp;refine ag.p 2 9 sb ?_;simp[aj];apply hK;refine aae λK hK=>?_;refine acs mixed (by kernel_rfl) rfl ?_;simp;refine ag.p 3 9 bb ?_;simp[w1,w2];refine ag.p 3 9 sh ?_;simp[aj];refine⟨by kernel_rfl,?_⟩;apply hK;exact acm (cU.ref (k:=1) rfl (by simp) (by simp) rfl)
theorem HL(m:Int)(e p:Int)(hf:gw e p=0)(x:Rat)(hx:kF x 300):aa prog (GG m) 235 [fA e p,dM x] (.c (.d (.bool (decide (jc (iJ x) (aO 1 (1-bH e))<0))))):=by
 obtain⟨b1,b2⟩:=tn hf;have ab:=AP (GG m) x;have nm:=Hl m e p hf;have cm:=ua (GG m) (iJ x) (aO 1 (1-bH e)) (yb (ct hx (by decide))) (ct (jM (j9 1 (by decide)) _) (by omega));generalize aO 1 (1-bH e)=g at*
 refine aa.en func235 rfl λ_=>aar ?_;refine aae λK hK=>?_;refine acs mixed (by kernel_rfl) rfl ?_;simp;refine ag.p 2 9 ab ?_;simp;refine ag.p 2 9 nm ?_;simp;refine ag.p 2 9 cm ?_;simp;refine⟨by kernel_rfl,?_⟩;apply hK;exact aaV (aq.rt (t:=4) rfl 9 (by simp))
theorem Hi(m:Int)(e p:Int)(hf:gw e p=0)(x:Rat)(hx:kF x 300):aa prog (GG m) 184 [fA e p,dM x] (.c (.d (.bool (decide (0<jc (iJ x) (fI p (bH e))))))):=by
 obtain⟨h1,h2,h3,h4,_⟩:=ke hf;obtain⟨b1,b2⟩:=tn hf;have ab:=AP (GG m) x;have nm:=Bf m e p hf;have cm:=ua (GG m) (iJ x) (fI p (bH e)) (yb (ct hx (by decide))) (ct (Cs p (bH e) (by omega) (by omega) (by omega) (by omega)) (by omega));generalize fI p (bH e)=g at*
 refine aa.en func184 rfl λ_=>aar ?_;refine aae λK hK=>?_;refine acs mixed (by kernel_rfl) rfl ?_;simp;refine ag.p 2 9 ab ?_;simp;refine ag.p 2 9 nm ?_;simp;refine ag.p 2 9 cm ?_;simp;refine⟨by kernel_rfl,?_⟩;apply hK;exact aaV (aq.rt (t:=4) rfl 9 (by simp))
def kP(e p:Int)(x:Rat):Int:=if jc (iJ x) (aO 1 (1-bH e))<0 then 2-bH e-p else gX x-p+1
theorem Gr(h:x.num=0)(k:Int):jc (iJ x) (aO 1 k)<0:=by
 rw[sR];have:x.num.natAbs=0:=by omega
 rw[this,Nat.zero_mul];exact ad4 x.den_pos (adA (by decide))
theorem LQ(hf:gw e p=0)(hx:kF x 300):-15000<=kP e p x/\kP e p x<=15000:=by
 obtain⟨h1,h2,h3,h4,_⟩:=ke hf;obtain⟨b1,b2⟩:=tn hf;unfold kP;split
 ·omega
 ·rename_i h
  have hx0:x≠0:=λe=>h (Gr (Rat.num_eq_zero.2 e) _)
  have:=zR hx0 hx;omega
theorem Mo(m:Int)(e p:Int)(hf:gw e p=0)(x:Rat)(hx:kF x 300):aa prog (GG m) 187 [fA e p,dM x] (dM (aO 1 (kP e p x))):=by
 obtain⟨h1,h2,h3,h4,_⟩:=ke hf;obtain⟨b1,b2⟩:=tn hf;have bl:=HL m e p hf x hx;have ls:=Ig m e p hf
 by_cases hb:jc (iJ x) (aO 1 (1-bH e))<0
 ·have hs:kP e p x=2-bH e-p:=if_pos hb;rw[hs];generalize aO 1 (2-bH e-p)=g at*
  refine aa.enc func187 rfl (λlv=>fZ lv _ _ _) λ_=>aar ?_;refine aae λK hK=>acX 3 bl hb ?_;refine abA (acX 3 ls @aj.eq_1 ?_);exact acm (cU.ref (k:=2) rfl (by simp) (by simp) rfl)
 ·have hs:kP e p x=gX x-p+1:=if_neg hb;have hx0:x.num≠0:=λh=>hb (Gr h _)
  have hl:=zR (λe=>hx0 (Rat.num_eq_zero.2 e)) hx;have lg:=Od m x hx0 hx;have tw:=pJ m (gX x-p+1) (by omega) (by omega);have w1:=bE (n:=gX x-p) (by omega) (by omega);have w2:=bE (n:=gX x-p+1) (by omega) (by omega);rw[hs];generalize aO 1 (gX x-p+1)=g at*
  generalize gX x=l at*
  refine aa.enc func187 rfl (λlv=>fZ lv _ _ _) λ_=>aar ?_;refine aae λK hK=>acX 3 bl hb ?_;refine abg (aaE (hK _ _ (aae λK hK=>?_)));refine acs mixed (by kernel_rfl) rfl ?_;simp;refine ag.p 3 9 lg ?_;simp[w1,w2];refine ag.p 3 9 tw ?_;simp[aj];refine⟨by kernel_rfl,?_⟩;apply hK;exact acm (cU.ref (k:=2) rfl (by simp) (by simp) rfl)
theorem Qy(x:Rat)(k:Int):mkRat (eY (decide (x.num<0)) (x.num.natAbs*(aO 1 k).den)) (x.den*(aO 1 k).num.natAbs)=aO x (-k):=by
 obtain⟨b1,b2⟩:=DR k;have e2:(((2^(max k 0).toNat:Nat)):Int).natAbs=2^(max k 0).toNat:=Int.natAbs_natCast _;rw[b1,b2,e2]
 by_cases hk:-k<0
 ·rw[iU hk,show(max (-k) 0).toNat=0 by omega,show(max k 0).toNat=(- -k).toNat by omega,aeV,ad3]
 ·rw[iS hk,show(max (-k) 0).toNat=(-k).toNat by omega,show(max k 0).toNat=0 by omega,aeV,ad3]
theorem KX(G:List (List DV))(x:Rat)(k:Int)(hx:kF x 300)(h1:-15000<=k)(h2:k<=15000):aa prog G 186 [dM x,dM (aO 1 k)] (dM (aO x (-k))):=by
 have q:=NT G x (aO 1 k) (ct hx (by decide)) (ct (jM (j9 1 (by decide)) k) (by omega)) (by rw[(DR k).1];exact Int.natCast_pos.2 (adA (by decide)));rw[Qy]at q;generalize aO 1 k=y at*
 generalize aO x (-k)=z at*
 refine aa.enc func186 rfl (λlv=>fZ lv _ _ _) λ_=>aar ?_;refine acX 3 q @aj.eq_1 ?_;refine acf @aj.eq_1 ?_;exact acm (cU.ref (k:=2) rfl (by simp) (by simp) rfl)
end Go.Am
namespace Go.Am
open Go.Am.Ty Go.Proofs N
variable {n d κ:Nat}{s l T:List UInt8}{x y z u:AV}{neg:Bool}{k e:Int}{c:Ctx}{fn:Func}
def Jn(n d:Nat)(k:Int):Prop:=n*2^(max (-k) 0).toNat<d*2^(max k 0).toNat
theorem Qe(h:Jn n d k):Jn n d (k+1):=by
 unfold Jn at*
 by_cases hk:0<=k
 ·obtain⟨j,hj⟩:∃j:Nat,k=j:=⟨k.toNat,by omega⟩
  subst hj;rw[show(max (-(j:Int)) 0).toNat=0 by omega,show(max (j:Int) 0).toNat=j by omega]at h;rw[show(max (-((j:Int)+1)) 0).toNat=0 by omega,show(max ((j:Int)+1) 0).toNat=j+1 by omega,adl,<-adz];omega
 ·obtain⟨j,hj⟩:∃j:Nat,k = -((j:Int)+1):=⟨(-k-1).toNat,by omega⟩
  subst hj;rw[show(max (-(-((j:Int)+1))) 0).toNat=j+1 by omega,show(max (-((j:Int)+1)) 0).toNat=0 by omega,adl,<-adz]at h
  grind
theorem JO{n d:Nat}{k:Int}(h:Jn n d k):∀j:Nat,Jn n d (k+j)
 |0=>by grind
 |j+1=>by
  have:=Qe (JO h j)
  grind
theorem tH{l:Int}(h:Jn n d k)(hl:k<=l):Jn n d l:=by
 have:=JO h (l-k).toNat
 grind
theorem SE(hd:d≠0):Jn n d ((bt n:Int)-bt d+1):=by
 have h1:=tO n;have h2:=kU hd;have h3:1<=bt d:=by unfold bt;rw[if_neg hd];omega
 unfold Jn;generalize bt n=a at*
 generalize bt d=b at*
 by_cases hk:b<=a+1
 ·rw[show(max (-((a:Int)-b+1)) 0).toNat=0 by omega,show(max ((a:Int)-b+1) 0).toNat=a+1-b by omega,aeV,ad3];have h4:2^(b-1)*2^(a+1-b)<=d*2^(a+1-b):=adn _ h2;rw[<-ad7,show b-1+(a+1-b)=a by omega]at h4;omega
 ·rw[show(max (-((a:Int)-b+1)) 0).toNat=b-a-1 by omega,show(max ((a:Int)-b+1) 0).toNat=0 by omega,aeV,ad3];have h4:n*2^(b-a-1)<2^a*2^(b-a-1):=afX h1 (adA (by decide));rw[<-ad7,show a+(b-a-1)=b-1 by omega]at h4;omega
theorem RG(hn:n≠0):¬Jn n d ((bt n:Int)-bt d-1):=by
 have h1:=tO d;have h2:=kU hn;have h3:1<=bt n:=by unfold bt;rw[if_neg hn];omega
 unfold Jn;generalize bt n=a at*
 generalize bt d=b at*
 rw[Nat.not_lt]
 by_cases hk:b+1<=a
 ·rw[show(max (-((a:Int)-b-1)) 0).toNat=0 by omega,show(max ((a:Int)-b-1) 0).toNat=a-b-1 by omega,aeV,ad3];have h4:d*2^(a-b-1)<=2^b*2^(a-b-1):=adn _ (aei h1);rw[<-ad7,show b+(a-b-1)=a-1 by omega]at h4;omega
 ·rw[show(max (-((a:Int)-b-1)) 0).toNat=b+1-a by omega,show(max ((a:Int)-b-1) 0).toNat=0 by omega,aeV,ad3];have h4:2^(a-1)*2^(b+1-a)<=n*2^(b+1-a):=adn _ h2;rw[<-ad7,show a-1+(b+1-a)=b by omega]at h4;omega
theorem QX{x:Rat}(hx:x.num≠0)(k:Int):jc (iJ x) (aO 1 k)<0↔gX x<k:=by
 rw[sR];show Jn x.num.natAbs x.den k↔_;have ht:=SE (n:=x.num.natAbs) x.den_nz;have hb:=RG (n:=x.num.natAbs) (d:=x.den) (by omega)
 have hl:(Jn x.num.natAbs x.den ((bt x.num.natAbs:Int)-bt x.den)/\gX x=(bt x.num.natAbs:Int)-bt x.den-1)\/(¬Jn x.num.natAbs x.den ((bt x.num.natAbs:Int)-bt x.den)/\gX x=(bt x.num.natAbs:Int)-bt x.den):=by
  unfold gX
  by_cases h:Jn x.num.natAbs x.den ((bt x.num.natAbs:Int)-bt x.den)
  ·exact .inl ⟨h,if_pos h⟩
  ·exact .inr ⟨h,if_neg h⟩
 generalize (bt x.num.natAbs:Int)-bt x.den=q at*
 rcases hl with⟨h1,h2⟩|⟨h1,h2⟩<;>rw[h2]
 ·constructor
  ·intro h;apply adK;intro hn;exact hb (tH h (by omega))
  ·intro h;exact tH h1 (by omega)
 ·constructor
  ·intro h;apply adK;intro hn;exact h1 (tH h (by omega))
  ·intro h;exact tH ht (by omega)
theorem LH{x:Rat}(h:0<=x.num)(k:Int):0<=(aO x k).num:=by
 have hd:decide (x.num<0)=false:=decide_eq_false (by omega)
 by_cases hk:k<0
 ·rw[iU hk,hd,(jA false (sX x _)).1];exact aeH _
 ·rw[iS hk,hd,(jA false x.den_nz).1];exact aeH _
theorem MI(p b:Int)(hp:0<=p):0<=(fI p b).num:=by
 refine LH ?_ _;rw[Rat.num_nonneg,afQ]
 have h1:¬aO 1 p<1:=by
  rw[I7];obtain⟨b1,b2⟩:=DR p;rw[b1,b2];have e2:(((2^(max p 0).toNat:Nat)):Int).natAbs=2^(max p 0).toNat:=Int.natAbs_natCast _;have e4:decide ((((2^(max p 0).toNat:Nat)):Int)<0)=false:=decide_eq_false (Int.not_lt.2 (aeH _));rw[e2,e4,show(max (-p) 0).toNat=0 by omega];show ¬((2^(max p 0).toNat*1:Nat):Int)<((1*2^0:Nat):Int)
  have:=adA (a:=2) (n:=(max p 0).toNat) (by decide);omega
 grind
theorem has_eq{p:Int}(hf:gw e p=0)(x:Rat):hasB e p x=(decide (¬0<jc (iJ x) (fI p (bH e)))&&decide ((aO x (-(kP e p x))).den=1)):=by
 obtain⟨h1,h2,h3,h4,_⟩:=ke hf;unfold hasB;rw[decide_eq_true hf,Bool.true_and]
 by_cases hx:x=0
 ·subst hx
  have e1:aO 0 (-(kP e p 0))=0:=by
   by_cases hk:-(kP e p 0)<0
   ·rw[iU hk];exact Rat.zero_mkRat _
   ·rw[iS hk,show(0:Rat).num.natAbs*2^(-(kP e p 0)).toNat=0 from Nat.zero_mul _];rfl
  have e2:¬0<jc (iJ 0) (fI p (bH e)):=by
   have hg:=MI p (bH e) (by omega);have:iJ 0=0:=by unfold iJ;rw[if_neg (by decide)]
   rw[this];intro h;unfold jc at h;have h5:¬fI p (bH e)<0:=Rat.not_lt.2 (Rat.num_nonneg.1 hg);rw[if_neg h5]at h;split at h<;>omega
  simp_all
 ·have hx0:x.num≠0:=λh=>hx (Rat.num_eq_zero.1 h)
  have hs:kP e p x=kA p (bH e) (gX x):=by
   unfold kP kA;have:=QX hx0 (1-bH e)
   by_cases hb:jc (iJ x) (aO 1 (1-bH e))<0
   ·omega
   ·omega
  grind
theorem GK(m:Int)(e p:Int)(x:Rat)(hx:kF x 300):aa prog (GG m) 135 [fA e p,dM x] (.c (.d (.bool (hasB e p x)))):=by
 have ck:=wW (GG m) e p
 by_cases hf:gw e p=0
 rotate_left
 ·have hh:hasB e p x=false:=by unfold hasB;rw[decide_eq_false hf];rfl
  rw[hh];refine aa.en func135 rfl λ_=>aar ?_;refine aae λK hK=>?_;refine acs mixed (by kernel_rfl) rfl ?_;simp;refine ag.p 2 9 ck ?_;simp[hf];refine⟨by kernel_rfl,?_⟩;apply hK;exact aaV (aq.rt (t:=4) rfl 9 (by simp))
 have by':=Hi m e p hf x hx;have st:=Mo m e p hf x hx;have sr:=LQ hf hx;have ov:=KX (GG m) x (kP e p x) hx (by omega) (by omega);have ii:=AB (GG m) (aO x (-(kP e p x)));rw[has_eq hf];generalize aO 1 (kP e p x)=y at*
 generalize aO x (-(kP e p x))=z at*
 generalize jc (iJ x) (fI p (bH e))=c at*
 by_cases hc:0<c
 ·refine aa.en func135 rfl λ_=>aar ?_;refine aae λK hK=>?_;refine acs mixed (by kernel_rfl) rfl ?_;simp;refine ag.p 2 9 ck ?_;simp[hf];refine ag.p 2 9 by' ?_;simp[hc];refine⟨by kernel_rfl,?_⟩;apply hK;exact aaV (aq.rt (t:=4) rfl 9 (by simp[hc]))
 ·refine aa.en func135 rfl λ_=>aar ?_;refine aae λK hK=>?_;refine acs mixed (by kernel_rfl) rfl ?_;simp;refine ag.p 2 9 ck ?_;simp[hf];refine ag.p 2 9 by' ?_;simp[hc];refine ag.p 2 9 st ?_;simp;refine ag.p 2 9 ov ?_;simp;refine ag.p 2 9 ii ?_;simp;refine⟨by kernel_rfl,?_⟩;apply hK;exact aaV (aq.rt (t:=4) rfl 9 (by simp[hc]))
theorem MT(c:UInt8):kL c=true↔48<=c.toNat/\c.toNat<=57:=by simp[kL]
theorem UD(h:∀x∈l,kL x=true):l.dropWhile kL=[]:=by
 induction l with
 |nil=>rfl
 |cons a l ih=>simp_all
theorem Fs(h:xG s):xg s=[]:=by
 have h1:s.reverse.dropWhile kL=[]:=UD λx hx=>(MT x).2 (h x (List.mem_reverse.1 hx))
 unfold xg kH
 simp_all
def isRow(s:List UInt8):Prop:=xG s/\s≠[]/\(s=[48]\/s.getD 0 0≠48)
theorem qy:fL s=true↔isRow s:=by
 constructor
 ·intro h;obtain⟨h1,h2⟩:=pG h;unfold fL at h;simp only[cy,ad2,ads,decide_eq_true_eq,decide_eq_false_iff_not]at h;exact⟨h1,h2,h.2⟩
 ·rintro⟨h1,h2,h3⟩;unfold fL;rw[decide_eq_false h2,decide_eq_true (Fs h1)]
  grind
theorem gD8{i:Nat}(h:i<s.length):s.getD i 0=s[i]:=by grind
theorem OW(G:List (List DV))(s:List UInt8):aa prog G 226 [.c (.d (.str s))] (.c (.d (.bool (fL s)))):=by
 refine aD.kK 0 (by simp) (λV v h=>(show s.length<=9223372036854775807 by cases h.1 with|str _ hl=>exact hl)) λhs=>?_;refine aa.en func226 rfl λ_=>aar ?_;refine aae λK hK=>aar ?_;refine abd ?_;refine aco (λ(i:Nat)=>⟨aJ [(0,.c (.d (.str s))),(3,.c (.d (.int .i64 (i:Int))))],λ_=>.hole⟩) 0 (λi=>i<=s.length/\xG (s.take i)) (λi=>s.length-i) 0 (Le.mk' _ rfl aW (by simp)) ⟨ac1 _,λc hc=>by simp at hc⟩ ?_;rintro i ⟨hi,hd⟩;refine aae λK3 hK3=>aar ?_
 by_cases hlt:i<s.length
 ·have hlt':(i:Int)<(s.length:Int):=by omega
  have wi:=bE (n:=(i:Int)+1) (by omega) (by omega);have hg:=gD8 hlt;have hg2:s[i]?.getD 0=s[i]:=by rw[bp hlt];rfl
  obtain⟨c,hc⟩:∃c,s[i]=c:=⟨_,rfl⟩
  rw[hc]at hg hg2;have hcm:c∈s:=by rw[<-hc];exact aZ hlt
  have bad:¬(48<=c.toNat/\c.toNat<=57)->fL s=false:=λh=>by
   cases hr:fL s with
   |false=>rfl
   |true=>exact absurd ((qy.1 hr).1 c hcm) h
  refine abz (by simp_all) (aaE (hK3 _ _ (aae λK5 hK5=>abd (aae λK6 hK6=>?_))))
  by_cases c1:c.toNat<48
  ·have c1':(c.toNat:Int)<48:=by omega
   refine aaJ ?_;simp[hlt,hlt',hc,c1'];apply hK6;refine abA (aar ?_);exact aaV (aq.rt (t:=2) rfl 9 (by simp[(bad (by omega))]))
  ·have c1':¬(c.toNat:Int)<48:=by omega
   by_cases c2:57<c.toNat
   ·have c2':(57:Int)<(c.toNat:Int):=by omega
    refine aaJ ?_;simp[hlt,hlt',hc,c1',c2'];apply hK6;refine abA (aar ?_);exact aaV (aq.rt (t:=2) rfl 9 (by simp_all))
   ·have c2':¬(57:Int)<(c.toNat:Int):=by omega
    refine aaJ ?_;simp[hlt,hlt',hc,c1',c2'];apply hK6;refine abg (aaE (hK5 _ _ (aaJ ?_)));simp[wi];refine⟨i+1,Le.mk' _ rfl aW (by simp),⟨by omega,?_⟩,by omega⟩;intro x hx;rw[aew,bp hlt,aem]at hx;rcases hx with hx|hx
    ·exact hd x hx
    grind
 ·have he:i=s.length:=by omega
  subst he;rw[List.take_length]at hd;refine abD (by simp) (abX (hK _ _ (aae λK hK=>?_)))
  cases s with
  |nil=>
   refine adg (hK _ _ ?_);exact aaV (aq.rt (t:=2) rfl 9 (by simp[fL]))
  |cons a l=>
   have hrow:fL (a::l)=(decide (a::l=[48]) || !decide (a=48)):=by
    unfold fL;rw[decide_eq_true (Fs hd)];simp
   have ha:((a.toNat:Int)=48)↔a=48:=by
    constructor
    ·intro h;exact UInt8.toNat_inj.1 (by grind)
    ·simp_all
   have hpos:(0:Int)<((l.length:Int)+1):=by omega
   by_cases h0:a::l=[48]
   ·obtain⟨rfl,rfl⟩:=List.cons.inj h0;refine acC @eqStr (hK _ _ ?_);exact aaV (aq.rt (t:=2) rfl 9 (by simp[hrow]))
   ·refine aaJ ?_;simp[eqStr,h0,hpos];apply hK;exact aaV (aq.rt (t:=2) rfl 9 (by simp_all))
def MD(l:List Nat):LB:=if l=[]then .hole else .cells true false 2 (wK .i64 l)
def Ql(l:List Nat):AV:=if l=[]then .c (.d .nilsl)else .c (.aE 0 0 l.length 1)
theorem Vg{lv:Key->LB}{k:Key}(h:lv k=.hole):au lv k .hole=lv:=by
 funext j
 simp_all
theorem abl(j:Nat):10^(9*j)=1000000000^j:=by rw[aef]
theorem Gh(h:xG s)(n:Nat):xG (s.take n):=λc hc=>h c (aey hc)
theorem FY(h:xG s)(n:Nat):xG (s.drop n):=λc hc=>h c (aeK hc)
theorem Cn(G:List (List DV))(s:List UInt8)(hd:xG s)(hne:s≠[])(hl:s.length<=100000):aa prog G 182 [.c (.d (.str s))] (nK .i64 (some (aI 1000000000 (aP s 0)))):=by
 have hbs:∀(lv:Key->LB) (h:lv 1=.hole) (a:CV),ai prog 195 1 [0] lv 1 [.c a]=some (.c (.aE 1 0 1 1),[(1,.cells true false 2 [a])],[],True):=λlv h a=>Fb lv 1 h a
 refine aa.Sh func182 rfl λ_=>aar ?_;refine aar ?_;refine aae λK hK=>aar ?_;refine abd ?_
 refine aco (λ(p:List Nat)=>⟨aJ [(0,.c (.d (.str s))),(3,Ql p),(4,.c (.d (.int .i64 ((s.length:Int)-9*(p.length:Int)))))],au (λ_=>.hole) 0 (MD p)⟩) 1
  (λp=>ok 1000000000 p/\val 1000000000 p=aP (s.drop (s.length-9*p.length)) 0/\(9*p.length<s.length+9)) (λp=>s.length+9-9*p.length) [] (Le.mk' _ (Vg rfl).symm aW (by simp[Ql])) ⟨cK _,by simp[aP],by simp⟩ ?_
 rintro p ⟨h1,h2,h3⟩;obtain⟨z,hz⟩:∃z:Int,(s.length:Int)-9*(p.length:Int)=z:=⟨_,rfl⟩
 simp only[hz];refine aae λK3 hK3=>aar ?_
 by_cases hgo:0<z
 ·obtain⟨i,rfl⟩:∃i:Nat,z=i:=⟨z.toNat,by omega⟩
  have hi:s.length-9*p.length=i:=by omega
  have hil:i<=s.length:=by omega
  rw[hi]at h2;obtain⟨lo,hlo⟩:∃lo,i-9=lo:=⟨_,rfl⟩
  obtain⟨y,hy⟩:∃y:Int,(i:Int)-9=y:=⟨_,rfl⟩
  have w1:i64.wrap ((i:Int)-9)=y:=by rw[bE (by omega) (by omega)];exact hy
  have hmx:(if y<0 then 0 else y)=(lo:Int):=by split<;>omega
  have w9:=bE (n:=(i:Int)-9) (by omega) (by omega);rw[hy]at w9;refine abz (by simp<;>omega) (aaE (hK3 _ _ (aae λK5 hK5=>abd (aar ?_))));refine aae λK6 hK6=>abU λK7 hK7=>?_;simp[eF,w1,hmx];apply hK7;refine abd ?_
  refine aco (λ(k:Nat)=>⟨aJ [(0,.c (.d (.str s))),(3,Ql p),(4,.c (.d (.int .i64 (i:Int)))),(5,.c (.d (.int .i64 ((aP ((s.take k).drop lo) 0:Nat):Int)))),(6,.c (.d (.int .i64 (k:Int))))],au (λ_=>.hole) 0 (MD p)⟩) 1
   (λk=>lo<=k/\k<=i) (λk=>i-k) lo (Le.keys [(0,0,MD p)] 19 _ rfl rfl (by simp) (by simp) (by simp) ?_ ?_) ⟨aU _,by omega⟩ ?_
  ·intro e he;simp only[fy,aa8,or_false]at he;subst he;simp only[aC];unfold MD;split
   ·rfl
   ·exact lI .i64 2 p _
  ·have e0:List.drop lo (List.take lo s)=[]:=aeE (by grind);simp[e0,aP];unfold Ql;split<;>simp[aQ]
  rintro k ⟨k1,k2⟩;refine aae λK8 hK8=>aar ?_
  by_cases hlk:k<i
  ·have hks:k<s.length:=by omega
   have hks':(k:Int)<(s.length:Int):=by omega
   obtain⟨c,hc⟩:∃c,s[k]=c:=⟨_,rfl⟩
   have hcd:=hd c (by grind);have hlt:=oE (FY (Gh hd k) lo);have hln:(List.drop lo (List.take k s)).length=k-lo:=by rw[aeN,ac7];omega
   have hp9:10^(List.drop lo (List.take k s)).length<=10^8:=adS (by decide) (by omega)
   have hnx:aP ((s.take (k+1)).drop lo) 0=10*aP ((s.take k).drop lo) 0+(c.toNat-48):=by
    have e:(s.take (k+1)).drop lo=(s.take k).drop lo++[c]:=by
     rw[aew,bp hks,hc,List.drop_append,show lo-(List.take k s).length=0 by grind];rfl
    rw[e,lC];rfl
   obtain⟨N0,hN0e⟩:∃N0,aP ((s.take k).drop lo) 0=N0:=⟨_,rfl⟩
   obtain⟨N1,hN1e⟩:∃N1,aP ((s.take (k+1)).drop lo) 0=N1:=⟨_,rfl⟩
   rw[hN0e]at hlt hnx;rw[hN1e]at hnx;simp only[hN0e];have hN0:N0<=100000000:=by omega
   have v1:i64.wrap (10*(N0:Int))=((10*N0:Nat):Int):=by rw[bE (by omega) (by omega)];omega
   have v2:u8.wrap ((c.toNat:Int)-48)=((c.toNat-48:Nat):Int):=by rw[c6 ⟨by simp only[Cf];omega,by simp only[rR];omega⟩];omega
   have v3:=bE (n:=((c.toNat-48:Nat):Int)) (by omega) (by omega);have v4:i64.wrap (((10*N0:Nat):Int)+((c.toNat-48:Nat):Int))=(N1:Int):=by rw[bE (by omega) (by omega)];omega
   have v5:=bE (n:=(k:Int)+1) (by omega) (by omega);refine abz (by simp_all) (aaE (hK8 _ _ (aae λK9 hK9=>abd (aaJ ?_))));simp[hks,hks',hc,v1,v2,v3,v4,-Int.natCast_mul];apply hK9;refine aaJ ?_;simp[v5];refine⟨k+1,Le.keys [(0,0,MD p)] 19 _ rfl rfl (by simp) (by simp) (by simp) ?_ ?_,⟨by omega,by omega⟩,by omega⟩
   ·intro e he;simp only[fy,aa8,or_false]at he;subst he;simp only[aC];unfold MD;split
    ·rfl
    ·exact lI .i64 2 p _
   ·simp[hN1e];unfold Ql;split<;>simp[aQ]
  ·obtain rfl:k=i:=by omega
   refine abD (by simp) (abX (hK6 _ _ ?_));refine acW 1 ?_;have hlt:=oE (FY (Gh hd k) lo);have hln:(List.drop lo (List.take k s)).length=k-lo:=by rw[aeN,ac7];omega
   have hp9:10^(List.drop lo (List.take k s)).length<=10^9:=adS (by decide) (by omega)
   have hv:aP (s.drop lo) 0=aP ((s.take k).drop lo) 0*1000000000^p.length+aP (s.drop k) 0:=by
    have e:s.drop lo=(s.take k).drop lo++s.drop k:=by
     conv=>lhs;rw[<-afn k s]
     rw[List.drop_append,show lo-(List.take k s).length=0 by grind];rfl
    have e2:(s.drop k).length=9*p.length:=by rw[aeN];omega
    rw[e,lC,ga,e2,abl]
   have hz2:(s.length:Int)-9*(((p.length+1:Nat)):Int)=y:=by omega
   have hz3:s.length-9*(p.length+1)=lo:=by omega
   obtain⟨N,hN⟩:∃N,aP ((s.take k).drop lo) 0=N:=⟨_,rfl⟩
   simp only[hN]at hlt hv⊢;have hok:ok 1000000000 (p++[N]):=cJ.2 ⟨h1,bS.2 ⟨by omega,cK _⟩⟩
   have hvl:val 1000000000 (p++[N])=aP (s.drop (s.length-9*(p++[N]).length)) 0:=by
    rw[ac8,adY,hz3,fF,h2,hv,adR];omega
   have hB1:MD (p++[N])=.cells true false 2 (wK .i64 (p++[N])):=if_neg (by simp);have hV1:Ql (p++[N])=.c (.aE 0 0 (p.length+1) 1):=by unfold Ql;rw[if_neg (by simp)];simp
   by_cases hp:p=[]
   ·subst hp;refine aaJ ?_;simp[Ql,MD,hbs,dS,keyOf,-ai];apply hK5;refine aaJ ?_;simp[w1];refine⟨[]++[N],Le.keys [(0,2,MD ([]++[N]))] 19 _ rfl rfl (by simp) (by simp) (by simp) ?_ ?_,⟨hok,hvl,by simp<;>omega⟩,by simp⟩
    ·intro e he;simp only[fy,aa8,or_false]at he;subst he;rw[hB1];simpa[wK]using lI .i64 2 ([]++[N]) _
    ·rw[hV1];have hz2':(s.length:Int)-9=y:=by simpa using hz2
     simp[aQ,hz2']
   ·have hB0:MD p=.cells true false 2 (wK .i64 p):=if_neg hp;have hV0:Ql p=.c (.aE 0 0 p.length 1):=if_neg hp;refine aaJ ?_;simp[hB0,hV0,hbs,dS,keyOf,EB,-ai]
    repeat refine aL ?_
    apply hK5;refine aaJ ?_;simp[w1];refine⟨p++[N],Le.keys [(0,2,MD (p++[N]))] 19 _ rfl rfl (by simp) (by simp) (by simp) ?_ ?_,⟨hok,hvl,by simp;omega⟩,by simp;omega⟩
    ·intro e he;simp only[fy,aa8,or_false]at he;subst he;rw[hB1];simpa using lI .i64 2 (p++[N]) _
    ·rw[hV1];have hz2':(s.length:Int)-9*((p.length:Int)+1)=y:=by simpa using hz2
     simp[aQ,hz2']
 ·have hp:p≠[]:=by
   intro e;subst e;have:=List.length_pos_iff.2 hne;simp at hz;omega
  have hB0:MD p=.cells true false 2 (wK .i64 p):=if_neg hp;have hV0:Ql p=.c (.aE 0 0 p.length 1):=if_neg hp;have h0:s.length-9*p.length=0:=by omega
  rw[h0,adJ]at h2;have hout:dG p=aI 1000000000 (aP s 0):=eC (by decide) h1 h2;rw[hB0,hV0];refine abD (by simp_all) (abX (hK _ _ (abU λK hK=>?_)));simp;refine gM.rT (T:=2) (k:=.i64) (l:=p) 1 9 0 (by simp) (by omega) (j8 _ _ (by omega)) (by simp) (by simp) (by simp) ?_;simp;apply hK;exact aaV (aq.rt (t:=2) rfl 9 (by simp[hout]))
def MC(d:Nat):UInt8:=UInt8.ofNat (48+d)
theorem mR(h:d<10):(MC d).toNat=48+d:=by simp[MC];omega
theorem ND{c:UInt8}(h:48<=c.toNat/\c.toNat<=57):MC (c.toNat-48)=c:=UInt8.toNat_inj.1 (by rw[mR (by omega)];omega)
def GY(n:Nat):Nat->List UInt8
 |0=>[]
 |i+1=>MC (n/10^i%10)::GY n i
theorem yx(n:Nat):∀i,(GY n i).length=i
 |0=>rfl
 |i+1=>by rw[GY,adN,yx n i]
theorem TE(n:Nat):∀i,xG (GY n i)
 |0=>λc hc=>by cases hc
 |i+1=>λc hc=>by
  rw[GY]at hc;rcases List.mem_cons.1 hc with rfl|hc
  ·rw[mR (by omega)];omega
  ·exact TE n i c hc
theorem TA(n:Nat):∀i,aP (GY n i) 0=n%10^i
 |0=>by simp[GY,aP,Nat.mod_one]
 |i+1=>by
  have ih:=TA n i
  have e:aP (GY n (i+1)) 0=(n/10^i%10)*10^i+n%10^i:=by
   rw[GY];show aP (GY n i) (10*0+((MC (n/10^i%10)).toNat-48))=_;rw[ga,ih,yx,mR (by omega),aeg,adx,aeP]
  rw[e,adl,Nat.mod_mul,adR,aeO]
theorem uY(s t:List UInt8):aK prog .add 9 (.c (.d (.str s))) (.c (.d (.str t)))=some (.c (.d (.str (s++t))),[],[],s.length+t.length<=9223372036854775807):=by
 rfl
theorem UF:fk prog 99=some (5,1):=by simp
theorem XK(lv:Key->LB)(κ:Key)(h:lv κ=.hole)(a:CV):ai prog 99 1 [0] lv κ [.c a]=some (.c (.aE κ 0 1 1),[(κ,.cells true false 5 [a])],[],True):=by
 unfold ai;rw[h];rfl
theorem L6(G:List (List DV))(n:Nat)(hn:n<1000000000):aa prog G 269 [.c (.d (.int .i64 (n:Int)))] (.c (.d (.str (GY n 9)))):=by
 have hbs:∀(lv:Key->LB) (h:lv 0=.hole) (a:CV),ai prog 99 1 [0] lv 0 [.c a]=some (.c (.aE 0 0 1 1),[(0,.cells true false 5 [a])],[],True):=λlv h a=>XK lv 0 h a
 refine aa.Sh func269 rfl λ_=>aar ?_;refine aar ?_;refine aae λK hK=>aar ?_;refine abd ?_;refine aco (λ(i:Nat)=>⟨aJ [(0,.c (.d (.int .i64 ((n/10^i:Nat):Int)))),(3,.c (.d (.str (GY n i)))),(4,.c (.d (.int .i64 (i:Int))))],λ_=>.hole⟩) 0 (λi=>i<=9) (λi=>9-i) 0 (Le.mk' _ rfl aW (by simp[GY])) (by omega) ?_;intro i hi
 try simp only at hi
 have hle:n/10^i<=n:=afd _ _;have hnx:n/10^(i+1)=n/10^i/10:=by rw[adl,afO]
 have hds:GY n (i+1)=MC (n/10^i%10)::GY n i:=rfl;have hdl:=yx n i;obtain⟨q,hq⟩:∃q,n/10^i=q:=⟨_,rfl⟩
 obtain⟨T,hT⟩:∃T,GY n i=T:=⟨_,rfl⟩
 rw[hq]at hle hnx hds;rw[hT]at hds hdl;simp only[hq,hT];refine aae λK3 hK3=>aar ?_
 by_cases hlt:i<9
 ·have hlt':(i:Int)<9:=by omega
  have e1:(q:Int).tmod 10=((q%10:Nat):Int):=wI q 10;have e2:i64.wrap (48+((q%10:Nat):Int))=((48+q%10:Nat):Int):=by rw[bE (by omega) (by omega)];omega
  have e3:u8.wrap ((48+q%10:Nat):Int)=((48+q%10:Nat):Int):=c6 ⟨by simp only[Cf];omega,by simp only[rR];omega⟩;have e4:(q:Int).tdiv 10=((q/10:Nat):Int):=n9 q 10;have w4:=bE (n:=((q/10:Nat):Int)) (by omega) (by omega);have w5:=bE (n:=(i:Int)+1) (by omega) (by omega);refine abz (by simp_all) (aaE (hK3 _ _ (aae λK5 hK5=>abd (aae λK6 hK6=>?_))));refine AW.rG ?_;refine mb.run 5 rfl ?_;simp[e1,e2,e3,hbs,-ai,-Int.natCast_add,-Int.natCast_emod];refine mb.Nh (κ:=0) (off:=0) (own:=true) (fz:=false) (T':=5) (e:=5) (cs:=[.d (.int .u8 ((48+q%10:Nat):Int))]) (n:=((48+q%10:Nat):Int)) 1 rfl rfl rfl (by simp) (by simp) (by simp) UF Tryz.underlying5 (by simp) ?_;refine mb.run 3 rfl ?_;simp[uY]
  repeat refine aL ?_
  refine mb.done ?_;apply hK6;refine aaJ ?_;simp[e4,w4,-Int.natCast_ediv];apply hK5;refine aaJ ?_;simp[w5];refine⟨i+1,Le.keys [] 19 _ rfl rfl (by simp) (by simp) (by simp) (by simp) ?_,by omega,by omega⟩
  have f0:(q:Int)/10=(n:Int)/10^(i+1):=by
   have:=congrArg (λx:Nat=>(x:Int)) hnx;simpa using this.symm
  have f1:(48+(q:Int)%10).toNat=48+q%10:=by omega
  simp[hds,MC]
  simp_all
 ·obtain rfl:i=9:=by omega
  refine abD (by rfl) (abX (hK _ _ (aar ?_)));exact aaV (aq.rt (t:=2) rfl 9 (by simp[hT]))
def vO:Nat->Nat->List UInt8
 |0,n=>[MC n]
 |f+1,n=>if n<10 then[MC n]else vO f (n/10)++[MC (n%10)]
def jH(n:Nat):List UInt8:=vO n n
theorem DU:∀(f n:Nat),n<=f->vO f n=jH n
 | 0,n,h=>by have:n=0:=by omega
             subst this;rfl
 |f+1,n,h=>by
  unfold jH
  by_cases h10:n<10
  ·cases n with
   |zero=>rfl
   |succ n=>rw[vO,if_pos h10,vO,if_pos h10]
  ·obtain⟨m,rfl⟩:∃m,n=m+1:=⟨n-1,by omega⟩
   rw[vO,if_neg h10,vO,if_neg h10,DU f ((m+1)/10) (by omega),DU m ((m+1)/10) (by omega)]
theorem KL(h:n<10):jH n=[MC n]:=by
 unfold jH
 cases n with
 |zero=>rfl
 |succ n=>rw[vO,if_pos h]
theorem JB(h:¬n<10):jH n=jH (n/10)++[MC (n%10)]:=by
 obtain⟨m,rfl⟩:∃m,n=m+1:=⟨n-1,by omega⟩
 conv=>lhs;unfold jH
 rw[vO,if_neg h,DU m ((m+1)/10) (by omega)]
theorem Cy(l:List UInt8)(c:UInt8):aP (l++[c]) 0=10*aP l 0+(c.toNat-48):=by rw[lC];rfl
theorem SU(h:xG l)(hne:l≠[])(h0:l.getD 0 0≠48):1<=aP l 0:=by
 cases l with
 |nil=>grind
 |cons c l=>
  have hc:=h c (by simp);have hc48:c≠48:=h0;have hcn:c.toNat≠48:=λe=>hc48 (UInt8.toNat_inj.1 (by rw[e];rfl))
  show 1<=aP l (10*0+(c.toNat-48));rw[ga];have:1*1<=(10*0+(c.toNat-48))*10^l.length:=aeo (by omega) (adA (by decide));omega
theorem Oo:∀(k:Nat) (s:List UInt8),s.length=k->isRow s->s=jH (aP s 0)
 |0,s,hk,h=>absurd (aeA hk) h.2.1
 |k+1,s,hk,⟨h1,h2,h3⟩=>by
  rcases aeT s with rfl|⟨l,c,rfl⟩
  ·grind
  ·rw[aeU]at*
   have hc:=h1 c (by simp);have hl:xG l:=λx hx=>h1 x (by simp[hx])
   rw[Cy]
   by_cases hle:l=[]
   ·subst hle;show [c]=jH (10*aP [] 0+(c.toNat-48));rw[show 10*aP [] 0+(c.toNat-48)=c.toNat-48 by simp[aP],KL (by omega),ND hc]
   ·have h0:l.getD 0 0≠48:=by
     rcases h3 with h3|h3
     ·exfalso;have:=congrArg List.length h3;simp at this;exact hle this
     ·cases l with
      |nil=>exact absurd rfl hle
      |cons a l=>exact h3
    have hp:=SU hl hle h0;have ih:=Oo k l (by grind) ⟨hl,hle,.inr h0⟩;rw[JB (by omega),show(10*aP l 0+(c.toNat-48))/10=aP l 0 by omega,show(10*aP l 0+(c.toNat-48))%10=c.toNat-48 by omega,<-ih,ND hc]
theorem yc(h:isRow s):s=jH (aP s 0):=Oo _ s rfl h
theorem BU(G:List (List DV))(A:Nat)(o:Option (List Nat))(ho:dO o=aI 1000000000 A)(hl:(aI 1000000000 A).length<=100000):aa prog G 231 [.c (rC o)] (.c (.d (.str (jH A)))):=by
 have hok:=(bx (B:=1000000000) (by decide) A).1;have hval:=bq (B:=1000000000) (by decide) A;obtain⟨D,hD⟩:∃D,aI 1000000000 A=D:=⟨_,rfl⟩
 rw[hD]at hok hval hl ho;have nineG:=λn h=>L6 G n h
 rw[<-gF];have hw0:=bE (n:=(D.length:Int)-1) (by omega) (by omega);refine aa.en func231 rfl λ_=>aar ?_;refine aar ?_;refine aae λK hK=>acv ho hw0 ?_;refine abd ?_
 refine aco (λ(p:Nat×List UInt8)=>⟨aJ [(0,nK .i64 o),(3,.c (.d (.str p.2))),(4,.c (.d (.int .i64 ((p.1:Int)-1))))],λ_=>.hole⟩) 0
  (λp=>p.1<=D.length/\xG p.2/\aP p.2 0=val 1000000000 (D.drop p.1)/\p.2.length=9*(D.length-p.1)) (λp=>p.1) (D.length,[]) (Le.mk' _ rfl aW (by simp[])) ⟨aU _,λc hc=>(by cases hc),by simp[aP],by simp⟩ ?_
 rintro⟨k,S⟩ ⟨h1,h2,h3,h4⟩;simp only at h1 h2 h3 h4;refine aae λK3 hK3=>aar ?_
 cases k with
 |succ k=>
  have hk:k<D.length:=by omega
  have hko:k<(dO o).length:=by rw[ho];exact hk
  have e2:((k+1:Nat):Int)-1=k:=by omega
  simp only[e2];obtain⟨x,hx⟩:∃x,(dO o)[k]=x:=⟨_,rfl⟩
  have hxD:D[k]=x:=by rw[<-hx];congr 1;exact ho.symm
  have hxB:x<1000000000:=by rw[<-hxD];exact hok _ (aZ hk)
  have hv:=c7 (B:=1000000000) hk;rw[hxD]at hv;have nn:=nineG x hxB;have hnd:=TE x 9;have hnv:=TA x 9;have hnl:=yx x 9;obtain⟨T,hT⟩:∃T,GY x 9=T:=⟨_,rfl⟩
  rw[hT]at nn hnd hnv hnl;have w9:=bE (n:=(k:Int)-1) (by omega) (by omega);refine abA (aaE (hK3 _ _ (aae λK5 hK5=>abd (aaJ ?_))));simp[hko,hx];refine ag.p 0 9 nn ?_;simp[uY]
  repeat refine aL ?_
  apply hK5;refine aaJ ?_;simp[w9];refine⟨k,S++T,Le.mk' _ rfl aW (by simp),⟨by omega,?_,?_,?_⟩,by omega⟩
  ·intro c hc;rcases List.mem_append.1 hc with hc|hc
   ·exact h2 c hc
   ·exact hnd c hc
  ·rw[lC,ga,hnv,hnl,h3,hv,adL hxB];omega
  grind
 |zero=>
  rw[adJ,hval]at h3;refine abg (abX (hK _ _ (aae λK hK=>abd ?_)))
  refine aco (λ(S:List UInt8)=>⟨aJ [(3,.c (.d (.str S)))],λ_=>.hole⟩) 0
   (λS=>xG S/\aP S 0=A/\S.length<=9*D.length) (λS=>S.length) S (Le.mk' _ rfl aW (by simp)) ⟨h2,h3,by omega⟩ ?_
  rintro S ⟨q1,q2,q3⟩
  have fin:∀(fr:Nat->AV) (κ:Nat),S≠[]->isRow S->fr 3=.c (.d (.str S))->K ⟨fr,λ_=>.hole⟩ κ:=by
   intro fr κ hne hr z3;have hrd:=yc hr;rw[q2]at hrd;apply hK;refine aae λK6 hK6=>adb z3 @yA hne ?_;refine abg (aaE (hK6 _ _ (acf z3 ?_)));exact aaV (aq.rt (t:=2) rfl 9 (by simp_all))
  refine aae λK4 hK4=>aae λK5 hK5=>?_
  cases S with
  |nil=>
   have hA:A=0:=q2.symm;refine adg (hK5 _ _ ?_);refine abg (abX (hK _ _ (aae λK6 hK6=>acf @yA ?_)));refine abA (adg (hK6 _ _ ?_));refine aar ?_;have hs:jH A=[48]:=by rw[hA];rfl
   exact aaV (aq.rt (t:=2) rfl 9 (by simp[hs]))
  |cons c l=>
   have hc:=q1 c (by simp)
   cases l with
   |nil=>
    refine adg (hK5 _ _ ?_);refine abg (abX ?_);simp;refine fin _ _ (by simp) ⟨q1,by simp,?_⟩ (by simp)
    grind
   |cons d l=>
    have hl2:(1:Int)<((l.length:Int)+1+1):=by omega
    have hl3:(0:Int)<((l.length:Int)+1+1):=by omega
    have ll:l.length<=900000:=by simp at q3;omega
    by_cases h:c=48
    ·subst h;refine aaJ ?_;simp[hl2,hl3];apply hK5;refine abA (aaE (hK4 _ _ (abd (aaJ ?_))));simp
     repeat refine aL ?_
     have ht:List.take (((l.length:Int)+1+1).toNat) ((48:UInt8)::d::l)=48::d::l:=adQ (by simp;omega);exact⟨d::l,Le.mk' _ rfl aW (by simp[ht]),⟨λx hx=>q1 x (ael _ hx),q2,by grind⟩,by simp⟩
    ·have hcn:¬(c.toNat:Int)=48:=λe=>h (UInt8.toNat_inj.1 (by grind))
     have hcn2:¬c.toNat=48:=by omega
     refine aaJ ?_;simp[hl2,hl3,hcn];apply hK5;refine abg (abX ?_);simp;exact fin _ _ (by simp) ⟨q1,by simp,.inr h⟩ (by simp)
def Bx(x:Rat):List UInt8:=(if x.num<0 then[45]else[])++jH x.num.natAbs++(if x.den=1 then[]else[47]++jH x.den)
theorem Lz{L:Nat}(h:n<10^L)(hL:1<=L):(jH n).length<=L:=by
 induction L generalizing n with
 |zero=>omega
 |succ L ih=>
  by_cases h10:n<10
  ·rw[KL h10];simp
  ·rw[JB h10,ac8,adY]
   grind
theorem JJ(n:Nat):(jH n).length<=10*nl n+1:=by
 have h1:=AI n;have h2:4294967296^nl n<=(10^10)^nl n:=aeY (by decide) _;rw[<-aef]at h2;have h3:n<10^(10*nl n+1):=adD (adD h1 h2) (adS (by decide) (by omega));exact Lz h3 (by omega)
theorem Rm{x:Rat}:gb x<0↔x.num<0:=by
 unfold gb;omega
theorem Ly(G:List (List DV))(x:Rat)(hx:kF x 20000):aa prog G 183 [dM x] (.c (.d (.str (Bx x)))):=by
 have h1:=Pq hx.1;have h2:=Pq hx.2;have t1:=BU G x.num.natAbs (kI x) (oP x) (by omega);have ii:=AB G x;have l1:=JJ x.num.natAbs;have l2:=JJ x.den;have hx1:=hx.1;have hx2:=hx.2;have hn:=Rm (x:=x)
 have t2:¬x.den=1->aa prog G 231 [.c (rC (oG x))] (.c (.d (.str (jH x.den)))):=λh=>by
  have h0:x.num≠0:=λe=>h (Gi e)
  refine BU G x.den (oG x) (by rw[D9 h0];rfl) (by omega)
 have hS:Bx x=(if x.num<0 then[45]else[])++jH x.num.natAbs++(if x.den=1 then[]else[47]++jH x.den):=rfl;generalize Bx x=Z at*
 generalize jH x.num.natAbs=P at*
 generalize jH x.den=Q at*
 refine aa.en func183 rfl λ_=>aar ?_;refine acF 1 t1 ?_;refine aae λK hK=>?_
 have fin:∀(S:List UInt8) (fr:Nat->AV) (κ:Nat),S=(if x.num<0 then[45]else[])++P->fr 1=.c (.ptr 0 0)->fr 3=.c (.d (.str S))->K ⟨fr,au (λ_=>.hole) 0 (.cells true false 197 [.d (.int .i64 (gb x)),rC (kI x),rC (oG x)])⟩ κ:=by
  intro S fr κ hSe z1 z3;have hSl:S.length<=P.length+1:=by rw[hSe];split<;>simp<;>omega
  rw[<-hSe]at hS;apply hK;refine aae λK1 hK1=>aae λK2 hK2=>?_
  by_cases hd:x.den=1
  ·rw[if_pos hd,adv]at hS;refine AW.m2 1 ii z1 hd (hK2 _ _ ?_);refine abg (aaE (hK1 _ _ (acf z3 ?_)));exact aaV (aq.rt (t:=2) rfl 9 (by simp[hS]))
  ·have t2':=t2 hd;rw[if_neg hd]at hS;refine AW.m2 1 ii z1 hd (hK2 _ _ ?_);refine abA (aaJ ?_);simp[z1,z3,uY]
   repeat refine aL ?_
   refine ag.pure 1 9 t2' (by simp) (by simp) (by simp) ?_;simp[uY]
   repeat refine aL ?_
   apply hK1;refine aar ?_;exact aaV (aq.rt (t:=2) rfl 9 (by simp[hS]))
 refine aae λK1 hK1=>?_
 by_cases hneg:x.num<0
 ·have hr:=hn.2 hneg;refine acC hr (hK1 _ _ ?_);refine abA (aaJ ?_);simp[uY]
  repeat refine aL ?_
  simp_all
 ·have hr:¬gb x<0:=λh=>hneg (hn.1 h)
  refine acC hr (hK1 _ _ ?_);refine abg (aaE ?_)
  simp_all
theorem aq.XH{t1 t2 t3 t4:Nat}{s:az}(hr:fn.results=#[.tmp t1,.tmp t2,.tmp t3,.tmp t4])(kh:Key)(hx:s.fr t1=x)(hy:s.fr t2=y)(hz:s.fr t3=z)(hu:s.fr t4=u)(hp:x.pure=true)(hq:y.pure=true)(hw:z.pure=true)(hv:u.pure=true)(hh:s.lv kh=.hole)
 (n1:x.cD=true) (n2:y.cD=true) (n3:z.cD=true) (n4:u.cD=true) (h12:t1≠t2) (h13:t1≠t3) (h14:t1≠t4) (h23:t2≠t3) (h24:t2≠t4) (h34:t3≠t4):aq c fn (.tup [x,y,z,u]) .ret s κ:=by
 refine⟨[(t1,x),(t2,y),(t3,z),(t4,u)],kh,by grind,hh,?_⟩;rw[hr];simp[eD,l8,pE,aJ,h12.symm,h13.symm,h14.symm,h23.symm,h24.symm,h34.symm,n1,n2,n3,n4]
theorem yM:∀{s:List UInt8},(∀c∈s,c≠47)->lT s [47] = -1
 |[],_=>rfl
 |a::s,h=>by
  have ha:=h a (by simp);have ih:=yM (s:=s) λc hc=>h c (by simp[hc])
  unfold lT at ih⊢;rw[Lib.index]
  grind
theorem Iw:∀{a b:List UInt8},(∀c∈a,c≠47)->lT (a++47::b) [47]=a.length
 |[],b,_=>by rfl
 |x::a,b,h=>by
  have hx:=h x (by simp);have ih:=Iw (a:=a) (b:=b) λc hc=>h c (by simp[hc])
  unfold lT at ih⊢;rw[ad6,Lib.index]
  grind
def Zs(s:List UInt8):List UInt8:=vB s [47]
def Wm(s:List UInt8):List UInt8:=if 0<=lT s [47]then vh s [47]else[49]
def Hf(neg:Bool):Int:=if neg then -1 else 1
abbrev Tm(neg:Bool)(s:List UInt8):AV:=.tup [.c (.d (.str (Zs s))),.c (.d (.str (Wm s))),.c (.d (.int .i64 (Hf neg))),.c (.d (.bool (!jo neg (vB s [47]) (vh s [47]) (decide (0<=lT s [47])))))]
theorem LC(G:List (List DV))(r:List UInt8):aa prog G 180 [.c (.d (.str r))] (Tm (tG r [45]) (mH r [45])):=by
 refine aD.kK 0 (by simp) (λV v h=>(show r.length<=9223372036854775807 by cases h.1 with|str _ hl=>exact hl)) λhs=>?_;have rowG:=λs=>OW G s
 have hsl:(mH r [45]).length<=r.length:=by unfold mH;split<;>simp
 have hdec:(tG r [45]=true/\∃l,r=45::l/\mH r [45]=l)\/(tG r [45]=false/\mH r [45]=r/\(r=[]\/∃c l,r=c::l/\c≠45)):=by
  cases r with
  |nil=>exact .inr ⟨rfl,rfl,.inl rfl⟩
  |cons c l=>
   by_cases hc:c=45
   ·subst hc;have:tG (45::l) [45]=true:=by simp[tG]
    exact .inl ⟨this,l,rfl,by rfl⟩
   ·have:tG (c::l) [45]=false:=by simp[tG,hc]
    exact .inr ⟨this,by unfold mH;grind,.inr ⟨c,l,rfl,hc⟩⟩
 generalize mH r [45]=s at*
 generalize tG r [45]=neg at*
 refine aa.en func180 rfl λ_=>aar ?_;refine aar ?_;refine aae λK hK=>?_
 have main:∀(fr:Nat->AV) (κ:Nat),fr 6=.c (.d (.str s))->fr 7=.c (.d (.int .i64 (Hf neg)))->K ⟨fr,λ_=>.hole⟩ κ:=by
  intro fr κ z6 z7;apply hK;refine aae λK hK=>aar ?_;refine abd ?_;refine aco (λ(i:Nat)=>⟨aJ [(6,.c (.d (.str s))),(7,.c (.d (.int .i64 (Hf neg)))),(8,.c (.d (.int .i64 (i:Int))))],λ_=>.hole⟩) 0 (λi=>i<=s.length/\∀c∈s.take i,c≠47) (λi=>s.length-i) 0 (Le.mk' _ rfl aW (by simp_all)) ⟨ac1 _,λc hc=>by simp at hc⟩ ?_;rintro i ⟨hi,hd⟩;refine aae λK3 hK3=>aar ?_
  by_cases hlt:i<s.length
  ·have hlt':(i:Int)<(s.length:Int):=by omega
   have wi:=bE (n:=(i:Int)+1) (by omega) (by omega);obtain⟨c,hc⟩:∃c,s[i]=c:=⟨_,rfl⟩
   refine abz (by simp_all) (aaE (hK3 _ _ (aae λK5 hK5=>abd (abU λK6 hK6=>?_))));simp[hlt,hlt',hc];apply hK6
   by_cases h47:c=47
   ·have hcn:(c.toNat:Int)=47:=by rw[h47];rfl
    have hcn2:c.toNat=47:=by rw[h47];rfl
    have hsp:s=s.take i++47::s.drop (i+1):=by
     conv=>lhs;rw[<-afn i s,adV hlt,hc,h47]
    have hidx:lT s [47]=i:=by
     have:=Iw (b:=s.drop (i+1)) hd;rwa[<-hsp,ac7,adO (by omega)]at this
    have hge:0<=lT s [47]:=by rw[hidx];omega
    have hA:vB s [47]=s.take i:=by unfold vB;rw[if_pos hge,hidx,ac9]
    have hB:vh s [47]=s.drop (i+1):=by unfold vh;rw[if_pos hge,hidx,ac9];rfl
    have hT:Zs s=s.take i:=hA;have hB2:Wm s=s.drop (i+1):=by unfold Wm;rw[if_pos hge,hB]
    have hbad:(!jo neg (vB s [47]) (vh s [47]) (decide (0<=lT s [47])))=(fL (s.take i)&&fL (s.drop (i+1))&&!decide (s.drop (i+1)=[48])&&!decide (s.drop (i+1)=[49])&&(!decide (s.take i=[48]) ||decide (0<Hf neg))):=by
     rw[hA,hB,decide_eq_true hge];unfold jo Hf
     cases fL (s.take i)<;>cases fL (s.drop (i+1))<;>cases neg<;>cases decide (s.take i=[48])<;>cases decide (s.drop (i+1)=[48])<;>cases decide (s.drop (i+1)=[49])<;>rfl
    have e1:∀l:List UInt8,(l.take ((i:Int)).toNat).drop (0:Int).toNat=l.take i:=λl=>rfl
    have hdr:(s.take ((s.length:Int)).toNat).drop ((i+1:Nat):Int).toNat=s.drop (i+1):=by rw[ac9,ac9,List.take_length]
    obtain⟨p,hp⟩:∃p,s.take i=p:=⟨_,rfl⟩
    obtain⟨q,hq⟩:∃q,s.drop (i+1)=q:=⟨_,rfl⟩
    have rp:=rowG p;have rq:=rowG q;rw[hp]at hT;rw[hq]at hB2;rw[hp,hq]at hbad;have hp':List.drop 0 (List.take i s)=p:=hp;refine abz (by simp[hcn2]<;>omega) (aae λK6 hK6=>?_);refine acs mixed (by kernel_rfl) rfl ?_;simp[wi,hp,hq]
    repeat refine aL ?_
    refine⟨by kernel_rfl,?_⟩;apply hK6;refine aae λK6 hK6=>?_
    have fin:∀(b:Bool) (fr:Nat->AV) (κ:Nat),fr 2=.c (.d (.str p))->fr 3=.c (.d (.str q))->fr 4=.c (.d (.int .i64 (Hf neg)))->fr 5=.c (.d (.bool b)) ->
     b=(fL p&&fL q&&!decide (q=[48])&&!decide (q=[49])&&(!decide (p=[48]) ||decide (0<Hf neg)))->K6 ⟨fr,λ_=>.hole⟩ κ:=by
     intro b fr κ z2 z3 z4 z5 hb;rw[<-hbad]at hb;apply hK6;exact acm (κ:=0) (aq.XH (κ:=0) rfl 9 (by grind) (by grind) (by simp[z4]) (by grind) rfl rfl rfl rfl rfl rfl rfl rfl rfl (by decide) (by decide) (by decide) (by decide) (by decide) (by decide))
    cases r1:fL p with
    |false=>
     refine aaJ ?_;simp;refine ag.p 0 9 rp ?_;simp[r1];exact fin false _ _ (by simp) (by simp) (by simp) (by simp) (by simp[r1])
    |true=>
    cases r2:fL q with
    |false=>
     refine aaJ ?_;simp;refine ag.p 0 9 rp ?_;simp[r1];refine ag.p 0 9 rq ?_;simp[r2];exact fin false _ _ (by simp) (by simp) (by simp) (by simp) (by grind)
    |true=>
    by_cases q0:q=[48]
    ·subst q0;refine aaJ ?_;simp;refine ag.p 0 9 rp ?_;simp[r1];refine ag.p 0 9 rq ?_;simp[r2,xz];exact fin false _ _ (by simp) (by simp) (by simp) (by simp) (by simp)
    by_cases q1:q=[49]
    ·subst q1;refine aaJ ?_;simp;refine ag.p 0 9 rp ?_;simp[r1];refine ag.p 0 9 rq ?_;simp[r2,xz];exact fin false _ _ (by simp) (by simp) (by simp) (by simp) (by simp)
    by_cases p0:p=[48]
    ·subst p0;refine aaJ ?_;simp;refine ag.p 0 9 rp ?_;simp[r1];refine ag.p 0 9 rq ?_;simp[r2,xz,q0,q1];exact fin (decide (0<Hf neg)) _ _ (by simp) (by simp) (by simp) (by simp) (by simp[r1,r2,q0,q1])
    ·refine aaJ ?_;simp;refine ag.p 0 9 rp ?_;simp[r1];refine ag.p 0 9 rq ?_;simp[r2,xz,q0,q1,p0];exact fin true _ _ (by simp) (by simp) (by simp) (by simp) (by grind)
   ·have hcn:¬(c.toNat:Int)=47:=λe=>h47 (UInt8.toNat_inj.1 (by grind))
    have hcn2:¬c.toNat=47:=by omega
    refine abD (by simp_all) (aaE (hK5 _ _ (aaJ ?_)));simp[wi];refine⟨i+1,Le.mk' _ rfl aW (by simp),⟨by omega,?_⟩,by omega⟩;intro x hx;rw[aew,bp hlt,aem]at hx
    grind
  ·have he:i=s.length:=by omega
   subst he;rw[List.take_length]at hd;have hidx:=yM hd;have hge:¬0<=lT s [47]:=by rw[hidx];decide
   have hA:vB s [47]=s:=if_neg hge;have hT:Zs s=s:=hA;have hB2:Wm s=[49]:=if_neg hge
   have hbad:(!jo neg (vB s [47]) (vh s [47]) (decide (0<=lT s [47])))=(fL s&&(!decide (s=[48]) ||decide (0<Hf neg))):=by
    rw[hA,decide_eq_false hge];unfold jo Hf
    cases fL s<;>cases neg<;>cases decide (s=[48])<;>rfl
   have rs:=rowG s;refine abD (by simp) (abX (hK _ _ (aae λK6 hK6=>?_)))
   have fin:∀(b:Bool) (fr:Nat->AV) (κ:Nat),fr 2=.c (.d (.str s))->fr 3=.c (.d (.str [49]))->fr 4=.c (.d (.int .i64 (Hf neg)))->fr 5=.c (.d (.bool b)) ->
    b=(fL s&&(!decide (s=[48]) ||decide (0<Hf neg)))->K6 ⟨fr,λ_=>.hole⟩ κ:=by
    intro b fr κ z2 z3 z4 z5 hb;rw[<-hbad]at hb;apply hK6;exact acm (κ:=0) (aq.XH (κ:=0) rfl 9 (by grind) (by grind) (by simp[z4]) (by grind) rfl rfl rfl rfl rfl rfl rfl rfl rfl (by decide) (by decide) (by decide) (by decide) (by decide) (by decide))
   cases r1:fL s with
   |false=>
    refine aaJ ?_;simp;refine ag.p 0 9 rs ?_;simp[r1]
    simp_all
   |true=>
   by_cases p0:s=[48]
   ·subst p0;refine aaJ ?_;simp;refine ag.p 0 9 rs ?_;simp[r1,xz];exact fin (decide (0<Hf neg)) _ _ (by simp) (by simp) (by simp) (by simp) (by simp[r1])
   ·refine aaJ ?_;simp;refine ag.p 0 9 rs ?_;simp[r1,xz,p0]
    simp_all
 refine aae λK1 hK1=>?_;rcases hdec with⟨hn,l,hr,hl⟩|⟨hn,hl,hr|⟨c,l,hr,hc⟩⟩
 ·subst hr;subst hl;have ht:List.take (((s.length:Int)+1).toNat) ((45:UInt8)::s)=45::s:=adQ (by simp);have hp:(0:Int)<(s.length:Int)+1:=by omega
  have hll:s.length+1<=9223372036854775807:=by simpa using hs
  refine aaJ ?_;simp[hp];apply hK1;refine abA (aaJ ?_);simp
  repeat refine aL ?_
  exact main _ _ (by simp) (by simp[Hf,hn])
 ·subst hr;subst hl;refine adg (hK1 _ _ ?_);refine abg (aaE ?_);simp;exact main _ _ (by simp) (by simp[Hf,hn])
 ·subst hr;subst hl;have hcn:¬(c.toNat:Int)=45:=λe=>hc (UInt8.toNat_inj.1 (by grind))
  have hcn2:¬c.toNat=45:=by omega
  have hp:(0:Int)<(l.length:Int)+1:=by omega
  refine aaJ ?_;simp[hp,hcn];apply hK1;refine abg (aaE ?_);simp;exact main _ _ (by simp) (by simp[Hf,hn])
attribute [local irreducible] cU
theorem Cb:∀(s:List UInt8),(∀c∈s,c≠47)\/∃a b,s=a++47::b/\∀c∈a,c≠47
 |[]=>.inl λc hc=>by cases hc
 |x::s=>by
  by_cases hx:x=47
  ·subst hx;exact .inr ⟨[],s,rfl,λc hc=>by cases hc⟩
  ·rcases Cb s with h|⟨a,b,h,ha⟩
   ·grind
   grind
theorem Ag:∀{a a' b b':List UInt8},(∀c∈a,c≠47)->(∀c∈a',c≠47)->a++47::b=a'++47::b'->b=b'
 |[],[],b,b',_,_,h=>(List.cons.inj h).2
 |[],x::a',b,b',_,h',h=>absurd (List.cons.inj h).1.symm (h' x (by simp))
 |x::a,[],b,b',h',_,h=>absurd (List.cons.inj h).1 (h' x (by simp))
 |x::a,y::a',b,b',h1,h2,h=>Ag (λc hc=>h1 c (by simp[hc])) (λc hc=>h2 c (by simp[hc])) (List.cons.inj h).2
theorem IK(h:xG s):∀c∈s,c≠47:=λc hc e=>by
 have:=h c hc
 simp_all
theorem IN:∀(f n:Nat),n<=f->xG (vO f n)/\aP (vO f n) 0=n
 |0,n,h=>by
  have:n=0:=by omega
  subst this;refine⟨λc hc=>?_,rfl⟩;rw[vO,ad8]at hc;rw[hc,mR (by decide)];omega
 |f+1,n,h=>by
  rw[vO]
  by_cases h10:n<10
  ·rw[if_pos h10];refine⟨λc hc=>?_,?_⟩
   ·rw[ad8]at hc;rw[hc,mR h10];omega
   ·show 10*0+((MC n).toNat-48)=n;rw[mR h10];omega
  ·rw[if_neg h10];obtain⟨h1,h2⟩:=IN f (n/10) (by omega);refine⟨λc hc=>?_,?_⟩
   ·rcases List.mem_append.1 hc with hc|hc
    ·exact h1 c hc
    ·rw[ad8]at hc;rw[hc,mR (by omega)];omega
   ·rw[Cy,h2,mR (by omega)];omega
theorem N9(n:Nat):xG (jH n):=(IN n n (aU _)).1
theorem Us(n:Nat):aP (jH n) 0=n:=(IN n n (aU _)).2
theorem PC(r:List UInt8):r=(if tG r [45]then[45]else[])++mH r [45]:=by
 unfold mH
 cases h:tG r [45]with
 |false=>rfl
 |true=>
  unfold tG at h;simp only[adY,cy,decide_eq_true_eq]at h;show r=[45]++r.drop 1;rw[<-h.2];have:=afn 1 r
  grind
theorem Ez(neg:Bool){P Q:Nat}(hP:P≠0)(hQ:Q≠0):Bx (mkRat (eY neg P) Q)=(if neg then[45]else[])++jH (P/Nat.gcd P Q)++(if Q/Nat.gcd P Q=1 then[]else[47]++jH (Q/Nat.gcd P Q)):=by
 obtain⟨n1,n2⟩:=jA neg (a:=P) hQ;have hg:P/Nat.gcd P Q≠0:=aeh (Nat.div_pos (Nat.le_of_dvd (by omega) (afv _ _)) (afe _ (by omega)));unfold Bx;rw[n1,n2,uv]
 cases neg with
 |true=>
  rw[if_pos (show eY true (P/Nat.gcd P Q)<0 from Int.neg_neg_of_pos (Int.ofNat_lt.2 (aeW hg)))];rfl
 |false=>
  rfl
theorem Ce:Bx 0=[48]:=rfl
theorem JX(neg:Bool)(Q:Nat):mkRat (eY neg 0) Q=0:=by
 have e2:eY neg 0=0:=by cases neg<;>rfl
 simp_all
theorem HQ(hT:isRow T)(h0:¬(neg=true/\T=[48])):Bx (mkRat (eY neg (aP T 0)) 1)=(if neg then[45]else[])++T:=by
 have hd:=yc hT
 by_cases hP:aP T 0=0
 ·rw[hP,JX,Ce];have:T=[48]:=by rw[hd,hP];rfl
  grind
 ·rw[Ez neg hP (by decide),aff,aev,aev,<-hd,if_pos rfl,adv]
theorem Lq{B:List UInt8}(hT:isRow T)(hB:isRow B)(hQ:2<=aP B 0):Bx (mkRat (eY neg (aP T 0)) (aP B 0))=(if neg then[45]else[])++(T++47::B)↔Nat.gcd (aP T 0) (aP B 0)=1:=by
 have hdT:=yc hT;have hdB:=yc hB
 have h45:∀c∈(if neg then[45]else[]:List UInt8),c≠47:=by
  intro c hc;split at hc
  ·rw[ad8]at hc;rw[hc];decide
  ·cases hc
 have hmem:(47:UInt8)∈(if neg then[45]else[]:List UInt8)++(T++47::B):=by simp
 constructor
 ·intro h;apply adK;intro hg
  by_cases hP:aP T 0=0
  ·rw[hP,JX,Ce]at h
   grind
  ·rw[Ez neg hP (by omega)]at h;generalize hgg:Nat.gcd (aP T 0) (aP B 0)=g at*
   have hg0:0<g:=by rw[<-hgg];exact afe _ (by omega)
   by_cases h1:aP B 0/g=1
   ·rw[if_pos h1,adv]at h;rw[<-h]at hmem;rcases List.mem_append.1 hmem with hm|hm
    ·grind
    ·exact IK (N9 _) 47 hm rfl
   ·rw[if_neg h1,<-adq]at h
    have h2:((if neg then[45]else[])++jH (aP T 0/g))++47::jH (aP B 0/g)=((if neg then[45]else[])++T)++47::B:=by
     rw[adq,adq]at h⊢;simpa using h
    have h3:=Ag (λc hc=>by
     rcases List.mem_append.1 hc with hc|hc
     ·grind
     ·exact IK (N9 _) c hc) (λc hc=>by
     rcases List.mem_append.1 hc with hc|hc
     ·grind
     ·exact IK hT.1 c hc) h2
    have h4:=congrArg (λl=>aP l 0) h3;simp only[Us]at h4;have:aP B 0/g<aP B 0:=Nat.div_lt_self (by omega) (by omega);omega
 ·intro hg;have hP:aP T 0≠0:=by intro e;rw[e,afR]at hg;omega
  rw[Ez neg hP (by omega),hg,aev,aev,<-hdT,<-hdB,if_neg (show ¬aP B 0=1 by omega),adq];rfl
theorem QF:isRow [49]:=⟨by intro c hc;simp_all,by decide,.inr (by decide)⟩
theorem DN(s t:List UInt8):aK prog .neq 36 (.c (.d (.str s))) (.c (.d (.str t)))=some (.c (.d (.bool (!decide (s=t)))),[],[],True):=by
 rw[<-R5];rfl
theorem cU.M7{z:Rat}{t u k:Nat}{s:az}(hr:fn.results=#[.cell t 197,.tmp u])(ht:s.fr t=.c (.ptr k 0))(hk:s.lv k=.cells true false 197 [.d (.int .i64 (gb z)),rC (kI z),rC (oG z)])(hu:s.fr u=.c (.d (.int .i64 e)))(hP:c.P=prog):cU c fn (.tup [dM z,.c (.d (.int .i64 e))]) .ret s κ:=
 cU.wY hr ht hk (by simp_all) hu rfl rfl
theorem PF{top bot:List UInt8}{brk:Bool}(h:jo neg top bot brk=false):isRow top/\¬(neg=true/\top=[48])/\(brk=true->isRow bot/\bot≠[48]/\bot≠[49]):=by
 obtain⟨h1,h2⟩:=IE h;refine⟨qy.1 h1,?_,λhb=>?_⟩
 ·rintro⟨rfl,rfl⟩;unfold jo at h;simp at h
 ·obtain⟨a,b,c⟩:=h2 hb;exact⟨qy.1 a,b,c⟩
theorem MG{r:List UInt8}(h:eX r≠0):gp r=0:=if_neg h
@[simp]theorem Zf(h:x.cD=true):xE 0 (.tup [x,y,z,u])=some (x,[],[],True):=by
 cases x<;>first|rfl|cases h
@[simp]theorem Zx(h:y.cD=true):xE 1 (.tup [x,y,z,u])=some (y,[],[],True):=by
 cases y<;>first|rfl|cases h
@[simp]theorem Za(h:z.cD=true):xE 2 (.tup [x,y,z,u])=some (z,[],[],True):=by
 cases z<;>first|rfl|cases h
@[simp]theorem YM(h:u.cD=true):xE 3 (.tup [x,y,z,u])=some (u,[],[],True):=by
 cases u<;>first|rfl|cases h
theorem sJ(G:List (List DV))(r:List UInt8):aa prog G 134 [.c (.d (.str r))] (.tup [dM (gp r),.c (.d (.int .i64 (eX r)))]):=by
 have rw0:=LC G r;have hE:eX r=dX (tG r [45]) (vB (mH r [45]) [47]) (vh (mH r [45]) [47]) (decide (0<=lT (mH r [45]) [47])):=rfl;have hP:gp r=qi (tG r [45]) (vB (mH r [45]) [47]) (vh (mH r [45]) [47]) (decide (0<=lT (mH r [45]) [47])):=rfl;have hsp:=PC r;obtain⟨s,hs⟩:∃s,mH r [45]=s:=⟨_,rfl⟩
 obtain⟨neg,hn⟩:∃n,tG r [45]=n:=⟨_,rfl⟩
 rw[hs,hn]at rw0 hE hP hsp;unfold Tm at rw0;have hbad0:=MG (r:=r);have dz:∀e:Int,eJ (λ_=>LB.hole) (.tup [dM 0,.c (.d (.int .i64 e))])=some (.tup [dM 0,.c (.d (.int .i64 e))],[]):=λe=>lz _ _ _ _ _
 cases hb:jo neg (vB s [47]) (vh s [47]) (decide (0<=lT s [47]))with
 |true=>
  have e6:eX r=6:=by rw[hE];unfold dX;rw[if_pos hb]
  rw[hbad0 (by omega),e6];rw[hb]at rw0;refine aa.enc func134 rfl (λlv=>lz lv _ _ _ _) λ_=>aar ?_;refine acF 1 rw0 ?_;refine aae λK hK=>aar ?_;refine abA (acv @XP @aj.eq_1 ?_);exact acm (cU.M7 (k:=0) rfl (by simp) (by simp<;>exact⟨rfl,rfl,rfl⟩) (by simp) rfl)
 |false=>
 rw[hb]at rw0;obtain⟨hT,hT0,hB⟩:=PF hb;obtain⟨T,hTe⟩:∃T,vB s [47]=T:=⟨_,rfl⟩
 have hrT:Zs s=T:=hTe;obtain⟨B,hBe⟩:∃B,Wm s=B:=⟨_,rfl⟩
 rw[hTe]at hT hT0
 have hsame:(2000<max (vB s [47]).length (vh s [47]).length)↔(2000<T.length\/2000<B.length):=by
  rw[hTe]
  by_cases hk:0<=lT s [47]
  ·have:B=vh s [47]:=by rw[<-hBe];exact if_pos hk
   grind
  ·have h1:B=[49]:=by rw[<-hBe];exact if_neg hk
   have h2:vh s [47]=[]:=if_neg hk
   grind
 have hBrow:isRow B/\1<=aP B 0:=by
  by_cases hk:0<=lT s [47]
  ·have h1:B=vh s [47]:=by rw[<-hBe];exact if_pos hk
   obtain⟨a,b,c⟩:=hB (decide_eq_true hk);rw[h1];exact⟨a,by have:=yp (qy.2 a) b c;omega⟩
  ·have h1:B=[49]:=by rw[<-hBe];exact if_neg hk
   rw[h1];exact⟨QF,by decide⟩
 rw[hrT,hBe]at rw0
 by_cases hlong:2000<T.length\/2000<B.length
 ·have e3:eX r=3:=by rw[hE];unfold dX;rw[if_neg (by rw[hb];decide),if_pos (hsame.2 hlong)]
  rw[hbad0 (by omega),e3];refine aa.enc func134 rfl (λlv=>lz lv _ _ _ _) λ_=>aar ?_;refine acF 1 rw0 ?_;refine aae λK hK=>aar ?_;refine abg (aaE (hK _ _ (aae λK hK=>aae λK1 hK1=>?_)))
  by_cases l1:2000<T.length
  ·have l1':(2000:Int)<(T.length:Int):=by omega
   refine acJ l1 l1' (hK1 _ _ ?_);refine abA (acv @XP @aj.eq_1 ?_);exact acm (cU.M7 (k:=0) rfl (by simp) (by simp<;>exact⟨rfl,rfl,rfl⟩) (by simp) rfl)
  ·have l1':¬(2000:Int)<(T.length:Int):=by omega
   have l2:2000<B.length:=by omega
   have l2':(2000:Int)<(B.length:Int):=by omega
   refine acY l1 l1' l2 l2' (hK1 _ _ ?_);refine abA (acv @XP @aj.eq_1 ?_);exact acm (cU.M7 (k:=0) rfl (by simp) (by simp<;>exact⟨rfl,rfl,rfl⟩) (by simp) rfl)
 have l1:¬2000<T.length:=λh=>hlong (.inl h)
 have l2:¬2000<B.length:=λh=>hlong (.inr h)
 have l1':¬(2000:Int)<(T.length:Int):=by omega
 have l2':¬(2000:Int)<(B.length:Int):=by omega
 have rd1:=Cn G T hT.1 hT.2.1 (by omega);have rd2:=Cn G B hBrow.1.1 hBrow.1.2.1 (by omega);rw[gF]at rd1 rd2;have n1:=uJ hT.1 (by omega:T.length<=2000);have n2:=uJ hBrow.1.1 (by omega:B.length<=2000);have mk:=vv G (Hf neg) neg (aP T 0) (aP B 0) 300 (some (aI 1000000000 (aP T 0))) rfl (λ_=>rfl) hBrow.2 n1 n2 (by decide);have hsz:kF (mkRat (eY neg (aP T 0)) (aP B 0)) 300:=pX _ (by omega) n1 n2;have tx:=Ly G _ (ct hsz (by decide:300<=20000))
 have hres:(Bx (mkRat (eY neg (aP T 0)) (aP B 0))=r/\eX r=0/\gp r=mkRat (eY neg (aP T 0)) (aP B 0))\/(Bx (mkRat (eY neg (aP T 0)) (aP B 0))≠r/\eX r=6/\gp r=0):=by
  rcases Cb s with h47|⟨a,b,hab,ha⟩
  ·have hk:¬0<=lT s [47]:=by rw[yM h47];decide
   have hTs:T=s:=by rw[<-hTe];exact if_neg hk
   have hB1:B=[49]:=by rw[<-hBe];exact if_neg hk
   have hd1:aP B 0=1:=by rw[hB1];rfl
   left;have e0:eX r=0:=by rw[hE];unfold dX;rw[if_neg (by rw[hb];decide),if_neg (λh=>hlong (hsame.1 h)),if_pos (decide_eq_false hk)]
   refine⟨?_,e0,?_⟩
   ·rw[hd1,HQ hT hT0,hTs];grind
   ·rw[hP];unfold qi
    grind
  ·have hidx:=Iw (b:=b) ha;rw[<-hab]at hidx;have hk:0<=lT s [47]:=by rw[hidx];omega
   have hA:vB s [47]=a:=by unfold vB;rw[if_pos hk,hidx,ac9,hab,List.take_left]
   have hBb:vh s [47]=b:=by
    unfold vh;rw[if_pos hk,hidx,ac9,hab];rw[show a++47::b=(a++[47])++b by simp];exact List.drop_left' (by simp)
   have hTa:T=a:=by rw[<-hTe];exact hA
   have hBb2:B=b:=by rw[<-hBe];unfold Wm;rw[if_pos hk,hBb]
   obtain⟨c1,c2,c3⟩:=hB (decide_eq_true hk);have hge:=yp (qy.2 c1) c2 c3;rw[hBb,<-hBb2]at hge c1;have htf:=Lq (neg:=neg) hT c1 hge;have hsr:r=(if neg then[45]else[])++(T++47::B):=by rw[hTa,hBb2,<-hab];exact hsp
   rw[<-hsr]at htf
   have hpe:eX r=if Nat.gcd (aP T 0) (aP B 0)=1 then 0 else 6:=by
    rw[hE];unfold dX;rw[if_neg (by rw[hb];decide),if_neg (λh=>hlong (hsame.1 h)),if_neg (by rw[decide_eq_true hk];decide),WE,hTe,hBb,<-hBb2]
   by_cases hg:Nat.gcd (aP T 0) (aP B 0)=1
   ·left;rw[if_pos hg]at hpe;refine⟨htf.2 hg,hpe,?_⟩;rw[hP];unfold qi
    grind
   grind
 generalize mkRat (eY neg (aP T 0)) (aP B 0)=z at*
 rcases hres with⟨q1,q2,q3⟩|⟨q1,q2,q3⟩
 ·rw[q2,q3];refine aa.enc func134 rfl (λlv=>lz lv _ _ _ _) λ_=>aar ?_;refine acF 1 rw0 ?_;refine aae λK hK=>aar ?_;refine abg (aaE (hK _ _ (aae λK hK=>adi l1 l1' l2 l2' ?_)));refine abg (aaE (hK _ _ (abU λK hK=>?_)));simp;refine ag.p 1 9 rd1 ?_;simp;refine ag.p 1 9 rd2 ?_;simp;refine ag.p 1 9 mk ?_;simp[aj];apply hK;refine aae λK hK=>AW.c2 2 tx @DN q1 ?_;refine abg (aaE (hK _ _ (acf @aj.eq_1 ?_)));exact acm (cU.M7 (k:=0) rfl (by simp) (by simp) (by simp) rfl)
 ·rw[q2,q3];refine aa.enc func134 rfl (λlv=>lz lv _ _ _ _) λ_=>aar ?_;refine acF 1 rw0 ?_;refine aae λK hK=>aar ?_;refine abg (aaE (hK _ _ (aae λK hK=>adi l1 l1' l2 l2' ?_)));refine abg (aaE (hK _ _ (abU λK hK=>?_)));simp;refine ag.p 1 9 rd1 ?_;simp;refine ag.p 1 9 rd2 ?_;simp;refine ag.p 1 9 mk ?_;simp[aj];apply hK;refine aae λK hK=>AW.c2 2 tx @DN q1 ?_;refine abA (acv @XP @aj.eq_1 ?_);exact acm (cU.M7 (k:=0) rfl (by simp) (by simp<;>exact⟨rfl,rfl,rfl⟩) (by simp) rfl)
theorem FP(G:List (List DV))(r:List UInt8):aa prog G 138 [.c (.d (.str r))] (.c (.d (.int .i64 (eX r)))):=by
 have h:=sJ G r;generalize gp r=z at*
 generalize eX r=e at*
 refine aa.en func138 rfl λ_=>aar ?_;refine acX 1 h @aj.eq_1 ?_;refine aar ?_;exact aaV (aq.rt (t:=2) rfl 9 (by simp))
end Go.Am
namespace Go.Am
open Go.Am.Ty Go.Proofs N
variable {lv:Key->LB}{i:Nat}{l:List Int}
theorem oK(G:List (List DV))(n m:Int):aa prog G 87 [.c (.d (.int .i64 n)),.c (.d (.int .i64 m))] (.c (.d (.bool (decide (0<=n/\n<m))))):=by
 refine aa.en func87 rfl λ_=>aar ?_;refine aae λK hK=>?_
 by_cases h:0<=n
 ·refine acC h (hK _ _ ?_);exact aaV (aq.rt rfl 4 (by simp[h]))
 ·refine acC h (hK _ _ ?_);exact aaV (aq.rt rfl 4 (by simp[h]))
theorem vQ(G:List (List DV))(p:PD)(i:Int):aa prog G 88 [p.A,.c (.d (.int .i64 i))] (.c (.d (.int .i64 (fN p i)))):=by
 refine aa.en func88 rfl λ_=>aar ?_;refine aae λK hK=>aar ?_
 by_cases h:i<p.head
 ·refine abz (by simp_all) (aar ?_);exact aaV (aq.rt rfl 4 (by simp[fN,h]))
 ·refine abD (by simp_all) (aaE (hK _ _ (aae λK hK=>aar ?_)))
  by_cases h2:i<p.tail
  ·refine abz (by simp_all) (aar ?_);exact aaV (aq.rt rfl 4 (by simp[fN,h,h2]))
  ·refine abD (by simp_all) (aaE (hK _ _ (aar ?_)));exact aaV (aq.rt rfl 4 (by simp[fN,h,h2]))
theorem Lc(G:List (List DV))(p:PD)(i k:Int):aa prog G 139 [p.A,.c (.d (.int .i64 i)),.c (.d (.int .i64 k))] (.c (.d (.bool (dH p i k)))):=by
 have c1:=vQ G p k;have c2:=vQ G p i
 by_cases h1:0<=k
 rotate_left
 ·refine aa.en func139 rfl λ_=>aar ?_;refine AW.d1 mixed h1 ?_;exact aaV (aq.rt rfl 6 (by simp[dH,h1]))
 by_cases h2:k<i
 rotate_left
 ·refine aa.en func139 rfl λ_=>aar ?_;refine AW.d2 mixed h1 h2 ?_;exact aaV (aq.rt rfl 6 (by simp[dH,h1,h2]))
 by_cases h3:fN p k=0
 ·rw[h3]at c1;refine aa.en func139 rfl λ_=>aar ?_;refine aae λK hK=>?_;refine acs mixed (by kernel_rfl) rfl ?_;simp[h1,h2];refine ag.p 3 9 c1 ?_;simp;refine⟨by kernel_rfl,?_⟩;apply hK;exact aaV (aq.rt rfl 6 (by simp[dH,h1,h2,h3]))
 ·refine aa.en func139 rfl λ_=>aar ?_;refine aae λK hK=>?_;refine acs mixed (by kernel_rfl) rfl ?_;simp[h1,h2];refine ag.p 3 9 c1 ?_;simp[h3];refine ag.p 3 9 c1 ?_;simp;refine ag.p 3 9 c2 ?_;simp;refine⟨by kernel_rfl,?_⟩;apply hK;exact aaV (aq.rt rfl 6 (by simp[dH,h1,h2,h3]))
def fc(op:Int):Int:=if 1<=op/\op<=15 then bT op else -1
theorem RQ{op:Int}(h1:1<=op)(h2:op<=15):fc op=if op<=3 then 0 else if op<=7 then 1 else if op<=13 then 2 else if op=14 then 3 else 4:=by
 unfold fc bT;grind
theorem oa(G:List (List DV))(op:Int):aa prog G 46 [.c (.d (.int .i64 op))] (.c (.d (.int .i64 (fc op)))):=by
 by_cases h1:op<1
 ·have hr:fc op = -1:=if_neg (by omega);refine aa.en func46 rfl λ_=>aar ?_;refine aae λK hK=>abd (acf h1 ?_)
  refine abA (aar ?_);exact aaV (aq.rt rfl 2 (by simp[hr]))
 by_cases h2:15<op
 ·have hr:fc op = -1:=if_neg (by omega);refine aa.en func46 rfl λ_=>aar ?_;refine aae λK hK=>abd (acv h1 h2 ?_)
  refine abA (aar ?_);exact aaV (aq.rt rfl 2 (by simp[hr]))
 have hv:=RQ (op:=op) (by omega) (by omega);refine aa.en func46 rfl λ_=>aar ?_;refine aae λK hK=>abd (acv h1 h2 ?_)
 refine abg ?_;refine aar ?_
 by_cases h3:op<=3
 ·have hr:fc op=0:=by rw[hv];rw[if_pos h3]
  refine abz (by simp_all) (aar ?_);exact aaV (aq.rt rfl 2 (by simp[hr]))
 refine abD (by simp_all) (aar ?_)
 by_cases h4:op<=7
 ·have hr:fc op=1:=by rw[hv];rw[if_neg h3];rw[if_pos h4]
  refine abz (by simp_all) (aar ?_);exact aaV (aq.rt rfl 2 (by simp[hr]))
 refine abD (by simp_all) (aar ?_)
 by_cases h5:op<=13
 ·have hr:fc op=2:=by rw[hv];rw[if_neg h3];rw[if_neg h4];rw[if_pos h5]
  refine abz (by simp_all) (aar ?_);exact aaV (aq.rt rfl 2 (by simp[hr]))
 refine abD (by simp_all) (aar ?_)
 by_cases h6:op=14
 ·have hr:fc op=3:=by rw[hv];rw[if_neg h3];rw[if_neg h4];rw[if_neg h5];rw[if_pos h6]
  refine abz (by simp_all) (aar ?_);exact aaV (aq.rt rfl 2 (by simp[hr]))
 refine abD (by simp_all) (aaE (hK _ _ (aar ?_)));have hr:fc op=4:=by rw[hv,if_neg h3,if_neg h4,if_neg h5,if_neg h6]
 exact aaV (aq.rt rfl 2 (by simp[hr]))
abbrev l4A(n:Nd):AV:=.agg [.d (.int .i64 n.a),.d (.int .i64 n.b),.d (.int .i64 n.c),.d (.int .i64 n.d)]
theorem QU(lv:Key->LB)(n:Nd):eJ lv (l4A n)=some (l4A n,[]):=rfl
theorem aap(a b c d:CV):fq prog 65 [a,b,c,d]=some (.agg [a,b,c,d]):=by kernel_rfl
theorem xC(G:List (List DV))(n:Nd):aa prog G 89 [n.A] (l4A n):=by
 refine aa.enc func89 rfl (λlv=>QU lv n) λ_=>aar ?_;refine acv @Y4 @aj.eq_1 ?_;refine acm ?_;rfl
def zN(l:List Int):Option (List Int):=if l=[]then none else some l
theorem Co(l:List Int):zL (zN l)=l:=by unfold zN;split<;>simp_all [zL]
theorem Q4(n:Nd)(i:Nat):((i:Int)<fc n.op)↔i<(aN n).length:=by
 unfold fc aN;have:=lR n.op;split
 ·rw[ac7,Nd.jx];omega
 simp
theorem QJ(n:Nd)(h:i<(aN n).length):∃h4:i<n.l4.length,(aN n).take (i+1)=(aN n).take i++[n.l4[i]]:=by
 have h0:aN n=n.l4.take (bT n.op):=by
  unfold aN at h⊢;split
  ·rfl
  ·grind
 have h4:i<n.l4.length:=by rw[h0,ac7]at h;omega
 refine⟨h4,?_⟩;rw[aew,bp h]
 grind
theorem Z4(n:Nd)(g:Key->Key):(LB.cells true false 40 [.d (.int .i64 n.op),.d (.int .i64 n.a),.d (.int .i64 n.b),.d (.int .i64 n.c),.d (.int .i64 n.d),.d (.int .i64 n.f),.d (.str n.v)]).like (.cells true false 40 [.d (.int .i64 n.op),.d (.int .i64 n.a),.d (.int .i64 n.b),.d (.int .i64 n.c),.d (.int .i64 n.d),.d (.int .i64 n.f),.d (.str n.v)]) g:=LB.tf.2 ⟨rfl,rfl,rfl,id⟩
theorem ER(l:List Int)(g:Key->Key):(LB.cells true false 65 (zK l)).like (.cells true false 65 (zK l)) g:=by
 rw[vD];simp
abbrev bN(n:Nd):LB:=.cells true false 40 [.d (.int .i64 n.op),.d (.int .i64 n.a),.d (.int .i64 n.b),.d (.int .i64 n.c),.d (.int .i64 n.d),.d (.int .i64 n.f),.d (.str n.v)]
theorem Rx{k:Key}(hl:l.length<=1000)(h:lv k=zB l):∃ks,eJ lv (Tf k l)=some (.c (zC (zN l)),ks):=by
 unfold Tf zN
 by_cases hn:l=[]
 ·rw[if_pos hn,if_pos hn];exact⟨[],rfl⟩
 ·rw[if_neg hn,if_neg hn];refine⟨[k],RT (by rw[h];exact if_neg hn) hl⟩
theorem BS(G:List (List DV))(n:Nd):aa prog G 45 [n.A] (.c (zC (zN (aN n)))):=by
 have hf:=xC G n;have ha:=oa G n.op;have hka:=Q4 n;have hkl:=nj n;have hzk:[CV.d (.int .i64 n.a),.d (.int .i64 n.b),.d (.int .i64 n.c),.d (.int .i64 n.d)]=zK n.l4:=rfl;refine aa.ed func45 rfl λ_=>aar ?_;refine abU λK hK=>?_;simp;refine ag.p 1 9 hf ?_;simp;simp[aj];apply hK;refine aar ?_;refine aae λK hK=>aar ?_;refine abd ?_
 refine aco (λ(i:Nat)=>⟨aJ [(1,.c (.ptr 0 0)),(3,.c (.ptr 1 0)),(4,Tf 2 ((aN n).take i)),(5,.c (.d (.int .i64 i)))],au (au (au (λ_=>.hole) 0 (bN n)) 1 (.cells true false 65 (zK n.l4))) 2 (zB ((aN n).take i))⟩) 10
  (λi=>i<=(aN n).length) (λi=>(aN n).length-i) 0 (Le.pq _ (by rw[List.take_zero];exact(Qf (k:=2) rfl).symm) (by simp[Tf])) (ac1 _) ?_
 rintro i hi
 try simp only at hi
 refine aae λK3 hK3=>acF 3 ha ?_
 by_cases hlt:i<(aN n).length
 ·have hlt':(i:Int)<fc n.op:=(hka i).2 hlt;obtain⟨h4,hnx⟩:=QJ n hlt;have hld:=dh (P:=prog) (T:=3) (by simp) h4;have hbs:∀(lv:Key->LB) (h:lv 10=.hole) (a:CV),ai prog 30 1 [0] lv 10 [.c a]=some (.c (.aE 10 0 1 1),[(10,.cells true false 3 [a])],[],True):=λlv h a=>aaI lv 10 h a
  have hle:((aN n).take i).length<=1000:=by rw[ac7];omega
  have hli:((aN n).take i).length=i:=by rw[ac7];omega
  have f12:=bE (n:=(i:Int)+1) (by omega) (by omega);generalize (aN n).take i=l at*
  generalize n.l4[i]=x at*
  have h44:i<4:=by omega
  refine abz (by simp_all) (aaE (hK3 _ _ (aae λK5 hK5=>abd ?_)));refine acW 10 ?_
  by_cases hl:l=[]
  ·subst hl;refine aaJ ?_;simp[hld,zB,Tf,hbs,dS,keyOf,-ai]
   repeat refine aL ?_
   apply hK5;refine aaJ ?_;simp[f12];refine⟨i+1,Le.keys [(0,0,bN n),(1,1,.cells true false 65 (zK n.l4)),(2,11,zB ([]++[x]))] 19 _ (by rw[hnx];rfl) rfl (by simp) (by simp) (by simp) ?_ ?_,by omega,by omega⟩
   ·intro e he;simp only[fy,aa8,or_false]at he;rcases he with rfl|rfl|rfl
    ·simp
    ·exact ER _ _
    ·rw[Kc];exact OU [x] _
   ·rw[hnx,Ko];simp[aQ]
  ·have hzb:zB l=.cells true false 3 (zK l):=if_neg hl;have hzs:Tf 2 l=.c (.aE 2 0 l.length 1):=if_neg hl;have hzl:(zK l).length=l.length:=IY l;refine aaJ ?_;simp[hld,hzb,hzs,hbs,dS,keyOf,hzl,-ai]
   repeat refine aL ?_
   apply hK5;refine aaJ ?_;simp[f12];refine⟨i+1,Le.keys [(0,0,bN n),(1,1,.cells true false 65 (zK n.l4)),(2,11,zB (l++[x]))] 19 _ (by rw[hnx];rfl) rfl (by simp) (by simp) (by simp) ?_ ?_,by omega,by omega⟩
   ·intro e he;simp only[fy,aa8,or_false]at he;rcases he with rfl|rfl|rfl
    ·simp
    ·exact ER _ _
    ·rw[Kc,show zK l++[CV.d (.int .i64 x)]=zK (l++[x]) by simp[zK]];exact OU (l++[x]) _
   ·rw[hnx,Ko];simp[aQ]
 have hlt':¬(i:Int)<fc n.op:=λh=>hlt ((hka i).1 h)
 refine abD (by simp_all) (abX ?_);simp;have hie:i=(aN n).length:=by omega
 subst hie;rw[List.take_length];apply hK;refine aar ?_;obtain⟨ks,hd⟩:=Rx (k:=2) (lv:=au (au (au (λ_=>.hole) 0 (bN n)) 1 (.cells true false 65 (zK n.l4))) 2 (zB (aN n))) (l:=aN n) (by omega) (by simp);exact acm (κ:=0) (iR.tmp (κ:=0) (ks:=ks) rfl (by simp) hd)
theorem W6{c:Ctx}{fr:Nat->AV}{κ:Nat}{n:Nd}(hP:c.P=prog)(hl0:c.jd=au (λ_=>.hole) 0 (bZ l))(h0:lv 0=bZ l)(h9:lv 9=.hole)(z4:fr 4=.c (.ptr 1001 0))(h1:lv 1001=.cells true false 40 (n.e.map CV.d)):
 I8 c Tryz.f23 n.A [bZ l] [] .ret ⟨fr,lv⟩ κ:=by
 refine⟨[(0,0,bZ l)],9,?_,by simp,by simp,h9,?_,?_,rfl,?_⟩
 ·rw[rL];rfl
 ·intro k hk;simp only[hl0,au]at hk;split at hk
  ·rename_i h0;subst h0;exact .inr (by simp[aQ])
  grind
 ·intro e he;simp only[fy,aa8,or_false]at he;subst he;show(lv 0).like (.cells false false 3 (zK l)) _;rw[h0];exact⟨false,_,rfl,(aX _ _).symm,id⟩
 ·rw[hP];simp[Tryz.f23,eD,l8,pE,z4,h1]
theorem PE(m:Int)(n:Nd)(h1:1<=n.op)(h2:n.op<=15)(l:List Int)(hl:l.length<=1000)(hk:∀x∈aN n,0<=x/\x<l.length):
 aD prog (GG m) 23 [n.A,.c (.aE 0 0 l.length 1)] [bZ l] (.ret (n.dw l).A [bZ l] []):=by
 have har:=oa (GG m) n.op;rw[show fc n.op=bT n.op from if_pos ⟨h1,h2⟩]at har;have hkl:aN n=n.l4.take (bT n.op):=by unfold aN;rw[if_pos ⟨h1,h2⟩]
 rw[hkl]at hk;have hle:=lR n.op;have hdef:n.dw l=⟨n.op,nv l (bT n.op) 4 0 n.a,nv l (bT n.op) 4 1 n.b,nv l (bT n.op) 4 2 n.c,nv l (bT n.op) 4 3 n.d,n.f,n.v⟩:=rfl;rw[hdef];clear hdef;generalize bT n.op=kk at*
 obtain⟨r0,hr0⟩:∃r,nv l kk 4 0 n.a=r:=⟨_,rfl⟩
 have y0:kk<=0->r0=n.a:=λh=>by rw[<-hr0];unfold nv;omega
 have w0:0<kk->∃q,∃h:q<l.length,n.a=(q:Int)/\r0=l[q]:=λh=>by
  have hm:=hk n.a (by rw[aeI];exact⟨0,by rw[Nd.jx];omega,rfl⟩);have hql:n.a.toNat<l.length:=by omega
  refine⟨n.a.toNat,hql,by omega,?_⟩;rw[<-hr0];unfold nv;grind
 obtain⟨r1,hr1⟩:∃r,nv l kk 4 1 n.b=r:=⟨_,rfl⟩
 have y1:kk<=1->r1=n.b:=λh=>by rw[<-hr1];unfold nv;omega
 have w1:1<kk->∃q,∃h:q<l.length,n.b=(q:Int)/\r1=l[q]:=λh=>by
  have hm:=hk n.b (by rw[aeI];exact⟨1,by rw[Nd.jx];omega,rfl⟩);have hql:n.b.toNat<l.length:=by omega
  refine⟨n.b.toNat,hql,by omega,?_⟩;rw[<-hr1];unfold nv;grind
 obtain⟨r2,hr2⟩:∃r,nv l kk 4 2 n.c=r:=⟨_,rfl⟩
 have y2:kk<=2->r2=n.c:=λh=>by rw[<-hr2];unfold nv;omega
 have w2:2<kk->∃q,∃h:q<l.length,n.c=(q:Int)/\r2=l[q]:=λh=>by
  have hm:=hk n.c (by rw[aeI];exact⟨2,by rw[Nd.jx];omega,rfl⟩);have hql:n.c.toNat<l.length:=by omega
  refine⟨n.c.toNat,hql,by omega,?_⟩;rw[<-hr2];unfold nv;grind
 obtain⟨r3,hr3⟩:∃r,nv l kk 4 3 n.d=r:=⟨_,rfl⟩
 have y3:kk<=3->r3=n.d:=λh=>by rw[<-hr3];unfold nv;omega
 have w3:3<kk->∃q,∃h:q<l.length,n.d=(q:Int)/\r3=l[q]:=λh=>by
  have hm:=hk n.d (by rw[aeI];exact⟨3,by rw[Nd.jx];omega,rfl⟩);have hql:n.d.toNat<l.length:=by omega
  refine⟨n.d.toNat,hql,by omega,?_⟩;rw[<-hr3];unfold nv;grind
 rw[hr0,hr1,hr2,hr3];refine aD.SW func23 rfl (rL _) λ_=>aar ?_;refine acF 1005 har ?_;refine aae λK hK=>?_
 have k1:∀(fr:Nat->AV) (κ:Nat) (lv:Key->LB),fr 1=.c (.aE 0 0 l.length 1)->fr 2=.c (.ptr 1000 0)->fr 4=.c (.ptr 1001 0)->fr 5=.c (.d (.int .i64 kk))->lv 0=bZ l->lv 9=.hole->lv 1000=.cells true false 40 [.d (.int .i64 n.op),.d (.int .i64 r0),.d (.int .i64 n.b),.d (.int .i64 n.c),.d (.int .i64 n.d),.d (.int .i64 n.f),.d (.str n.v)]->lv 1001=.cells true false 40 [.d (.int .i64 0),.d (.int .i64 0),.d (.int .i64 0),.d (.int .i64 0),.d (.int .i64 0),.d (.int .i64 0),.d (.str [])]->K ⟨fr,lv⟩ κ:=by
  intro fr κ lv z1 z2 z4 z5 l0 l9 la lb;apply hK;refine aae λK hK=>?_
  have k2:∀(fr:Nat->AV) (κ:Nat) (lv:Key->LB),fr 1=.c (.aE 0 0 l.length 1)->fr 2=.c (.ptr 1000 0)->fr 4=.c (.ptr 1001 0)->fr 5=.c (.d (.int .i64 kk))->lv 0=bZ l->lv 9=.hole->lv 1000=.cells true false 40 [.d (.int .i64 n.op),.d (.int .i64 r0),.d (.int .i64 r1),.d (.int .i64 n.c),.d (.int .i64 n.d),.d (.int .i64 n.f),.d (.str n.v)]->lv 1001=.cells true false 40 [.d (.int .i64 0),.d (.int .i64 0),.d (.int .i64 0),.d (.int .i64 0),.d (.int .i64 0),.d (.int .i64 0),.d (.str [])]->K ⟨fr,lv⟩ κ:=by
   intro fr κ lv z1 z2 z4 z5 l0 l9 la lb;apply hK;refine aae λK hK=>?_
   have k3:∀(fr:Nat->AV) (κ:Nat) (lv:Key->LB),fr 1=.c (.aE 0 0 l.length 1)->fr 2=.c (.ptr 1000 0)->fr 4=.c (.ptr 1001 0)->fr 5=.c (.d (.int .i64 kk))->lv 0=bZ l->lv 9=.hole->lv 1000=.cells true false 40 [.d (.int .i64 n.op),.d (.int .i64 r0),.d (.int .i64 r1),.d (.int .i64 r2),.d (.int .i64 n.d),.d (.int .i64 n.f),.d (.str n.v)]->lv 1001=.cells true false 40 [.d (.int .i64 0),.d (.int .i64 0),.d (.int .i64 0),.d (.int .i64 0),.d (.int .i64 0),.d (.int .i64 0),.d (.str [])]->K ⟨fr,lv⟩ κ:=by
    intro fr κ lv z1 z2 z4 z5 l0 l9 la lb;apply hK;refine aae λK hK=>?_
    have k4:∀(fr:Nat->AV) (κ:Nat) (lv:Key->LB),fr 1=.c (.aE 0 0 l.length 1)->fr 2=.c (.ptr 1000 0)->fr 4=.c (.ptr 1001 0)->fr 5=.c (.d (.int .i64 kk))->lv 0=bZ l->lv 9=.hole->lv 1000=.cells true false 40 [.d (.int .i64 n.op),.d (.int .i64 r0),.d (.int .i64 r1),.d (.int .i64 r2),.d (.int .i64 r3),.d (.int .i64 n.f),.d (.str n.v)]->lv 1001=.cells true false 40 [.d (.int .i64 0),.d (.int .i64 0),.d (.int .i64 0),.d (.int .i64 0),.d (.int .i64 0),.d (.int .i64 0),.d (.str [])]->K ⟨fr,lv⟩ κ:=by
     intro fr κ lv z1 z2 z4 z5 l0 l9 la lb;apply hK;refine abU λK hK=>?_;simp[z2,z4,la,lb,aj];apply hK;exact aaV (W6 rfl rfl (by simp[l0]) (by simp[l9]) (by simp[z4]) (by simp))
    refine aae λK1 hK1=>?_
    by_cases hj:3<kk
    ·obtain⟨q,hq,e1,e2⟩:=w3 hj;have hj':(3:Int)<(kk:Int):=by omega
     have hq':(q:Int)<(l.length:Int):=by omega
     have hld:=dh (P:=prog) (T:=3) (by simp) hq;refine aaJ ?_;simp[z5,hj'];apply hK1;refine abA (aaJ ?_);simp[z1,z2,l0,la,e1,hq',hld,aj]
     simp_all
    ·have hj':¬(3:Int)<(kk:Int):=by omega
     have ey:=y3 (by omega);refine aaJ ?_;simp[z5,hj'];apply hK1;refine abg (aaE ?_)
     simp_all
   refine aae λK1 hK1=>?_
   by_cases hj:2<kk
   ·obtain⟨q,hq,e1,e2⟩:=w2 hj;have hj':(2:Int)<(kk:Int):=by omega
    have hq':(q:Int)<(l.length:Int):=by omega
    have hld:=dh (P:=prog) (T:=3) (by simp) hq;refine aaJ ?_;simp[z5,hj'];apply hK1;refine abA (aaJ ?_);simp[z1,z2,l0,la,e1,hq',hld,aj]
    simp_all
   ·have hj':¬(2:Int)<(kk:Int):=by omega
    have ey:=y2 (by omega);refine aaJ ?_;simp[z5,hj'];apply hK1;refine abg (aaE ?_)
    simp_all
  refine aae λK1 hK1=>?_
  by_cases hj:1<kk
  ·obtain⟨q,hq,e1,e2⟩:=w1 hj;have hj':(1:Int)<(kk:Int):=by omega
   have hq':(q:Int)<(l.length:Int):=by omega
   have hld:=dh (P:=prog) (T:=3) (by simp) hq;refine aaJ ?_;simp[z5,hj'];apply hK1;refine abA (aaJ ?_);simp[z1,z2,l0,la,e1,hq',hld,aj]
   simp_all
  ·have hj':¬(1:Int)<(kk:Int):=by omega
   have ey:=y1 (by omega);refine aaJ ?_;simp[z5,hj'];apply hK1;refine abg (aaE ?_)
   simp_all
 refine aae λK1 hK1=>?_
 by_cases hj:0<kk
 ·obtain⟨q,hq,e1,e2⟩:=w0 hj;have hj':(0:Int)<(kk:Int):=by omega
  have hq':(q:Int)<(l.length:Int):=by omega
  have hld:=dh (P:=prog) (T:=3) (by simp) hq;refine acC hj' (hK1 _ _ ?_);refine abA (aaJ ?_);simp[e1,hq',hld,aj]
  simp_all
 ·have hj':¬(0:Int)<(kk:Int):=by omega
  have ey:=y0 (by omega);refine acC hj' (hK1 _ _ ?_);refine abg (aaE ?_)
  simp_all
def oB(L0:List Nd)(b:LB):Option LB:=if L0=[]then none else some b
theorem RL(a b:LB):bu [] [a,b]=au (au (λ_=>.hole) 1000 a) 1001 b:=by
 have h:=Oe [] [a] b;rw[show [a]++[b]=[a,b] from rfl,SQ]at h;exact h
def PD.nz(p:PD):PD:=⟨some (sO p.f),p.mode,some (sO p.ins),some (sO p.nodes),p.head,p.tail,some (sO p.states),p.res⟩
theorem M9(o:Option (List (List DV))):keyOf (.c (eG o))=[]:=by cases o<;>rfl
theorem x8{o:Option (List (List DV))}{sz:Nat}(h:∀e∈sO o,e.length=sz):dS lv sz (.c (eG o))=some ((sO o).length,(sO o).flatten.map CV.d):=by
 cases o with
 |none=>rfl
 |some es=>exact yd h
theorem Rf(G:List (List DV))(p:PD)(hp:p.ok)(ht:p.TN):aD prog G 21 [p.A] [] (.ret (.agg [.aE 1000 0 p.nf 2,.d (.int .i64 p.mode),.aE 1001 0 p.ni 3,.d .nilsl,.d (.int .i64 0),.d (.int .i64 0),.d .nilsl,.d (.int .i64 0)]) [] [DL 60 p.nz.f,DL 38 p.nz.ins]):=by
 have s1:∀lv,dS lv 2 (.c (eG p.f))=some (p.nf,(sO p.f).flatten.map CV.d):=λlv=>x8 λe he=>oo (hp.f e he)
 have s2:∀lv,dS lv 3 (.c (eG p.ins))=some (p.ni,(sO p.ins).flatten.map CV.d):=λlv=>x8 λe he=>vq (hp.ins e he)
 have t1:=ht.f;have t2:=ht.i;have b27':∀a b c:CV,eO prog 27 [0,1,2] [.c a,.c b,.c c]=some (.agg [a,b,c,.d .nilsl,.d (.int .i64 0),.d (.int .i64 0),.d .nilsl,.d (.int .i64 0)],[],[],True):=λa b c=>by kernel_rfl
 refine aD.enn func21 rfl λ_=>aar ?_;refine aae λK hK=>?_;refine acs mixed (by kernel_rfl) rfl ?_;simp[s1,s2,b27',lp,jf,M9,aj,-List.map_flatten]
 repeat refine aL ?_
 refine⟨by kernel_rfl,?_⟩;apply hK;refine acm (κ:=0) ⟨[(1000,3,DL 60 p.nz.f),(1001,5,DL 38 p.nz.ins)],19,RL _ _,by simp,by simp,by simp,?_,rfl,?_⟩
 ·simp[DL,PD.nz,-List.map_flatten]
 rfl
abbrev qD(p:PD)(v:CV):List CV:=[eG p.nz.f,.d (.int .i64 p.mode),eG p.nz.ins,v,.d (.int .i64 0),.d (.int .i64 0),.d .nilsl,.d (.int .i64 0)]
theorem jh{p:PD}(hg:p.good)(hi:i<p.nn):(1<=(p.nd i).op/\(p.nd i).op<=15)/\((p.nd i).op=2->0<=(p.nd i).a/\(p.nd i).a<p.ns)/\∀x∈aN (p.nd i),0<=x/\x<i:=by
 have h:=hg.nodes i hi;unfold kj at h
 by_cases c1:1<=(p.nd i).op/\(p.nd i).op<=15
 rotate_left
 ·omega
 rw[if_neg (not_not_intro c1)]at h;refine⟨c1,λh2=>?_,?_⟩
 ·omega
 ·by_cases h3:(p.nd i).op=3
  ·intro x hx;unfold aN at hx;rw[if_pos c1,h3]at hx
   cases hx
  ·rw[if_neg h3]at h
   have hk:(aN (p.nd i)).all (dH p i)=true:=by
    cases hkk:(aN (p.nd i)).all (dH p i)with
    |true=>rfl
    |false=>rw[hkk]at h;(repeat' split at h)<;>first|contradiction|(cases h;done)|(exfalso;simp_all)
   intro x hx;have:=List.all_eq_true.1 hk x hx;unfold dH at this
   grind
end Go.Am
namespace Go.Am
variable {p:PD}{k i:Nat}{l:List Bool}
def cS(l:List Bool)(k:Nat):Prop:=l.getD k false=true
theorem cS.lt(h:cS l k):k<l.length:=by
 unfold cS at h
 grind
theorem jR{j:Nat}:cS (l.set j true) k↔cS l k\/(k=j/\k<l.length):=by
 unfold cS
 grind
theorem P0{m:List Bool}(hl:l.length=m.length)(h:∀k,cS l k↔cS m k):l=m:=by
 refine List.ext_getElem hl λk h1 h2=>?_;have h3:=h k;unfold cS at h3
 grind
theorem jQ{n:Nat}:¬cS (List.replicate n false) k:=by
 unfold cS
 grind
def mY(l:List Bool)(ks:List Nat):List Bool:=ks.foldl (λl k=>l.set k true) l
theorem zc:∀(ks:List Nat) (l:List Bool),(mY l ks).length=l.length
 |[],_=>rfl
 |k::ks,l=>by rw[mY,ae2];exact(zc ks _).trans aep
theorem vp:∀(ks:List Nat) {l:List Bool}{k:Nat},cS (mY l ks) k↔cS l k\/(k∈ks/\k<l.length)
 |[],l,k=>by simp[mY]
 |j::ks,l,k=>by
  have h:=vp ks (l:=l.set j true) (k:=k);rw[jR,aep]at h;show cS (mY (l.set j true) ks) k↔_
  grind
theorem qB:∀{l m:List Bool},l.length=m.length->(∀k,cS l k->cS m k)->l.count true<=m.count true
 |[],[],_,_=>aU _
 |a::l,b::m,hl,h=>by
  have h0:=h 0;have h1:=qB (l:=l) (m:=m) (by grind) λk hk=>by simpa[cS]using h (k+1) (by simpa[cS]using hk)
  simp only[cS,List.getD_cons_zero]at h0
  grind
theorem ym:∀{l m:List Bool},l.length=m.length->(∀k,cS l k->cS m k)->∀j,cS m j->¬cS l j->l.count true<m.count true
 |[],[],_,_,j,hj,_=>by grind
 |a::l,b::m,hl,h,0,hj,hn=>by
  have h1:=qB (l:=l) (m:=m) (by grind) λk hk=>by simpa[cS]using h (k+1) (by simpa[cS]using hk)
  simp only[cS,List.getD_cons_zero]at hj hn
  grind
 |a::l,b::m,hl,h,j+1,hj,hn=>by
  have h0:=h 0;have h1:=ym (l:=l) (m:=m) (by grind) (λk hk=>by simpa[cS]using h (k+1) (by simpa[cS]using hk)) j (by simpa[cS]using hj) (by simpa[cS]using hn);simp only[cS,List.getD_cons_zero]at h0
  grind
abbrev NS:=List Bool×List Bool
variable {s t u:NS}
def Hp(p:PD)(i:Nat):List Nat:=(aN (p.nd i)).map Int.toNat++if (p.nd i).op=2 then[(p.st (p.nd i).a.toNat).1.toNat,(p.st (p.nd i).a.toNat).2.toNat]else[]
def G5(p:PD)(i:Nat)(s:NS):NS:=(mY s.1 (Hp p i),if (p.nd i).op=2 then s.2.set (p.nd i).a.toNat true else s.2)
def gI(p:PD)(i:Nat)(s:NS):NS:=if s.1.getD i false=true then G5 p i s else s
def kB(p:PD):Nat->NS->NS
 |0,s=>s
 |i+1,s=>kB p i (gI p i s)
def jE(p:PD):Nat->NS->NS
 |0,s=>s
 |r+1,s=>kB p p.nn (jE p r s)
def m7(p:PD):NS:=((List.replicate p.nn false).set p.res.toNat true,List.replicate p.ns false)
def MB(p:PD):NS:=jE p (p.ns+2) (m7 p)
def di(p:PD):Nat->Nat->NS->NS
 |0,_,s=>s
 |n+1,i,s=>if s.1.getD i false=true then s else
  let u:=((aN (p.nd i)).map Int.toNat).foldl (λs k=>di p n k s) (s.1.set i true,s.2)
  if (p.nd i).op=2 then di p n (p.st (p.nd i).a.toNat).2.toNat (di p n (p.st (p.nd i).a.toNat).1.toNat (u.1,u.2.set (p.nd i).a.toNat true))else u
def cF(p:PD):NS:=di p p.nn p.res.toNat (List.replicate p.nn false,List.replicate p.ns false)
structure PD.nv(p:PD):Prop where
 res:p.res.toNat<p.nn
 WO:∀i,i<p.nn->∀k∈(aN (p.nd i)).map Int.toNat,k<i
 st:∀i,i<p.nn->(p.nd i).op=2->(p.nd i).a.toNat<p.ns/\(p.st (p.nd i).a.toNat).1.toNat<i/\(p.st (p.nd i).a.toNat).2.toNat<p.nn
def KY(p:PD)(s:NS)(x:Nat):Prop:=(∀k∈Hp p x,cS s.1 k)/\((p.nd x).op=2->cS s.2 (p.nd x).a.toNat)
def jn(p:PD)(s:NS):Prop:=s.1.length=p.nn/\s.2.length=p.ns
def VF(p:PD)(X:Nat->Prop):Prop:=∀i,i<p.nn->X i->∀k∈Hp p i,X k
structure Jv(p:PD)(s t:NS):Prop where
 len:jn p t
 m1:∀k,cS s.1 k->cS t.1 k
 m2:∀k,cS s.2 k->cS t.2 k
 b:∀a,cS t.2 a->cS s.2 a\/∃x,x<p.nn/\cS t.1 x/\(p.nd x).op=2/\a=(p.nd x).a.toNat
theorem Jv.refl(h:jn p s):Jv p s s:=⟨h,λ_ h=>h,λ_ h=>h,λ_ h=>.inl h⟩
theorem Jv.trans(h:Jv p s t)(g:Jv p t u):Jv p s u:=
 ⟨g.len,λk hk=>g.m1 k (h.m1 k hk),λk hk=>g.m2 k (h.m2 k hk),λa ha=>(g.b a ha).elim (λha=>(h.b a ha).imp id λ⟨x,h1,h2,h3⟩=>⟨x,h1,g.m1 x h2,h3⟩) .inr⟩
theorem KY.mono{x:Nat}(h:Jv p s t)(c:KY p s x):KY p t x:=⟨λk hk=>h.m1 k (c.1 k hk),λho=>h.m2 _ (c.2 ho)⟩
structure mW(p:PD)(s:NS):Prop where
 len:jn p s
 res:cS s.1 p.res.toNat
 cl:∀i,i<p.nn->cS s.1 i->KY p s i
 m1:∀X:Nat->Prop,X p.res.toNat->VF p X->∀i,cS s.1 i->X i
 m2:∀a,cS s.2 a->∃x,x<p.nn/\cS s.1 x/\(p.nd x).op=2/\a=(p.nd x).a.toNat
theorem mW.eq(h:mW p s)(g:mW p t):s=t:=by
 have key:∀{s t:NS},mW p s->mW p t->∀k,cS s.1 k->cS t.1 k:=λh g=>h.m1 _ g.res λi hi hx k hk=>(g.cl i hi hx).1 k hk
 have key2:∀{s t:NS},mW p s->mW p t->∀k,cS s.2 k->cS t.2 k:=λh g k hk=>by
  obtain⟨x,h1,h2,h3,rfl⟩:=h.m2 k hk;exact(g.cl x h1 (key h g x h2)).2 h3
 exact Prod.ext (P0 (h.len.1.trans g.len.1.symm) λk=>⟨key h g k,key g h k⟩) (P0 (h.len.2.trans g.len.2.symm) λk=>⟨key2 h g k,key2 g h k⟩)
theorem UR(hv:p.nv)(hi:i<p.nn)(hk:k∈Hp p i):k<p.nn:=by
 unfold Hp at hk;rcases List.mem_append.1 hk with h|h
 ·have:=hv.WO i hi k h;omega
 ·split at h
  ·rename_i ho
   have:=hv.st i hi ho
   grind
  grind
theorem yD(hv:p.nv)(hi:i<p.nn)(hl:jn p s)(h:cS s.1 i):Jv p s (G5 p i s)/\KY p (G5 p i s) i:=by
 have e1:∀k,cS (G5 p i s).1 k↔cS s.1 k\/(k∈Hp p i/\k<s.1.length):=λk=>vp _
 refine⟨⟨⟨(zc _ _).trans hl.1,?_⟩,λk hk=>(e1 k).2 (.inl hk),λk hk=>?_,λa ha=>?_⟩,λk hk=>(e1 k).2 (.inr ⟨hk,by rw[hl.1];exact UR hv hi hk⟩),λho=>?_⟩
 ·show(if _ then _ else _:List Bool).length=_;split
  ·rw[aep];exact hl.2
  ·exact hl.2
 ·show cS (if _ then _ else _) k;split
  ·exact jR.2 (.inl hk)
  omega
 ·change cS (if _ then _ else _) a at ha;split at ha
  ·rename_i ho
   rcases jR.1 ha with h1|⟨h1,-⟩
   ·grind
   grind
  grind
 ·show cS (if _ then _ else _) _;rw[if_pos ho];exact jR.2 (.inr ⟨rfl,by rw[hl.2];exact(hv.st i hi ho).1⟩)
theorem lQ(hv:p.nv)(hi:i<p.nn)(hl:jn p s):Jv p s (gI p i s):=by
 unfold gI;split
 ·rename_i h;exact(yD hv hi hl h).1
 ·exact .refl hl
theorem Ae{p:PD}(hv:p.nv):∀(i:Nat),i<=p.nn->∀{s:NS},jn p s->Jv p s (kB p i s)
 |0,_,_,hl=>.refl hl
 |i+1,hi,s,hl=>(lQ hv hi hl).trans (Ae hv i (by omega) (lQ hv hi hl).len)
theorem wH{p:PD}{X:Nat->Prop}(hX:VF p X):∀(i:Nat),i<=p.nn->∀{s:NS},(∀k,cS s.1 k->X k)->∀k,cS (kB p i s).1 k->X k
 |0,_,_,h=>h
 |i+1,hi,s,h=>wH hX i (by omega) (s:=gI p i s) λk hk=>by
  unfold gI at hk;split at hk
  ·rename_i hin
   rcases(vp _).1 hk with h1|⟨h1,-⟩
   ·grind
   ·exact hX i hi (h i hin) k h1
  grind
def VX(p:PD)(s:NS):Prop:=∀a,cS s.2 a->cS s.1 (p.st a).2.toNat
theorem B3(hv:p.nv)(hi:i<p.nn)(hl:jn p s)(hA:VX p s):VX p (gI p i s):=by
 have hm:=lQ hv hi hl;intro a ha
 by_cases h0:cS s.2 a
 ·exact hm.m1 _ (hA a h0)
 ·unfold gI at ha⊢;split at ha
  ·rename_i hin
   rw[if_pos hin];change cS (if _ then _ else _) a at ha;split at ha
   ·rename_i ho
    rcases jR.1 ha with h1|⟨h1,-⟩
    ·grind
    ·refine(vp _).2 (.inr ⟨?_,by rw[hl.1,h1];exact(hv.st i hi ho).2.2⟩);unfold Hp
     grind
   grind
  grind
theorem Kv{p:PD}(hv:p.nv):∀(i:Nat),i<=p.nn->∀{s:NS},jn p s->VX p s->VX p (kB p i s)
 |0,_,_,_,h=>h
 |i+1,hi,_,hl,h=>Kv hv i (by omega) (lQ hv hi hl).len (B3 hv hi hl h)
theorem FN{p:PD}(hv:p.nv):∀(i:Nat),i<=p.nn->∀{s:NS},jn p s->VX p s->(∀a,cS (kB p i s).2 a->cS s.2 a)->(∀x,i<=x->x<p.nn->cS s.1 x->KY p s x) ->
 ∀x,x<p.nn->cS (kB p i s).1 x->KY p (kB p i s) x
 |0,_,_,_,_,_,h=>λx=>h x (ac1 _)
 |i+1,hi,s,hl,hA,hS,h=>by
  have hm:=lQ hv hi hl;have hm2:=Ae hv i (by omega) hm.len;refine FN hv i (by omega) hm.len (B3 hv hi hl hA) (λa ha=>hm.m2 a (hS a ha)) λx hx hxn hin=>?_
  by_cases hxi:x=i
  ·subst hxi
   by_cases h0:cS s.1 x
   ·have e:gI p x s=G5 p x s:=if_pos h0;rw[e];exact(yD hv hxn hl h0).2
   ·have e:gI p x s=s:=if_neg h0
    grind
  ·have hin0:cS s.1 x:=by
    by_cases h0:cS s.1 i
    ·have e:gI p i s=G5 p i s:=if_pos h0;rw[e]at hin;rcases(vp _).1 hin with h1|⟨h1,-⟩
     ·exact h1
     ·unfold Hp at h1;rcases List.mem_append.1 h1 with h2|h2
      ·have:=hv.WO i hi x h2;omega
      ·split at h2
       ·rename_i ho
        have h3:=hv.st i hi ho;simp only[fy,aa8,or_false]at h2;rcases h2 with h2|h2
        ·omega
        ·rw[h2];refine hA _ (hS _ (hm2.m2 _ ?_));rw[e];exact(yD hv hi hl h0).2.2 ho
       grind
    ·have e:gI p i s=s:=if_neg h0
     grind
   exact(h x (by omega) hxn hin0).mono hm
theorem y7{p:PD}(hv:p.nv):∀r,Jv p (m7 p) (jE p r (m7 p))/\VX p (jE p r (m7 p))/\(∀X:Nat->Prop,X p.res.toNat->VF p X->∀i,cS (jE p r (m7 p)).1 i->X i) /\
 ((∀i,i<p.nn->cS (jE p r (m7 p)).1 i->KY p (jE p r (m7 p)) i)\/r<=(jE p r (m7 p)).2.count true)
 |0=>by
  have hl:jn p (m7 p):=⟨by unfold m7;simp,by unfold m7;simp⟩
  refine⟨.refl hl,λa ha=>absurd ha jQ,λX hX _ i hi=>?_,.inr (ac1 _)⟩;rcases jR.1 hi with h1|⟨h1,-⟩
  ·exact absurd h1 jQ
  grind
 |r+1=>by
  obtain⟨h1,h2,h3,h4⟩:=y7 hv r;have hm:=Ae hv p.nn (aU _) h1.len;refine⟨h1.trans hm,Kv hv _ (aU _) h1.len h2,λX hX hc=>wH hc _ (aU _) (h3 X hX hc),?_⟩;show(∀i,i<p.nn->cS (kB p p.nn (jE p r (m7 p))).1 i->_)\/r+1<=(kB p p.nn (jE p r (m7 p))).2.count true;rcases h4 with h4|h4
  ·refine .inl λi hi hin=>(h4 i hi ?_).mono hm
   exact wH (X:=λk=>cS (jE p r (m7 p)).1 k) (λi hi hx k hk=>(h4 i hi hx).1 k hk) _ (aU _) (λk hk=>hk) i hin
  ·by_cases hS:∀a,cS (kB p p.nn (jE p r (m7 p))).2 a->cS (jE p r (m7 p)).2 a
   ·exact .inl (FN hv _ (aU _) h1.len h2 hS λx hx hxn=>absurd hx (by omega))
   ·refine .inr ?_;rw[Classical.not_forall]at hS;obtain⟨a,ha⟩:=hS;rw[Classical.not_imp]at ha;have:=ym (h1.len.2.trans hm.len.2.symm) hm.m2 a ha.1 ha.2;omega
theorem SP(hv:p.nv):mW p (MB p):=by
 obtain⟨h1,h2,h3,h4⟩:=y7 hv (p.ns+2);refine⟨h1.len,h1.m1 _ ?_,?_,h3,λa ha=>(h1.b a ha).elim (λh=>absurd h jQ) id⟩
 ·exact jR.2 (.inr ⟨rfl,by rw[List.length_replicate];exact hv.res⟩)
 ·rcases h4 with h4|h4
  ·exact h4
  ·have:=aej (a:=true) (l:=(jE p (p.ns+2) (m7 p)).2);rw[h1.len.2]at this;omega
structure Mk(p:PD)(s t:NS):Prop extends mos:Jv p s t where
 c:∀x,x<p.nn->cS t.1 x->cS s.1 x\/KY p t x
theorem Mk.refl(h:jn p s):Mk p s s:=⟨.refl h,λ_ _ h=>.inl h⟩
theorem Mk.trans(h:Mk p s t)(g:Mk p t u):Mk p s u:=
 ⟨h.mos.trans g.mos,λx hx hi=>(g.c x hx hi).elim (λhi=>(h.c x hx hi).imp id (KY.mono g.mos)) .inr⟩
def Br(l:List Bool):Nat:=l.length-l.count true
theorem OG{p:PD}{n:Nat}(ih:∀i s,i<p.nn->jn p s->Br s.1<=n->Mk p s (di p n i s)/\cS (di p n i s).1 i/\∀X:Nat->Prop,VF p X->X i->(∀k,cS s.1 k->X k)->∀k,cS (di p n i s).1 k->X k):
 ∀(l:List Nat) (s:NS),(∀k∈l,k<p.nn)->jn p s->Br s.1<=n ->
  Mk p s (l.foldl (λs k=>di p n k s) s)/\(∀k∈l,cS (l.foldl (λs k=>di p n k s) s).1 k)/\∀X:Nat->Prop,VF p X->(∀k∈l,X k)->(∀k,cS s.1 k->X k)->∀k,cS (l.foldl (λs k=>di p n k s) s).1 k->X k
 |[],s,_,hl,_=>⟨.refl hl,λ_ h=>(by cases h),λ_ _ _ h=>h⟩
 |j::l,s,hk,hl,hf=>by
  obtain⟨h1,h2,h3⟩:=ih j s (hk j (by simp)) hl hf
  have hf2:Br (di p n j s).1<=n:=by
   have:=qB (hl.1.trans h1.len.1.symm) h1.m1;unfold Br at hf⊢;rw[h1.len.1];rw[hl.1]at hf;omega
  obtain⟨g1,g2,g3⟩:=OG ih l _ (λk hx=>hk k (by simp[hx])) h1.len hf2;refine⟨h1.trans g1,λk hx=>?_,λX hX hall hs=>g3 X hX (λk hx=>hall k (by simp[hx])) (h3 X hX (hall j (by simp)) hs)⟩;rcases List.mem_cons.1 hx with rfl|hx
  ·exact g1.m1 _ h2
  grind
theorem uX{p:PD}(hv:p.nv):∀(n i:Nat) (s:NS),i<p.nn->jn p s->Br s.1<=n->Mk p s (di p n i s)/\cS (di p n i s).1 i/\∀X:Nat->Prop,VF p X->X i->(∀k,cS s.1 k->X k)->∀k,cS (di p n i s).1 k->X k
 |0,i,s,hi,hl,hf=>by
  have hin:cS s.1 i:=by
   have h1:s.1.count true=s.1.length:=by have:=aej (a:=true) (l:=s.1);unfold Br at hf;omega
   have h2:=List.count_eq_length.1 h1;unfold cS;rw[ac2,bp (by rw[hl.1];exact hi)];exact(h2 _ (aZ _)).symm
  exact⟨.refl hl,hin,λ_ _ _ h=>h⟩
 |n+1,i,s,hi,hl,hf=>by
  unfold di
  by_cases hin:s.1.getD i false=true
  ·rw[if_pos hin];exact⟨.refl hl,hin,λ_ _ _ h=>h⟩
  rw[if_neg hin];have ih:=uX hv n;obtain⟨s1,hs1⟩:∃s1:NS,s1=(s.1.set i true,s.2):=⟨_,rfl⟩
  have hl1:jn p s1:=by rw[hs1];exact⟨by rw[aep];exact hl.1,hl.2⟩
  have i1:∀k,cS s1.1 k↔cS s.1 k\/k=i:=λk=>by
   rw[hs1];refine jR.trans ⟨λh=>h.imp id (·.1),λh=>h.imp id λh=>⟨h,by rw[h,hl.1];exact hi⟩⟩
  have m01:Jv p s s1:=⟨hl1,λk hk=>(i1 k).2 (.inl hk),λk hk=>by grind,λa ha=>by grind⟩
  have hf1:Br s1.1<=n:=by
   have h1:=ym (hl.1.trans hl1.1.symm) m01.m1 i ((i1 i).2 (.inr rfl)) hin;have h2:=aej (a:=true) (l:=s1.1);unfold Br at hf⊢;rw[hl1.1]at h2⊢;rw[hl.1]at hf;omega
  rw[<-hs1];have hkl:∀k∈(aN (p.nd i)).map Int.toNat,k<p.nn:=λk hk=>Nat.lt_trans (hv.WO i hi k hk) hi
  obtain⟨h1,h2,h3⟩:=OG ih _ s1 hkl hl1 hf1;obtain⟨u,hu⟩:∃u,((aN (p.nd i)).map Int.toNat).foldl (λs k=>di p n k s) s1=u:=⟨_,rfl⟩
  rw[hu]at h1 h2 h3;simp only[hu]
  have fl:∀{t:NS},Jv p s1 t->Br t.1<=n:=λ{t} ht=>by
   have:=qB (hl1.1.trans ht.len.1.symm) ht.m1;unfold Br at hf1⊢;rw[ht.len.1];rw[hl1.1]at hf1;omega
  have fin:∀{t:NS},Mk p s1 t->KY p t i->Mk p s t/\cS t.1 i:=λ{t} ht hc=>by
   refine⟨⟨m01.trans ht.mos,λx hx hxi=>?_⟩,ht.m1 _ ((i1 i).2 (.inr rfl))⟩;rcases ht.c x hx hxi with h|h
   ·grind
   grind
  by_cases ho:(p.nd i).op=2
  ·rw[if_pos ho];obtain⟨b1,b2,b3⟩:=hv.st i hi ho;obtain⟨v,hvv⟩:∃v:NS,v=(u.1,u.2.set (p.nd i).a.toNat true):=⟨_,rfl⟩
   rw[<-hvv];have lv:jn p v:=by rw[hvv];exact⟨h1.len.1,by rw[aep];exact h1.len.2⟩
   have iv:cS u.1 i:=h1.m1 _ ((i1 i).2 (.inr rfl))
   have muv:Mk p u v:=by
    rw[hvv];refine⟨⟨by grind,λ_ h=>h,λk hk=>jR.2 (.inl hk),λa ha=>?_⟩,λx _ h=>.inl h⟩;rcases jR.1 ha with h|⟨h,-⟩
    ·grind
    ·grind
   have mv:=h1.trans muv;obtain⟨c1,c2,c3⟩:=ih _ v (Nat.lt_trans b2 hi) lv (fl mv.mos);generalize di p n (p.st (p.nd i).a.toNat).1.toNat v=w at*
   have mw:=mv.trans c1;obtain⟨d1,d2,d3⟩:=ih _ w b3 c1.len (fl mw.mos);generalize di p n (p.st (p.nd i).a.toNat).2.toNat w=t at*
   have mt:=mw.trans d1
   have hc:KY p t i:=by
    refine⟨λk hk=>?_,λ_=>d1.m2 _ (c1.m2 _ ?_)⟩
    ·unfold Hp at hk;rcases List.mem_append.1 hk with h|h
     ·exact d1.m1 _ (c1.m1 _ (muv.m1 _ (h2 k h)))
     ·rw[if_pos ho]at h;simp only[fy,aa8,or_false]at h;rcases h with rfl|rfl
      ·exact d1.m1 _ c2
      omega
    ·rw[hvv];exact jR.2 (.inr ⟨rfl,by rw[h1.len.2];exact b1⟩)
   obtain⟨f1,f2⟩:=fin mt hc;refine⟨f1,f2,λX hX hi' hs=>?_⟩;have hsu:∀k∈Hp p i,X k:=hX i hi hi';have hsu2:∀k∈[(p.st (p.nd i).a.toNat).1.toNat,(p.st (p.nd i).a.toNat).2.toNat],X k:=λk hk=>hsu k (by unfold Hp;grind)
   refine d3 X hX (hsu2 _ (by simp)) (c3 X hX (hsu2 _ (by simp)) ?_);rw[hvv];refine h3 X hX (λk hk=>hsu k (List.mem_append.2 (.inl hk))) λk hk=>?_
   grind
  ·rw[if_neg ho]
   have hc:KY p u i:=by
    refine⟨λk hk=>?_,λh=>absurd h ho⟩;unfold Hp at hk;rw[if_neg ho,adv]at hk;exact h2 k hk
   obtain⟨f1,f2⟩:=fin h1 hc;refine⟨f1,f2,λX hX hi' hs=>h3 X hX (λk hk=>hX i hi hi' k (List.mem_append.2 (.inl hk))) λk hk=>?_⟩
   grind
theorem vo(hv:p.nv):mW p (cF p):=by
 have hl:jn p (List.replicate p.nn false,List.replicate p.ns false):=⟨by simp,by simp⟩
 obtain⟨h1,h2,h3⟩:=uX hv p.nn p.res.toNat _ hv.res hl (by unfold Br;simp);exact⟨h1.len,h2,λi hi hin=>(h1.c i hi hin).elim (λh=>absurd h jQ) id,λX hX hc=>h3 X hc hX λk hk=>absurd hk jQ,λa ha=>(h1.b a ha).elim (λh=>absurd h jQ) id⟩
theorem Ru(hv:p.nv):cF p=MB p:=(vo hv).eq (SP hv)
theorem ry(hg:p.good):p.nv:=by
 have hst:∀a,a<p.ns->(0<=(p.st a).1/\(p.st a).1<p.head)/\(0<=(p.st a).2/\(p.st a).2<p.tail):=λa ha=>by
  have h:=hg.states a ha;unfold tS at h;omega
 refine⟨by have:=hg.res;omega,λi hi k hk=>?_,λi hi ho=>?_⟩
 ·obtain⟨x,hx,rfl⟩:=List.mem_map.1 hk;have:=(jh hg hi).2.2 x hx;omega
 ·have ha:=(jh hg hi).2.1 ho;have hs:=hst (p.nd i).a.toNat (by omega)
  have hh:p.head<=i:=by
   have h:=hg.nodes i hi;unfold kj at h;rw[ho]at h
   by_cases c:(i:Int)<p.head
   ·omega
   ·omega
  have ht:=fD hg.gen;omega
end Go.Am
namespace Go.Am
open Go.Am.Ty Go.Proofs N
variable {p:PD}{i k:Nat}{lv:Key->LB}{T:TypeId}{l:List Bool}{c:Ctx}{s s0:NS}{fr:Nat->AV}
def bD(l:List Bool):List (List DV):=l.map λx=>[DV.bool x]
def bC:Option (List Bool)->CV
 |none=>.d .nilsl
 |some l=>.d (.sl (bD l))
def bL(o:Option (List Bool)):List Bool:=o.getD []
theorem OO(o:Option (List Bool)):bC o=eG (o.map bD):=by cases o<;>rfl
@[simp]theorem YX(o:Option (List Bool)):(AV.c (bC o)).pure=true:=by cases o<;>rfl
@[simp]theorem Xb(o:Option (List Bool)):(AV.c (bC o)).bF=true:=by cases o<;>rfl
@[simp]theorem Z8(o:Option (List Bool))(g:Key->Key):(bC o).bJ g=bC o:=by cases o<;>rfl
def bK(l:List Bool):List CV:=l.map λx=>CV.d (.bool x)
@[simp]theorem ZY(l:List Bool):(bK l).length=l.length:=by simp[bK]
theorem Ek{P:Program}(ha:cZ P T=some false)(h:i<l.length):fq P T ((bK l).drop i)=some (.c (.d (.bool l[i]))):=by
 have:(bK l).drop i=CV.d (.bool l[i])::(bK l).drop (i+1):=by
  rw[adV (by simp_all)];simp[bK]
 simp_all
theorem HO(l:List Bool):bK l=(l.map λx=>DV.bool x).map CV.d:=by simp[bK]
theorem EJ(n:Nat):bK (List.replicate n false)=List.replicate n (CV.d (.bool false)):=by unfold bK;simp
theorem sZ(l:List Bool)(i:Nat)(x:Bool)(h:i<l.length):aj (bK l) i [CV.d (.bool x)]=bK (l.set i x):=by
 unfold aj bK;rw[List.map_set,afV,if_pos (by grind)];simp
theorem Et(l:List Bool)(g:Key->Key):(LB.cells true false 4 (bK l)).like (.cells true false 4 (bK l)) g:=by
 rw[HO];simp
theorem Kt{k:Key}{own fz:Bool}(h:lv k=.cells own fz T (bK l))(hl:l.length<=1000):fu lv (.c (.aE k 0 l.length 1))=some (.c (bC (some l)),[k]):=by
 have:=MM (l:=l.map λx=>DV.bool x) (by rw[<-HO];exact h) (by grind);rwa[ac5,ady]at this
theorem lpB(h:(fk prog T).isSome=true)(lv:Key->LB)(o:Option (List Bool)):dm prog T lv (.c (bC o))=some (.c (.d (.int .i64 (bL o).length)),[],[],True):=by
 rw[OO];rw[cE h]
 cases o<;>simp[sO,bL,bD]
theorem ixB(h:(fk prog T).map (·.2)=some 1)(lv:Key->LB)(o:Option (List Bool))(hi:i<(bL o).length):ak prog T lv (.c (bC o)) (.c (.d (.int .i64 (i:Int))))=some (.c (.d (.ptr [.bool (bL o)[i]])),[],[],True):=by
 cases o with
 |none=>cases hi
 |some l=>
  rw[OO];have hi0:i<l.length:=hi;have hi':i<(sO (Option.map bD (some l))).length:=by show i<(bD l).length;unfold bD;rw[ac5];exact hi0
  have e:(sO (Option.map bD (some l)))[i]=[.bool (bL (some l))[i]]:=by simp[sO,bD,bL]
  rw[jZ h hi' (by rw[e];rfl),e];rfl
theorem zu(h:i<l.length):l.getD i false=l[i]:=by
 grind
theorem yB(hg:p.good)(hi:i<p.ns):0<=(p.st i).1/\(p.st i).1<p.nn/\0<=(p.st i).2/\(p.st i).2<p.nn:=by
 have h:=hg.states i hi;have hr:=fD hg.gen;unfold tS at h;omega
theorem JP(hp:p.ok)(lv:Key->LB)(i:Nat)(hi:i<p.ns):ak prog 25 lv (.c (eG p.states)) (.c (.d (.int .i64 (i:Int))))=some (.c (.d (.ptr (zw (p.st i)))),[],[],True):=by
 have:=Zi hp lv (i:Int) (by omega) (by omega)
 grind
abbrev mC(p:PD)(k1 k2:Key)(a b:Nat):List CV:=[eG p.f,.d (.int .i64 p.mode),eG p.ins,eG p.nodes,.d (.int .i64 p.head),.d (.int .i64 p.tail),eG p.states,.d (.int .i64 p.res),.aE k1 0 a 1,.aE k2 0 b 1]
def mS(p:PD)(s:NS):List LB:=[.cells false false 64 (mC p 1 2 s.1.length s.2.length),.cells false false 4 (bK s.1),.cells false false 4 (bK s.2)]
theorem td(l:List Bool)(g:Key->Key):(bK l).map (CV.bJ g)=bK l:=by unfold bK;simp
theorem YA(lv:Key->LB)(n:Nat)(l:List Bool):(bK l).flatMap (kM lv n)=[]:=by
 unfold bK;rw[List.flatMap_map,afF];intro x _;cases n<;>rfl
theorem Q8(lv:Key->LB)(n:Nat)(o:Option (List (List DV))):kM lv n (eG o)=[]:=by cases o<;>cases n<;>rfl
theorem UL(lv:Key->LB)(n:Nat)(x:DV):kM lv n (.d x)=[]:=by cases n<;>rfl
@[simp]theorem TY{a b c:Key×LB}:bk lv [a,b,c]=au (au (au lv a.1 a.2) b.1 b.2) c.1 c.2:=rfl
theorem ag.mk{K:AV->List (Key×LB)->List Key->Nat->Prop}(κ' kh k0 k1 k2:Key)(own:Bool){t:NS}{i:Int}(hc:aD c.P c.G 42 [.c (.ptr 0 0),.c (.d (.int .i64 i))] (mS p s) (.ret (.tup []) (mS p t) []))
 (hK:K (.tup []) [(k0,.cells own false 64 (mC p k1 k2 t.1.length t.2.length)),(k1,.cells own false 4 (bK t.1)),(k2,.cells own false 4 (bK t.2))] [k0,k1,k2,kh] κ')
 (h0:lv k0=.cells own false 64 (mC p k1 k2 s.1.length s.2.length):=by simp) (h1:lv k1=.cells own false 4 (bK s.1):=by simp) (h2:lv k2=.cells own false 4 (bK s.2):=by simp) (hh:lv kh=.hole:=by simp) (hd:[k0,k1,k2,kh].Nodup:=by decide) :
 ag c 42 [.c (.ptr k0 0),.c (.d (.int .i64 i))] lv K:=by
 have hd1:([k0,k1,k2]:List Key).Nodup:=by simp only[List.nodup_cons,fy,aa8,or_false,not_or,List.nodup_nil,and_true,not_false_eq_true]at hd⊢;simp[hd.1,hd.2]
 have hd2:kh∉([k0,k1,k2]:List Key):=by simp only[List.nodup_cons,fy,aa8,or_false,not_or]at hd⊢;exact⟨λh=>hd.1.2.2 h.symm,λh=>hd.2.1.2 h.symm,λh=>hd.2.2.1 h.symm⟩
 have g0:aG [k0,k1,k2] [] kh 0=k0:=rfl;have g1:aG [k0,k1,k2] [] kh 1=k1:=rfl;have g2:aG [k0,k1,k2] [] kh 2=k2:=rfl;refine ag.Tx κ' kh own [k0,k1,k2] [] _ _ _ [k0,k1,k2,kh] hc (by grind) (by grind) rfl rfl rfl (by simp[mS]) ?_ (by simp) hh ?_ ?_ ?_ rfl ?_ ?_ (by simp) ?_
 ·intro j q1 q2;have hj:j=0\/j=1\/j=2:=by simp at q1;omega
  rcases hj with rfl|rfl|rfl
  ·refine⟨own,_,h0,?_,λh=>by cases h⟩
   simp_all
  ·exact⟨own,_,h1,(td _ _).symm,λh=>by cases h⟩
  ·exact⟨own,_,h2,(td _ _).symm,λh=>by cases h⟩
 ·simp[mS,LB.pass]
 ·simp[mS]
 ·intro ho k hk;subst ho;simp only[fy,aa8,or_false]at hk;rcases hk with rfl|rfl|rfl
  ·rw[h0];rfl
  ·rw[h1];rfl
  ·rw[h2];rfl
 ·intro j q1 q2;have hj:j=0\/j=1:=by simp at q1;omega
  rcases hj with rfl|rfl
  ·simp_all
  simp
 ·intro x hx k hk;simp only[fy,aa8,or_false]at hx;rcases hx with rfl|rfl
  ·simp[pz,kM,h0,h1,h2,Q8,YA]at hk
   grind
  ·simp[pz,UL]at hk
 ·have e:cq (aG [k0,k1,k2] [] kh) own [k0,k1,k2] (mS p t)++cq (aG [k0,k1,k2] [] kh) own [] []=[(k0,.cells own false 64 (mC p k1 k2 t.1.length t.2.length)),(k1,.cells own false 4 (bK t.1)),(k2,.cells own false 4 (bK t.2))]:=by
   simp[cq,mS,LB.fix,td,g1,g2]
  rw[e];exact hK
abbrev Y3(p:PD)(s:NS):Key->LB:=au (au (au (λ_=>.hole) 0 (.cells false false 64 (mC p 1 2 s.1.length s.2.length))) 1 (.cells false false 4 (bK s.1))) 2 (.cells false false 4 (bK s.2))
abbrev mM(p:PD)(s:NS):List (Key×Key×LB):=[(0,0,.cells false false 64 (mC p 1 2 s.1.length s.2.length)),(1,1,.cells false false 4 (bK s.1)),(2,2,.cells false false 4 (bK s.2))]
theorem N7(p:PD)(s:NS){g:Key->Key}(h1:g 1=1)(h2:g 2=2)(a b:Nat):(mC p 1 2 a b).map (CV.bJ g)=mC p 1 2 a b:=by simp_all
theorem UY{fn:Func}(hr:fn.results=#[]){κ:Nat}(hl0:c.jd=Y3 p s0)(h0:lv 0=.cells false false 64 (mC p 1 2 s.1.length s.2.length))(h1:lv 1=.cells false false 4 (bK s.1))(h2:lv 2=.cells false false 4 (bK s.2))(h9:lv 9=.hole):
 I8 c fn (.tup []) (mS p s) [] .normal ⟨fr,lv⟩ κ:=by
 refine⟨mM p s,9,Du _ _ _,by simp,by simp,h9,?_,?_,rfl,by rw[hr];rfl⟩
 ·intro k hk;rw[hl0]at hk
  by_cases q0:k=0
  ·subst q0;exact .inr rfl
  by_cases q1:k=1
  ·subst q1;exact .inr rfl
  by_cases q2:k=2
  ·subst q2;exact .inr rfl
  simp_all
 ·intro e he;simp only[fy,aa8,or_false]at he;rcases he with rfl|rfl|rfl
  ·show(lv 0).like _ _;rw[h0];exact⟨false,_,rfl,(N7 p s rfl rfl _ _).symm,id⟩
  ·show(lv 1).like _ _;rw[h1];exact⟨false,_,rfl,(td _ _).symm,id⟩
  ·show(lv 2).like _ _;rw[h2];exact⟨false,_,rfl,(td _ _).symm,id⟩
abbrev bX(n:Nd):LB:=.cells true false 40 [.d (.int .i64 n.op),.d (.int .i64 n.a),.d (.int .i64 n.b),.d (.int .i64 n.c),.d (.int .i64 n.d),.d (.int .i64 n.f),.d (.str n.v)]
theorem TC{n:Nd}(hl0:c.jd=Y3 p s0)(l:List (Nat×AV))(h0:lv 0=.cells false false 64 (mC p 1 2 s.1.length s.2.length))(h1:lv 1=.cells false false 4 (bK s.1))(h2:lv 2=.cells false false 4 (bK s.2))(h3:lv 10=bX n)(h9:lv 9=.hole)
 (hl:∀x∈l,x.2.bF=true/\fr x.1=x.2.bJ (aQ (mM p s++[(10,10,bX n)]) 9)):Le c ⟨fr,lv⟩ ⟨aJ l,au (Y3 p s) 10 (bX n)⟩:=by
 refine⟨_,dQ.keys (s:=⟨fr,lv⟩) (mM p s++[(10,10,bX n)]) 9 l rfl ?_ (by simp) (by simp) h9 ?_ hl⟩
 ·intro k hk;rw[hl0]at hk
  by_cases q0:k=0
  ·subst q0;exact .inr rfl
  by_cases q1:k=1
  ·subst q1;exact .inr rfl
  by_cases q2:k=2
  ·subst q2;exact .inr rfl
  simp_all
 ·intro e he;simp only[ad6,adM,fy,aa8,or_false]at he;rcases he with rfl|rfl|rfl|rfl
  ·show(lv 0).like _ _;rw[h0];exact⟨false,_,rfl,(N7 p s rfl rfl _ _).symm,id⟩
  ·show(lv 1).like _ _;rw[h1];exact⟨false,_,rfl,(td _ _).symm,id⟩
  ·show(lv 2).like _ _;rw[h2];exact⟨false,_,rfl,(td _ _).symm,id⟩
  simp_all
theorem JU(m:Int)(p:PD)(i:Nat)(s:NS)(hs:jn p s)(hn:p.nn<=1000)(hi:i<p.nn)(hin:s.1.getD i false=true):aD prog (GG m) 42 [.c (.ptr 0 0),.c (.d (.int .i64 i))] (mS p s) (.ret (.tup []) (mS p s) []):=by
 obtain⟨M,S⟩:=s;have hM:M.length=p.nn:=hs.1;have hiM:i<M.length:=by omega
 have hi2:(i:Int)<(M.length:Int):=by omega
 have hld:=Ek (P:=prog) (T:=4) (by simp) hiM;rw[show M[i]=true from(ac2 ..▸(by grind:(M[i]?).getD false=M[i]))▸hin]at hld;refine aD.SW func42 rfl (Du _ _ _) λ_=>aae λK hK=>acv hi2 hld ?_;refine abA ?_;exact aaV (UY (κ:=0) (s0:=(M,S)) rfl rfl (by simp) (by simp) (by simp) (by simp))
theorem KS(m:Int)(p:PD)(hp:p.ok)(hg:p.good):∀(n i:Nat) (s:NS),i<p.nn->jn p s->Br s.1<=n->aD prog (GG m) 42 [.c (.ptr 0 0),.c (.d (.int .i64 i))] (mS p s) (.ret (.tup []) (mS p (di p n i s)) []):=by
 obtain⟨-,-,-,-,-,hnn,hns⟩:=fD hg.gen;have hv:=ry hg;intro n
 induction n with
 |zero=>
  intro i s hi hl hf;exact JU m p i s hl (by omega) hi (uX hv 0 i s hi hl hf).2.1
 |succ n ih=>
 intro i s hi hl hf
 by_cases hin:s.1.getD i false=true
 ·have e:di p (n+1) i s=s:=if_pos hin;rw[e];exact JU m p i s hl (by omega) hi hin
 have hmk:=uX hv;obtain⟨M,S⟩:=s;have hM:M.length=p.nn:=hl.1;have hS:S.length=p.ns:=hl.2;have hiM:i<M.length:=by omega
 have hi2:(i:Int)<(M.length:Int):=by omega
 have hld:=Ek (P:=prog) (T:=4) (by simp) hiM;have hst:=sZ M i true hiM
 have hfl:M[i]=false:=by
  have:=zu hiM
  cases hb:M[i]with
  |false=>rfl
  |true=>exact absurd (by rw[this,hb]) hin
 rw[hfl]at hld;obtain⟨s1,hs1⟩:∃s1:NS,(M.set i true,S)=s1:=⟨_,rfl⟩
 have hl1:jn p s1:=by rw[<-hs1];exact⟨by grind,hS⟩
 have hf1:Br s1.1<=n:=by
  have h1:=ym (l:=M) (m:=M.set i true) (by simp) (λk hk=>jR.2 (.inl hk)) i (jR.2 (.inr ⟨rfl,hiM⟩)) hin;have h2:=aej (a:=true) (l:=M.set i true);rw[<-hs1];unfold Br at hf⊢;simp only[aep]at h2 hf⊢;omega
 obtain⟨-,ha,hkr⟩:=jh hg hi;have hxn:=λlv=>Er p lv hp i hi
 have hdef:di p (n+1) i (M,S)=(let u:=((aN (p.nd i)).map Int.toNat).foldl (λs k=>di p n k s) s1
  if (p.nd i).op=2 then di p n (p.st (p.nd i).a.toNat).2.toNat (di p n (p.st (p.nd i).a.toNat).1.toNat (u.1,u.2.set (p.nd i).a.toNat true))else u):=by rw[<-hs1];exact if_neg hin
 obtain⟨R,hR⟩:∃R,di p (n+1) i (M,S)=R:=⟨_,rfl⟩
 rw[hR];rw[hdef]at hR;clear hdef;obtain⟨nd,hnd⟩:∃nd,p.nd i=nd:=⟨_,rfl⟩
 rw[hnd]at ha hkr;simp only[hnd]at hxn hR;have hML:=OG (p:=p) (n:=n) (λk s hk hl hf=>hmk n k s hk hl hf);have hkd:=JN m nd;have hkp:(AV.c (zC (jF nd))).pure=true:=qX _;have hkf:(AV.c (zC (jF nd))).bF=true:=nq _;have hkn:∀g,(zC (jF nd)).bJ g=zC (jF nd):=λg=>P1 _ g
 have lpk:=λlv=>Vv (T:=30) (by simp) lv (jF nd)
 have ixk:∀lv (q:Nat) (hq:q<(aN nd).length),ak prog 30 lv (.c (zC (jF nd))) (.c (.d (.int .i64 (q:Int))))=some (.c (.d (.ptr [.int .i64 (aN nd)[q]])),[],[],True):=by
  intro lv q hq;have:=Wh (T:=30) (by simp) lv (jF nd) (i:=q) (by rw[qN];exact hq);simp only[qN]at this;exact this
 rw[qN]at lpk;have hkl:=nj nd
 have hrn:∀k∈(aN nd).map Int.toNat,k<p.nn:=λk hk=>by
  obtain⟨x,hx,rfl⟩:=List.mem_map.1 hk;have:=hkr x hx;omega
 generalize zC (jF nd)=kz at*
 generalize aN nd=kl at*
 have hfin:∀q,q<=kl.length->jn p (((kl.map Int.toNat).take q).foldl (λs k=>di p n k s) s1)/\Br (((kl.map Int.toNat).take q).foldl (λs k=>di p n k s) s1).1<=n:=λq hq=>by
  obtain⟨h1,-,-⟩:=hML ((kl.map Int.toNat).take q) s1 (λk hk=>hrn k (aey hk)) hl1 hf1;refine⟨h1.len,?_⟩;have:=qB (hl1.1.trans h1.len.1.symm) h1.m1;unfold Br at hf1⊢;rw[h1.len.1];rw[hl1.1]at hf1;omega
 refine aD.SW func42 rfl (Du _ _ _) λ_=>aae λK hK=>acv hi2 hld ?_;refine abg (aaE (hK _ _ (acv hi2 hst ?_)));refine acW 10 ?_;refine acv hxn @aj.eq_1 ?_;refine aae λK hK=>abU λK1 hK1=>?_;simp;refine ag.pure 11 9 hkd hkp (by simp) (by rfl) ?_;simp[lpk];apply hK1;refine abd ?_
 refine aco (λ(q:Nat)=>⟨aJ [(0,.c (.ptr 0 0)),(1,.c (.d (.int .i64 i))),(4,.c (.ptr 10 0)),(29,.c kz),(30,.c (.d (.int .i64 kl.length))),(31,.c (.d (.int .i64 q)))],au (Y3 p (((kl.map Int.toNat).take q).foldl (λs k=>di p n k s) s1)) 10 (bX nd)⟩) 11
  (λq=>q<=kl.length) (λq=>kl.length-q) 0 (TC (s0:=(M,S)) rfl _ (by simp[<-hs1,hM,hS]) (by simp[<-hs1]) (by simp[<-hs1]) (by simp) (by simp) (by simp[aQ,hkf,hkn])) (ac1 _) ?_
 rintro q hq
 try simp only at hq
 obtain⟨hl3,hf3⟩:=hfin q hq
 have hsn:∀h:q<kl.length,((kl.map Int.toNat).take (q+1)).foldl (λs k=>di p n k s) s1=di p n (kl[q]).toNat (((kl.map Int.toNat).take q).foldl (λs k=>di p n k s) s1):=λh=>by
  rw[aew,bp (by grind),List.foldl_append];simp
 obtain⟨u,hu⟩:∃u,((kl.map Int.toNat).take q).foldl (λs k=>di p n k s) s1=u:=⟨_,rfl⟩
 rw[hu]at hl3 hf3;simp only[hu]at hsn⊢;refine aar ?_;refine aae λK2 hK2=>?_
 by_cases hqt:q<kl.length
 ·have hqt':(q:Int)<(kl.length:Int):=by omega
  have hxk:=λlv=>ixk lv q hqt
  have hk2:=hkr _ (aZ hqt);have hsn:=hsn hqt;have f14:=bE (n:=(q:Int)+1) (by omega) (by omega);generalize kl[q]=x at*
  obtain⟨k,rfl⟩:∃k:Nat,x=k:=⟨x.toNat,by omega⟩
  rw[ac9]at hsn;have hc:=ih k u (by omega) hl3 hf3;have hl4:=(hmk n k u (by omega) hl3 hf3).1.len;rw[<-hsn]at hc hl4;obtain⟨t,ht⟩:∃t,((kl.map Int.toNat).take (q+1)).foldl (λs k=>di p n k s) s1=t:=⟨_,rfl⟩
  rw[ht]at hc hl4;refine abz (by simp<;>omega) (aaE (hK2 _ _ (aae λK3 hK3=>abd (acf hxk ?_))));refine aaJ ?_;simp;refine ag.mk 11 9 0 1 2 false hc ?_;simp;apply hK3;refine aaJ ?_;simp[f14];refine⟨q+1,?_,by omega,by omega⟩;rw[ht];exact TC (s0:=(M,S)) rfl _ (by rfl) (by simp) (by simp) (by simp) (by simp) (by simp[aQ,hkf,hkn])
 have hqt':¬(q:Int)<(kl.length:Int):=by omega
 have hqe:q=kl.length:=by omega
 subst hqe;have hu':(kl.map Int.toNat).foldl (λs k=>di p n k s) s1=u:=by rw[<-hu,adQ (by simp)]
 rw[hu']at hR;refine abD (by simp) (abX (hK _ _ (aae λK hK=>?_)))
 by_cases ho:nd.op=2
 ·have ho':(nd.op=2)=True:=eq_true ho;obtain⟨a0,a1⟩:=ha ho;obtain⟨b1,b2,b3⟩:=hv.st i hi (by grind);rw[hnd]at b1 b2 b3;obtain⟨c1,c2,c3,c4⟩:=yB hg b1;have hia:(nd.a.toNat:Int)=nd.a:=by omega
  have hxs:=λlv=>JP hp lv nd.a.toNat b1
  simp only[hia]at hxs;rw[if_pos ho]at hR;generalize p.st nd.a.toNat=st at*
  obtain⟨si,sn⟩:=st;simp only at b2 b3 c1 c2 c3 c4 hR;obtain⟨x,rfl⟩:∃x:Nat,si=x:=⟨si.toNat,by omega⟩
  obtain⟨y,rfl⟩:∃y:Nat,sn=y:=⟨sn.toNat,by omega⟩
  simp only[ac9]at b2 b3 hR;have hS2:u.2.length=p.ns:=hl3.2;have ha2:nd.a<(u.2.length:Int):=by omega
  have hst2:=sZ u.2 nd.a.toNat true (by omega);obtain⟨v,hvv⟩:∃v:NS,(u.1,u.2.set nd.a.toNat true)=v:=⟨_,rfl⟩
  have hlv:jn p v:=by rw[<-hvv];exact⟨hl3.1,by grind⟩
  have hfv:Br v.1<=n:=by rw[<-hvv];exact hf3
  have hc1:=ih x v (by omega) hlv hfv;have KG:=(hmk n x v (by omega) hlv hfv).1
  have hfw:Br (di p n x v).1<=n:=by
   have:=qB (hlv.1.trans KG.len.1.symm) KG.m1;unfold Br at hfv⊢;rw[KG.len.1];rw[hlv.1]at hfv;omega
  have hc2:=ih y _ (by omega) KG.len hfw;have hm2:=(hmk n y _ (by omega) KG.len hfw).1.len;have KG:=KG.len;rw[hvv]at hR;generalize di p n x v=w at*
  generalize di p n y w=t at*
  subst hR;have v1:v.1=u.1:=by rw[<-hvv]
  have v2:v.2=u.2.set nd.a.toNat true:=by rw[<-hvv]
  refine acC ho' (hK _ _ ?_);refine abA (AW.d3 mixed a0 ha2 hst2 ?_);refine aae λK hK=>?_;refine acs mixed (by kernel_rfl) rfl ?_;simp[hxs];refine ag.mk 11 9 0 1 2 false hc1 ?_ (by simp[v1,v2]) (by simp[v1]) (by simp[v2]);simp;refine⟨by kernel_rfl,?_⟩;apply hK;refine acs mixed (by kernel_rfl) rfl ?_;simp[hxs];refine ag.mk 11 9 0 1 2 false hc2 ?_ (by rfl);simp;refine⟨by kernel_rfl,?_⟩;exact(UY (κ:=0) (s0:=(M,S)) rfl rfl (by rfl) (by simp) (by simp) (by simp))
 ·rw[if_neg ho]at hR;subst hR;refine acC ho (hK _ _ ?_);refine abg ?_;exact aaE (UY (s0:=(M,S)) rfl rfl (by simp) (by simp) (by simp) (by simp))
theorem QA{op:Int}(h1:1<=op)(h2:op<=15):(fP op:Int)=if op=1\/op=2 then 1 else fc op:=by
 unfold fP fc
 grind
theorem EC(G:List (List DV))(n:Nd)(h1:1<=n.op)(h2:n.op<=15):aa prog G 137 [n.A] (.c (.d (.bool (!kE n)))):=by
 have hf:=xC G n;have ha:=oa G n.op;have hle:=yT n.op;have hu:=QA h1 h2;have hib:kE n=((n.l4.drop (fP n.op)).all (λx=>decide (x=0))&&(decide (n.v=[]) ||decide (n.op=3))):=rfl;generalize fP n.op=u at*
 refine aa.en func137 rfl λ_=>aar ?_;refine acF 1 ha ?_;refine aae λK hK=>?_
 have tail:∀(fr:Nat->AV) (κ:Nat),fr 1=.c (.ptr 0 0)->fr 3=.c (.d (.int .i64 u))->K ⟨fr,au (λ_=>.hole) 0 (bN n)⟩ κ:=by
  intro fr κ z1 z3;apply hK;refine acW 1 ?_;refine abU λK2 hK2=>?_;simp[z1];refine ag.p 1 9 hf ?_;simp;simp[aj];apply hK2;refine aae λK2 hK2=>acv z1 z3 ?_;refine abd ?_
  refine aco (λ(i:Nat)=>⟨aJ [(1,.c (.ptr 0 0)),(4,.c (.ptr 1 0)),(5,.c (.d (.int .i64 i)))],au (au (λ_=>.hole) 0 (bN n)) 1 (.cells true false 65 (zK n.l4))⟩) 10
   (λi=>u<=i/\i<=4/\∀j (hj:u<=j) (hj2:j<i) (h:j<n.l4.length),n.l4[j]=0) (λi=>4-i) u (Le.pq _ rfl (by simp[z1])) ⟨aU _,hle,λj a b=>absurd b (by omega)⟩ ?_
  rintro i ⟨hi0,hi,hall⟩
  try simp only at hi0 hi hall
  refine aae λK3 hK3=>aar ?_
  by_cases hlt:i<4
  ·have h4:i<n.l4.length:=hlt;have hld:=dh (P:=prog) (T:=3) (by simp) h4;have f12:=bE (n:=(i:Int)+1) (by omega) (by omega);refine abz (by simp<;>omega) (aaE (hK3 _ _ (aae λK5 hK5=>abd (adb hld hlt @Xg ?_))))
   by_cases h0:n.l4[i]=0
   ·refine abD (by simp_all) (aaE (hK5 _ _ (aaJ ?_)));simp[f12];refine⟨i+1,Le.pq _,⟨by omega,by omega,λj a b h=>?_⟩,by omega⟩
    grind
   ·have hb:kE n=false:=by
     rw[hib]
     have:(n.l4.drop u).all (λx=>decide (x=0))=false:=by
      rw[afS];refine⟨n.l4[i],?_,by grind⟩;rw[List.mem_iff_getElem];exact⟨i-u,by grind,by grind⟩
     rw[this];rfl
    refine abz (by simp_all) (aar ?_);exact aaV (aq.rt rfl 2 (by simp[hb]))
  ·have hall2:(n.l4.drop u).all (λx=>decide (x=0))=true:=by
    rw[ab3];intro x hx;obtain⟨j,hj,rfl⟩:=List.mem_iff_getElem.1 hx;rw[aeN,Nd.jx]at hj;have:=hall (u+j) (by omega) (by omega) (by grind);simpa using this
   have hi2:kE n=(decide (n.v=[]) ||decide (n.op=3)):=by rw[hib,hall2];rfl
   refine abD (by simp<;>omega) (abX (hK2 _ _ (aae λK5 hK5=>?_)))
   by_cases h3:n.op=3
   ·have t3:(n.op=3)=True:=eq_true h3;refine acC t3 (hK5 _ _ ?_);exact aaV (aq.rt rfl 2 (by simp_all))
   ·refine acJ h3 @DN (hK5 _ _ ?_);exact aaV (aq.rt rfl 2 (by simp_all))
 refine aae λK1 hK1=>?_
 by_cases c1:n.op=1
 ·have hu1:u=1:=by rw[if_pos (.inl c1)]at hu;omega
  have t1:(n.op=1)=True:=eq_true c1;refine acC t1 (hK1 _ _ ?_);refine abA (aaJ ?_);simp;exact tail _ _ (by simp) (by simp[hu1])
 by_cases c2:n.op=2
 ·have hu1:u=1:=by rw[if_pos (.inr c2)]at hu;omega
  have t1:(n.op=2)=True:=eq_true c2;refine acJ c1 t1 (hK1 _ _ ?_);refine abA (aaJ ?_);simp;exact tail _ _ (by simp) (by simp[hu1])
 rw[if_neg (by omega)]at hu;refine acJ c1 c2 (hK1 _ _ ?_);refine abg (aaE ?_)
 simp_all
theorem Il(G:List (List DV))(p:PD):aa prog G 82 [p.A] (.c (.d (.int .i64 (eI p)))):=by
 refine aa.en func82 rfl λ_=>aar ?_;refine acf @nR ?_;have r0:eI p=if 6<p.nf\/6<p.ni\/64<p.nn\/4<p.ns then 3 else if p.nf=0\/p.nn=0\/p.mode<0\/4<p.mode then 2 else if p.head<0\/p.tail<p.head\/(p.nn:Int)<p.tail then 2 else if p.ns=0/\p.head≠p.nn then 2 else 0:=rfl
 refine aae λK hK=>aae λK1 hK1=>?_
 by_cases e00:6<p.nf
 ·have e00':(6:Int)<(p.nf:Int):=by omega
  have hr:eI p=3:=by rw[r0];exact if_pos (.inl e00)
  refine aaJ ?_;simp[CJ,e00'];apply hK1;refine abA (aar ?_);exact aaV (aq.rt rfl 2 (by simp[hr]))
 have e00':¬(6:Int)<(p.nf:Int):=by omega
 by_cases e01:6<p.ni
 ·have e01':(6:Int)<(p.ni:Int):=by omega
  have hr:eI p=3:=by rw[r0];exact if_pos (.inr (.inl e01))
  refine aaJ ?_;simp[CJ,ME,e00',e01'];apply hK1;refine abA (aar ?_);exact aaV (aq.rt rfl 2 (by simp[hr]))
 have e01':¬(6:Int)<(p.ni:Int):=by omega
 by_cases e02:64<p.nn
 ·have e02':(64:Int)<(p.nn:Int):=by omega
  have hr:eI p=3:=by rw[r0];exact if_pos (.inr (.inr (.inl e02)))
  refine aaJ ?_;simp[CJ,ME,e00',e01',e02'];apply hK1;refine abA (aar ?_);exact aaV (aq.rt rfl 2 (by simp[hr]))
 have e02':¬(64:Int)<(p.nn:Int):=by omega
 by_cases e03:4<p.ns
 ·have e03':(4:Int)<(p.ns:Int):=by omega
  have hr:eI p=3:=by rw[r0];exact if_pos (.inr (.inr (.inr (e03))))
  refine aaJ ?_;simp[CJ,ME,Eb,e00',e01',e02',e03'];apply hK1;refine abA (aar ?_);exact aaV (aq.rt rfl 2 (by simp[hr]))
 have e03':¬(4:Int)<(p.ns:Int):=by omega
 have r1:=r0;rw[if_neg (by omega)]at r1;refine aaJ ?_;simp[CJ,ME,Eb,e00',e01',e02',e03'];apply hK1;refine abg (aaE (hK _ _ (aae λK hK=>aae λK1 hK1=>?_)))
 by_cases e10:p.nf=0
 ·have e10':(p.nf:Int)=0:=by omega
  have hr:eI p=2:=by rw[r1];exact if_pos (.inl e10)
  refine aaJ ?_;simp[CJ,e10];apply hK1;refine abA (aar ?_);exact aaV (aq.rt rfl 2 (by simp[hr]))
 have e10':¬(p.nf:Int)=0:=by omega
 by_cases e11:p.nn=0
 ·have e11':(p.nn:Int)=0:=by omega
  have hr:eI p=2:=by rw[r1];exact if_pos (.inr (.inl e11))
  refine aaJ ?_;simp[CJ,e10,e11];apply hK1;refine abA (aar ?_);exact aaV (aq.rt rfl 2 (by simp[hr]))
 have e11':¬(p.nn:Int)=0:=by omega
 by_cases e12:p.mode<0
 ·have e12':p.mode<0:=by omega
  have hr:eI p=2:=by rw[r1];exact if_pos (.inr (.inr (.inl e12)))
  refine aaJ ?_;simp[CJ,e10,e11,e12];apply hK1;refine abA (aar ?_);exact aaV (aq.rt rfl 2 (by simp[hr]))
 have e12':¬p.mode<0:=by omega
 by_cases e13:4<p.mode
 ·have e13':4<p.mode:=by omega
  have hr:eI p=2:=by rw[r1];exact if_pos (.inr (.inr (.inr (e13))))
  refine aaJ ?_;simp[CJ,e10,e11,e12,e13];apply hK1;refine abA (aar ?_);exact aaV (aq.rt rfl 2 (by simp[hr]))
 have e13':¬4<p.mode:=by omega
 have r2:=r1;rw[if_neg (by omega)]at r2;refine aaJ ?_;simp[CJ,e10,e11,e12,e13];apply hK1;refine abg (aaE (hK _ _ (aae λK hK=>aae λK1 hK1=>?_)))
 by_cases e20:p.head<0
 ·have e20':p.head<0:=by omega
  have hr:eI p=2:=by rw[r2];exact if_pos (.inl e20)
  refine aaJ ?_;simp[e20];apply hK1;refine abA (aar ?_);exact aaV (aq.rt rfl 2 (by simp[hr]))
 have e20':¬p.head<0:=by omega
 by_cases e21:p.tail<p.head
 ·have e21':p.tail<p.head:=by omega
  have hr:eI p=2:=by rw[r2];exact if_pos (.inr (.inl e21))
  refine aaJ ?_;simp[e20,e21];apply hK1;refine abA (aar ?_);exact aaV (aq.rt rfl 2 (by simp[hr]))
 have e21':¬p.tail<p.head:=by omega
 by_cases e22:(p.nn:Int)<p.tail
 ·have e22':(p.nn:Int)<p.tail:=by omega
  have hr:eI p=2:=by rw[r2];exact if_pos (.inr (.inr (e22)))
  refine aaJ ?_;simp[e20,e21,e22];apply hK1;refine abA (aar ?_);exact aaV (aq.rt rfl 2 (by simp[hr]))
 have e22':¬(p.nn:Int)<p.tail:=by omega
 have r3:=r2;rw[if_neg (by omega)]at r3
 have fin0:eI p=0->∀(fr:Nat->AV) (κ:Nat) (lv:Key->LB),lv 9=.hole->K ⟨fr,lv⟩ κ:=by
  intro hg fr κ lv h9;apply hK;refine aar ?_;exact acm (κ:=0) (aq.tmp (κ:=0) rfl 9 (by simp[hg]) rfl (by simp[h9]) rfl)
 by_cases e3:p.ns=0
 ·have e3':(p.ns:Int)=0:=by omega
  by_cases e4:p.head<p.nn
  ·have hr:eI p=2:=by rw[r3,if_pos ⟨e3,by omega⟩]
   refine aaJ ?_;simp[Eb,e20,e21,e22,e3,e4];apply hK1;refine abA (aar ?_);exact aaV (aq.rt rfl 2 (by simp[hr]))
  ·have hr:eI p=0:=by rw[r3,if_neg (λh=>h.2 (by omega))]
   refine aaJ ?_;simp[Eb,e20,e21,e22,e3,e4];apply hK1;refine abg (aaE ?_)
   simp_all
 ·have e3':¬(p.ns:Int)=0:=by omega
  have hr:eI p=0:=by rw[r3,if_neg (λh=>e3 h.1)]
  refine aaJ ?_;simp[Eb,e20,e21,e22,e3];apply hK1;refine abg (aaE ?_)
  simp_all
abbrev In.A(x:In):AV:=.agg [.d (.int .i64 x.f),.d (.str x.lo),.d (.str x.hi)]
theorem Iq(m:Int)(p:PD)(hp:p.ok)(x:In):aa prog (GG m) 84 [p.A,In.A x] (.c (.d (.int .i64 (uR p x)))):=by
 have hwf:=oK (GG m) x.f p.nf;have hP1:=sJ (GG m) x.lo;have hP2:=sJ (GG m) x.hi;have z1:=yo x.lo;have z2:=yo x.hi
 by_cases h1:0<=x.f/\x.f<p.nf
 rotate_left
 ·have hd:decide (0<=x.f/\x.f<(p.nf:Int))=false:=decide_eq_false h1;have hr:uR p x=7:=by unfold uR;rw[if_pos h1]
  rw[hd]at hwf;refine aa.en func84 rfl λ_=>aar ?_;refine aae λK hK=>acX 2 hwf @CJ ?_;refine abA (aar ?_);exact aaV (aq.rt (t:=4) rfl 9 (by simp[hr]))
 have hd:decide (0<=x.f/\x.f<(p.nf:Int))=true:=decide_eq_true h1;rw[hd]at hwf
 have r1:uR p x=if eX x.lo≠0 then eX x.lo else if eX x.hi≠0 then eX x.hi else if hasB (p.fm x.f.toNat).1 (p.fm x.f.toNat).2 (gp x.lo)=false then 7
  else if hasB (p.fm x.f.toNat).1 (p.fm x.f.toNat).2 (gp x.hi)=false then 7 else if 0<jc (gp x.lo) (gp x.hi)then 7 else 0:=by
  unfold uR;rw[if_neg (not_not_intro h1)]
 have hxf:=λlv=>Zn hp lv x.f h1.1 h1.2
 generalize p.fm x.f.toNat=fe at*
 have hb1:=GK m fe.1 fe.2 (gp x.lo) z1;have hb2:=GK m fe.1 fe.2 (gp x.hi) z2;have hcm:=ua (GG m) (gp x.lo) (gp x.hi) (ct z1 (by omega)) (ct z2 (by omega));generalize gp x.lo=a at*
 generalize gp x.hi=b at*
 generalize eX x.lo=ea at*
 generalize eX x.hi=eb at*
 refine aa.en func84 rfl λ_=>aar ?_;refine aae λK hK=>acX 2 hwf @CJ ?_;refine abg (aaE (hK _ _ (acX 2 hP1 @aj.eq_1 ?_)));refine aae λK hK=>aar ?_
 by_cases q1:ea=0
 rotate_left
 ·have hr:uR p x=ea:=by rw[r1,if_pos q1]
  refine abz (by simp_all) (aar ?_);exact aaV (aq.rt (t:=4) rfl 9 (by simp[hr]))
 refine abD (by simp_all) (aaE (hK _ _ (acX 3 hP2 @aj.eq_1 ?_)));refine aae λK hK=>aar ?_
 by_cases q2:eb=0
 rotate_left
 ·have hr:uR p x=eb:=by rw[r1,if_neg (not_not_intro q1),if_pos q2]
  refine abz (by simp_all) (aar ?_);exact aaV (aq.rt (t:=4) rfl 9 (by simp[hr]))
 have r2:uR p x=if hasB fe.1 fe.2 a=false then 7 else if hasB fe.1 fe.2 b=false then 7 else if 0<jc a b then 7 else 0:=by
  rw[r1,if_neg (not_not_intro q1),if_neg (not_not_intro q2)]
 refine abD (by simp_all) (aaE (hK _ _ (acv hxf @aj.eq_1 ?_)));refine aae λK hK=>aae λK4 hK4=>?_
 cases g1:hasB fe.1 fe.2 a with
 |false=>
  have hr:uR p x=7:=by rw[r2,if_pos g1]
  rw[g1]at hb1;refine ada 5 hb1 @Xo (hK4 _ _ ?_);refine abA (aar ?_);exact aaV (aq.rt (t:=4) rfl 9 (by simp[hr]))
 |true=>
 rw[g1]at hb1
 cases g2:hasB fe.1 fe.2 b with
 |false=>
  have hr:uR p x=7:=by rw[r2,g1,if_neg (by decide),if_pos g2]
  rw[g2]at hb2;refine aaJ ?_;simp;refine ag.p 5 9 hb1 ?_;simp;refine ag.p 5 9 hb2 ?_;simp;apply hK4;refine abA (aar ?_);exact aaV (aq.rt (t:=4) rfl 9 (by simp[hr]))
 |true=>
 rw[g2]at hb2
 by_cases g3:0<jc a b
 ·have hr:uR p x=7:=by rw[r2,g1,if_neg (by decide),g2,if_neg (by decide),if_pos g3]
  refine aaJ ?_;simp;refine ag.p 5 9 hb1 ?_;simp;refine ag.p 5 9 hb2 ?_;simp;refine ag.p 5 9 hcm ?_;simp;apply hK4;refine abz (by simp_all) (aar ?_);exact aaV (aq.rt (t:=4) rfl 9 (by simp[hr]))
 ·have hr:uR p x=0:=by rw[r2,g1,if_neg (by decide),g2,if_neg (by decide),if_neg g3]
  refine aaJ ?_;simp;refine ag.p 5 9 hb1 ?_;simp;refine ag.p 5 9 hb2 ?_;simp;refine ag.p 5 9 hcm ?_;simp;apply hK4;refine abD (by simp_all) (aaE (hK _ _ (aar ?_)));exact aaV (aq.rt (t:=4) rfl 9 (by simp[hr]))
theorem LI(m:Int)(p:PD)(hp:p.ok)(i:Nat)(hi:i<p.nn)(hn2:p.nn<=1000):aa prog (GG m) 85 [p.A,.c (.d (.int .i64 i))] (.c (.d (.int .i64 (kj p i (p.nd i))))):=by
 have hx:=λlv=>Er p lv hp i hi
 obtain⟨n,hn⟩:∃n,p.nd i=n:=⟨_,rfl⟩
 simp only[hn]at hx⊢;have har:=oa (GG m) n.op;have hwf:=oK (GG m) n.f p.nf;have hwa:=oK (GG m) n.a p.ni;have hws:=oK (GG m) n.a p.ns;have hsee:=λk=>Lc (GG m) p i k
 have hck:=FP (GG m) n.v;have hkd:=BS (GG m) n
 by_cases h1:1<=n.op/\n.op<=15
 rotate_left
 ·have hr:kj p i n=2:=by unfold kj;rw[if_pos h1]
  have ha:fc n.op = -1:=if_neg h1;rw[ha]at har;refine aa.en func85 rfl λ_=>aar ?_;refine acv hx @aj.eq_1 ?_;refine aae λK hK=>acF 2 har ?_;refine abA (aar ?_);exact aaV (aq.rt rfl 4 (by simp[hr]))
 have ha0:¬fc n.op<0:=by
  have:fc n.op=bT n.op:=if_pos h1;omega
 have hid:=EC (GG m) n h1.1 h1.2;generalize fc n.op=ar at*
 cases hib:kE n with
 |false=>
  have hr:kj p i n=2:=by unfold kj;rw[if_neg (not_not_intro h1),if_pos hib]
  rw[hib]at hid;refine aa.en func85 rfl λ_=>aar ?_;refine acv hx @aj.eq_1 ?_;refine aae λK hK=>abU λK1 hK1=>?_;simp;refine ag.p 2 9 har ?_;simp[ha0];refine ag.p 2 9 hid ?_;simp;apply hK1;refine abA (aar ?_);exact aaV (aq.rt rfl 4 (by simp[hr]))
 |true=>
 rw[hib]at hid;have ib:¬kE n=false:=by rw[hib];decide
 refine aa.en func85 rfl λ_=>aar ?_;refine acv hx @aj.eq_1 ?_;refine aae λK hK=>abU λK1 hK1=>?_;simp;refine ag.p 2 9 har ?_;simp[ha0];refine ag.p 2 9 hid ?_;simp;apply hK1;refine abg (aaE (hK _ _ (aae λK hK=>aae λK1 hK1=>?_)))
 by_cases h2:0<=n.f/\n.f<p.nf
 rotate_left
 ·have hd2:decide (0<=n.f/\n.f<(p.nf:Int))=false:=decide_eq_false h2;have hr:kj p i n=7:=by unfold kj;rw[if_neg (not_not_intro h1),if_neg ib,if_pos h2]
  rw[hd2]at hwf;refine ada 2 hwf @CJ (hK1 _ _ ?_);refine abA (aar ?_);exact aaV (aq.rt rfl 4 (by simp[hr]))
 have hd2:decide (0<=n.f/\n.f<(p.nf:Int))=true:=decide_eq_true h2;rw[hd2]at hwf
 have r2:kj p i n=if n.op=1/\¬(0<=n.a/\n.a<p.ni)then 7 else if n.op=1/\(p.Bc n.a.toNat).f≠n.f then 143 else if n.op=2/\((i:Int)<p.head\/¬(0<=n.a/\n.a<p.ns))then 7 else if n.op=3 then eX n.v else if (aN n).all (dH p i)then 0 else 7:=by
  unfold kj;rw[if_neg (not_not_intro h1),if_neg ib,if_neg (not_not_intro h2)]
 refine ada 2 hwf @CJ (hK1 _ _ ?_);refine abg (aaE (hK _ _ (aae λK hK=>?_)))
 have tail:∀(fr:Nat->AV) (κ:Nat),fr 1=.c (.d (.int .i64 i))->fr 2=.c (.ptr 0 0)->fr 5=.c (.ptr 1 0)->(kj p i n=if (aN n).all (dH p i)then 0 else 7) ->
  K ⟨fr,au (au (λ_=>.hole) 0 (.cells true false 27 p.cs)) 1 (bN n)⟩ κ:=by
  intro fr κ z1 z2 z5 hr;have hkl:=nj n;have lpk:=λlv=>Vv (T:=30) (by simp) lv (zN (aN n))
  have ixk:∀lv (j:Nat) (hj:j<(aN n).length),ak prog 30 lv (.c (zC (zN (aN n)))) (.c (.d (.int .i64 (j:Int))))=some (.c (.d (.ptr [.int .i64 (aN n)[j]])),[],[],True):=by
   intro lv j hj;have:=Wh (T:=30) (by simp) lv (zN (aN n)) (i:=j) (by rw[Co];exact hj);simp only[Co]at this;exact this
  rw[Co]at lpk;have hkz:(AV.c (zC (zN (aN n)))).pure=true:=qX _;have hkf:(AV.c (zC (zN (aN n)))).bF=true:=nq _;generalize zC (zN (aN n))=kz at*
  generalize aN n=kl at*
  apply hK;refine abU λK2 hK2=>?_;simp[z5];refine ag.pure 2 9 hkd hkz (by simp) (by rfl) ?_;simp;apply hK2;refine aae λK2 hK2=>adb z1 z2 z5 ?_;refine abd ?_
  refine aco (λ(j:Nat)=>⟨aJ [(1,.c (.d (.int .i64 i))),(2,.c (.ptr 0 0)),(6,.c kz),(7,.c (.d (.int .i64 j)))],au (au (λ_=>.hole) 0 (.cells true false 27 p.cs)) 1 (bN n)⟩) 10
   (λj=>j<=kl.length/\∀q,q<j->(h:q<kl.length)->dH p i kl[q]=true) (λj=>kl.length-j) 0 (Le.pq _ rfl (by simp[z1,z2,hkf])) ⟨ac1 _,λq hq=>absurd hq (by omega)⟩ ?_
  rintro j ⟨hj,hall⟩
  try simp only at hj hall
  refine aae λK5 hK5=>acf lpk ?_
  by_cases hlt:j<kl.length
  ·have hlt':(j:Int)<(kl.length:Int):=by omega
   have hxk:=λlv=>ixk lv j hlt
   have hse:=hsee kl[j];have f12:=bE (n:=(j:Int)+1) (by omega) (by omega);refine abz (by simp<;>omega) (aaE (hK5 _ _ (aae λK7 hK7=>abd (aae λK8 hK8=>?_))))
   cases hs:dH p i kl[j]with
   |true=>
    rw[hs]at hse;refine acs mixed (by kernel_rfl) rfl ?_;simp[hxk];refine ag.p 11 9 hse ?_;simp;refine⟨by kernel_rfl,?_⟩;apply hK8;refine abg (aaE (hK7 _ _ (aaJ ?_)));simp[f12];refine⟨j+1,Le.pq _,⟨by omega,λq hq h=>?_⟩,by omega⟩
    grind
   |false=>
    rw[hs]at hse
    have hb:kj p i n=7:=by
     rw[hr,if_neg];rw[Bool.not_eq_true,afS];exact⟨kl[j],aZ hlt,by rw[hs];decide⟩
    refine acs mixed (by kernel_rfl) rfl ?_;simp[hxk];refine ag.p 11 9 hse ?_;simp;refine⟨by kernel_rfl,?_⟩;apply hK8;refine abA (aar ?_);exact aaV (aq.rt rfl 4 (by simp[hb]))
  ·have hlt':¬(j:Int)<(kl.length:Int):=by omega
   have hb:kj p i n=0:=by
    rw[hr,if_pos];rw[ab3];intro x hx;obtain⟨q,hq,rfl⟩:=List.mem_iff_getElem.1 hx;exact hall q (by omega) hq
   refine abD (by simp<;>omega) (abX (hK2 _ _ (aar ?_)));exact aaV (aq.rt rfl 4 (by simp[hb]))
 refine aar ?_;refine abd ?_
 by_cases h3:n.op=1
 ·have n2:¬n.op=2:=by omega
  have n3:¬n.op=3:=by omega
  have t3:(n.op=1)=True:=eq_true h3;refine acf t3 ?_;refine abA (aae λK2 hK2=>aae λK3 hK3=>?_)
  by_cases h4:0<=n.a/\n.a<p.ni
  rotate_left
  ·have hd4:decide (0<=n.a/\n.a<(p.ni:Int))=false:=decide_eq_false h4;have hr:kj p i n=7:=by rw[r2,if_pos ⟨h3,h4⟩]
   rw[hd4]at hwa;refine ada 2 hwa @ME (hK3 _ _ ?_);refine abA (aar ?_);exact aaV (aq.rt rfl 4 (by simp[hr]))
  have hd4:decide (0<=n.a/\n.a<(p.ni:Int))=true:=decide_eq_true h4;rw[hd4]at hwa;have hxi:=λlv=>YE hp lv n.a h4.1 h4.2
  refine ada 2 hwa @ME (hK3 _ _ ?_);refine abg (aaE (hK2 _ _ (aae λK2 hK2=>?_)))
  by_cases h5:(p.Bc n.a.toNat).f=n.f
  ·have hr:kj p i n=if (aN n).all (dH p i)then 0 else 7:=by
    rw[r2,if_neg (λh=>h.2 h4),if_neg (λh=>h.2 h5),if_neg (λh=>n2 h.1),if_neg n3]
   refine AW.el2 mixed hxi h5 (hK2 _ _ ?_);refine abg (aaE ?_);simp;exact tail _ _ (by simp) (by simp) (by simp) hr
  ·have hr:kj p i n=143:=by rw[r2,if_neg (λh=>h.2 h4),if_pos ⟨h3,h5⟩]
   refine AW.el2 mixed hxi h5 (hK2 _ _ ?_);refine abA (aar ?_);exact aaV (aq.rt rfl 4 (by simp[hr]))
 have r3:kj p i n=if n.op=2/\((i:Int)<p.head\/¬(0<=n.a/\n.a<p.ns))then 7 else if n.op=3 then eX n.v else if (aN n).all (dH p i)then 0 else 7:=by
  rw[r2,if_neg (λh=>h3 h.1),if_neg (λh=>h3 h.1)]
 refine acf h3 ?_;refine abg (aae λK2 hK2=>?_)
 by_cases h6:n.op=2
 ·have n3:¬n.op=3:=by omega
  have t6:(n.op=2)=True:=eq_true h6;refine acC t6 (hK2 _ _ ?_);refine abA (aae λK2 hK2=>?_)
  by_cases h7:(i:Int)<p.head
  ·have hr:kj p i n=7:=by rw[r3,if_pos ⟨h6,.inl h7⟩]
   refine acC h7 (hK2 _ _ ?_);refine abA (aar ?_);exact aaV (aq.rt rfl 4 (by simp[hr]))
  by_cases h8:0<=n.a/\n.a<p.ns
  ·have hd8:decide (0<=n.a/\n.a<(p.ns:Int))=true:=decide_eq_true h8;rw[hd8]at hws
   have hr:kj p i n=if (aN n).all (dH p i)then 0 else 7:=by
    rw[r3,if_neg (λh=>h.2.elim h7 (λh=>h h8)),if_neg n3]
   refine AW.m2 2 hws h7 @Eb (hK2 _ _ ?_);refine abg (aaE ?_);simp;exact tail _ _ (by simp) (by simp) (by simp) hr
  ·have hd8:decide (0<=n.a/\n.a<(p.ns:Int))=false:=decide_eq_false h8;rw[hd8]at hws;have hr:kj p i n=7:=by rw[r3,if_pos ⟨h6,.inr h8⟩]
   refine AW.m2 2 hws h7 @Eb (hK2 _ _ ?_);refine abA (aar ?_);exact aaV (aq.rt rfl 4 (by simp[hr]))
 have r4:kj p i n=if n.op=3 then eX n.v else if (aN n).all (dH p i)then 0 else 7:=by
  rw[r3,if_neg (λh=>h6 h.1)]
 refine acC h6 (hK2 _ _ ?_);refine abg (aae λK2 hK2=>?_)
 by_cases h9:n.op=3
 ·have hr:kj p i n=eX n.v:=by rw[r4,if_pos h9]
  have t9:(n.op=3)=True:=eq_true h9;rw[<-hr]at hck;refine acC t9 (hK2 _ _ ?_);refine abA (acF 2 hck ?_);exact aaV (aq.rt rfl 4 (by simp))
 ·have hr:kj p i n=if (aN n).all (dH p i)then 0 else 7:=by rw[r4,if_neg h9]
  refine acC h9 (hK2 _ _ ?_);refine abg (aaE ?_)
  simp_all
theorem I5(m:Int)(p:PD)(hp:p.ok)(hg:eI p=0)(i:Nat)(hi:i<p.ns):aa prog (GG m) 86 [p.A,.c (.d (.int .i64 i))] (.c (.d (.int .i64 (tS p i (p.st i))))):=by
 obtain⟨g1,g2,g3,_,_,g4,_⟩:=fD hg;have hx:=λlv=>Zi hp lv (i:Int) (by omega) (by omega)
 simp only[ac9]at hx;generalize p.st i=s at*
 have hw1:=oK (GG m) s.1 p.head;have hw2:=oK (GG m) s.2 p.tail
 by_cases h1:0<=s.1/\s.1<p.head
 rotate_left
 ·have hd:decide (0<=s.1/\s.1<p.head)=false:=decide_eq_false h1;have hr:tS p i s=7:=by unfold tS;rw[if_pos h1]
  rw[hd]at hw1;refine aa.en func86 rfl λ_=>aar ?_;refine acv hx @aj.eq_1 ?_;refine aae λK hK=>acF 2 hw1 ?_;refine abA (aar ?_);exact aaV (aq.rt rfl 4 (by simp[hr]))
 have hd:decide (0<=s.1/\s.1<p.head)=true:=decide_eq_true h1;rw[hd]at hw1
 by_cases h2:0<=s.2/\s.2<p.tail
 rotate_left
 ·have hd2:decide (0<=s.2/\s.2<p.tail)=false:=decide_eq_false h2;have hr:tS p i s=7:=by unfold tS;rw[if_neg (not_not_intro h1),if_pos h2]
  rw[hd2]at hw2;refine aa.en func86 rfl λ_=>aar ?_;refine acv hx @aj.eq_1 ?_;refine aae λK hK=>abU λK1 hK1=>?_;simp;refine ag.p 2 9 hw1 ?_;simp;refine ag.p 2 9 hw2 ?_;simp;apply hK1;refine abA (aar ?_);exact aaV (aq.rt rfl 4 (by simp[hr]))
 have hd2:decide (0<=s.2/\s.2<p.tail)=true:=decide_eq_true h2;rw[hd2]at hw2;have x1:=λlv=>V1 hp lv s.1 h1.1 (by omega)
 have x2:=λlv=>V1 hp lv s.2 h2.1 (by omega)
 have hr:tS p i s=if (p.nd s.2.toNat).f≠(p.nd s.1.toNat).f then 143 else if (List.range p.nn).any (λj=>jm i (p.nd s.1.toNat).f (p.nd j))then 143 else 0:=by
  unfold tS;rw[if_neg (not_not_intro h1),if_neg (not_not_intro h2)]
 generalize p.nd s.1.toNat=n1 at*
 generalize p.nd s.2.toNat=n2 at*
 refine aa.Sh func86 rfl λ_=>aar ?_;refine acv hx @aj.eq_1 ?_;refine aae λK hK=>abU λK1 hK1=>?_;simp;refine ag.p 2 9 hw1 ?_;simp;refine ag.p 2 9 hw2 ?_;simp;apply hK1;refine abg (aaE (hK _ _ (acf x1 ?_)));refine aae λK hK=>aae λK1 hK1=>?_
 by_cases h3:n2.f=n1.f
 rotate_left
 ·have hr2:tS p i s=143:=by rw[hr,if_pos h3]
  refine acJ x2 h3 (hK1 _ _ ?_);refine abA (aar ?_);exact aaV (aq.rt (t:=4) rfl 9 (by simp[hr2]))
 refine acJ x2 h3 (hK1 _ _ ?_);refine abg (aaE (hK _ _ (aae λK hK=>aar ?_)));refine abd ?_
 refine aco (λ(j:Nat)=>⟨aJ [(1,.c (.d (.int .i64 i))),(2,.c (.ptr 0 0)),(6,.c (.d (.int .i64 n1.f))),(7,.c (.d (.int .i64 j)))],au (au (λ_=>.hole) 0 (.cells true false 27 p.cs)) 1 (.cells true false 44 [.d (.int .i64 s.1),.d (.int .i64 s.2)])⟩) 2
  (λj=>j<=p.nn/\∀q,q<j->jm i n1.f (p.nd q)=false) (λj=>p.nn-j) 0 (Le.pq _) ⟨by omega,λq hq=>absurd hq (adT q)⟩ ?_
 rintro j ⟨hj,hall⟩
 try simp only at hj hall
 refine aae λK3 hK3=>acf @nR ?_
 by_cases hlt:j<p.nn
 ·have hlt':(j:Int)<(p.nn:Int):=by omega
  have hxn:=λlv=>Er p lv hp j hlt
  have f12:=bE (n:=(j:Int)+1) (by omega) (by omega);refine abz (by simp<;>omega) (aaE (hK3 _ _ (aae λK5 hK5=>abd (acv hxn @aj.eq_1 ?_))));refine aae λK6 hK6=>?_;obtain⟨n,hn⟩:∃n,p.nd j=n:=⟨_,rfl⟩
  rw[hn]
  by_cases a1:n.op=2
  rotate_left
  ·have hs:jm i n1.f (p.nd j)=false:=by rw[hn];simp[jm,a1]
   refine acC a1 (hK6 _ _ ?_);refine abg (aaE (hK5 _ _ (aaJ ?_)));simp[f12];refine⟨j+1,(Le.Cl [2] 9),⟨by omega,λq hq=>?_⟩,by omega⟩
   grind
  by_cases a2:n.a=(i:Int)
  rotate_left
  ·have hs:jm i n1.f (p.nd j)=false:=by rw[hn];simp[jm,a1,a2]
   refine acJ a1 a2 (hK6 _ _ ?_);refine abg (aaE (hK5 _ _ (aaJ ?_)));simp[f12];refine⟨j+1,(Le.Cl [2] 9),⟨by omega,λq hq=>?_⟩,by omega⟩
   grind
  by_cases a3:n.f=n1.f
  ·have hs:jm i n1.f (p.nd j)=false:=by rw[hn];simp[jm,a1,a2,a3]
   refine acZ a1 a2 a3 (hK6 _ _ ?_);refine abg (aaE (hK5 _ _ (aaJ ?_)));simp[f12];refine⟨j+1,(Le.Cl [2] 9),⟨by omega,λq hq=>?_⟩,by omega⟩
   grind
  have hs:jm i n1.f (p.nd j)=true:=by rw[hn];simp[jm,a1,a2,a3]
  have hr2:tS p i s=143:=by
   rw[hr,if_neg (not_not_intro h3),if_pos];exact List.any_eq_true.2 ⟨j,List.mem_range.2 hlt,hs⟩
  refine acZ a1 a2 a3 (hK6 _ _ ?_);refine abA (aar ?_);exact aaV (aq.rt (t:=4) rfl 9 (by simp[hr2]))
 ·have hlt':¬(j:Int)<(p.nn:Int):=by omega
  have hs:(List.range p.nn).any (λj=>jm i n1.f (p.nd j))=false:=by
   rw[List.any_eq_false];intro q hq;rw[hall q (by have:=List.mem_range.1 hq;omega)];decide
  have hr2:tS p i s=0:=by rw[hr,if_neg (not_not_intro h3),hs,if_neg (by decide)]
  refine abD (by simp<;>omega) (abX (hK _ _ (aar ?_)));exact aaV (aq.rt (t:=4) rfl 9 (by simp[hr2]))
theorem qC(n:Nat)(hi:i<jG p k)(h0:cO p k i≠0)(h1:∀j,j<i->cO p k j=0):dL p (n+1) k=((k:Int)+1,(i:Int),cO p k i):=by
 show(match jX (cO p k) (jG p k)with|some i=>((k:Int)+1,(i:Int),cO p k i)|none=>dL p n (k+1))=_;rw[w8 hi h0 h1]
theorem n7(n:Nat)(h1:∀j,j<jG p k->cO p k j=0):dL p (n+1) k=dL p n (k+1):=by
 show(match jX (cO p k) (jG p k)with|some i=>((k:Int)+1,(i:Int),cO p k i)|none=>dL p n (k+1))=_;rw[xy h1]
abbrev abL(v:Int×Int×Int):AV:=.tup [.c (.d (.int .i64 v.1)),.c (.d (.int .i64 v.2.1)),.c (.d (.int .i64 v.2.2))]
theorem Fv(m:Int)(p:PD)(hp:p.ok):aa prog (GG m) 44 [p.A] (abL (gj p)):=by
 have hge:=Il (GG m) p
 by_cases hg:eI p=0
 rotate_left
 ·have hr:gj p=(0,0,eI p):=by unfold gj;rw[if_pos hg]
  rw[hr];refine aa.en func44 rfl λ_=>aar ?_;refine acF 1 hge ?_;refine aae λK hK=>aar ?_;refine abz (by simp_all) (aar ?_);exact aaV (aq.t3 rfl 9 (by simp) (by simp) (by simp))
 have v0:gj p=dL p 4 0:=by unfold gj;rw[if_neg (not_not_intro hg)]
 rw[hg]at hge;have hrg:=fD hg;have hwi:=oK (GG m) p.res p.nn;have hse:=vQ (GG m) p p.res;have q0:=λi=>wW (GG m) (p.fm i).1 (p.fm i).2
 have q1:=λi=>Iq m p hp (p.Bc i)
 have q2:=λi hi=>LI m p hp i hi (by omega)
 have q3:=λi hi=>I5 m p hp hg i hi
 have x0:∀lv (i:Nat),i<p.nf->ak prog 22 lv (.c (eG p.f)) (.c (.d (.int .i64 (i:Int))))=some (.c (.d (.ptr (zw (p.fm i)))),[],[],True):=by
  intro lv i hi;have:=Zn hp lv (i:Int) (by omega) (by omega)
  rwa[ac9]at this
 have x1:=λlv i hi=>Yk p lv hp i hi
 refine aa.Sh func44 rfl λ_=>aar ?_;refine acF 1 hge ?_;refine aae λK hK=>aar ?_;refine abg (aaE (hK _ _ (aae λKa0 hKa0=>aar ?_)));refine abd ?_
 refine aco (λ(i:Nat)=>⟨aJ [(1,.c (.ptr 0 0)),(6,.c (.d (.int .i64 i)))],au (λ_=>.hole) 0 (.cells true false 27 p.cs)⟩) 2
  (λi=>i<=p.nf/\∀j,j<i->cO p 0 j=0) (λi=>p.nf-i) 0 (Le.pq _) ⟨by omega,λj hj=>absurd hj (adT j)⟩ ?_
 rintro i ⟨hi,hall⟩
 try simp only at hi hall
 refine aae λK3 hK3=>acf @CJ ?_
 by_cases hlt:i<p.nf
 ·have hlt':(i:Int)<(p.nf:Int):=by omega
  have f12:=bE (n:=(i:Int)+1) (by omega) (by omega);have hxn:=λlv=>x0 lv i hlt
  have hcc:=q0 i;have hE:gw (p.fm i).1 (p.fm i).2=cO p 0 i:=rfl;rw[hE]at hcc;refine abz (by simp<;>omega) (aaE (hK3 _ _ (aae λK5 hK5=>abd (acX 3 hcc hxn ?_))));refine aar ?_
  by_cases h0:cO p 0 i=0
  ·refine abD (by simp_all) (aaE (hK5 _ _ (aaJ ?_)));simp[f12];refine⟨i+1,Le.pq _,⟨by omega,λj hj=>?_⟩,by omega⟩
   grind
  ·have hres:=v0.trans (qC 3 (k:=0) (i:=i) hlt h0 hall);refine abz (by simp_all) (aar ?_);exact aaV (aq.t3 rfl 9 (by simp[hres]) (by simp[hres]) (by simp[hres]))
 have hlt':¬(i:Int)<(p.nf:Int):=by omega
 have v1:=v0.trans (n7 3 (k:=0) (λj (hj:j<p.nf)=>hall j (by omega)));refine abD (by simp<;>omega) (abX ?_);simp;clear hall hlt hlt';apply hKa0;refine aae λKa1 hKa1=>aar ?_;refine abd ?_
 refine aco (λ(i:Nat)=>⟨aJ [(1,.c (.ptr 0 0)),(8,.c (.d (.int .i64 i)))],au (λ_=>.hole) 0 (.cells true false 27 p.cs)⟩) 2
  (λi=>i<=p.ni/\∀j,j<i->cO p 1 j=0) (λi=>p.ni-i) 0 (Le.pq _) ⟨by omega,λj hj=>absurd hj (adT j)⟩ ?_
 rintro i ⟨hi,hall⟩
 try simp only at hi hall
 refine aae λK3 hK3=>acf @ME ?_
 by_cases hlt:i<p.ni
 ·have hlt':(i:Int)<(p.ni:Int):=by omega
  have f12:=bE (n:=(i:Int)+1) (by omega) (by omega);have hxn:=λlv=>x1 lv i hlt
  have hcc:=q1 i;have hE:uR p (p.Bc i)=cO p 1 i:=rfl;rw[hE]at hcc;refine abz (by simp<;>omega) (aaE (hK3 _ _ (aae λK5 hK5=>abd (aae λK6 hK6=>?_))));refine acs mixed (by kernel_rfl) rfl ?_;simp[hxn];refine ag.p 3 9 hcc ?_;simp;refine⟨by kernel_rfl,?_⟩;apply hK6;refine aar ?_
  by_cases h0:cO p 1 i=0
  ·refine abD (by simp_all) (aaE (hK5 _ _ (aaJ ?_)));simp[f12];refine⟨i+1,Le.pq _,⟨by omega,λj hj=>?_⟩,by omega⟩
   grind
  ·have hres:=v1.trans (qC 2 (k:=1) (i:=i) hlt h0 hall);refine abz (by simp_all) (aar ?_);exact aaV (aq.t3 rfl 9 (by simp[hres]) (by simp[hres]) (by simp[hres]))
 have hlt':¬(i:Int)<(p.ni:Int):=by omega
 have v2:=v1.trans (n7 2 (k:=1) (λj (hj:j<p.ni)=>hall j (by omega)));refine abD (by simp<;>omega) (abX ?_);simp;clear hall hlt hlt';apply hKa1;refine aae λKa2 hKa2=>aar ?_;refine abd ?_
 refine aco (λ(i:Nat)=>⟨aJ [(1,.c (.ptr 0 0)),(10,.c (.d (.int .i64 i)))],au (λ_=>.hole) 0 (.cells true false 27 p.cs)⟩) 2
  (λi=>i<=p.nn/\∀j,j<i->cO p 2 j=0) (λi=>p.nn-i) 0 (Le.pq _) ⟨by omega,λj hj=>absurd hj (adT j)⟩ ?_
 rintro i ⟨hi,hall⟩
 try simp only at hi hall
 refine aae λK3 hK3=>acf @nR ?_
 by_cases hlt:i<p.nn
 ·have hlt':(i:Int)<(p.nn:Int):=by omega
  have f12:=bE (n:=(i:Int)+1) (by omega) (by omega);have hxn:=True.intro;have hcc:=q2 i hlt;have hE:kj p i (p.nd i)=cO p 2 i:=rfl;rw[hE]at hcc;refine abz (by simp<;>omega) (aaE (hK3 _ _ (aae λK5 hK5=>abd (acF 3 hcc ?_))));refine aar ?_
  by_cases h0:cO p 2 i=0
  ·refine abD (by simp_all) (aaE (hK5 _ _ (aaJ ?_)));simp[f12];refine⟨i+1,Le.pq _,⟨by omega,λj hj=>?_⟩,by omega⟩
   grind
  ·have hres:=v2.trans (qC 1 (k:=2) (i:=i) hlt h0 hall);refine abz (by simp_all) (aar ?_);exact aaV (aq.t3 rfl 9 (by simp[hres]) (by simp[hres]) (by simp[hres]))
 have hlt':¬(i:Int)<(p.nn:Int):=by omega
 have v3:=v2.trans (n7 1 (k:=2) (λj (hj:j<p.nn)=>hall j (by omega)));refine abD (by simp<;>omega) (abX ?_);simp;clear hall hlt hlt';apply hKa2;refine aae λKa3 hKa3=>aar ?_;refine abd ?_
 refine aco (λ(i:Nat)=>⟨aJ [(1,.c (.ptr 0 0)),(12,.c (.d (.int .i64 i)))],au (λ_=>.hole) 0 (.cells true false 27 p.cs)⟩) 2
  (λi=>i<=p.ns/\∀j,j<i->cO p 3 j=0) (λi=>p.ns-i) 0 (Le.pq _) ⟨by omega,λj hj=>absurd hj (adT j)⟩ ?_
 rintro i ⟨hi,hall⟩
 try simp only at hi hall
 refine aae λK3 hK3=>acf @Eb ?_
 by_cases hlt:i<p.ns
 ·have hlt':(i:Int)<(p.ns:Int):=by omega
  have f12:=bE (n:=(i:Int)+1) (by omega) (by omega);have hxn:=True.intro;have hcc:=q3 i hlt;have hE:tS p i (p.st i)=cO p 3 i:=rfl;rw[hE]at hcc;refine abz (by simp<;>omega) (aaE (hK3 _ _ (aae λK5 hK5=>abd (acF 3 hcc ?_))));refine aar ?_
  by_cases h0:cO p 3 i=0
  ·refine abD (by simp_all) (aaE (hK5 _ _ (aaJ ?_)));simp[f12];refine⟨i+1,Le.pq _,⟨by omega,λj hj=>?_⟩,by omega⟩
   grind
  ·have hres:=v3.trans (qC 0 (k:=3) (i:=i) hlt h0 hall);refine abz (by simp_all) (aar ?_);exact aaV (aq.t3 rfl 9 (by simp[hres]) (by simp[hres]) (by simp[hres]))
 have hlt':¬(i:Int)<(p.ns:Int):=by omega
 have v4:=v3.trans (n7 0 (k:=3) (λj (hj:j<p.ns)=>hall j (by omega)));refine abD (by simp<;>omega) (abX ?_);simp;clear hall hlt hlt';apply hKa3;have hfin:gj p=if 0<=p.res/\p.res<p.nn/\fN p p.res≠1 then(0,0,0)else(5,0,7):=v4
 refine aae λK hK=>aae λK1 hK1=>?_
 by_cases h1:0<=p.res/\p.res<p.nn
 rotate_left
 ·have hd:decide (0<=p.res/\p.res<(p.nn:Int))=false:=decide_eq_false h1;have hres:gj p=(5,0,7):=by rw[hfin,if_neg (λh=>h1 ⟨h.1,h.2.1⟩)]
  rw[hd]at hwi;refine ada 3 hwi @nR (hK1 _ _ ?_);refine abA (aar ?_);exact aaV (aq.t3 rfl 9 (by simp[hres]) (by simp[hres]) (by simp[hres]))
 have hd:decide (0<=p.res/\p.res<(p.nn:Int))=true:=decide_eq_true h1;rw[hd]at hwi
 by_cases h2:fN p p.res=1
 ·have hres:gj p=(5,0,7):=by rw[hfin,if_neg (λh=>h.2.2 h2)]
  rw[h2]at hse;refine aaJ ?_;simp[nR];refine ag.p 3 9 hwi ?_;simp;refine ag.p 3 9 hse ?_;simp;apply hK1;refine abA (aar ?_);exact aaV (aq.t3 rfl 9 (by simp[hres]) (by simp[hres]) (by simp[hres]))
 ·have hres:gj p=(0,0,0):=by rw[hfin,if_pos ⟨h1.1,h1.2,h2⟩]
  refine aaJ ?_;simp[nR];refine ag.p 3 9 hwi ?_;simp;refine ag.p 3 9 hse ?_;simp[h2];apply hK1;refine abD (by rfl) (aaE (hK _ _ (aar ?_)));exact aaV (aq.t3 rfl 9 (by simp[hres]) (by simp[hres]) (by simp[hres]))
end Go.Am
