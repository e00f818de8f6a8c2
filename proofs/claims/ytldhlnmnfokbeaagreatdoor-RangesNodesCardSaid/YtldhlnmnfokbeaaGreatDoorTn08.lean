/- Helpers. -/
import Derived.Test.YtldhlnmnfokbeaaGreatDoorTn07

set_option linter.all false
set_option maxHeartbeats 8000000
set_option maxRecDepth 100000
open Go.IntKind
open Go.Proofs.Tryz
namespace Go.Am
abbrev aeW:=@Rat.le_trans
open Go.Am.Ty Go.Proofs N
attribute [local irreducible] aF
def S1{x:Rat}(h:x.num≠0):cw x=some (aL 1000000000 x.num.natAbs):=if_neg h
def yX{x:Rat}(h:x.num≠0):cU x=some (aL 1000000000 x.den):=if_neg h
def PX(G:List (List DV))(x y:Rat)(hx:bF x 10000000000)(hy:bF y 10000000000)(hy0:0<y.num):
 aa prog G 239 [bQ x,bQ y] (.tup [bQ (mkRat (ei (decide (x.num<0)) (x.num.natAbs*y.den)) (x.den*y.num.natAbs)),.c (.d (.int .i64 0))]):=by
 have hyn:y.num≠0:=zd
 have b1:=iH G x;have m1:=gm G (cw x) (cU y) x.num.natAbs y.den 10000000000 (iW x) (by rw[yX hyn];rfl) hx.1 hy.2 zr;have m2:=gm G (some (aL 1000000000 x.den)) (cw y) x.den y.num.natAbs 10000000000 rfl (iW y) hx.2 hy.1 zr;have l1:=cK x.num.natAbs y.den;have l2:=cK x.den y.num.natAbs;have hx1:=hx.1;have hx2:=hx.2;have hy1:=hy.1;have hy2:=hy.2;have sy:cu y=1:=by unfold cu;rw[if_neg hyn,if_neg zd]
 have sy0:¬cu y=0:=by rw[sy];decide
 have hw:i64.wrap (cu x*cu y)=cu x:=by
  rw[sy,Int.mul_one];rcases rV x with h|h|h<;>rw[h]<;>rfl
 have mk:=lB G (cu x) (decide (x.num<0)) (x.num.natAbs*y.den) (x.den*y.num.natAbs) 20000000000 (some (aL 1000000000 (x.num.natAbs*y.den))) rfl (λh=>mX (λe=>h yn)) (adJ x.den_pos zd) zd zd zr;generalize mkRat (ei (decide (x.num<0)) (x.num.natAbs*y.den)) (x.den*y.num.natAbs)=z at*
 generalize x.num.natAbs*y.den=A at*
 generalize x.den*y.num.natAbs=B at*
 refine aa.enc func239 rfl (λlv=>jS lv _ _ _ _) λ_=>aah ?_;refine aac λK hK=>aah ?_;refine aaD yk (aan (hK _ _ (aac λK hK=>?_)));refine aaT mixed zt rfl ?_;simp[hw];refine ag.p 3 9 m1 ?_;simp;refine ag.p 3 9 b1 ?_;simp;refine ag.p 3 9 m2 ?_;simp;refine ag.p 3 9 mk ?_;simp[ai];refine⟨zt,?_⟩;apply hK;refine aal ?_;refine aF.ox (x:=bQ z) (y:=.c (.d (.int .i64 0))) (T:=42) (t:=4) (u:=5) (k:=2) (off:=0) (own:=true) (fz:=false) (U:=42) (cs:=[.d (.int .i64 (cu z)),rC (cw z),rC (cU z)]) rfl ?_ ?_ ?_ ?_ rfl rfl
 ·simp
 ·simp
 ·rfl
 ·simp
def sE(m:Int):aa prog (GG m) 62 [.c (.d (.int .i64 1))] (bQ 1):=by
 have w1:u64.wrap 1=1:=zt
 have c1:aa prog (GG m) 134 [.c (.d (.int .u64 1))] (.c (rC (some [1]))):=by
  refine aa.ed func134 rfl λ_=>?_;have f1:∀a z:CV,ic (λi=>some (i,1)) [z] [(0,.c a)]=some [a]:=λa z=>by kernel_rfl
  have w2:i64.wrap 1=1:=zt
  have w0:u64.wrap 0=0:=zt
  refine abW mixed trivial (me f1 w0 w2 @cC.eq_1 @cC.eq_2 (mo @cC.eq_3 @cC.eq_4 @keyOf.eq_1 @keyOf.eq_2)) ?_;exact aal (κ:=0) (cq.tmp (κ:=0) (X:=.c (.aO 1 0 1 1)) (ks:=[1]) rfl zp rfl)
 have c2:=Ax (GG m);rw[fj]at c2
 have c3:aa prog (GG m) 133 [.c (.d (.int .i64 1)),.c (rC (some [1])),.c (rC (some [1]))] (bQ 1):=by
  have c:=B7 (GG m) 1 false 1 1 (some [1]) (by rw[LS];rfl) (λ_=>rfl) zr (by rw[LS];decide) (by rw[LS];decide);rw[LS,fj,show mkRat (ei false 1) 1=1 by kernel_rfl]at c;exact c
 generalize (1:Rat)=x at*
 refine aa.enc func62 rfl (λlv=>bT lv _ _ _) λ_=>?_;refine aau mixed (lD c1 c2 c3) (eY w1 @ai.eq_1) ?_;refine aal ?_;refine aF.cell (T:=42) (t:=2) (k:=0) (off:=0) (own:=true) (fz:=false) (U:=42) (cs:=[.d (.int .i64 (cu x)),rC (cw x),rC (cU x)]) rfl ?_ ?_ ?_
 ·simp
 ·simp[ai]
 ·rfl
def vu(G:List (List DV)):∀(k:Nat),k<=10000000->aa prog G 149 [.c (.d (.int .i64 (k:Int)))] (.c (rC (some (aL 1000000000 (2^k))))):=by
 intro k
 induction k using Nat.strongRecOn with
 |ind k ih=>
 intro hk;have ho:=oX G;rw[fj]at ho
 by_cases h0:k=0
 ·subst h0;have h0':((0:Nat):Int)=0:=rfl;refine aa.en func149 rfl λ_=>aah ?_;refine aac λK hK=>aah ?_;refine aaE (abi 1 ho ?_);exact aaq (aD.rt (t:=2) rfl 9 zp)
 have hk0:¬(k:Int)=0:=zd
 have ih2:=ih (k/2) zd zd;have e1:(k:Int).tdiv 2=((k/2:Nat):Int):=nE k 2;have w1:=bP (n:=((k/2:Nat):Int)) zd zd;have e2:(k:Int).tmod 2=((k%2:Nat):Int):=xA k 2;have n2:=oo (k/2);have m1:=gm G (some (aL 1000000000 (2^(k/2)))) (some (aL 1000000000 (2^(k/2)))) (2^(k/2)) (2^(k/2)) 10000000000 rfl rfl zd zd zr;rw[<-aee]at m1;have n3:=oo (k/2+k/2);have ad:=vW G (2^(k/2+k/2)) (2^(k/2+k/2)) 10000000000 zd zd zr;have e3:2^(k/2+k/2)+2^(k/2+k/2)=2^(k/2+k/2+1):=by rw[adk];omega
 rw[e3]at ad;refine aa.en func149 rfl λ_=>aah ?_;refine aac λK hK=>aah ?_;refine aaD yk (aan (hK _ _ (aaF λK hK=>?_)));simp[e1,w1,-Int.natCast_ediv];refine ag.p 1 9 ih2 ?_;simp;apply hK;refine abi 1 m1 ?_;refine aac λK hK=>aac λK1 hK1=>?_
 by_cases ho:k%2=1
 ·have e4:k=k/2+k/2+1:=by omega
  have ho':(k:Int)%2=1:=zd
  refine aai ?_;simp[e2,ho,-Int.natCast_emod];apply hK1;refine aaB xr (acq 1 ad (hK _ _ ?_));refine aah ?_;rw[<-e4];exact aaq (aD.rt (t:=2) rfl 9 zp)
 ·have e4:k=k/2+k/2:=by omega
  have ho':¬(k:Int)%2=1:=zd
  refine aai ?_;simp[e2,-Int.natCast_emod];apply hK1;refine aaD (by simp[ho']<;>omega) (aan (hK _ _ (aah ?_)));rw[<-e4];exact aaq (aD.rt (t:=2) rfl 9 zp)
end Go.Am
namespace Go.Am
open Go.Am.Ty Go.Proofs N
attribute [local irreducible] aF
def iD(G:List (List DV))(x:Rat)(k:Int)(hx:bF x 1000000)(h1:-10000000<=k)(h2:k<=10000000):aa prog G 76 [bQ x,.c (.d (.int .i64 k))] (bQ (aH x k)):=by
 have b1:=iH G x;have hx1:=hx.1;have hx2:=hx.2
 by_cases hk:k<0
 ·have hsh:=jE (x:=x) hk;obtain⟨j,hj⟩:∃j:Nat,(-k).toNat=j:=⟨_,rfl⟩
  rw[hj]at hsh;have w1:i64.wrap (-k)=(j:Int):=by rw[bP zd zd];omega
  have n1:=oo j;have pw:=vu G j zd;have m1:=gm G (some (aL 1000000000 x.den)) (some (aL 1000000000 (2^j))) x.den (2^j) 1000000 rfl rfl hx2 zd zr;have l1:=cK x.den (2^j);have mk:=lB G (cu x) (decide (x.num<0)) x.num.natAbs (x.den*2^j) 2000000 (cw x) (iW x) (λh=>mX zd) (adJ x.den_pos (adR zr)) zd zd zr;rw[<-hsh]at mk;generalize 2^j=T at*
  refine aa.enc func76 rfl (λlv=>bT lv _ _ _) λ_=>aah ?_;refine aac λK hK=>aah ?_;refine aaB yk (aac λK1 hK1=>?_);refine aaT mixed zt rfl ?_;simp;refine ag.p 2 9 b1 ?_;simp;simp[w1];refine ag.p 2 9 pw ?_;simp;refine ag.p 2 9 m1 ?_;simp;refine ag.p 2 9 mk ?_;simp[ai];refine⟨zt,?_⟩;apply hK1;exact aal (aF.ref (k:=1) rfl zp zp rfl)
 ·have hkn:k=((k.toNat:Nat):Int):=by omega
  have n1:=oo k.toNat;have pw:=vu G k.toNat zd;rw[<-hkn]at pw;have m1:=gm G (cw x) (some (aL 1000000000 (2^k.toNat))) x.num.natAbs (2^k.toNat) 1000000 (iW x) rfl hx1 zd zr;have l1:=cK x.num.natAbs (2^k.toNat);have mk:=lB G (cu x) (decide (x.num<0)) (x.num.natAbs*2^k.toNat) x.den 2000000 (some (aL 1000000000 (x.num.natAbs*2^k.toNat))) rfl (λh=>mX (λe=>h yn)) x.den_pos zd zd zr;rw[<-jK hk]at mk;generalize 2^k.toNat=T at*
  refine aa.enc func76 rfl (λlv=>bT lv _ _ _) λ_=>aah ?_;refine aac λK hK=>aah ?_;refine aaD (by simp[hk]<;>omega) (aan (hK _ _ (aac λK hK=>?_)));refine aaT mixed zt rfl ?_;simp;refine ag.p 2 9 pw ?_;simp;refine ag.p 2 9 m1 ?_;simp;refine ag.p 2 9 b1 ?_;simp;refine ag.p 2 9 mk ?_;simp[ai];refine⟨zt,?_⟩;apply hK;exact aal (aF.ref (k:=1) rfl zp zp rfl)
def qq(m:Int)(k:Int)(h1:-10000000<=k)(h2:k<=10000000):aa prog (GG m) 241 [.c (.d (.int .i64 k))] (bQ (aH 1 k)):=by
 have i1:=sE m;have sh:=iD (GG m) 1 k (ki 1000000 zr) h1 h2;refine aa.enc func241 rfl (λlv=>bT lv _ _ _) λ_=>aah ?_;refine aaF λK hK=>?_;simp;refine ag.p 1 9 i1 ?_;simp;refine ag.p 1 9 sh ?_;simp[ai];apply hK;exact aal (aF.ref (k:=0) rfl zp zp rfl)
def H9{A k:Nat}:A<2^k↔bk A<=k:=by
 constructor
 ·intro h
  by_cases h0:A=0
  ·subst h0;exact ab5 _
  ·have h1:=iY h0;have:bk A-1<k:=(agd (zr:1<2)).1 (aeR h1 h);omega
 ·intro h;exact adA (mE A) (adK zr h)
def EI{A n:Nat}(h:(aL 1000000000 A).length<=n):bk A<=30*n:=by
 rw[<-H9,aeT];exact adA (oe zr) (HQ (adK zr h) (afq zr _))
def SR{A:Nat}:29*((aL 1000000000 A).length-1)<=bk A:=by
 by_cases h0:aL 1000000000 A=[]
 ·grind
 ·have h1:=Hv (bO (B:=1000000000) zr A) h0;rw[bE zr]at h1
  have h2:2^(29*((aL 1000000000 A).length-1))<=A:=by
   rw[aeT];exact HQ (afq zr _) h1
  by_cases h3:bk A<=29*((aL 1000000000 A).length-1)
  ·have:=H9.2 h3;omega
  ·omega
def rz(G:List (List DV))(A:Nat)(hl:(aL 1000000000 A).length<=300000):aa prog G 240 [(nK .i64 (some (aL 1000000000 (A))))] (.c (.d (.int .i64 (bk A)))):=by
 have hlo:=SR (A:=A);have hhi:=EI (A:=A) (bf _);obtain⟨n,hn⟩:∃n,(aL 1000000000 A).length=n:=⟨_,rfl⟩
 have pwG:=λk (h:k<=10000000)=>vu G k h
 have cmG:∀k:Nat,aa prog G 147 [(nK .i64 (some (aL 1000000000 (A)))),.c (rC (some (aL 1000000000 (2^k))))] (.c (.d (.int .i64 (eO A (2^k))))):=λk=>by
  have:=rT G A (2^k);rw[<-fj];omega
 have hln:∀lv,eT prog 40 lv (nK .i64 (some (aL 1000000000 (A))))=some (.c (.d (.int .i64 n)),[],[],True):=λlv=>by
  simp_all
 rw[hn]at hlo hhi hl;have e1:=bP (n:=(n:Int)-1) zd zd;have e2:=bP (n:=29*((n:Int)-1)) zd zd;have e3:i64.wrap (30*(n:Int))=((30*n:Nat):Int):=by rw[bP zd zd];omega
 obtain⟨z,hz⟩:∃z:Int,29*((n:Int)-1)=z:=⟨_,rfl⟩
 rw[hz]at e2;have hmx:(if 0<z then z else 0)=((29*(n-1):Nat):Int):=by split<;>omega
 have blI:=λk=>H9 (A:=A) (k:=k)
 generalize bk A=L at*
 refine aa.en func240 rfl λ_=>aah ?_;refine aaF λK hK=>?_;simp[eN,hln,e1,hz,e2,e3,hmx,-Int.natCast_mul,-Nj];apply hK;refine aac λK hK=>aaw ?_
 refine aaY (λ(p:Nat×Nat)=>⟨aT [(0,(nK .i64 (some (aL 1000000000 (A))))),(3,.c (.d (.int .i64 (p.1:Int)))),(4,.c (.d (.int .i64 (p.2:Int))))],λ_=>.hole⟩) 0
  (λp=>p.1<=L/\L<=p.2/\p.2<=9000000) (λp=>p.2-p.1) (29*(n-1),30*n) (Le.mk' _ rfl bG zp) ⟨hlo,hhi,zd⟩ ?_
 rintro⟨lo,hi⟩ ⟨q1,q2,q3⟩;simp only at q1 q2 q3;refine aac λK2 hK2=>aah ?_
 by_cases hlh:lo<hi
 ·have u1:i64.wrap ((lo:Int)+hi)=((lo+hi:Nat):Int):=by rw[bP zd zd];omega
  have u3:(((lo+hi:Nat):Int)).tdiv 2=(((lo+hi)/2:Nat):Int):=nE _ 2;obtain⟨mi,hmi⟩:∃mi,(lo+hi)/2=mi:=⟨_,rfl⟩
  rw[hmi]at u3;have u4:=bP (n:=(mi:Int)) zd zd;have u5:=bP (n:=(mi:Int)+1) zd zd;have pw:=pwG mi zd;have cm:=cmG mi;have bi:=blI mi;refine aaB yk (aan (hK2 _ _ (aaw (aaF λK4 hK4=>?_))));simp[u1,u3,u4,-Int.natCast_add];apply hK4;refine aac λK4 hK4=>?_
  by_cases hc:eO A (2^mi)<0
  ·have hle:L<=mi:=bi.1 (by by_cases h:A<2^mi;exact h;exfalso;by_cases e:A=2^mi;rw[o5 e]at hc;omega;rw[mz zd]at hc;omega);refine aai ?_;simp;refine ag.p 0 9 pw ?_;simp;refine ag.p 0 9 cm ?_;simp[hc];apply hK4;refine aaE (aai ?_);simp;exact⟨lo,mi,Le.mk' _ rfl bG zp,⟨q1,hle,zd⟩,zd⟩
  ·have hle:¬L<=mi:=λh=>hc (by rw[lq (bi.2 h)];omega)
   have e:(mi:Int)+1=((mi+1:Nat):Int):=zd
   refine aai ?_;simp;refine ag.p 0 9 pw ?_;simp;refine ag.p 0 9 cm ?_;simp[hc];apply hK4;refine aax (aai ?_);simp[u5];exact⟨mi+1,hi,Le.mk' _ rfl bG zp,⟨zd,q2,q3⟩,zd⟩
 ·obtain rfl:lo=L:=by omega
  refine aaD yk (aaR (hK _ _ (aah ?_)));exact aaq (aD.rt (t:=2) rfl 9 zp)
end Go.Am
namespace Go.Am
open Go.Am.Ty Go.Proofs N
variable {s l T:List UInt8}{x y z u:AV}{n κ:Nat}{neg:Bool}{c:Ctx}{fn:Func}
theorem PV(c:UInt8):lO c=true↔48<=c.toNat/\c.toNat<=57:=by simp[lO]
theorem TZ(h:∀x∈l,lO x=true):l.dropWhile lO=[]:=by
 induction l with
 |nil=>rfl
 |cons a l ih=>simp_all
theorem ET(h:zn s):xR s=[]:=by
 have h1:s.reverse.dropWhile lO=[]:=TZ λx hx=>(PV x).2 (h x (List.mem_reverse.1 hx))
 unfold xR lT
 simp_all
def isRow(s:List UInt8):Prop:=zn s/\s≠[]/\(s=[48]\/s.getD 0 0≠48)
theorem qT:gP s=true↔isRow s:=by
 constructor
 ·intro h;obtain⟨h1,h2⟩:=rm h;unfold gP at h;simp only[adS,aeY,aeM,decide_eq_true_eq,decide_eq_false_iff_not]at h;exact⟨h1,h2,h.2⟩
 ·rintro⟨h1,h2,h3⟩;unfold gP;rw[decide_eq_false h2,decide_eq_true (ET h1)]
  grind
theorem gD8{i:Nat}(h:i<s.length):s.getD i 0=s[i]:=yn
theorem Ph(G:List (List DV))(s:List UInt8):aa prog G 237 [.c (.d (.str s))] (.c (.d (.bool (gP s)))):=by
 refine aQ.nc 0 zp (λV v h=>(show s.length<=9223372036854775807 by cases h.1 with|str _ hl=>exact hl)) λhs=>?_;refine aa.en func237 rfl λ_=>aah ?_;refine aac λK hK=>aah ?_;refine aaw ?_;refine aaY (λ(i:Nat)=>⟨aT [(0,.c (.d (.str s))),(3,.c (.d (.int .i64 (i:Int))))],λ_=>.hole⟩) 0 (λi=>i<=s.length/\zn (s.take i)) (λi=>s.length-i) 0 (Le.mk' _ rfl bG zp) ⟨ab5 _,λc hc=>by simp at hc⟩ ?_;rintro i ⟨hi,hd⟩;refine aac λK3 hK3=>aah ?_
 by_cases hlt:i<s.length
 ·have hlt':(i:Int)<(s.length:Int):=by omega
  have wi:=bP (n:=(i:Int)+1) zd zd;have hg:=gD8 hlt;have hg2:s[i]?.getD 0=s[i]:=by rw[fy hlt];rfl
  obtain⟨c,hc⟩:∃c,s[i]=c:=⟨_,rfl⟩
  rw[hc]at hg hg2;have hcm:c∈s:=by rw[<-hc];exact cn hlt
  have bad:¬(48<=c.toNat/\c.toNat<=57)->gP s=false:=λh=>by
   cases hr:gP s with
   |false=>rfl
   |true=>exact absurd ((qT.1 hr).1 c hcm) h
  refine aaB yk (aan (hK3 _ _ (aac λK5 hK5=>aaw (aac λK6 hK6=>?_))))
  by_cases c1:c.toNat<48
  ·have c1':(c.toNat:Int)<48:=by omega
   refine aai ?_;simp[hlt,hlt',hc,c1'];apply hK6;refine aaE (aah ?_);exact aaq (aD.rt (t:=2) rfl 9 (by simp[(bad zd)]))
  ·have c1':¬(c.toNat:Int)<48:=by omega
   by_cases c2:57<c.toNat
   ·have c2':(57:Int)<(c.toNat:Int):=by omega
    refine aai ?_;simp[hlt,hlt',hc,c1',c2'];apply hK6;refine aaE (aah ?_);exact aaq (aD.rt (t:=2) rfl 9 yk)
   ·have c2':¬(57:Int)<(c.toNat:Int):=by omega
    refine aai ?_;simp[hlt,hlt',hc,c1',c2'];apply hK6;refine aax (aan (hK5 _ _ (aai ?_)));simp[wi];refine⟨i+1,Le.mk' _ rfl bG zp,⟨zd,?_⟩,zd⟩;intro x hx;rw[afi,fy hlt,afW]at hx;rcases hx with hx|hx
    ·exact hd x hx
    grind
 ·have he:i=s.length:=by omega
  subst he;rw[afQ]at hd;refine aaD zp (aaR (hK _ _ (aac λK hK=>?_)))
  cases s with
  |nil=>
   refine abS (hK _ _ ?_);exact aaq (aD.rt (t:=2) rfl 9 (by simp[gP]))
  |cons a l=>
   have hrow:gP (a::l)=(decide (a::l=[48]) || !decide (a=48)):=by
    unfold gP;rw[decide_eq_true (ET hd)];simp
   have ha:((a.toNat:Int)=48)↔a=48:=by
    constructor
    ·intro h;exact UInt8.toNat_inj.1 yn
    ·simp_all
   have hpos:(0:Int)<((l.length:Int)+1):=zd
   by_cases h0:a::l=[48]
   ·obtain⟨rfl,rfl⟩:=List.cons.inj h0;refine aby @eqStr (hK _ _ ?_);exact aaq (aD.rt (t:=2) rfl 9 (by simp[hrow]))
   ·refine aai ?_;simp[eqStr,h0,hpos];apply hK;exact aaq (aD.rt (t:=2) rfl 9 yk)
def MJ(l:List Nat):LB:=if l=[]then .hole else .cells true false 2 (wK .i64 l)
def Ql(l:List Nat):AV:=if l=[]then .c (.d .nilsl)else .c (.aO 0 0 l.length 1)
theorem VN{lv:Key->LB}{k:Key}(h:lv k=.hole):aM lv k .hole=lv:=by
 funext j
 simp_all
theorem aaO(j:Nat):10^(9*j)=1000000000^j:=by rw[aeT]
theorem Fu(h:zn s)(n:Nat):zn (s.take n):=λc hc=>h c (afw hc)
theorem FW(h:zn s)(n:Nat):zn (s.drop n):=λc hc=>h c (afj hc)
theorem CA(G:List (List DV))(s:List UInt8)(hd:zn s)(hne:s≠[])(hl:s.length<=100000):aa prog G 185 [.c (.d (.str s))] (nK .i64 (some (aL 1000000000 (bg s 0)))):=by
 have hbs:∀(lv:Key->LB) (h:lv 1=.hole) (a:CV),aB prog 40 1 [0] lv 1 [.c a]=some (.c (.aO 1 0 1 1),[(1,.cells true false 2 [a])],[],True):=λlv h a=>B5 lv 1 h a
 refine aa.ML func185 rfl λ_=>aah ?_;refine aah ?_;refine aac λK hK=>aah ?_;refine aaw ?_
 refine aaY (λ(p:List Nat)=>⟨aT [(0,.c (.d (.str s))),(3,Ql p),(4,.c (.d (.int .i64 ((s.length:Int)-9*(p.length:Int)))))],aM (λ_=>.hole) 0 (MJ p)⟩) 1
  (λp=>ok 1000000000 p/\val 1000000000 p=bg (s.drop (s.length-9*p.length)) 0/\(9*p.length<s.length+9)) (λp=>s.length+9-9*p.length) [] (Le.mk' _ (VN rfl).symm bG (by simp[Ql])) ⟨dM _,by simp[bg],zp⟩ ?_
 rintro p ⟨h1,h2,h3⟩;obtain⟨z,hz⟩:∃z:Int,(s.length:Int)-9*(p.length:Int)=z:=⟨_,rfl⟩
 simp only[hz];refine aac λK3 hK3=>aah ?_
 by_cases hgo:0<z
 ·obtain⟨i,rfl⟩:∃i:Nat,z=i:=⟨z.toNat,zd⟩
  have hi:s.length-9*p.length=i:=zd
  have hil:i<=s.length:=zd
  rw[hi]at h2;obtain⟨lo,hlo⟩:∃lo,i-9=lo:=⟨_,rfl⟩
  obtain⟨y,hy⟩:∃y:Int,(i:Int)-9=y:=⟨_,rfl⟩
  have w1:i64.wrap ((i:Int)-9)=y:=by rw[bP zd zd];exact hy
  have hmx:(if y<0 then 0 else y)=(lo:Int):=by split<;>omega
  have w9:=bP (n:=(i:Int)-9) zd zd;rw[hy]at w9;refine aaB xv (aan (hK3 _ _ (aac λK5 hK5=>aaw (aah ?_))));refine aac λK6 hK6=>aaF λK7 hK7=>?_;simp[eN,w1,hmx];apply hK7;refine aaw ?_
  refine aaY (λ(k:Nat)=>⟨aT [(0,.c (.d (.str s))),(3,Ql p),(4,.c (.d (.int .i64 (i:Int)))),(5,.c (.d (.int .i64 ((bg ((s.take k).drop lo) 0:Nat):Int)))),(6,.c (.d (.int .i64 (k:Int))))],aM (λ_=>.hole) 0 (MJ p)⟩) 1
   (λk=>lo<=k/\k<=i) (λk=>i-k) lo (Le.keys [(0,0,MJ p)] 19 _ rfl rfl zp zp zp ?_ ?_) ⟨bf _,zd⟩ ?_
  ·intro e he;simp only[aZ,bw,or_false]at he;subst he;simp only[aI];unfold MJ;split
   ·rfl
   ·exact ng .i64 2 p _
  ·have e0:List.drop lo (List.take lo s)=[]:=aeQ yn;simp[e0,bg];unfold Ql;split<;>simp[aV]
  rintro k ⟨k1,k2⟩;refine aac λK8 hK8=>aah ?_
  by_cases hlk:k<i
  ·have hks:k<s.length:=by omega
   have hks':(k:Int)<(s.length:Int):=zd
   obtain⟨c,hc⟩:∃c,s[k]=c:=⟨_,rfl⟩
   have hcd:=hd c yn;have hlt:=pL (FW (Fu hd k) lo);have hln:(List.drop lo (List.take k s)).length=k-lo:=by rw[afl,acM];omega
   have hp9:10^(List.drop lo (List.take k s)).length<=10^8:=adK zr zd
   have hnx:bg ((s.take (k+1)).drop lo) 0=10*bg ((s.take k).drop lo) 0+(c.toNat-48):=by
    have e:(s.take (k+1)).drop lo=(s.take k).drop lo++[c]:=by
     rw[afi,fy hks,hc,List.drop_append,show lo-(List.take k s).length=0 by grind];rfl
    rw[e,m8];rfl
   obtain⟨N0,hN0e⟩:∃N0,bg ((s.take k).drop lo) 0=N0:=⟨_,rfl⟩
   obtain⟨N1,hN1e⟩:∃N1,bg ((s.take (k+1)).drop lo) 0=N1:=⟨_,rfl⟩
   rw[hN0e]at hlt hnx;rw[hN1e]at hnx;simp only[hN0e];have hN0:N0<=100000000:=zd
   have v1:i64.wrap (10*(N0:Int))=((10*N0:Nat):Int):=by rw[bP zd zd];omega
   have v2:u8.wrap ((c.toNat:Int)-48)=((c.toNat-48:Nat):Int):=by rw[eG ⟨vd,un⟩];omega
   have v3:=bP (n:=((c.toNat-48:Nat):Int)) zd zd;have v4:i64.wrap (((10*N0:Nat):Int)+((c.toNat-48:Nat):Int))=(N1:Int):=by rw[bP zd zd];omega
   have v5:=bP (n:=(k:Int)+1) zd zd;refine aaB yk (aan (hK8 _ _ (aac λK9 hK9=>aaw (aai ?_))));simp[hks,hks',hc,v1,v2,v3,v4,-Int.natCast_mul];apply hK9;refine aai ?_;simp[v5];refine⟨k+1,Le.keys [(0,0,MJ p)] 19 _ rfl rfl zp zp zp ?_ ?_,⟨zd,zd⟩,zd⟩
   ·intro e he;simp only[aZ,bw,or_false]at he;subst he;simp only[aI];unfold MJ;split
    ·rfl
    ·exact ng .i64 2 p _
   ·simp[hN1e];unfold Ql;split<;>simp[aV]
  ·obtain rfl:k=i:=by omega
   refine aaD zp (aaR (hK6 _ _ ?_));refine abP 1 ?_;have hlt:=pL (FW (Fu hd k) lo);have hln:(List.drop lo (List.take k s)).length=k-lo:=by rw[afl,acM];omega
   have hp9:10^(List.drop lo (List.take k s)).length<=10^9:=adK zr zd
   have hv:bg (s.drop lo) 0=bg ((s.take k).drop lo) 0*1000000000^p.length+bg (s.drop k) 0:=by
    have e:s.drop lo=(s.take k).drop lo++s.drop k:=by
     conv=>lhs;rw[<-afX k s]
     rw[List.drop_append,show lo-(List.take k s).length=0 by grind];rfl
    have e2:(s.drop k).length=9*p.length:=by rw[afl];omega
    rw[e,m8,iw,e2,aaO]
   have hz2:(s.length:Int)-9*(((p.length+1:Nat)):Int)=y:=zd
   have hz3:s.length-9*(p.length+1)=lo:=zd
   obtain⟨N,hN⟩:∃N,bg ((s.take k).drop lo) 0=N:=⟨_,rfl⟩
   simp only[hN]at hlt hv⊢;have hok:ok 1000000000 (p++[N]):=dD.2 ⟨h1,b6.2 ⟨zd,dM _⟩⟩
   have hvl:val 1000000000 (p++[N])=bg (s.drop (s.length-9*(p++[N]).length)) 0:=by
    rw[adl,aex,hz3,gU,h2,hv,aed];omega
   have hB1:MJ (p++[N])=.cells true false 2 (wK .i64 (p++[N])):=if_neg zp;have hV1:Ql (p++[N])=.c (.aO 0 0 (p.length+1) 1):=by unfold Ql;rw[if_neg zp];simp
   by_cases hp:p=[]
   ·subst hp;refine aai ?_;simp[Ql,MJ,hbs,cC,keyOf,-aB];apply hK5;refine aai ?_;simp[w1];refine⟨[]++[N],Le.keys [(0,2,MJ ([]++[N]))] 19 _ rfl rfl zp zp zp ?_ ?_,⟨hok,hvl,xv⟩,zp⟩
    ·intro e he;simp only[aZ,bw,or_false]at he;subst he;rw[hB1];simpa[wK]using ng .i64 2 ([]++[N]) _
    ·rw[hV1];have hz2':(s.length:Int)-9=y:=by simpa using hz2
     simp[aV,hz2']
   ·have hB0:MJ p=.cells true false 2 (wK .i64 p):=if_neg hp;have hV0:Ql p=.c (.aO 0 0 p.length 1):=if_neg hp;refine aai ?_;simp[hB0,hV0,hbs,cC,keyOf,Eb,-aB]
    repeat refine az ?_
    apply hK5;refine aai ?_;simp[w1];refine⟨p++[N],Le.keys [(0,2,MJ (p++[N]))] 19 _ rfl rfl zp zp zp ?_ ?_,⟨hok,hvl,yv⟩,yv⟩
    ·intro e he;simp only[aZ,bw,or_false]at he;subst he;rw[hB1];simpa using ng .i64 2 (p++[N]) _
    ·rw[hV1];have hz2':(s.length:Int)-9*((p.length:Int)+1)=y:=by simpa using hz2
     simp[aV,hz2']
 ·have hp:p≠[]:=by
   intro e;subst e;have:=List.length_pos_iff.2 hne;simp at hz;omega
  have hB0:MJ p=.cells true false 2 (wK .i64 p):=if_neg hp;have hV0:Ql p=.c (.aO 0 0 p.length 1):=if_neg hp;have h0:s.length-9*p.length=0:=zd
  rw[h0,ady]at h2;have hout:fc p=aL 1000000000 (bg s 0):=fQ zr h1 h2;rw[hB0,hV0];refine aaD yk (aaR (hK _ _ (aaF λK hK=>?_)));simp;refine eL.sY (T:=2) (k:=.i64) (l:=p) 1 9 0 zp zd (kV _ _ zd) zp zp zp ?_;simp;apply hK;exact aaq (aD.rt (t:=2) rfl 9 te)
def Ka(d:Nat):UInt8:=UInt8.ofNat (48+d)
theorem n6{d:Nat}(h:d<10):(Ka d).toNat=48+d:=by simp[Ka];omega
theorem P6{c:UInt8}(h:48<=c.toNat/\c.toNat<=57):Ka (c.toNat-48)=c:=UInt8.toNat_inj.1 (by rw[n6 zd];omega)
def GA(n:Nat):Nat->List UInt8
 |0=>[]
 |i+1=>Ka (n/10^i%10)::GA n i
theorem za(n:Nat):∀i,(GA n i).length=i
 |0=>rfl
 |i+1=>by rw[GA,aeq,za n i]
theorem Td(n:Nat):∀i,zn (GA n i)
 |0=>λc hc=>by cases hc
 |i+1=>λc hc=>by
  rw[GA]at hc;rcases List.mem_cons.1 hc with rfl|hc
  ·rw[n6 zd];omega
  ·exact Td n i c hc
theorem TP(n:Nat):∀i,bg (GA n i) 0=n%10^i
 |0=>by simp[GA,bg,Nat.mod_one]
 |i+1=>by
  have ih:=TP n i
  have e:bg (GA n (i+1)) 0=(n/10^i%10)*10^i+n%10^i:=by
   rw[GA];show bg (GA n i) (10*0+((Ka (n/10^i%10)).toNat-48))=_;rw[iw,ih,za,n6 zd,aeU,aej,afC]
  rw[e,adk,Nat.mod_mul,aed,afE]
theorem uG(s t:List UInt8):aU prog .add 9 (.c (.d (.str s))) (.c (.d (.str t)))=some (.c (.d (.str (s++t))),[],[],s.length+t.length<=9223372036854775807):=by
 rfl
theorem Vm:fU prog 229=some (5,1):=zp
theorem Zd(lv:Key->LB)(κ:Key)(h:lv κ=.hole)(a:CV):aB prog 229 1 [0] lv κ [.c a]=some (.c (.aO κ 0 1 1),[(κ,.cells true false 5 [a])],[],True):=by
 unfold aB;rw[h];rfl
theorem LD(G:List (List DV))(n:Nat)(hn:n<1000000000):aa prog G 210 [.c (.d (.int .i64 (n:Int)))] (.c (.d (.str (GA n 9)))):=by
 have hbs:∀(lv:Key->LB) (h:lv 0=.hole) (a:CV),aB prog 229 1 [0] lv 0 [.c a]=some (.c (.aO 0 0 1 1),[(0,.cells true false 5 [a])],[],True):=λlv h a=>Zd lv 0 h a
 refine aa.ML func210 rfl λ_=>aah ?_;refine aah ?_;refine aac λK hK=>aah ?_;refine aaw ?_;refine aaY (λ(i:Nat)=>⟨aT [(0,.c (.d (.int .i64 ((n/10^i:Nat):Int)))),(3,.c (.d (.str (GA n i)))),(4,.c (.d (.int .i64 (i:Int))))],λ_=>.hole⟩) 0 (λi=>i<=9) (λi=>9-i) 0 (Le.mk' _ rfl bG (by simp[GA])) zd ?_;intro i hi
 try simp only at hi
 have hle:n/10^i<=n:=aeB _ _;have hnx:n/10^(i+1)=n/10^i/10:=by rw[adk,afh]
 have hds:GA n (i+1)=Ka (n/10^i%10)::GA n i:=rfl;have hdl:=za n i;obtain⟨q,hq⟩:∃q,n/10^i=q:=⟨_,rfl⟩
 obtain⟨T,hT⟩:∃T,GA n i=T:=⟨_,rfl⟩
 rw[hq]at hle hnx hds;rw[hT]at hds hdl;simp only[hq,hT];refine aac λK3 hK3=>aah ?_
 by_cases hlt:i<9
 ·have hlt':(i:Int)<9:=by omega
  have e1:(q:Int).tmod 10=((q%10:Nat):Int):=xA q 10;have e2:i64.wrap (48+((q%10:Nat):Int))=((48+q%10:Nat):Int):=by rw[bP zd zd];omega
  have e3:u8.wrap ((48+q%10:Nat):Int)=((48+q%10:Nat):Int):=eG ⟨vd,un⟩;have e4:(q:Int).tdiv 10=((q/10:Nat):Int):=nE q 10;have w4:=bP (n:=((q/10:Nat):Int)) zd zd;have w5:=bP (n:=(i:Int)+1) zd zd;refine aaB yk (aan (hK3 _ _ (aac λK5 hK5=>aaw (aac λK6 hK6=>?_))));refine AW.oc ?_;refine kG.run 5 rfl ?_;simp[e1,e2,e3,hbs,-aB,-Int.natCast_add,-Int.natCast_emod];refine kG.O6 (κ:=0) (off:=0) (own:=true) (fz:=false) (T':=5) (e:=5) (cs:=[.d (.int .u8 ((48+q%10:Nat):Int))]) (n:=((48+q%10:Nat):Int)) 1 rfl rfl rfl zp zp zp Vm Tryz.underlying5 zp ?_;refine kG.run 3 rfl ?_;simp[uG]
  repeat refine az ?_
  refine kG.done ?_;apply hK6;refine aai ?_;simp[e4,w4,-Int.natCast_ediv];apply hK5;refine aai ?_;simp[w5];refine⟨i+1,Le.keys [] 19 _ rfl rfl zp zp zp zp ?_,zd,zd⟩
  have f0:(q:Int)/10=(n:Int)/10^(i+1):=by
   have:=congrArg (λx:Nat=>(x:Int)) hnx;simpa using this.symm
  have f1:(48+(q:Int)%10).toNat=48+q%10:=zd
  simp[hds,Ka]
  simp_all
 ·obtain rfl:i=9:=by omega
  refine aaD xr (aaR (hK _ _ (aah ?_)));exact aaq (aD.rt (t:=2) rfl 9 (by simp[hT]))
def xx:Nat->Nat->List UInt8
 |0,n=>[Ka n]
 |f+1,n=>if n<10 then[Ka n]else xx f (n/10)++[Ka (n%10)]
def kJ(n:Nat):List UInt8:=xx n n
theorem Em:∀(f n:Nat),n<=f->xx f n=kJ n
 | 0,n,h=>by have:n=0:=by omega
             subst this;rfl
 |f+1,n,h=>by
  unfold kJ
  by_cases h10:n<10
  ·cases n with
   |zero=>rfl
   |succ n=>rw[xx,if_pos h10,xx,if_pos h10]
  ·obtain⟨m,rfl⟩:∃m,n=m+1:=⟨n-1,zd⟩
   rw[xx,if_neg h10,xx,if_neg h10,Em f ((m+1)/10) zd,Em m ((m+1)/10) zd]
theorem CS(h:n<10):kJ n=[Ka n]:=by
 unfold kJ
 cases n with
 |zero=>rfl
 |succ n=>rw[xx,if_pos h]
theorem C4(h:¬n<10):kJ n=kJ (n/10)++[Ka (n%10)]:=by
 obtain⟨m,rfl⟩:∃m,n=m+1:=⟨n-1,zd⟩
 conv=>lhs;unfold kJ
 rw[xx,if_neg h,Em m ((m+1)/10) zd]
theorem Cf(l:List UInt8)(c:UInt8):bg (l++[c]) 0=10*bg l 0+(c.toNat-48):=by rw[m8];rfl
theorem Sy(h:zn l)(hne:l≠[])(h0:l.getD 0 0≠48):1<=bg l 0:=by
 cases l with
 |nil=>grind
 |cons c l=>
  have hc:=h c zp;have hc48:c≠48:=h0;have hcn:c.toNat≠48:=λe=>hc48 (UInt8.toNat_inj.1 ti)
  show 1<=bg l (10*0+(c.toNat-48));rw[iw];have:1*1<=(10*0+(c.toNat-48))*10^l.length:=ae3 zd (adR zr);omega
theorem Ny:∀(k:Nat) (s:List UInt8),s.length=k->isRow s->s=kJ (bg s 0)
 |0,s,hk,h=>absurd (afy hk) h.2.1
 |k+1,s,hk,⟨h1,h2,h3⟩=>by
  rcases afF s with rfl|⟨l,c,rfl⟩
  ·grind
  ·rw[afG]at*
   have hc:=h1 c zp;have hl:zn l:=λx hx=>h1 x rc
   rw[Cf]
   by_cases hle:l=[]
   ·subst hle;show [c]=kJ (10*bg [] 0+(c.toNat-48));rw[show 10*bg [] 0+(c.toNat-48)=c.toNat-48 by simp[bg],CS zd,P6 hc]
   ·have h0:l.getD 0 0≠48:=by
     rcases h3 with h3|h3
     ·exfalso;have:=congrArg List.length h3;simp at this;exact hle this
     ·cases l with
      |nil=>exact absurd rfl hle
      |cons a l=>exact h3
    have hp:=Sy hl hle h0;have ih:=Ny k l yn ⟨hl,hle,.inr h0⟩;rw[C4 zd,show(10*bg l 0+(c.toNat-48))/10=bg l 0 by omega,show(10*bg l 0+(c.toNat-48))%10=c.toNat-48 by omega,<-ih,P6 hc]
theorem zh(h:isRow s):s=kJ (bg s 0):=Ny _ s rfl h
theorem sJ(G:List (List DV))(A:Nat)(o:Option (List Nat))(ho:dO o=aL 1000000000 A)(hl:(aL 1000000000 A).length<=100000000000):aa prog G 164 [.c (rC o)] (.c (.d (.str (kJ A)))):=by
 have hok:=(bO (B:=1000000000) zr A).1;have hval:=bE (B:=1000000000) zr A;obtain⟨D,hD⟩:∃D,aL 1000000000 A=D:=⟨_,rfl⟩
 rw[hD]at hok hval hl ho;have nineG:=λn h=>LD G n h
 rw[<-fj];have hw0:=bP (n:=(D.length:Int)-1) zd zd;refine aa.en func164 rfl λ_=>aah ?_;refine aah ?_;refine aac λK hK=>abk ho hw0 ?_;refine aaw ?_
 refine aaY (λ(p:Nat×List UInt8)=>⟨aT [(0,nK .i64 o),(3,.c (.d (.str p.2))),(4,.c (.d (.int .i64 ((p.1:Int)-1))))],λ_=>.hole⟩) 0
  (λp=>p.1<=D.length/\zn p.2/\bg p.2 0=val 1000000000 (D.drop p.1)/\p.2.length=9*(D.length-p.1)) (λp=>p.1) (D.length,[]) (Le.mk' _ rfl bG (by simp[])) ⟨bf _,λc hc=>(by cases hc),by simp[bg],zp⟩ ?_
 rintro⟨k,S⟩ ⟨h1,h2,h3,h4⟩;simp only at h1 h2 h3 h4;refine aac λK3 hK3=>aah ?_
 cases k with
 |succ k=>
  have hk:k<D.length:=zd
  have hko:k<(dO o).length:=by rw[ho];exact hk
  have e2:((k+1:Nat):Int)-1=k:=zd
  simp only[e2];obtain⟨x,hx⟩:∃x,(dO o)[k]=x:=⟨_,rfl⟩
  have hxD:D[k]=x:=by rw[<-hx];congr 1;exact ho.symm
  have hxB:x<1000000000:=by rw[<-hxD];exact hok _ (cn hk)
  have hv:=eF (B:=1000000000) hk;rw[hxD]at hv;have nn:=nineG x hxB;have hnd:=Td x 9;have hnv:=TP x 9;have hnl:=za x 9;obtain⟨T,hT⟩:∃T,GA x 9=T:=⟨_,rfl⟩
  rw[hT]at nn hnd hnv hnl;have w9:=bP (n:=(k:Int)-1) zd zd;refine aaE (aan (hK3 _ _ (aac λK5 hK5=>aaw (aai ?_))));simp[hko,hx];refine ag.p 0 9 nn ?_;simp[uG]
  repeat refine az ?_
  apply hK5;refine aai ?_;simp[w9];refine⟨k,S++T,Le.mk' _ rfl bG zp,⟨zd,?_,?_,?_⟩,zd⟩
  ·intro c hc;rcases List.mem_append.1 hc with hc|hc
   ·exact h2 c hc
   ·exact hnd c hc
  ·rw[m8,iw,hnv,hnl,h3,hv,ad4 hxB];omega
  grind
 |zero=>
  rw[ady,hval]at h3;refine aax (aaR (hK _ _ (aac λK hK=>aaw ?_)))
  refine aaY (λ(S:List UInt8)=>⟨aT [(3,.c (.d (.str S)))],λ_=>.hole⟩) 0
   (λS=>zn S/\bg S 0=A/\S.length<=9*D.length) (λS=>S.length) S (Le.mk' _ rfl bG zp) ⟨h2,h3,zd⟩ ?_
  rintro S ⟨q1,q2,q3⟩
  have fin:∀(fr:Nat->AV) (κ:Nat),S≠[]->isRow S->fr 3=.c (.d (.str S))->K ⟨fr,λ_=>.hole⟩ κ:=by
   intro fr κ hne hr z3;have hrd:=zh hr;rw[q2]at hrd;apply hK;refine aac λK6 hK6=>abN z3 @zg hne ?_;refine aax (aan (hK6 _ _ (aaN z3 ?_)));exact aaq (aD.rt (t:=2) rfl 9 yk)
  refine aac λK4 hK4=>aac λK5 hK5=>?_
  cases S with
  |nil=>
   have hA:A=0:=q2.symm;refine abS (hK5 _ _ ?_);refine aax (aaR (hK _ _ (aac λK6 hK6=>aaN @zg ?_)));refine aaE (abS (hK6 _ _ ?_));refine aah ?_;have hs:kJ A=[48]:=by rw[hA];rfl
   exact aaq (aD.rt (t:=2) rfl 9 (by simp[hs]))
  |cons c l=>
   have hc:=q1 c zp
   cases l with
   |nil=>
    refine abS (hK5 _ _ ?_);refine aax (aaR ?_);simp;refine fin _ _ zp ⟨q1,zp,?_⟩ zp
    grind
   |cons d l=>
    have hl2:(1:Int)<((l.length:Int)+1+1):=zd
    have hl3:(0:Int)<((l.length:Int)+1+1):=zd
    have ll:l.length<=900000000000:=by simp at q3;omega
    by_cases h:c=48
    ·subst h;refine aai ?_;simp[hl2,hl3];apply hK5;refine aaE (aan (hK4 _ _ (aaw (aai ?_))));simp
     repeat refine az ?_
     have ht:List.take (((l.length:Int)+1+1).toNat) ((48:UInt8)::d::l)=48::d::l:=aeE yv;exact⟨d::l,Le.mk' _ rfl bG (by simp[ht]),⟨λx hx=>q1 x (afd _ hx),q2,yn⟩,zp⟩
    ·have hcn:¬(c.toNat:Int)=48:=λe=>h (UInt8.toNat_inj.1 yn)
     have hcn2:¬c.toNat=48:=zd
     refine aai ?_;simp[hl2,hl3,hcn];apply hK5;refine aax (aaR ?_);simp;exact fin _ _ zp ⟨q1,zp,.inr h⟩ zp
def yb(x:Rat):List UInt8:=(if x.num<0 then[45]else[])++kJ x.num.natAbs++(if x.den=1 then[]else[47]++kJ x.den)
theorem LM{L:Nat}(h:n<10^L)(hL:1<=L):(kJ n).length<=L:=by
 induction L generalizing n with
 |zero=>omega
 |succ L ih=>
  by_cases h10:n<10
  ·rw[CS h10];simp
  ·rw[C4 h10,adl,aex]
   grind
theorem Jz(n:Nat):(kJ n).length<=10*nl n+1:=by
 have h1:=zO n;have h2:4294967296^nl n<=(10^10)^nl n:=afq zr _;rw[<-aeT]at h2;have h3:n<10^(10*nl n+1):=adA (adA h1 h2) (adK zr zd);exact LM h3 zd
theorem SJ{x:Rat}:cu x<0↔x.num<0:=by
 unfold cu;omega
theorem B0(G:List (List DV))(x:Rat)(hx:bF x 20000000000):aa prog G 90 [bQ x] (.c (.d (.str (yb x)))):=by
 have h1:=Ei hx.1;have h2:=Ei hx.2;have t1:=sJ G x.num.natAbs (cw x) (iW x) zd;have ii:=Bq G x;have l1:=Jz x.num.natAbs;have l2:=Jz x.den;have hx1:=hx.1;have hx2:=hx.2;have hn:=SJ (x:=x)
 have t2:¬x.den=1->aa prog G 164 [.c (rC (cU x))] (.c (.d (.str (kJ x.den)))):=λh=>by
  have h0:x.num≠0:=λe=>h (FH e)
  refine sJ G x.den (cU x) (by rw[yX h0];rfl) zd
 have hS:yb x=(if x.num<0 then[45]else[])++kJ x.num.natAbs++(if x.den=1 then[]else[47]++kJ x.den):=rfl;generalize yb x=Z at*
 generalize kJ x.num.natAbs=P at*
 generalize kJ x.den=Q at*
 refine aa.en func90 rfl λ_=>aah ?_;refine abi 1 t1 ?_;refine aac λK hK=>?_
 have fin:∀(S:List UInt8) (fr:Nat->AV) (κ:Nat),S=(if x.num<0 then[45]else[])++P->fr 1=.c (.ptr 0 0)->fr 3=.c (.d (.str S))->K ⟨fr,aM (λ_=>.hole) 0 (.cells true false 42 [.d (.int .i64 (cu x)),rC (cw x),rC (cU x)])⟩ κ:=by
  intro S fr κ hSe z1 z3;have hSl:S.length<=P.length+1:=by rw[hSe];split<;>simp<;>omega
  rw[<-hSe]at hS;apply hK;refine aac λK1 hK1=>aac λK2 hK2=>?_
  by_cases hd:x.den=1
  ·rw[if_pos hd,ad5]at hS;refine acp 1 ii z1 hd (hK2 _ _ ?_);refine aax (aan (hK1 _ _ (aaN z3 ?_)));exact aaq (aD.rt (t:=2) rfl 9 (by simp[hS]))
  ·have t2':=t2 hd;rw[if_neg hd]at hS;refine acp 1 ii z1 hd (hK2 _ _ ?_);refine aaE (aai ?_);simp[z1,z3,uG]
   repeat refine az ?_
   refine ag.pure 1 9 t2' zp zp zp ?_;simp[uG]
   repeat refine az ?_
   apply hK1;refine aah ?_;exact aaq (aD.rt (t:=2) rfl 9 (by simp[hS]))
 refine aac λK1 hK1=>?_
 by_cases hneg:x.num<0
 ·have hr:=hn.2 hneg;refine aby hr (hK1 _ _ ?_);refine aaE (aai ?_);simp[uG]
  repeat refine az ?_
  simp_all
 ·have hr:¬cu x<0:=λh=>hneg (hn.1 h)
  refine aby hr (hK1 _ _ ?_);refine aax (aan ?_)
  simp_all
theorem aD.YZ{t1 t2 t3 t4:Nat}{s:aJ}(hr:fn.results=#[.tmp t1,.tmp t2,.tmp t3,.tmp t4])(kh:Key)(hx:s.fr t1=x)(hy:s.fr t2=y)(hz:s.fr t3=z)(hu:s.fr t4=u)(hp:x.pure=true)(hq:y.pure=true)(hw:z.pure=true)(hv:u.pure=true)(hh:s.lv kh=.hole)
 (n1:x.eK=true) (n2:y.eK=true) (n3:z.eK=true) (n4:u.eK=true) (h12:t1≠t2) (h13:t1≠t3) (h14:t1≠t4) (h23:t2≠t3) (h24:t2≠t4) (h34:t3≠t4):aD c fn (.tup [x,y,z,u]) .ret s κ:=by
 refine⟨[(t1,x),(t2,y),(t3,z),(t4,u)],kh,yn,hh,?_⟩;rw[hr];simp[fq,kH,mj,aT,h12.symm,h13.symm,h14.symm,h23.symm,h24.symm,h34.symm,n1,n2,n3,n4]
theorem AT:∀{s:List UInt8},(∀c∈s,c≠47)->nI s [47] = -1
 |[],_=>rfl
 |a::s,h=>by
  have ha:=h a zp;have ih:=AT (s:=s) λc hc=>h c il
  unfold nI at ih⊢;rw[Lib.index]
  grind
theorem It:∀{a b:List UInt8},(∀c∈a,c≠47)->nI (a++47::b) [47]=a.length
 |[],b,_=>by rfl
 |x::a,b,h=>by
  have hx:=h x zp;have ih:=It (a:=a) (b:=b) λc hc=>h c il
  unfold nI at ih⊢;rw[afB,Lib.index]
  grind
def rwT(s:List UInt8):List UInt8:=wh s [47]
def Wh(s:List UInt8):List UInt8:=if 0<=nI s [47]then vM s [47]else[49]
def F4(neg:Bool):Int:=if neg then -1 else 1
abbrev TO(neg:Bool)(s:List UInt8):AV:=.tup [.c (.d (.str (rwT s))),.c (.d (.str (Wh s))),.c (.d (.int .i64 (F4 neg))),.c (.d (.bool (!kD neg (wh s [47]) (vM s [47]) (decide (0<=nI s [47])))))]
theorem Lc(G:List (List DV))(r:List UInt8):aa prog G 184 [.c (.d (.str r))] (TO (ur r [45]) (nM r [45])):=by
 refine aQ.nc 0 zp (λV v h=>(show r.length<=9223372036854775807 by cases h.1 with|str _ hl=>exact hl)) λhs=>?_;have rowG:=λs=>Ph G s
 have hsl:(nM r [45]).length<=r.length:=by unfold nM;split<;>simp
 have hdec:(ur r [45]=true/\∃l,r=45::l/\nM r [45]=l)\/(ur r [45]=false/\nM r [45]=r/\(r=[]\/∃c l,r=c::l/\c≠45)):=by
  cases r with
  |nil=>exact .inr ⟨rfl,rfl,.inl rfl⟩
  |cons c l=>
   by_cases hc:c=45
   ·subst hc;have:ur (45::l) [45]=true:=by simp[ur]
    exact .inl ⟨this,l,rfl,xr⟩
   ·have:ur (c::l) [45]=false:=by simp[ur,hc]
    exact .inr ⟨this,by unfold nM;grind,.inr ⟨c,l,rfl,hc⟩⟩
 generalize nM r [45]=s at*
 generalize ur r [45]=neg at*
 refine aa.en func184 rfl λ_=>aah ?_;refine aah ?_;refine aac λK hK=>?_
 have main:∀(fr:Nat->AV) (κ:Nat),fr 6=.c (.d (.str s))->fr 7=.c (.d (.int .i64 (F4 neg)))->K ⟨fr,λ_=>.hole⟩ κ:=by
  intro fr κ z6 z7;apply hK;refine aac λK hK=>aah ?_;refine aaw ?_;refine aaY (λ(i:Nat)=>⟨aT [(6,.c (.d (.str s))),(7,.c (.d (.int .i64 (F4 neg)))),(8,.c (.d (.int .i64 (i:Int))))],λ_=>.hole⟩) 0 (λi=>i<=s.length/\∀c∈s.take i,c≠47) (λi=>s.length-i) 0 (Le.mk' _ rfl bG yk) ⟨ab5 _,λc hc=>by simp at hc⟩ ?_;rintro i ⟨hi,hd⟩;refine aac λK3 hK3=>aah ?_
  by_cases hlt:i<s.length
  ·have hlt':(i:Int)<(s.length:Int):=by omega
   have wi:=bP (n:=(i:Int)+1) zd zd;obtain⟨c,hc⟩:∃c,s[i]=c:=⟨_,rfl⟩
   refine aaB yk (aan (hK3 _ _ (aac λK5 hK5=>aaw (aaF λK6 hK6=>?_))));simp[hlt,hlt',hc];apply hK6
   by_cases h47:c=47
   ·have hcn:(c.toNat:Int)=47:=by rw[h47];rfl
    have hcn2:c.toNat=47:=by rw[h47];rfl
    have hsp:s=s.take i++47::s.drop (i+1):=by
     conv=>lhs;rw[<-afX i s,adP hlt,hc,h47]
    have hidx:nI s [47]=i:=by
     have:=It (b:=s.drop (i+1)) hd;rw[<-hsp,acM,aea zd]at this;exact this
    have hge:0<=nI s [47]:=by rw[hidx];omega
    have hA:wh s [47]=s.take i:=by unfold wh;rw[if_pos hge,hidx,adW]
    have hB:vM s [47]=s.drop (i+1):=by unfold vM;rw[if_pos hge,hidx,adW];rfl
    have hT:rwT s=s.take i:=hA;have hB2:Wh s=s.drop (i+1):=by unfold Wh;rw[if_pos hge,hB]
    have hbad:(!kD neg (wh s [47]) (vM s [47]) (decide (0<=nI s [47])))=(gP (s.take i)&&gP (s.drop (i+1))&&!decide (s.drop (i+1)=[48])&&!decide (s.drop (i+1)=[49])&&(!decide (s.take i=[48]) ||decide (0<F4 neg))):=by
     rw[hA,hB,decide_eq_true hge];unfold kD F4
     cases gP (s.take i)<;>cases gP (s.drop (i+1))<;>cases neg<;>cases decide (s.take i=[48])<;>cases decide (s.drop (i+1)=[48])<;>cases decide (s.drop (i+1)=[49])<;>rfl
    have e1:∀l:List UInt8,(l.take ((i:Int)).toNat).drop (0:Int).toNat=l.take i:=λl=>rfl
    have hdr:(s.take ((s.length:Int)).toNat).drop ((i+1:Nat):Int).toNat=s.drop (i+1):=by rw[adW,adW,afQ]
    obtain⟨p,hp⟩:∃p,s.take i=p:=⟨_,rfl⟩
    obtain⟨q,hq⟩:∃q,s.drop (i+1)=q:=⟨_,rfl⟩
    have rp:=rowG p;have rq:=rowG q;rw[hp]at hT;rw[hq]at hB2;rw[hp,hq]at hbad;have hp':List.drop 0 (List.take i s)=p:=hp;refine aaB (by simp[hcn2]<;>omega) (aac λK6 hK6=>?_);refine aaT mixed zt rfl ?_;simp[wi,hp,hq]
    repeat refine az ?_
    refine⟨zt,?_⟩;apply hK6;refine aac λK6 hK6=>?_
    have fin:∀(b:Bool) (fr:Nat->AV) (κ:Nat),fr 2=.c (.d (.str p))->fr 3=.c (.d (.str q))->fr 4=.c (.d (.int .i64 (F4 neg)))->fr 5=.c (.d (.bool b)) ->
     b=(gP p&&gP q&&!decide (q=[48])&&!decide (q=[49])&&(!decide (p=[48]) ||decide (0<F4 neg)))->K6 ⟨fr,λ_=>.hole⟩ κ:=by
     intro b fr κ z2 z3 z4 z5 hb;rw[<-hbad]at hb;apply hK6;exact aal (κ:=0) (aD.YZ (κ:=0) rfl 9 yn yn (by simp[z4]) yn rfl rfl rfl rfl rfl rfl rfl rfl rfl zr zr zr zr zr zr)
    cases r1:gP p with
    |false=>
     refine aai ?_;simp;refine ag.p 0 9 rp ?_;simp[r1];exact fin false _ _ zp zp zp zp (by simp[r1])
    |true=>
    cases r2:gP q with
    |false=>
     refine aai ?_;simp;refine ag.p 0 9 rp ?_;simp[r1];refine ag.p 0 9 rq ?_;simp[r2];exact fin false _ _ zp zp zp zp yn
    |true=>
    by_cases q0:q=[48]
    ·subst q0;refine aai ?_;simp;refine ag.p 0 9 rp ?_;simp[r1];refine ag.p 0 9 rq ?_;simp[r2,xH];exact fin false _ _ zp zp zp zp zp
    by_cases q1:q=[49]
    ·subst q1;refine aai ?_;simp;refine ag.p 0 9 rp ?_;simp[r1];refine ag.p 0 9 rq ?_;simp[r2,xH];exact fin false _ _ zp zp zp zp zp
    by_cases p0:p=[48]
    ·subst p0;refine aai ?_;simp;refine ag.p 0 9 rp ?_;simp[r1];refine ag.p 0 9 rq ?_;simp[r2,xH,q0,q1];exact fin (decide (0<F4 neg)) _ _ zp zp zp zp (by simp[r1,r2,q0,q1])
    ·refine aai ?_;simp;refine ag.p 0 9 rp ?_;simp[r1];refine ag.p 0 9 rq ?_;simp[r2,xH,q0,q1,p0];exact fin true _ _ zp zp zp zp yn
   ·have hcn:¬(c.toNat:Int)=47:=λe=>h47 (UInt8.toNat_inj.1 yn)
    have hcn2:¬c.toNat=47:=zd
    refine aaD yk (aan (hK5 _ _ (aai ?_)));simp[wi];refine⟨i+1,Le.mk' _ rfl bG zp,⟨zd,?_⟩,zd⟩;intro x hx;rw[afi,fy hlt,afW]at hx
    grind
  ·have he:i=s.length:=by omega
   subst he;rw[afQ]at hd;have hidx:=AT hd;have hge:¬0<=nI s [47]:=by rw[hidx];decide
   have hA:wh s [47]=s:=if_neg hge;have hT:rwT s=s:=hA;have hB2:Wh s=[49]:=if_neg hge
   have hbad:(!kD neg (wh s [47]) (vM s [47]) (decide (0<=nI s [47])))=(gP s&&(!decide (s=[48]) ||decide (0<F4 neg))):=by
    rw[hA,decide_eq_false hge];unfold kD F4
    cases gP s<;>cases neg<;>cases decide (s=[48])<;>rfl
   have rs:=rowG s;refine aaD zp (aaR (hK _ _ (aac λK6 hK6=>?_)))
   have fin:∀(b:Bool) (fr:Nat->AV) (κ:Nat),fr 2=.c (.d (.str s))->fr 3=.c (.d (.str [49]))->fr 4=.c (.d (.int .i64 (F4 neg)))->fr 5=.c (.d (.bool b)) ->
    b=(gP s&&(!decide (s=[48]) ||decide (0<F4 neg)))->K6 ⟨fr,λ_=>.hole⟩ κ:=by
    intro b fr κ z2 z3 z4 z5 hb;rw[<-hbad]at hb;apply hK6;exact aal (κ:=0) (aD.YZ (κ:=0) rfl 9 yn yn (by simp[z4]) yn rfl rfl rfl rfl rfl rfl rfl rfl rfl zr zr zr zr zr zr)
   cases r1:gP s with
   |false=>
    refine aai ?_;simp;refine ag.p 0 9 rs ?_;simp[r1]
    simp_all
   |true=>
   by_cases p0:s=[48]
   ·subst p0;refine aai ?_;simp;refine ag.p 0 9 rs ?_;simp[r1,xH];exact fin (decide (0<F4 neg)) _ _ zp zp zp zp (by simp[r1])
   ·refine aai ?_;simp;refine ag.p 0 9 rs ?_;simp[r1,xH,p0]
    simp_all
 refine aac λK1 hK1=>?_;rcases hdec with⟨hn,l,hr,hl⟩|⟨hn,hl,hr|⟨c,l,hr,hc⟩⟩
 ·subst hr;subst hl;have ht:List.take (((s.length:Int)+1).toNat) ((45:UInt8)::s)=45::s:=aeE zp;have hp:(0:Int)<(s.length:Int)+1:=by omega
  have hll:s.length+1<=9223372036854775807:=by simpa using hs
  refine aai ?_;simp[hp];apply hK1;refine aaE (aai ?_);simp
  repeat refine az ?_
  exact main _ _ zp (by simp[F4,hn])
 ·subst hr;subst hl;refine abS (hK1 _ _ ?_);refine aax (aan ?_);simp;exact main _ _ zp (by simp[F4,hn])
 ·subst hr;subst hl;have hcn:¬(c.toNat:Int)=45:=λe=>hc (UInt8.toNat_inj.1 yn)
  have hcn2:¬c.toNat=45:=zd
  have hp:(0:Int)<(l.length:Int)+1:=zd
  refine aai ?_;simp[hp,hcn];apply hK1;refine aax (aan ?_);simp;exact main _ _ zp (by simp[F4,hn])
attribute [local irreducible] aF
theorem CH:∀(s:List UInt8),(∀c∈s,c≠47)\/∃a b,s=a++47::b/\∀c∈a,c≠47
 |[]=>.inl λc hc=>by cases hc
 |x::s=>by
  by_cases hx:x=47
  ·subst hx;exact .inr ⟨[],s,rfl,λc hc=>by cases hc⟩
  ·rcases CH s with h|⟨a,b,h,ha⟩
   ·grind
   grind
theorem zH:∀{a a' b b':List UInt8},(∀c∈a,c≠47)->(∀c∈a',c≠47)->a++47::b=a'++47::b'->b=b'
 |[],[],b,b',_,_,h=>(List.cons.inj h).2
 |[],x::a',b,b',_,h',h=>absurd (List.cons.inj h).1.symm (h' x zp)
 |x::a,[],b,b',h',_,h=>absurd (List.cons.inj h).1 (h' x zp)
 |x::a,y::a',b,b',h1,h2,h=>zH (λc hc=>h1 c il) (λc hc=>h2 c il) (List.cons.inj h).2
theorem Im(h:zn s):∀c∈s,c≠47:=λc hc e=>by
 have:=h c hc
 simp_all
theorem IB:∀(f n:Nat),n<=f->zn (xx f n)/\bg (xx f n) 0=n
 |0,n,h=>by
  have:n=0:=zd
  subst this;refine⟨λc hc=>?_,rfl⟩;rw[xx,aeH]at hc;rw[hc,n6 zr];omega
 |f+1,n,h=>by
  rw[xx]
  by_cases h10:n<10
  ·rw[if_pos h10];refine⟨λc hc=>?_,?_⟩
   ·rw[aeH]at hc;rw[hc,n6 h10];omega
   ·show 10*0+((Ka n).toNat-48)=n;rw[n6 h10];omega
  ·rw[if_neg h10];obtain⟨h1,h2⟩:=IB f (n/10) zd;refine⟨λc hc=>?_,?_⟩
   ·rcases List.mem_append.1 hc with hc|hc
    ·exact h1 c hc
    ·rw[aeH]at hc;rw[hc,n6 zd];omega
   ·rw[Cf,h2,n6 zd];omega
theorem OV(n:Nat):zn (kJ n):=(IB n n (bf _)).1
theorem UL(n:Nat):bg (kJ n) 0=n:=(IB n n (bf _)).2
theorem Ov(r:List UInt8):r=(if ur r [45]then[45]else[])++nM r [45]:=by
 unfold nM
 cases h:ur r [45]with
 |false=>rfl
 |true=>
  unfold ur at h;simp only[aex,adS,decide_eq_true_eq]at h;show r=[45]++r.drop 1;rw[<-h.2];have:=afX 1 r
  grind
theorem CW(neg:Bool){P Q:Nat}(hP:P≠0)(hQ:Q≠0):yb (mkRat (ei neg P) Q)=(if neg then[45]else[])++kJ (P/Nat.gcd P Q)++(if Q/Nat.gcd P Q=1 then[]else[47]++kJ (Q/Nat.gcd P Q)):=by
 obtain⟨n1,n2⟩:=jY neg (a:=P) hQ;have hg:P/Nat.gcd P Q≠0:=aeg (Nat.div_pos (Nat.le_of_dvd zd (agk _ _)) (af0 _ zd));unfold yb;rw[n1,n2,rX]
 cases neg with
 |true=>
  rw[if_pos (show ei true (P/Nat.gcd P Q)<0 from Int.neg_neg_of_pos (Int.ofNat_lt.2 (aeJ hg)))];rfl
 |false=>
  rfl
theorem Cz:yb 0=[48]:=rfl
theorem JZ(neg:Bool)(Q:Nat):mkRat (ei neg 0) Q=0:=by
 have e2:ei neg 0=0:=by cases neg<;>rfl
 simp_all
theorem HX(hT:isRow T)(h0:¬(neg=true/\T=[48])):yb (mkRat (ei neg (bg T 0)) 1)=(if neg then[45]else[])++T:=by
 have hd:=zh hT
 by_cases hP:bg T 0=0
 ·rw[hP,JZ,Cz];have:T=[48]:=by rw[hd,hP];rfl
  grind
 ·rw[CW neg hP zr,af1,afb,afb,<-hd,if_pos rfl,ad5]
theorem Ln{B:List UInt8}(hT:isRow T)(hB:isRow B)(hQ:2<=bg B 0):yb (mkRat (ei neg (bg T 0)) (bg B 0))=(if neg then[45]else[])++(T++47::B)↔Nat.gcd (bg T 0) (bg B 0)=1:=by
 have hdT:=zh hT;have hdB:=zh hB
 have h45:∀c∈(if neg then[45]else[]:List UInt8),c≠47:=by
  intro c hc;split at hc
  ·rw[aeH]at hc;rw[hc];decide
  ·cases hc
 have hmem:(47:UInt8)∈(if neg then[45]else[]:List UInt8)++(T++47::B):=zp
 constructor
 ·intro h;apply ad0;intro hg
  by_cases hP:bg T 0=0
  ·rw[hP,JZ,Cz]at h
   grind
  ·rw[CW neg hP zd]at h;generalize hgg:Nat.gcd (bg T 0) (bg B 0)=g at*
   have hg0:0<g:=by rw[<-hgg];exact af0 _ zd
   by_cases h1:bg B 0/g=1
   ·rw[if_pos h1,ad5]at h;rw[<-h]at hmem;rcases List.mem_append.1 hmem with hm|hm
    ·grind
    ·exact Im (OV _) 47 hm rfl
   ·rw[if_neg h1,<-acR]at h
    have h2:((if neg then[45]else[])++kJ (bg T 0/g))++47::kJ (bg B 0/g)=((if neg then[45]else[])++T)++47::B:=by
     rw[acR,acR]at h⊢;simpa using h
    have h3:=zH (λc hc=>by
     rcases List.mem_append.1 hc with hc|hc
     ·grind
     ·exact Im (OV _) c hc) (λc hc=>by
     rcases List.mem_append.1 hc with hc|hc
     ·grind
     ·exact Im hT.1 c hc) h2
    have h4:=congrArg (λl=>bg l 0) h3;simp only[UL]at h4;have:bg B 0/g<bg B 0:=afD zd zd;omega
 ·intro hg;have hP:bg T 0≠0:=by intro e;rw[e,agD]at hg;omega
  rw[CW neg hP zd,hg,afb,afb,<-hdT,<-hdB,if_neg (show ¬bg B 0=1 by omega),acR];rfl
theorem SF:isRow [49]:=⟨by intro c hc;simp_all,zr,.inr zr⟩
theorem D7(s t:List UInt8):aU prog .neq 59 (.c (.d (.str s))) (.c (.d (.str t)))=some (.c (.d (.bool (!decide (s=t)))),[],[],True):=by
 rw[<-QH];rfl
theorem aF.Ia{z:Rat}{e:Int}{t u k:Nat}{s:aJ}(hr:fn.results=#[.cell t 42,.tmp u])(ht:s.fr t=.c (.ptr k 0))(hk:s.lv k=.cells true false 42 [.d (.int .i64 (cu z)),rC (cw z),rC (cU z)])(hu:s.fr u=.c (.d (.int .i64 e)))(hP:c.P=prog):aF c fn (.tup [bQ z,.c (.d (.int .i64 e))]) .ret s κ:=
 aF.ox hr ht hk yk hu rfl rfl
theorem P2{top bot:List UInt8}{brk:Bool}(h:kD neg top bot brk=false):isRow top/\¬(neg=true/\top=[48])/\(brk=true->isRow bot/\bot≠[48]/\bot≠[49]):=by
 obtain⟨h1,h2⟩:=Jj h;refine⟨qT.1 h1,?_,λhb=>?_⟩
 ·rintro⟨rfl,rfl⟩;unfold kD at h;simp at h
 ·obtain⟨a,b,c⟩:=h2 hb;exact⟨qT.1 a,b,c⟩
theorem PU{r:List UInt8}(h:cz r≠0):cj r=0:=if_neg h
@[simp]theorem ZW(h:x.eK=true):xY 0 (.tup [x,y,z,u])=some (x,[],[],True):=by
 cases x<;>first|rfl|cases h
@[simp]theorem Zq(h:y.eK=true):xY 1 (.tup [x,y,z,u])=some (y,[],[],True):=by
 cases y<;>first|rfl|cases h
@[simp]theorem Zu(h:z.eK=true):xY 2 (.tup [x,y,z,u])=some (z,[],[],True):=by
 cases z<;>first|rfl|cases h
@[simp]theorem ZG(h:u.eK=true):xY 3 (.tup [x,y,z,u])=some (u,[],[],True):=by
 cases u<;>first|rfl|cases h
theorem k5(G:List (List DV))(r:List UInt8):aa prog G 117 [.c (.d (.str r))] (.tup [bQ (cj r),.c (.d (.int .i64 (cz r)))]):=by
 have rw0:=Lc G r;have hE:cz r=fD (ur r [45]) (wh (nM r [45]) [47]) (vM (nM r [45]) [47]) (decide (0<=nI (nM r [45]) [47])):=rfl;have hP:cj r=qy (ur r [45]) (wh (nM r [45]) [47]) (vM (nM r [45]) [47]) (decide (0<=nI (nM r [45]) [47])):=rfl;have hsp:=Ov r;obtain⟨s,hs⟩:∃s,nM r [45]=s:=⟨_,rfl⟩
 obtain⟨neg,hn⟩:∃n,ur r [45]=n:=⟨_,rfl⟩
 rw[hs,hn]at rw0 hE hP hsp;unfold TO at rw0;have hbad0:=PU (r:=r);have dz:∀e:Int,gq (λ_=>LB.hole) (.tup [bQ 0,.c (.d (.int .i64 e))])=some (.tup [bQ 0,.c (.d (.int .i64 e))],[]):=λe=>jS _ _ _ _ _
 cases hb:kD neg (wh s [47]) (vM s [47]) (decide (0<=nI s [47]))with
 |true=>
  have e6:cz r=6:=by rw[hE];unfold fD;rw[if_pos hb]
  rw[hbad0 zd,e6];rw[hb]at rw0;refine aa.enc func117 rfl (λlv=>jS lv _ _ _ _) λ_=>aah ?_;refine abi 1 rw0 ?_;refine aac λK hK=>aah ?_;refine aaE (abk @Q8 @ai.eq_1 ?_);exact aal (aF.Ia (k:=0) rfl zp rg zp rfl)
 |false=>
 rw[hb]at rw0;obtain⟨hT,hT0,hB⟩:=P2 hb;obtain⟨T,hTe⟩:∃T,wh s [47]=T:=⟨_,rfl⟩
 have hrT:rwT s=T:=hTe;obtain⟨B,hBe⟩:∃B,Wh s=B:=⟨_,rfl⟩
 rw[hTe]at hT hT0
 have hsame:(2000<max (wh s [47]).length (vM s [47]).length)↔(2000<T.length\/2000<B.length):=by
  rw[hTe]
  by_cases hk:0<=nI s [47]
  ·have:B=vM s [47]:=by rw[<-hBe];exact if_pos hk
   grind
  ·have h1:B=[49]:=by rw[<-hBe];exact if_neg hk
   have h2:vM s [47]=[]:=if_neg hk
   grind
 have hBrow:isRow B/\1<=bg B 0:=by
  by_cases hk:0<=nI s [47]
  ·have h1:B=vM s [47]:=by rw[<-hBe];exact if_pos hk
   obtain⟨a,b,c⟩:=hB (decide_eq_true hk);rw[h1];exact⟨a,by have:=zl (qT.2 a) b c;omega⟩
  ·have h1:B=[49]:=by rw[<-hBe];exact if_neg hk
   rw[h1];exact⟨SF,zr⟩
 rw[hrT,hBe]at rw0
 by_cases hlong:2000<T.length\/2000<B.length
 ·have e3:cz r=3:=by rw[hE];unfold fD;rw[if_neg sv,if_pos (hsame.2 hlong)]
  rw[hbad0 zd,e3];refine aa.enc func117 rfl (λlv=>jS lv _ _ _ _) λ_=>aah ?_;refine abi 1 rw0 ?_;refine aac λK hK=>aah ?_;refine aax (aan (hK _ _ (aac λK hK=>aac λK1 hK1=>?_)))
  by_cases l1:2000<T.length
  ·have l1':(2000:Int)<(T.length:Int):=by omega
   refine abG l1 l1' (hK1 _ _ ?_);refine aaE (abk @Q8 @ai.eq_1 ?_);exact aal (aF.Ia (k:=0) rfl zp rg zp rfl)
  ·have l1':¬(2000:Int)<(T.length:Int):=by omega
   have l2:2000<B.length:=zd
   have l2':(2000:Int)<(B.length:Int):=zd
   refine AW.l4 l1 l1' l2 l2' (hK1 _ _ ?_);refine aaE (abk @Q8 @ai.eq_1 ?_);exact aal (aF.Ia (k:=0) rfl zp rg zp rfl)
 have l1:¬2000<T.length:=λh=>hlong (.inl h)
 have l2:¬2000<B.length:=λh=>hlong (.inr h)
 have l1':¬(2000:Int)<(T.length:Int):=zd
 have l2':¬(2000:Int)<(B.length:Int):=zd
 have rd1:=CA G T hT.1 hT.2.1 zd;have rd2:=CA G B hBrow.1.1 hBrow.1.2.1 zd;rw[fj]at rd1 rd2;have n1:=vN hT.1 (zd:T.length<=2000);have n2:=vN hBrow.1.1 (zd:B.length<=2000);have mk:=lB G (F4 neg) neg (bg T 0) (bg B 0) 300 (some (aL 1000000000 (bg T 0))) rfl (λ_=>rfl) hBrow.2 n1 n2 zr;have hsz:bF (mkRat (ei neg (bg T 0)) (bg B 0)) 300:=jF _ zd n1 n2;have tx:=B0 G _ (au hsz (zr:300<=20000000000))
 have hres:(yb (mkRat (ei neg (bg T 0)) (bg B 0))=r/\cz r=0/\cj r=mkRat (ei neg (bg T 0)) (bg B 0))\/(yb (mkRat (ei neg (bg T 0)) (bg B 0))≠r/\cz r=6/\cj r=0):=by
  rcases CH s with h47|⟨a,b,hab,ha⟩
  ·have hk:¬0<=nI s [47]:=by rw[AT h47];decide
   have hTs:T=s:=by rw[<-hTe];exact if_neg hk
   have hB1:B=[49]:=by rw[<-hBe];exact if_neg hk
   have hd1:bg B 0=1:=by rw[hB1];rfl
   left;have e0:cz r=0:=by rw[hE];unfold fD;rw[if_neg sv,if_neg (λh=>hlong (hsame.1 h)),if_pos (decide_eq_false hk)]
   refine⟨?_,e0,?_⟩
   ·rw[hd1,HX hT hT0,hTs];grind
   ·rw[hP];unfold qy
    grind
  ·have hidx:=It (b:=b) ha;rw[<-hab]at hidx;have hk:0<=nI s [47]:=by rw[hidx];omega
   have hA:wh s [47]=a:=by unfold wh;rw[if_pos hk,hidx,adW,hab,List.take_left]
   have hBb:vM s [47]=b:=by
    unfold vM;rw[if_pos hk,hidx,adW,hab];rw[show a++47::b=(a++[47])++b by simp];exact afA zp
   have hTa:T=a:=by rw[<-hTe];exact hA
   have hBb2:B=b:=by rw[<-hBe];unfold Wh;rw[if_pos hk,hBb]
   obtain⟨c1,c2,c3⟩:=hB (decide_eq_true hk);have hge:=zl (qT.2 c1) c2 c3;rw[hBb,<-hBb2]at hge c1;have htf:=Ln (neg:=neg) hT c1 hge;have hsr:r=(if neg then[45]else[])++(T++47::B):=by rw[hTa,hBb2,<-hab];exact hsp
   rw[<-hsr]at htf
   have hpe:cz r=if Nat.gcd (bg T 0) (bg B 0)=1 then 0 else 6:=by
    rw[hE];unfold fD;rw[if_neg sv,if_neg (λh=>hlong (hsame.1 h)),if_neg (by rw[decide_eq_true hk];decide),X5,hTe,hBb,<-hBb2]
   by_cases hg:Nat.gcd (bg T 0) (bg B 0)=1
   ·left;rw[if_pos hg]at hpe;refine⟨htf.2 hg,hpe,?_⟩;rw[hP];unfold qy
    grind
   grind
 generalize mkRat (ei neg (bg T 0)) (bg B 0)=z at*
 rcases hres with⟨q1,q2,q3⟩|⟨q1,q2,q3⟩
 ·rw[q2,q3];refine aa.enc func117 rfl (λlv=>jS lv _ _ _ _) λ_=>aah ?_;refine abi 1 rw0 ?_;refine aac λK hK=>aah ?_;refine aax (aan (hK _ _ (aac λK hK=>acw l1 l1' l2 l2' ?_)));refine aax (aan (hK _ _ (aaF λK hK=>?_)));simp;refine ag.p 1 9 rd1 ?_;simp;refine ag.p 1 9 rd2 ?_;simp;refine ag.p 1 9 mk ?_;simp[ai];apply hK;refine aac λK hK=>AW.c2 2 tx @D7 q1 ?_;refine aax (aan (hK _ _ (aaN @ai.eq_1 ?_)));exact aal (aF.Ia (k:=0) rfl zp zp zp rfl)
 ·rw[q2,q3];refine aa.enc func117 rfl (λlv=>jS lv _ _ _ _) λ_=>aah ?_;refine abi 1 rw0 ?_;refine aac λK hK=>aah ?_;refine aax (aan (hK _ _ (aac λK hK=>acw l1 l1' l2 l2' ?_)));refine aax (aan (hK _ _ (aaF λK hK=>?_)));simp;refine ag.p 1 9 rd1 ?_;simp;refine ag.p 1 9 rd2 ?_;simp;refine ag.p 1 9 mk ?_;simp[ai];apply hK;refine aac λK hK=>AW.c2 2 tx @D7 q1 ?_;refine aaE (abk @Q8 @ai.eq_1 ?_);exact aal (aF.Ia (k:=0) rfl zp rg zp rfl)
theorem rJ(G:List (List DV))(r:List UInt8):aa prog G 87 [.c (.d (.str r))] (.c (.d (.int .i64 (cz r)))):=by
 have h:=k5 G r;generalize cj r=z at*
 generalize cz r=e at*
 refine aa.en func87 rfl λ_=>aah ?_;refine abx 1 h @ai.eq_1 ?_;refine aah ?_;exact aaq (aD.rt (t:=2) rfl 9 zp)
end Go.Am
namespace Go.Am
open Go.Am.Ty Go.Proofs N
variable {x:Rat}
abbrev cg(a:Iv):AV:=.agg [.d (.int .i64 (cu a.1)),rC (cw a.1),rC (cU a.1),.d (.int .i64 (cu a.2)),rC (cw a.2),rC (cU a.2)]
def rD:Option (List Nat)->DV
 |none=>.nilsl
 |some l=>.sl (dK .i64 l)
theorem th(o:Option (List Nat)):rC o=.d (rD o):=by cases o<;>rfl
theorem MG(b p q b' p' q':CV):bM prog 44 [0,1] [.agg [b,p,q],.agg [b',p',q']]=some (.agg [b,p,q,b',p',q'],[],[],True):=zt
theorem tD:bM prog 44 [] []=some (cg (0,0),[],[],True):=zt
theorem OH(b p q b' p' q':CV):iq prog 44 [b,p,q,b',p',q']=some (.agg [b,p,q,b',p',q']):=zt
@[simp]theorem bW(lv:Key->LB)(s s':Int)(p q p' q':Option (List Nat))(n:DV)(hn:n.qW=true):gq lv (.tup [.agg [.d (.int .i64 s),rC p,rC q,.d (.int .i64 s'),rC p',rC q'],.c (.d n)])=some (.tup [.agg [.d (.int .i64 s),rC p,rC q,.d (.int .i64 s'),rC p',rC q'],.c (.d n)],[]):=by
 simp only[th];rfl
theorem aF.fI{c:Ctx}{fn:Func}{t k u:Nat}{s:aJ}{κ:Nat}{a:Iv}{y:CV}(hr:c.P=prog/\fn.results=#[.cell t 44,.tmp u])(ht:s.fr t=.c (.ptr k 0))
 (hk:s.lv k=.cells true false 44 [.d (.int .i64 (cu a.1)),rC (cw a.1),rC (cU a.1),.d (.int .i64 (cu a.2)),rC (cw a.2),rC (cU a.2)]) (hy:s.fr u=.c y):aF c fn (.tup [cg a,.c y]) .ret s κ:=
 aF.ox hr.2 ht hk (by rw[hr.1,ady,OH]) hy rfl rfl
theorem szC(h:bF x 300):bF x 20000000000:=au h zr
theorem szD(h:bF x 300):bF x 10000000000:=au h zr
theorem Nt(G:List (List DV))(x y:Rat)(hx:bF x 20000000000)(hy:bF y 20000000000):aa prog G 162 [bQ x,bQ y] (.tup [cg (nV x y),.c (.d (.int .i64 (if x<=y then 0 else 7)))]):=by
 have c1:=fS G x y hx hy
 by_cases h:x<=y
 ·have h':¬0<bS x y:=by have:=gJ.2 h;omega
  rw[if_pos h,show nV x y=(x,y) from if_pos h];generalize bS x y=n at*
  refine aa.enc func162 rfl (λlv=>bW lv _ _ _ _ _ _ _ rfl) λ_=>?_;refine aau mixed c1 (eY h' @MG) ?_;exact aal (aF.fI (κ:=0) (t:=4) (k:=2) (u:=5) ⟨rfl,rfl⟩ zp yi zp)
 ·have h':0<bS x y:=oF.2 (Rat.not_le.1 h);rw[if_neg h,show nV x y=(0,0) from if_neg h];generalize bS x y=n at*
  refine aa.enc func162 rfl (λlv=>bW lv _ _ _ _ _ _ _ rfl) λ_=>?_;refine aau mixed c1 (eY h' tD) ?_;exact aal (aF.fI (κ:=0) (t:=4) (k:=2) (u:=5) ⟨rfl,rfl⟩ zp yi zp)
theorem Uf(G:List (List DV))(lo hi:List UInt8):aa prog G 88 [.agg [.d (.str lo),.d (.str hi)]] (.tup [cg (v8 lo hi),.c (.d (.int .i64 (od lo hi)))]):=by
 have c1:=k5 G lo;have c2:=k5 G hi;have c3:=Nt G (cj lo) (cj hi) (szC (j6 lo)) (szC (j6 hi))
 by_cases h1:cz lo=0
 rotate_left
 ·have e:od lo hi=cz lo:=if_pos h1;have e2:v8 lo hi=(0,0):=by unfold v8;rw[e,if_neg h1]
  rw[e2,e];generalize cz lo=n at*
  generalize cj lo=r at*
  refine aa.enc func88 rfl (λlv=>bW lv _ _ _ _ _ _ _ rfl) λ_=>?_;refine aau mixed c1 (eY h1 tD) ?_;exact aal (aF.fI (κ:=0) (t:=2) (k:=1) (u:=3) ⟨rfl,rfl⟩ zp yi zp)
 by_cases h2:cz hi=0
 rotate_left
 ·have e:od lo hi=cz hi:=by unfold od;rw[if_neg (not_not_intro h1),if_pos h2]
  have e2:v8 lo hi=(0,0):=by unfold v8;rw[e,if_neg h2]
  rw[e2,e];rw[h1]at c1;generalize cz hi=n at*
  generalize cj lo=r at*
  generalize cj hi=r2 at*
  refine aa.enc func88 rfl (λlv=>bW lv _ _ _ _ _ _ _ rfl) λ_=>?_;refine aau mixed (eY c1 c2) (eY h2 tD) ?_;exact aal (aF.fI (κ:=0) (t:=2) (k:=1) (u:=3) ⟨rfl,rfl⟩ zp yi zp)
 have e:od lo hi=if cj lo<=cj hi then 0 else 7:=t8
 have e2:v8 lo hi=nV (cj lo) (cj hi):=by
  unfold v8 nV;rw[e];split<;>simp_all
 rw[e2,e];rw[h1]at c1;rw[h2]at c2;generalize (if cj lo<=cj hi then(0:Int)else 7)=n at*
 generalize nV (cj lo) (cj hi)=v at*
 generalize cj lo=r at*
 generalize cj hi=r2 at*
 refine aa.enc func88 rfl (λlv=>bW lv _ _ _ _ _ _ _ rfl) λ_=>?_;refine aau mixed (lD c1 c2 c3) @ai.eq_1 ?_;exact aal (aF.fI (κ:=0) (t:=2) (k:=1) (u:=3) ⟨rfl,rfl⟩ zp yi zp)
attribute [local irreducible] aF
theorem wG(k:Int):(aH 1 k).num=((2^(max k 0).toNat:Nat):Int)/\(aH 1 k).den=2^(max (-k) 0).toNat:=by
 by_cases hk:k<0
 ·rw[jE hk];obtain⟨n1,n2⟩:=jY (decide ((1:Rat).num<0)) (a:=(1:Rat).num.natAbs) (b:=(1:Rat).den*2^(-k).toNat) zp;rw[n1,n2];have e1:(1:Rat).num.natAbs=1:=rfl;have e2:(1:Rat).den=1:=rfl;have e3:(max k 0).toNat=0:=by omega
  have e4:(max (-k) 0).toNat=(-k).toNat:=zd
  rw[e1,e2,e3,e4,Nat.gcd_one_left,aes];exact⟨rfl,afb _⟩
 ·rw[jK hk];obtain⟨n1,n2⟩:=jY (decide ((1:Rat).num<0)) (a:=(1:Rat).num.natAbs*2^k.toNat) (b:=(1:Rat).den) zr;rw[n1,n2];have e1:(1:Rat).num.natAbs=1:=rfl;have e2:(1:Rat).den=1:=rfl;have e3:(max k 0).toNat=k.toNat:=by omega
  have e4:(max (-k) 0).toNat=0:=zd
  rw[e1,e2,e3,e4,af1,aes,afb];exact⟨rfl,rfl⟩
theorem QB{y:Rat}:bS x y<0↔x<y:=by
 unfold bS
 grind
theorem tV(x:Rat)(k:Int):bS (jq x) (aH 1 k)<0↔x.num.natAbs*2^(max (-k) 0).toNat<x.den*2^(max k 0).toNat:=by
 rw[QB,IX];obtain⟨a1,a2⟩:=J4 x;obtain⟨b1,b2⟩:=wG k;rw[a1,a2,b1,b2];have e1:((x.num.natAbs:Nat):Int).natAbs=x.num.natAbs:=zd
 have e2:(((2^(max k 0).toNat:Nat)):Int).natAbs=2^(max k 0).toNat:=Int.natAbs_natCast _;have e3:decide (((x.num.natAbs:Nat):Int)<0)=false:=decide_eq_false zd;have e4:decide ((((2^(max k 0).toNat:Nat)):Int)<0)=false:=decide_eq_false (Int.not_lt.2 (afo _));rw[e1,e2,e3,e4,aed (2^(max k 0).toNat)];show((x.num.natAbs*2^(max (-k) 0).toNat:Nat):Int)<((x.den*2^(max k 0).toNat:Nat):Int)↔_;omega
theorem AN(m:Int)(x:Rat)(hx0:x.num≠0)(hs:bF x 6000):aa prog (GG m) 192 [bQ x] (.c (.d (.int .i64 (dm x)))):=by
 have h1:=hs.1;have h2:=hs.2;have s1:=Ei h1;have s2:=Ei h2;have ln1:=rz (GG m) x.num.natAbs zd;have ln2:=rz (GG m) x.den zd;rw[fj,<-S1 hx0]at ln1;rw[fj,<-yX hx0]at ln2;have b1:=EI (A:=x.num.natAbs) s1;have b2:=EI (A:=x.den) s2;have ab:=m5 (GG m) x;obtain⟨k,hk⟩:∃k:Int,(bk x.num.natAbs:Int)-bk x.den=k:=⟨_,rfl⟩
 have hkr:-400000<=k/\k<=400000:=zd
 have tw:=qq m k zd zd;have cm:=fS (GG m) (jq x) (aH 1 k) (y8 (au hs zr)) (au (cZ (ki 1 zr) k) zd);have hlt:=tV x k;have hlog:dm x=if x.num.natAbs*2^(max (-k) 0).toNat<x.den*2^(max k 0).toNat then k-1 else k:=by unfold dm;rw[hk]
 have w1:=bP (n:=k) zd zd;have w2:=bP (n:=k-1) zd zd;rw[<-hk]at w1;have sx:¬cu x=0:=λh=>hx0 (jf.1 h)
 generalize bk x.num.natAbs=B1 at*
 generalize bk x.den=B2 at*
 generalize aH 1 k=T at*
 generalize x.num.natAbs*2^(max (-k) 0).toNat=U at*
 generalize x.den*2^(max k 0).toNat=W at*
 rw[hk]at w1;refine aa.en func192 rfl λ_=>aah ?_;refine aac λK hK=>aah ?_;refine aaD yk (aan (hK _ _ (aac λK hK=>?_)));refine aaT mixed zt rfl ?_;simp;refine ag.p 2 9 ln1 ?_;simp;refine ag.p 2 9 ln2 ?_;simp;simp[hk,w1];refine⟨zt,?_⟩;apply hK;refine aac λK hK=>aac λK1 hK1=>?_
 by_cases hc:U<W
 ·have hc2:=hlt.2 hc;rw[if_pos hc]at hlog;refine aai ?_;simp;refine ag.p 2 9 ab ?_;simp;refine ag.p 2 9 tw ?_;simp;refine ag.p 2 9 cm ?_;simp[hc2];apply hK1;refine aaE (aby w2 (hK _ _ ?_));refine aah ?_;exact aaq (aD.rt (t:=2) rfl 9 bm)
 ·have hc2:¬bS (jq x) T<0:=λh=>hc (hlt.1 h)
  rw[if_neg hc]at hlog;refine aai ?_;simp;refine ag.p 2 9 ab ?_;simp;refine ag.p 2 9 tw ?_;simp;refine ag.p 2 9 cm ?_;simp[hc2];apply hK1;refine aax (aan (hK _ _ (aah ?_)));exact aaq (aD.rt (t:=2) rfl 9 bm)
end Go.Am
namespace Go.Am
open Go.Am.Ty Go.Proofs N
variable {x t:Rat}
theorem Bz(G:List (List DV))(A:Nat)(hA:A≠0)(hl:nl A<=100000):aa prog G 327 [nK .u32 (aW A)] (nK .u32 (some (aL 4294967296 (si A)))):=by
 have hn:aW A=some (aL 4294967296 A):=if_neg hA;rw[hn];have ho:=fK G 1 zr;have hb:=oq G (some (aL 4294967296 A)) (eR _) ub;rw[aS,b7]at hb;have hbl:=r6 hA;have hst:=CC (A:=A) (b:=bk A) (mE A);have hsp:=JR hA;generalize bk A=b at*
 have e1:i64.wrap ((b:Int)+1)=((b+1:Nat):Int):=by rw[bP zd zd];omega
 have e2:((b+1:Nat):Int).tdiv 2=(((b+1)/2:Nat):Int):=nE _ 2;have n0:=oo ((b+1)/2);have hp0:0<2^((b+1)/2):=Nat.two_pow_pos _;obtain⟨k,hk⟩:∃k,(b+1)/2=k:=⟨_,rfl⟩
 rw[hk]at e2 n0 hst hp0;have w1:=bP (n:=(k:Int)) zd zd;have hs:=iz G (some (aL 4294967296 1)) k wd zd;rw[aS,if_neg (iF zr),b7,aes]at hs;generalize 2^k=x0 at*
 simp only[iX]at ho hb hs⊢;refine aa.en func327 rfl λ_=>aah ?_;refine aaF λK hK=>?_;simp;refine ag.p 0 9 ho ?_;simp;refine ag.p 0 9 hb ?_;simp[e1,e2,w1,-Int.natCast_add,-Int.natCast_ediv];refine ag.p 0 9 hs ?_;simp
 repeat refine az ?_
 apply hK;refine aaw ?_
 refine aaY (λ(x:Nat)=>⟨aT [(0,.c (nC (some (aL 4294967296 A)))),(3,.c (nC (some (aL 4294967296 x))))],λ_=>.hole⟩) 0
  (λx=>0<x/\si A<=x/\nl x<=200000) (λx=>x) x0 (Le.fJ _) ⟨hp0,hst,zd⟩ ?_
 rintro x ⟨i1,i2,i3⟩;have hd:=ke G (some (aL 4294967296 A)) (some (aL 4294967296 x)) (eR _) (eR _) (iF zd) (by show nl _<_;omega);have hdt:=oW (qG (some (aL 4294967296 A)) (some (aL 4294967296 x))) (lU (some (aL 4294967296 A)) (some (aL 4294967296 x)));have hq:dO (qG (some (aL 4294967296 A)) (some (aL 4294967296 x)))=(aL 4294967296 (A/x)):=by rw[Hw,aS,aS,b7,b7]
 generalize qG (some (aL 4294967296 A)) (some (aL 4294967296 x))=q at*
 generalize lU (some (aL 4294967296 A)) (some (aL 4294967296 x))=r at*
 have hdl:=dZ (aeB A x);have ha:=kE G (some (aL 4294967296 x)) q ub (by rw[hq];show nl _<=_;omega);rw[hq,aS,b7,b7]at ha;have hal:=lY x (A/x);have hpos:x+A/x≠0:=aeg (Nat.add_pos_left i1 _);have hsr:=vk G (some (aL 4294967296 (x+A/x))) 1 ub zr;rw[aS,if_neg (by have:=List.length_pos_iff.2 (iF hpos);omega),b7,Nat.pow_one]at hsr;have hge:=Ko (A:=A) i1;have hstop:=Cd (A:=A) i1 i2;have hyl:=dZ (aeB (x+A/x) 2);generalize x+A/x=z at*
 obtain⟨y,hy⟩:∃y,z/2=y:=⟨_,rfl⟩
 rw[hy]at hsr hge hyl hstop;have hc:=gk (G:=G) (a:=some (aL 4294967296 y)) (b:=some (aL 4294967296 x)) (eR _) (eR _);simp only[aS,b7]at hc;have hcy:0<=eO y x↔x<=y:=ir
 generalize eO y x=n at*
 simp only[iX]at hd hdt ha hsr hc;refine aau mixed trivial trivial ?_;refine acn λKX1 hKX1=>?_;simp;refine ag.pure 0 9 hd hdt zp zp ?_;simp
 repeat refine az ?_
 refine hKX1 _ _ ?_;refine wN ?_;refine aau mixed (lD ha hsr hc) trivial ?_
 by_cases hxy:x<=y
 ·have h0:=hcy.2 hxy;have e:=hstop hxy;refine aau mixed trivial h0 ?_;exact aaq (aD.rt (t:=2) rfl 9 (by simp[e]))
 ·have h0:¬0<=n:=λh=>hxy (hcy.1 h)
  refine aau mixed trivial h0 ?_;exact⟨y,Le.fJ _,⟨zd,hge,by have:=dZ (show y<=x by omega);omega⟩,zd⟩
def s7(t:Rat)(up:Bool):Nat:=if up=true/\si (t.num.natAbs/t.den)*si (t.num.natAbs/t.den)*t.den<t.num.natAbs then si (t.num.natAbs/t.den)+1 else si (t.num.natAbs/t.den)
def fL(x:Rat)(bits:Int):Int:=(dm x).fdiv 2-kI bits+1
def gH(x:Rat)(bits:Int)(up:Bool):Rat:=if x=0 then x else aH (((s7 (aH x (-2*fL x bits)) up:Nat):Int):Rat) (fL x bits)
theorem UY(hx:x≠0):x.den*2^(max (dm x) 0).toNat<=x.num.natAbs*2^(max (-dm x) 0).toNat:=by
 have h0:x.num.natAbs≠0:=by intro e;exact hx (Rat.num_eq_zero.1 zd)
 unfold dm;simp only;obtain⟨k,hk⟩:∃k:Int,(bk x.num.natAbs:Int)-bk x.den=k:=⟨_,rfl⟩
 rw[hk];split
 ·have h1:=iY h0;have h2:=mE x.den;have h3:1<=bk x.num.natAbs:=by unfold bk;rw[if_neg h0];omega
  generalize x.num.natAbs=p at*
  generalize x.den=q at*
  generalize bk p=bp at*
  generalize bk q=bq at*
  have key:q*2^(max (k-1) 0).toNat<=2^(bq+(max (k-1) 0).toNat):=by
   rw[aee];exact adh _ (aeV h2)
  have key2:2^(bp-1+(max (-(k-1)) 0).toNat)<=p*2^(max (-(k-1)) 0).toNat:=by
   rw[aee];exact adh _ h1
  have e:bq+(max (k-1) 0).toNat=bp-1+(max (-(k-1)) 0).toNat:=zd
  rw[e]at key;exact HQ key key2
 ·omega
theorem Vx(j:Int)(hj:0<=j):(1:Rat)<=2^j:=by
 have h:aH 1 j=2^j:=by rw[fN,Rat.one_mul]
 rw[<-h];obtain⟨t1,t2⟩:=wG j;rw[Rat.le_iff,t1,t2,show(max (-j) 0).toNat=0 by omega];have:=Nat.two_pow_pos (max j 0).toNat;show(1:Int)*_<=_*1;omega
theorem EH(hx:0<x):0<x.num:=by
 have h:¬x<=0:=Rat.not_le.2 hx;have h2:x.num<=0->x<=0:=λh=>by rw[Rat.le_iff];simpa using h
 by_cases e:x.num<=0
 ·exact absurd (h2 e) h
 ·omega
theorem IZ(hx:0<x):aH 1 (dm x)<=x:=by
 have hn:=EH hx;have h:=UY (x:=x) (by intro e;rw[e]at hn;exact absurd hn zr);obtain⟨t1,t2⟩:=wG (dm x);rw[Rat.le_iff,t1,t2];have e:x.num=((x.num.natAbs:Nat):Int):=zd
 rw[e];generalize x.num.natAbs=p at*
 generalize 2^(max (dm x) 0).toNat=u at*
 generalize 2^(max (-dm x) 0).toNat=v at*
 rw[aed]at h
 exact_mod_cast h
theorem KP(hx:0<x)(bits:Int):(aH x (-2*fL x bits)).num.natAbs/(aH x (-2*fL x bits)).den≠0:=by
 have k1:2*fL x bits<=dm x:=by
  unfold fL;have:=qY bits;rw[adM _ zr];omega
 have h1:=IZ hx;rw[fN,Rat.one_mul]at h1
 have h2:(1:Rat)<=aH x (-2*fL x bits):=by
  rw[fN];have h3:(2:Rat)^dm x*2^(-2*fL x bits)<=x*2^(-2*fL x bits):=agp h1 (afP (two_pos _));rw[<-Rat.zpow_add zr]at h3;exact aeW (Vx _ zd) h3
 generalize aH x (-2*fL x bits)=t at*
 rw[Rat.le_iff]at h2
 have h4:t.den<=t.num.natAbs:=by
  have:(1:Int)*t.den<=t.num*1:=h2;omega
 have:=Nat.div_pos h4 t.den_pos;omega
theorem Mj(h:t.den≠1):si (t.num.natAbs/t.den)*si (t.num.natAbs/t.den)*t.den<t.num.natAbs:=by
 have h1:=adh t.den (AS (t.num.natAbs/t.den));have h2:=afp t.num.natAbs t.den
 have h3:t.num.natAbs/t.den*t.den≠t.num.natAbs:=by
  intro e;have hd:t.den ∣ t.num.natAbs:=⟨_,by rw[aed];exact e.symm⟩
  have hc:=t.reduced;have:=Nat.Coprime.eq_one_of_dvd hc.symm hd;exact h this
 omega
theorem PT{L:Nat}(h:bF t L)(up:Bool):nl (s7 t up)<=L+1:=by
 have h1:=IQ (t.num.natAbs/t.den);have h2:=aeB t.num.natAbs t.den;have h3:=dZ (HQ h1 h2);have h4:=h.1;have h5:=lY (si (t.num.natAbs/t.den)) 1;have h6:=h.2;have h7:=NW t.den_nz;rw[cR]at h5;unfold s7;split<;>omega
theorem xp(hx:x≠0)(h:bF x 300)(bits:Int):-9000<=fL x bits/\fL x bits<=4800:=by
 have:=jv hx h;have:=qY bits;unfold fL;rw[adM _ zr];omega
theorem KN(h:bF x 300)(bits:Int)(up:Bool):bF (gH x bits up) 1300:=by
 unfold gH;split
 ·exact au h zr
 ·rename_i h0
  have hk:=xp h0 h bits;have h1:=cZ h (-2*fL x bits);have h2:=PT h1 up;refine au (cZ (L:=300+(-2*fL x bits).natAbs/32+1+1) (pO _ _ lm zd) _) zd
theorem ivN(n:Nat):bu ((n:Int):Rat)=.agg [.d (.bool false),nC (aW n),nC none]:=by
 have h1:¬((n:Int):Rat).num<0:=by rw[afM];omega
 have h2:((n:Int):Rat).num.natAbs=n:=by rw[afM];rfl
 have h3:((n:Int):Rat).den=1:=agl _;show AV.agg [_,_,_]=_;rw[h2,h3,decide_eq_false h1];rfl
theorem Bs(G:List (List DV))(x:Rat)(bits:Int)(up:Bool)(h0:x<0):aa prog G 326 [bu x,.c (.d (.int .i64 bits)),.c (.d (.bool up))] (.tup [bu 0,.c (.d (.int .i64 9))]):=by
 have hg:=dr G (decide (x.num<0)) (aW x.num.natAbs) (bB x.den)
 have hn:x.num<0:=by
  have:¬0<=x:=Rat.not_le.2 h0;rw[<-afO]at this;omega
 have hs:ou (decide (x.num<0)) (aW x.num.natAbs) = -1:=by
  unfold ou;rw[jG,if_neg (iF zd),decide_eq_true hn];rfl
 rw[hs]at hg;have bz:bM prog 34 [] []=some (bu 0,[],[],True):=Cx;refine aa.enc func326 rfl (λlv=>iL lv _ _ _ _) λ_=>?_;refine aau mixed hg bz ?_;exact aal (aF.BU (κ:=0) (t:=6) (k:=1) (u:=7) ⟨rfl,rfl⟩ zp yi zp)
theorem I6(G:List (List DV))(x:Rat)(bits:Int)(up:Bool)(h0:0<=x)(hx:bF x 300):aa prog G 326 [bu x,.c (.d (.int .i64 bits)),.c (.d (.bool up))] (.tup [bu (gH x bits up),.c (.d (.int .i64 0))]):=by
 have hg:=dr G (decide (x.num<0)) (aW x.num.natAbs) (bB x.den)
 by_cases hz:x=0
 ·have e:gH x bits up=x:=if_pos hz;rw[vD hz]at hg;rw[e];refine aa.enc func326 rfl (λlv=>iL lv _ _ _ _) λ_=>aah ?_;refine aac λK hK=>abi 2 hg ?_;refine aaw (aah ?_);refine aax (aah ?_);refine aaE (aah ?_);exact aal (aF.BU (κ:=0) (t:=6) (k:=1) (u:=7) ⟨rfl,rfl⟩ zp yi zp)
 have hp:0<x:=Rat.lt_of_le_of_ne h0 (aeG hz);have hn:=EH hp
 have hs:ou (decide (x.num<0)) (aW x.num.natAbs)=1:=by
  unfold ou;rw[jG,if_neg (iF zd),decide_eq_false zd];rfl
 rw[hs]at hg;have hl:=D8 G x hz (au hx zd);have hlr:=jv hz hx;have hi:=Aa G bits;obtain⟨b1,b2⟩:=qY bits;have hkr:=xp hz hx bits;have e:gH x bits up=aH (((s7 (aH x (-2*fL x bits)) up:Nat):Int):Rat) (fL x bits):=if_neg hz;have hne:=KP hp bits;have hsz:=cZ hx (-2*fL x bits);have hmz:=PT hsz up;have hkd:(dm x).fdiv 2-kI bits+1=fL x bits:=rfl;rw[e];clear e;have s1:=jP G x (-2*fL x bits) (au hx zd) zd zd;obtain⟨l,hL⟩:∃l,dm x=l:=⟨_,rfl⟩
 rw[hL]at hl hkd hlr;obtain⟨f,hf,f1,f2⟩:∃f,l.fdiv 2=f/\-16000<=f/\f<=16000:=⟨_,rfl,rh,rh⟩
 have hf2:l.fdiv (2^min 1 i64.bits)=f:=hf;rw[hf]at hkd;have htn:¬(aH x (-2*fL x bits)).num<0:=by rw[oY];omega
 have hstr:=λh=>Mj (t:=aH x (-2*fL x bits)) h
 generalize fL x bits=k at*
 generalize kI bits=b at*
 have w1:i64.wrap (f-b)=f-b:=bP zd zd;have w2:i64.wrap k=k:=bP zd zd;have w3:i64.wrap (-2*k) = -2*k:=bP zd zd;obtain⟨k2,hk2⟩:∃k2,-2*k=k2:=⟨_,rfl⟩
 rw[hk2]at s1 hne hsz hmz htn hstr w3⊢;generalize aH x k2=t at*
 have htz:=hsz.1;have htd:=hsz.2;have hw:=CE G t false (au hsz zd);obtain⟨n,hn0⟩:∃n,t.num.natAbs/t.den=n:=⟨_,rfl⟩
 have hnl:nl n<=20000:=by
  have:=dZ (aeB t.num.natAbs t.den);rw[hn0]at this;omega
 have ew:dP t false=((n:Int):Rat):=by
  unfold dP;rw[hn0,decide_eq_false htn];simp[ei]
 rw[ew,ivN]at hw;rw[hn0]at hne hstr;have hr:=Bz G n hne zd;have him:=Cm G t;obtain⟨q,hq⟩:∃q,si n=q:=⟨_,rfl⟩
 have hql:nl q<=20000:=by have:=dZ (IQ n);rw[hq]at this;omega
 have hM:s7 t up=if up=true/\q*q*t.den<t.num.natAbs then q+1 else q:=by unfold s7;rw[hn0,hq]
 rw[hq]at hr hstr;have hmul:=eI G (some (aL 4294967296 q)) (some (aL 4294967296 q)) ub ub;rw[aS,b7]at hmul;have hcm:=gk (G:=G) (a:=some (aL 4294967296 (q*q))) (b:=aW n) (eR _) (lC n);rw[aS,b7,kW]at hcm;have hcn:eO (q*q) n<0↔q*q<n:=qM;have ho:=fK G 1 zr;have hadd:=kE G (some (aL 4294967296 q)) (some (aL 4294967296 1)) ub wd;rw[aS,aS,b7,b7]at hadd;have hq1:=lY q 1;rw[cR]at hq1;have mk:=λ(M:Nat) (h:nl M<=20001)=>mJ G false M 1 zr zd sc
 have mk0:=mk q zd;have mk1:=mk (q+1) zd;rw[k7]at mk0 mk1;have g0:((ei false q:Int):Rat)=(((q:Nat):Int):Rat):=rfl;have g1:((ei false (q+1):Int):Rat)=(((q+1:Nat):Int):Rat):=rfl;rw[g0]at mk0;rw[g1]at mk1;have s20:=jP G (((q:Nat):Int):Rat) k (pO _ 10000000000 (by show nl q<=_;omega) zr) zd zd;have s21:=jP G (((q+1:Nat):Int):Rat) k (pO _ 10000000000 (by show nl (q+1)<=_;omega) zr) zd zd;simp only[iX]at hr hmul hcm ho hadd mk0 mk1
 by_cases hup:up=true
 rotate_left
 ·have e:s7 t up=q:=by rw[hM,if_neg (λh=>hup h.1)]
  rw[e];have hup':up=false:=by simpa using hup
  subst hup';generalize aH (((q:Nat):Int):Rat) k=z at*
  generalize (((q:Nat):Int):Rat)=y at*
  refine aa.enc func326 rfl (λlv=>iL lv _ _ _ _) λ_=>aah ?_;refine aac λK hK=>abi 2 hg ?_;refine aaw (aah ?_);refine aax (aah ?_);refine aax (aan (hK _ _ (aac λK hK=>aai ?_)));simp;refine ag.p 2 9 hl ?_;simp;refine ag.p 2 9 hi ?_;simp[hf2,w1,hkd,w2]
  repeat refine az ?_
  apply hK;refine aac λK hK=>acp 2 s1 w3 hk2 (hK _ _ ?_)
  refine aac λK hK=>abI 3 hw @ai.eq_1 (hK _ _ ?_)
  refine aac λK hK=>acq 3 hr (hK _ _ ?_)
  refine aac λK hK=>aah ?_;refine aax (aan (hK _ _ (aac λK hK=>aai ?_)));simp;refine ag.p 3 9 ho ?_;simp;refine ag.p 3 9 mk0 ?_;simp;refine ag.p 3 9 s20 ?_;simp[ai]
  repeat refine az ?_
  apply hK;exact aal (aF.BU (κ:=0) (t:=6) (k:=1) (u:=7) ⟨rfl,rfl⟩ zp yi zp)
 subst hup
 by_cases hd1:t.den=1
 ·have hn1:t.num.natAbs=n:=by rw[<-hn0,hd1,afb]
  rw[hd1,aeu,hn1]at hM;rw[decide_eq_true hd1]at him
  by_cases hqn:q*q<n
  ·have hc1:=hcn.2 hqn;have e:s7 t true=q+1:=by rw[hM,if_pos ⟨rfl,hqn⟩]
   rw[e];generalize eO (q*q) n=cc at*
   generalize aH (((q+1:Nat):Int):Rat) k=z at*
   generalize (((q+1:Nat):Int):Rat)=y at*
   refine aa.enc func326 rfl (λlv=>iL lv _ _ _ _) λ_=>aah ?_;refine aac λK hK=>abi 2 hg ?_;refine aaw (aah ?_);refine aax (aah ?_);refine aax (aan (hK _ _ (aac λK hK=>aai ?_)));simp;refine ag.p 2 9 hl ?_;simp;refine ag.p 2 9 hi ?_;simp[hf2,w1,hkd,w2]
   repeat refine az ?_
   apply hK;refine aac λK hK=>acp 2 s1 w3 hk2 (hK _ _ ?_)
   refine aac λK hK=>abI 3 hw @ai.eq_1 (hK _ _ ?_)
   refine aac λK hK=>acq 3 hr (hK _ _ ?_)
   refine aac λK hK=>aaF λK1 hK1=>?_;simp[ai];refine ag.p 3 9 him ?_;simp[ai];refine ag.p 3 9 hmul ?_;simp;refine ag.p 3 9 hcm ?_;simp[hc1]
   repeat refine az ?_
   apply hK1;refine aaE (aai ?_);simp;refine ag.p 3 9 ho ?_;simp;refine ag.p 3 9 hadd ?_;simp
   repeat refine az ?_
   apply hK;refine aac λK hK=>aai ?_;simp;refine ag.p 3 9 ho ?_;simp;refine ag.p 3 9 mk1 ?_;simp;refine ag.p 3 9 s21 ?_;simp[ai]
   repeat refine az ?_
   apply hK;exact aal (aF.BU (κ:=0) (t:=6) (k:=1) (u:=7) ⟨rfl,rfl⟩ zp yi zp)
  ·have hc1:¬eO (q*q) n<0:=λh=>hqn (hcn.1 h)
   have e:s7 t true=q:=by rw[hM,if_neg (λh=>hqn h.2)]
   rw[e];generalize eO (q*q) n=cc at*
   generalize aH (((q:Nat):Int):Rat) k=z at*
   generalize (((q:Nat):Int):Rat)=y at*
   refine aa.enc func326 rfl (λlv=>iL lv _ _ _ _) λ_=>aah ?_;refine aac λK hK=>abi 2 hg ?_;refine aaw (aah ?_);refine aax (aah ?_);refine aax (aan (hK _ _ (aac λK hK=>aai ?_)));simp;refine ag.p 2 9 hl ?_;simp;refine ag.p 2 9 hi ?_;simp[hf2,w1,hkd,w2]
   repeat refine az ?_
   apply hK;refine aac λK hK=>acp 2 s1 w3 hk2 (hK _ _ ?_)
   refine aac λK hK=>abI 3 hw @ai.eq_1 (hK _ _ ?_)
   refine aac λK hK=>acq 3 hr (hK _ _ ?_)
   refine aac λK hK=>aaF λK1 hK1=>?_;simp[ai];refine ag.p 3 9 him ?_;simp[ai];refine ag.p 3 9 hmul ?_;simp;refine ag.p 3 9 hcm ?_;simp[hc1]
   repeat refine az ?_
   apply hK1;refine aax (aan (hK _ _ (aac λK hK=>aai ?_)));simp;refine ag.p 3 9 ho ?_;simp;refine ag.p 3 9 mk0 ?_;simp;refine ag.p 3 9 s20 ?_;simp[ai]
   repeat refine az ?_
   apply hK;exact aal (aF.BU (κ:=0) (t:=6) (k:=1) (u:=7) ⟨rfl,rfl⟩ zp yi zp)
 ·have e:s7 t true=q+1:=by rw[hM,if_pos ⟨rfl,hstr hd1⟩]
  rw[e];rw[decide_eq_false hd1]at him;generalize aH (((q+1:Nat):Int):Rat) k=z at*
  generalize (((q+1:Nat):Int):Rat)=y at*
  refine aa.enc func326 rfl (λlv=>iL lv _ _ _ _) λ_=>aah ?_;refine aac λK hK=>abi 2 hg ?_;refine aaw (aah ?_);refine aax (aah ?_);refine aax (aan (hK _ _ (aac λK hK=>aai ?_)));simp;refine ag.p 2 9 hl ?_;simp;refine ag.p 2 9 hi ?_;simp[hf2,w1,hkd,w2]
  repeat refine az ?_
  apply hK;refine aac λK hK=>acp 2 s1 w3 hk2 (hK _ _ ?_)
  refine aac λK hK=>abI 3 hw @ai.eq_1 (hK _ _ ?_)
  refine aac λK hK=>acq 3 hr (hK _ _ ?_)
  refine aac λK hK=>abx 3 him @ai.eq_1 ?_;refine aaE (aai ?_);simp;refine ag.p 3 9 ho ?_;simp;refine ag.p 3 9 hadd ?_;simp
  repeat refine az ?_
  apply hK;refine aac λK hK=>aai ?_;simp;refine ag.p 3 9 ho ?_;simp;refine ag.p 3 9 mk1 ?_;simp;refine ag.p 3 9 s21 ?_;simp[ai]
  repeat refine az ?_
  apply hK;exact aal (aF.BU (κ:=0) (t:=6) (k:=1) (u:=7) ⟨rfl,rfl⟩ zp yi zp)
def R9(x:Rat)(bits:Int)(up:Bool):Rat:=if x<0 then 0 else gH x bits up
def Hu(x:Rat):Int:=if x<0 then 9 else 0
theorem BY(G:List (List DV))(x:Rat)(bits:Int)(up:Bool)(hx:bF x 300):aa prog G 326 [bu x,.c (.d (.int .i64 bits)),.c (.d (.bool up))] (.tup [bu (R9 x bits up),.c (.d (.int .i64 (Hu x)))]):=by
 unfold R9 Hu
 by_cases h:x<0
 ·rw[if_pos h,if_pos h];exact Bs G x bits up h
 ·rw[if_neg h,if_neg h];exact I6 G x bits up (Rat.not_lt.1 h) hx
theorem DC(G:List (List DV))(x:Rat)(bits:Int)(hx:bF x 300):aa prog G 324 [bu x,.c (.d (.int .i64 bits))] (.tup [bu (R9 x bits false),.c (.d (.int .i64 (Hu x)))]):=by
 have c1:=BY G x bits false hx;generalize R9 x bits false=r at*
 generalize Hu x=e at*
 refine aa.enc func324 rfl (λlv=>iL lv _ _ _ _) λ_=>?_;refine aau mixed c1 @ai.eq_1 ?_;exact aal (aF.BU (κ:=0) (t:=4) (k:=1) (u:=5) ⟨rfl,rfl⟩ zp yi zp)
theorem Jg(G:List (List DV))(x:Rat)(bits:Int)(hx:bF x 300):aa prog G 325 [bu x,.c (.d (.int .i64 bits))] (.tup [bu (R9 x bits true),.c (.d (.int .i64 (Hu x)))]):=by
 have c1:=BY G x bits true hx;generalize R9 x bits true=r at*
 generalize Hu x=e at*
 refine aa.enc func325 rfl (λlv=>iL lv _ _ _ _) λ_=>?_;refine aau mixed c1 @ai.eq_1 ?_;exact aal (aF.BU (κ:=0) (t:=4) (k:=1) (u:=5) ⟨rfl,rfl⟩ zp yi zp)
def LX(a:Iv)(bits:Int):Iv:=if a.1<0 then(0,0)else(gH a.1 bits false,gH a.2 bits true)
theorem Sx(G:List (List DV))(a:Iv)(bits:Int)(la:a.1<=a.2)(h1:bF a.1 300)(h2:bF a.2 300):aa prog G 321 [eo a,.c (.d (.int .i64 bits))] (.tup [eo (LX a bits),.c (.d (.int .i64 (Hu a.1)))]):=by
 have c1:=DC G a.1 bits h1;have c2:=Jg G a.2 bits h2;unfold LX
 by_cases h:a.1<0
 ·rw[if_pos h];have e1:Hu a.1=9:=if_pos h;have bz:bM prog 36 [] []=some (eo (0,0),[],[],True):=AB;rw[e1]at c1⊢;generalize R9 a.1 bits false=r at*
  refine aa.enc func321 rfl (λlv=>bY lv _ _ _ _ _ _ _ rfl) λ_=>?_;refine aau mixed c1 (eY @ai.eq_1 bz) ?_;exact aal (aF.kP (κ:=0) (t:=4) (k:=1) (u:=5) ⟨rfl,rfl⟩ zp yi zp)
 ·rw[if_neg h];have e1:Hu a.1=0:=if_neg h;have e2:Hu a.2=0:=if_neg (Rat.not_lt.2 (aeW (Rat.not_lt.1 h) la));have e3:R9 a.1 bits false=gH a.1 bits false:=if_neg h;have e4:R9 a.2 bits true=gH a.2 bits true:=if_neg (Rat.not_lt.2 (aeW (Rat.not_lt.1 h) la));rw[e1,e3]at c1;rw[e2,e4]at c2;rw[e1];generalize gH a.1 bits false=r1 at*
  generalize gH a.2 bits true=r2 at*
  refine aa.enc func321 rfl (λlv=>bY lv _ _ _ _ _ _ _ rfl) λ_=>?_;refine aau mixed (eY c1 c2) (eY @ai.eq_1 @DZ) ?_;exact aal (aF.kP (κ:=0) (t:=4) (k:=1) (u:=5) ⟨rfl,rfl⟩ zp yi zp)
attribute [local irreducible] aF
theorem Kp{y:Rat}(h:x.num≠0)(h':y.num≠0):cu x*cu y=if (decide (x.num<0) != decide (y.num<0))=true then -1 else 1:=by
 rw[mX h,mX h']
 by_cases a:x.num<0<;>by_cases b:y.num<0<;>simp[a,b]
theorem GN(x y:Rat):i64.wrap (cu x*cu y)=cu x*cu y:=by
 rcases rV x with h|h|h<;>rcases rV y with h'|h'|h'<;>rw[h,h']<;>rfl
theorem oR(G:List (List DV))(x y:Rat)(hx:bF x 10000000000)(hy:bF y 10000000000):aa prog G 75 [bQ x,bQ y] (bQ (x*y)):=by
 have b1:=iH G x;have b2:=iH G y;have hx1:=hx.1;have hx2:=hx.2;have hy1:=hy.1;have hy2:=hy.2;have m1:=gm G (cw x) (cw y) x.num.natAbs y.num.natAbs 10000000000 (iW x) (iW y) hx1 hy1 zr;have m2:=gm G (some (aL 1000000000 x.den)) (some (aL 1000000000 y.den)) x.den y.den 10000000000 rfl rfl hx2 hy2 zr;have l1:=cK x.num.natAbs y.num.natAbs;have l2:=cK x.den y.den;have hw:=GN x y
 have mk:=lB G (cu x*cu y) (decide (x.num<0) != decide (y.num<0)) (x.num.natAbs*y.num.natAbs) (x.den*y.den) 20000000000 (some (aL 1000000000 (x.num.natAbs*y.num.natAbs))) rfl
  (λh=>Kp (λe=>h (by rw[e];exact Nat.zero_mul _)) (λe=>h (by rw[e];exact aeU _))) (adJ x.den_pos y.den_pos) zd zd zr
 rw[<-ED]at mk;generalize x*y=z at*
 generalize x.num.natAbs*y.num.natAbs=A at*
 generalize x.den*y.den=B at*
 refine aa.enc func75 rfl (λlv=>bT lv _ _ _) λ_=>?_;refine aau mixed (BF m1 b1 b2 m2 mk) (eY hw @ai.eq_1) ?_;exact aal (aF.ref (k:=2) rfl zp zp rfl)
theorem Lg(G:List (List DV))(x y:Rat)(hx:bF x 10000000000)(hy:bF y 10000000000):aa prog G 239 [bQ x,bQ y] (.tup [bQ (x/y),.c (.d (.int .i64 (if y=0 then 8 else 0)))]):=by
 by_cases hy0:y=0
 ·subst hy0;have e:x/0=0:=by rw[afa,Rat.inv_zero,af3]
  rw[e,if_pos rfl];have s0:cu 0=0:=rfl;have bz:bM prog 42 [] []=some (bQ 0,[],[],True):=Q8;refine aa.enc func239 rfl (λlv=>jS lv _ _ _ _) λ_=>aah ?_;refine aac λK hK=>aaN s0 ?_;refine aaB tz (aaN bz ?_);exact aal (aF.Ia (t:=4) (u:=5) (k:=2) rfl zp yi zp rfl)
 rw[if_neg hy0];have hyn:y.num≠0:=λe=>hy0 (Rat.num_eq_zero.1 e)
 have hx1:=hx.1;have hx2:=hx.2;have hy1:=hy.1;have hy2:=hy.2;have b1:=iH G x;have m1:=gm G (cw x) (cU y) x.num.natAbs y.den 10000000000 (iW x) (by rw[yX hyn];rfl) hx1 hy2 zr;have m2:=gm G (some (aL 1000000000 x.den)) (cw y) x.den y.num.natAbs 10000000000 rfl (iW y) hx2 hy1 zr;have l1:=cK x.num.natAbs y.den;have l2:=cK x.den y.num.natAbs;have sy0:¬cu y=0:=λh=>hyn (jf.1 h)
 have hw:=GN x y
 have mk:=lB G (cu x*cu y) (decide (x.num<0) != decide (y.num<0)) (x.num.natAbs*y.den) (x.den*y.num.natAbs) 20000000000 (some (aL 1000000000 (x.num.natAbs*y.den))) rfl
  (λh=>Kp (λe=>h (by rw[e];exact Nat.zero_mul _)) hyn) (adJ x.den_pos zd) zd zd zr
 rw[<-Dx hy0]at mk;generalize x/y=z at*
 generalize x.num.natAbs*y.den=A at*
 generalize x.den*y.num.natAbs=B at*
 refine aa.enc func239 rfl (λlv=>jS lv _ _ _ _) λ_=>aah ?_;refine aac λK hK=>aaN sy0 ?_;refine aaD (by simp[sy0]<;>omega) (aan (hK _ _ (aac λK hK=>?_)));refine aaT mixed zt rfl ?_;simp[hw];refine ag.p 3 9 m1 ?_;simp;refine ag.p 3 9 b1 ?_;simp;refine ag.p 3 9 m2 ?_;simp;refine ag.p 3 9 mk ?_;simp[ai];refine⟨zt,?_⟩
 repeat refine az ?_
 apply hK;exact aal (aF.Ia (t:=4) (u:=5) (k:=2) rfl zp zp zp rfl)
theorem vg(G:List (List DV))(x y:Rat)(hx:bF x 20000000000)(hy:bF y 20000000000):aa prog G 127 [bQ x,bQ y] (bQ (fh x y)):=by
 have c1:=fS G x y hx hy
 by_cases h:0<=bS x y
 ·have e:fh x y=x:=by unfold fh;have:=JD.1 h;split<;>grind
  rw[e];generalize bS x y=n at*
  refine aa.enc func127 rfl (λlv=>bT lv _ _ _) λ_=>?_;refine aau mixed c1 h ?_;exact aal (aF.ref (k:=2) rfl zp yi rfl)
 ·have e:fh x y=y:=by unfold fh;have:=kj.1 (Int.not_le.1 h);rw[if_pos this]
  rw[e];generalize bS x y=n at*
  refine aa.enc func127 rfl (λlv=>bT lv _ _ _) λ_=>?_;refine aau mixed c1 h ?_;exact aal (aF.ref (k:=2) rfl zp yi rfl)
theorem vj(G:List (List DV))(x y:Rat)(hx:bF x 20000000000)(hy:bF y 20000000000):aa prog G 126 [bQ x,bQ y] (bQ (eM x y)):=by
 have c1:=fS G x y hx hy
 by_cases h:bS x y<=0
 ·have e:eM x y=x:=by unfold eM;have:=gJ.1 h;split<;>grind
  rw[e];generalize bS x y=n at*
  refine aa.enc func126 rfl (λlv=>bT lv _ _ _) λ_=>?_;refine aau mixed c1 h ?_;exact aal (aF.ref (k:=2) rfl zp yi rfl)
 ·have e:eM x y=y:=by unfold eM;have:=oF.1 (Int.not_le.1 h);split<;>grind
  rw[e];generalize bS x y=n at*
  refine aa.enc func126 rfl (λlv=>bT lv _ _ _) λ_=>?_;refine aau mixed c1 h ?_;exact aal (aF.ref (k:=2) rfl zp yi rfl)
theorem Cc(G:List (List DV))(b:Int):aa prog G 193 [.c (.d (.int .i64 b))] (.c (.d (.int .i64 (kI b)))):=by
 have e1:(List.foldl (λa b:Int=>if a<b then b else a) b [1])=max b 1:=vx
 have e2:(List.foldl (λa b:Int=>if b<a then b else a) (max b 1) [4000])=kI b:=pA
 refine aa.en func193 rfl λ_=>aah ?_;refine aac λK hK=>aai ?_;simp[eN,e1,e2,-List.foldl_cons,-List.foldl_nil]
 repeat refine az ?_
 apply hK;exact aaq (aD.rt rfl 2 zp)
theorem W1(lv:Key->LB)(o:Option (List Nat)):eT prog 40 lv (.c (rC o))=some (.c (.d (.int .i64 (dO o).length)),[],[],True):=by
 rw[<-fj];simp
theorem AQ(G:List (List DV))(x:Rat)(hx:bF x 10000000000):aa prog G 194 [bQ x] (bQ (dP x (decide (x.num<0)))):=by
 have b1:=iH G x;have hx1:=hx.1;have hx2:=hx.2;have z1:=Ei hx1;have z2:=Ei hx2;have hd:=pe G (cw x) (some (aL 1000000000 x.den)) (by rw[iW];exact(bO zr _).1) (bO zr _) (by rw[aS];intro e;have:=(cL zr).1 e;exact x.den_nz this) (by rw[iW];omega) kp
 have hr:dO (Hf (cw x) (some (aL 1000000000 x.den)))=aL 1000000000 (x.num.natAbs%x.den):=by
  unfold Hf;rw[iW,aS,bE zr,bE zr];split
  ·rename_i e
   have:=(cL zr).1 e;rw[this,Nat.zero_mod];rfl
  ·rfl
 rw[iW,aS,bE zr,bE zr]at hd;generalize Hf (cw x) (some (aL 1000000000 x.den))=r at*
 have hdt:(AV.tup [.c (rC (some (aL 1000000000 (x.num.natAbs/x.den)))),.c (rC r)]).pure=true:=by cases r<;>rfl
 have hrl:0<(dO r).length↔x.num.natAbs%x.den≠0:=by
  rw[hr,List.length_pos_iff,Ne,cL zr]
 have ho:=oX G;have hs0:cu x<0↔x.num<0:=by unfold cu;omega
 have hz:x.num.natAbs/x.den+1≠0:=Nat.succ_ne_zero _;have l0:=dZ (aeB x.num.natAbs x.den);have l1:=lY (x.num.natAbs/x.den) 1;rw[cR]at l1;have ha:=vW G (x.num.natAbs/x.den) 1 20000000000 zd sc zr;have hsn:x.num.natAbs/x.den≠0->x.num≠0:=λh e=>h (by rw[e];exact Nat.zero_div _)
 have mk0:=lB G (cu x) (decide (x.num<0)) (x.num.natAbs/x.den) 1 20000000000 (some (aL 1000000000 (x.num.natAbs/x.den))) rfl (λh=>mX (hsn h)) zr zd sc zr;rw[k7]at mk0;simp only[fj]at hd ho
 by_cases hc:x.num<0/\x.num.natAbs%x.den≠0
 ·have mk1:=lB G (cu x) (decide (x.num<0)) (x.num.natAbs/x.den+1) 1 20000000000 (some (aL 1000000000 (x.num.natAbs/x.den+1))) rfl (λh=>mX zd) zr zd sc zr;rw[k7]at mk1;have e:dP x (decide (x.num<0))=((ei (decide (x.num<0)) (x.num.natAbs/x.den+1):Int):Rat):=by unfold dP;rw[if_pos ⟨decide_eq_true hc.1,hc.2⟩]
  rw[e];have h1:=hs0.2 hc.1;have h2:=hrl.2 hc.2;generalize ((ei (decide (x.num<0)) (x.num.natAbs/x.den+1):Int):Rat)=z at*
  generalize ((ei (decide (x.num<0)) (x.num.natAbs/x.den):Int):Rat)=z0 at*
  generalize x.num.natAbs/x.den=q at*
  refine aa.enc func194 rfl (λlv=>bT lv _ _ _) λ_=>?_;refine aau mixed trivial trivial ?_;refine aci mixed λKX1 hKX1=>?_;simp;refine ag.p 2 9 b1 ?_;simp;refine ag.pure 2 9 hd hdt zp zp ?_;simp;refine⟨zt,?_⟩
  repeat refine az ?_
  refine hKX1 _ _ ?_;refine wN ?_;refine aau mixed (lD ho ha mk1) (mo h1 @W1 h2 @ai.eq_1) ?_;exact aal (aF.ref (k:=1) rfl zp zp rfl)
 ·have e:dP x (decide (x.num<0))=((ei (decide (x.num<0)) (x.num.natAbs/x.den):Int):Rat):=by unfold dP;rw[if_neg (λh=>hc ⟨of_decide_eq_true h.1,h.2⟩),ad9]
  rw[e]
  by_cases hn:x.num<0
  ·have h1:=hs0.2 hn;have h2:¬0<(dO r).length:=λh=>hc ⟨hn,hrl.1 h⟩
   generalize ((ei (decide (x.num<0)) (x.num.natAbs/x.den):Int):Rat)=z0 at*
   generalize x.num.natAbs/x.den=q at*
   refine aa.enc func194 rfl (λlv=>bT lv _ _ _) λ_=>?_;refine aau mixed trivial trivial ?_;refine aci mixed λKX2 hKX2=>?_;simp;refine ag.p 2 9 b1 ?_;simp;refine ag.pure 2 9 hd hdt zp zp ?_;simp;refine⟨zt,?_⟩
   repeat refine az ?_
   refine hKX2 _ _ ?_;refine wN ?_;refine aau mixed (eY ho mk0) (mo h1 @W1 h2 @ai.eq_1) ?_;exact aal (aF.ref (k:=1) rfl zp zp rfl)
  ·have h1:¬cu x<0:=λh=>hn (hs0.1 h)
   generalize ((ei (decide (x.num<0)) (x.num.natAbs/x.den):Int):Rat)=z0 at*
   generalize x.num.natAbs/x.den=q at*
   refine aa.enc func194 rfl (λlv=>bT lv _ _ _) λ_=>?_;refine aau mixed trivial trivial ?_;refine aci mixed λKX3 hKX3=>?_;simp;refine ag.p 2 9 b1 ?_;simp;refine ag.pure 2 9 hd hdt zp zp ?_;simp;refine⟨zt,?_⟩
   repeat refine az ?_
   refine hKX3 _ _ ?_;refine wN ?_;refine aau mixed (eY ho mk0) (eY h1 @ai.eq_1) ?_;exact aal (aF.ref (k:=1) rfl zp zp rfl)
end Go.Am
namespace Go.Am
open Go.Am.Ty Go.Proofs N
attribute [local irreducible] aF
def F8(G:List (List DV))(n:Int)(h1:-1000000<=n)(h2:n<=1000000):aa prog G 269 [.c (.d (.int .i64 n))] (.c (.d (.int .i64 (n.fdiv 2)))):=by
 have ef:n.fdiv 2=n/2:=adM _ zr;rw[ef]
 by_cases h:n<0
 ·have w1:i64.wrap (1-n)=1-n:=bP zd zd;have w2:(1-n).tdiv 2=(1-n)/2:=afJ zd;obtain⟨z,hz⟩:∃z,(1-n)/2=z:=⟨_,rfl⟩
  rw[hz]at w2;have w3:i64.wrap z=z:=bP zd zd;have w4:i64.wrap (-z)=n/2:=by rw[bP zd zd];omega
  refine aa.en func269 rfl λ_=>aah ?_;refine aac λK hK=>aah ?_;refine aaB qr (acw w1 w2 w3 w4 ?_);exact aaq (aD.rt (t:=2) rfl 9 zp)
 ·have w2:n.tdiv 2=n/2:=afJ zd;have w3:i64.wrap (n/2)=n/2:=bP zd zd;refine aa.en func269 rfl λ_=>aah ?_;refine aac λK hK=>aah ?_;refine aaD qr (aan (hK _ _ (aac λK hK=>abG w2 w3 (hK _ _ ?_))));exact aaq (aD.rt (t:=2) rfl 9 zp)
def B8(m:Int)(x:Rat)(bits:Int)(hx:bF x 6000):aa prog (GG m) 130 [bQ x,.c (.d (.int .i64 bits))] (bQ (ja x bits)):=by
 by_cases h0:x=0
 ·have e:ja x bits=x:=if_pos h0;have s0:cu x=0:=jf.2 (by rw[h0];rfl);rw[e];refine aa.enc func130 rfl (λlv=>bT lv _ _ _) λ_=>aah ?_;refine aac λK hK=>aac λK1 hK1=>aai ?_;simp[s0]
  repeat refine az ?_
  apply hK1;refine aaB tz (aac λK1 hK1=>aai ?_);simp
  repeat refine az ?_
  apply hK1;exact aal (aF.ref (k:=1) rfl zp (by simp[ai,s0]) rfl)
 have hxn:x.num≠0:=λe=>h0 (Rat.num_eq_zero.1 e)
 have s0:¬cu x=0:=λh=>hxn (jf.1 h)
 have hl:=AN m x hxn hx;have hlr:=jv h0 hx;have hi:=Cc (GG m) bits;obtain⟨b1,b2⟩:=qY bits;have e:ja x bits=aH (dP (aH x (-(dm x-kI bits+1))) (decide (x.num<0))) (dm x-kI bits+1):=if_neg h0;rw[e];generalize dm x=l at*
 generalize kI bits=b at*
 have w1:i64.wrap (l-b)=l-b:=bP zd zd;obtain⟨k,hk,k1,k2⟩:∃k,l-b+1=k/\-400000<=k/\k<=400000:=⟨_,rfl,zd,zd⟩
 rw[hk];have w2:i64.wrap k=k:=bP zd zd;have w3:i64.wrap (-k) = -k:=bP zd zd;have z1:=cZ hx (-k);have z2:=r5 z1 (decide (x.num<0));have s1:=iD (GG m) x (-k) (au hx zd) zd zd;have s2:=AQ (GG m) (aH x (-k)) (au z1 zd);rw[show decide ((aH x (-k)).num<0)=decide (x.num<0) from decide_eq_decide.2 (oY x (-k))]at s2;have s3:=iD (GG m) (dP (aH x (-k)) (decide (x.num<0))) k (au z2 zd) zd zd;generalize aH (dP (aH x (-k)) (decide (x.num<0))) k=r at*
 generalize dP (aH x (-k)) (decide (x.num<0))=u at*
 generalize aH x (-k)=v at*
 refine aa.enc func130 rfl (λlv=>bT lv _ _ _) λ_=>aah ?_;refine aac λK hK=>aaN s0 ?_;refine aaD tz (aan (hK _ _ (aac λK hK=>aai ?_)));simp;refine ag.p 2 9 hl ?_;simp;refine ag.p 2 9 hi ?_;simp[w1,hk,w2]
 repeat refine az ?_
 apply hK;refine aac λK hK=>aai ?_;simp[w3];refine ag.p 2 9 s1 ?_;simp[w3];refine ag.p 2 9 s2 ?_;simp;refine ag.p 2 9 s3 ?_;simp
 repeat refine az ?_
 apply hK;exact aal (aF.ref (k:=1) rfl zp yi rfl)
def Cv(x:Rat)(k:Int):aH (-x) k = -aH x k:=by rw[fN,fN,Rat.neg_mul]
def Sz(x:Rat):dm (-x)=dm x:=by unfold dm;rw[afc,agm,afN]
def SD(n:Int)(q:Nat)(h:n=0->q=0):ei (decide (-n<0)) q = -ei (decide (n<0)) q:=by
 by_cases h0:n=0
 ·rw[h h0];unfold ei;split<;>split<;>rfl
 by_cases h1:n<0
 ·rw[decide_eq_false (show ¬-n<0 by omega),decide_eq_true h1];simp[ei]
 ·rw[decide_eq_true (show -n<0 by omega),decide_eq_false h1];simp[ei]
def Lw(x:Rat)(away:Bool):dP (-x) away = -dP x away:=by
 unfold dP;rw[afc,agm,afN,SD]
 ·rw[Rat.intCast_neg]
 ·intro h;rw[h];simp
def up_down(x:Rat)(bits:Int):DW x bits = -ja (-x) bits:=by
 unfold DW ja n9
 by_cases h0:x=0
 ·subst h0;rfl
 have hxn:x.num≠0:=λe=>h0 (Rat.num_eq_zero.1 e)
 have h1:¬-x=0:=λe=>h0 (by rw[<-Rat.neg_neg x,e];rfl)
 have h2:decide ((-x).num<0) = !decide (x.num<0):=by
  rw[afc]
  by_cases h:x.num<0
  ·rw[decide_eq_true h,decide_eq_false zd];rfl
  ·rw[decide_eq_false h,decide_eq_true zd];rfl
 rw[if_neg h0,if_neg h1,Sz,h2,Cv,Lw,Cv,Rat.neg_neg]
def S8(m:Int)(x:Rat)(bits:Int)(hx:bF x 6000):aa prog (GG m) 131 [bQ x,.c (.d (.int .i64 bits))] (bQ (DW x bits)):=by
 have c1:=oI (GG m) x;have c2:=B8 m (-x) bits (fk hx);have c3:=oI (GG m) (ja (-x) bits);rw[<-up_down]at c3;generalize DW x bits=z at*
 generalize ja (-x) bits=u at*
 generalize -x=v at*
 refine aa.enc func131 rfl (λlv=>bT lv _ _ _) λ_=>aah ?_;refine aac λK hK=>aai ?_;simp;refine ag.p 2 9 c1 ?_;simp;refine ag.p 2 9 c2 ?_;simp;refine ag.p 2 9 c3 ?_;simp[ai]
 repeat refine az ?_
 apply hK;exact aal (aF.ref (k:=1) rfl zp yi rfl)
def Ma(G:List (List DV))(A:Nat)(hA:A≠0)(hl:nl A<=1000):aa prog G 270 [nK .i64 (some (aL 1000000000 A))] (nK .i64 (some (aL 1000000000 (si A)))):=by
 have hbs:∀(lv:Key->LB) (h:lv 0=.hole) (a:CV),aB prog 40 1 [0] lv 0 [.c a]=some (.c (.aO 0 0 1 1),[(0,.cells true false 2 [a])],[],True):=λlv h a=>B5 lv 0 h a
 have z1:=Ei hl;have hb:=rz G A zd;have hbl:=r6 hA;have hst:=CC (A:=A) (b:=bk A) (mE A);have hsp:=JR hA;generalize bk A=b at*
 have e1:i64.wrap ((b:Int)+1)=((b+1:Nat):Int):=by rw[bP zd zd];omega
 have e2:((b+1:Nat):Int).tdiv 2=(((b+1)/2:Nat):Int):=nE _ 2;have n0:=oo ((b+1)/2);have hp0:0<2^((b+1)/2):=Nat.two_pow_pos _;obtain⟨k,hk⟩:∃k,(b+1)/2=k:=⟨_,rfl⟩
 rw[hk]at e2 n0 hst hp0;have w1:=bP (n:=(k:Int)) zd zd;have hs:=vu G k zd;generalize 2^k=x0 at*
 simp only[fj]at hb hs⊢;refine aa.ML func270 rfl λ_=>aah ?_;refine aaF λK hK=>?_;simp;refine ag.p 0 9 hb ?_;simp[e1,e2,w1,-Int.natCast_add,-Int.natCast_ediv];refine ag.p 0 9 hs ?_;simp
 repeat refine az ?_
 apply hK;refine aaw ?_
 refine aaY (λ(x:Nat)=>⟨aT [(0,.c (rC (some (aL 1000000000 A)))),(3,.c (rC (some (aL 1000000000 x))))],λ_=>.hole⟩) 0
  (λx=>0<x/\si A<=x/\nl x<=2000) (λx=>x) x0 (Le.fJ _) ⟨hp0,hst,zd⟩ ?_
 rintro x ⟨i1,i2,i3⟩;have z2:=Ei i3;obtain⟨o,hd⟩:=rW G A x i1 zd zd;have hdl:=dZ (aeB A x);have hdl2:nl (A/x)<=1000:=HQ hdl hl;have ha:=vW G x (A/x) 2000 i3 zd zr;have hal:=lY x (A/x);have hge:=Ko (A:=A) i1;have hstop:=Cd (A:=A) i1 i2;generalize A/x=d at*
 have hzl:nl (x+d)<=2001:=zd
 generalize x+d=z at*
 have z3:=Ei hzl;obtain⟨o2,hd2⟩:=rW G z 2 zr zd (by have:=Ei (n:=2) (L:=1) zr;omega);have g2:aL 1000000000 2=[2]:=(iT (zr:2<=1000000000) (l:=[2]) ⟨by intro d hd;grind,zp⟩ zp).symm;rw[g2]at hd2;obtain⟨y,hy⟩:∃y,z/2=y:=⟨_,rfl⟩
 rw[hy]at hd2 hge hstop;have hc:=vQ G y x;have hcy:0<=eO y x↔x<=y:=ir
 generalize eO y x=n at*
 have ht1:(AV.tup [.c (rC (some (aL 1000000000 d))),.c (rC o)]).pure=true:=by cases o<;>rfl
 have ht2:(AV.tup [.c (rC (some (aL 1000000000 y))),.c (rC o2)]).pure=true:=by cases o2<;>rfl
 rw[fj (some (aL 1000000000 z))]at hd2;rw[fj (some (aL 1000000000 y)),fj o2]at hd2;simp only[fj]at hd;refine aaw (aaF λK1 hK1=>?_);simp;refine ag.pure 0 9 hd ht1 zp zp ?_;simp
 repeat refine az ?_
 apply hK1;refine aaF λK1 hK1=>?_;simp;refine ag.p 0 9 ha ?_;simp[hbs,-aB];refine ag.JI (T:=2) (l:=[2]) 1 9 0 px zp hd2 zp ht2 zp ?_;simp
 repeat refine az ?_
 apply hK1;refine aac λK1 hK1=>abi 1 hc ?_
 by_cases hxy:x<=y
 ·have h0:=hcy.2 hxy;have e:=hstop hxy;refine aaB ws (aah ?_);exact aaq (aD.rt (t:=2) rfl 9 (by simp[e]))
 ·have h0:¬0<=n:=λh=>hxy (hcy.1 h)
  refine aaD ws (aan (hK1 _ _ (aai ?_)));simp;exact⟨y,Le.keys [] 19 _ rfl rfl zp zp zp zp zp,⟨zd,hge,by have:=dZ (show y<=x by omega);omega⟩,zd⟩
end Go.Am
namespace Go.Am
open Go.Am.Ty Go.Proofs N
attribute [local irreducible] aF
def UQ{n:Nat}(h:n≠0):cw ((n:Int):Rat)=some (aL 1000000000 n):=by
 unfold cw;rw[afM,if_neg zd];rfl
def MX(q:Nat):((q:Int):Rat)+1=(((q+1:Nat):Int):Rat):=by
 rw[ago,Rat.intCast_add];rfl
def Qb(q:Nat):((q:Int):Rat)*((q:Int):Rat)=(((q*q:Nat):Int):Rat):=by
 rw[afH,Rat.intCast_mul]
def R5{a:Nat}{t:Rat}(ht:¬t.num<0):((a:Int):Rat)<t↔a*t.den<t.num.natAbs:=by
 rw[Rat.lt_iff,afM,agl];have e:t.num=((t.num.natAbs:Nat):Int):=zd
 constructor
 ·intro h;have h:(a:Int)*t.den<t.num*1:=h;rw[Int.mul_one,e]at h
  exact_mod_cast h
 ·intro h;show(a:Int)*t.den<t.num*1;rw[Int.mul_one,e]
  exact_mod_cast h
def xN(m:Int)(x:Rat)(bits:Int)(up:Bool)(h0:0<=x)(hx:bF x 300):aa prog (GG m) 238 [bQ x,.c (.d (.int .i64 bits)),.c (.d (.bool up))] (bQ (gH x bits up)):=by
 by_cases hz:x=0
 ·have e:gH x bits up=x:=if_pos hz;have s0:cu x=0:=jf.2 (by rw[hz];rfl);rw[e];refine aa.enc func238 rfl (λlv=>bT lv _ _ _) λ_=>aah ?_;refine aac λK hK=>aaN s0 ?_;refine aaB tz (aah ?_);exact aal (aF.ref (k:=1) rfl zp (by simp[ai,s0]) rfl)
 have hp:0<x:=Rat.lt_of_le_of_ne h0 (aeG hz);have hn:=EH hp;have hxn:x.num≠0:=zd
 have s0:¬cu x=0:=λh=>hxn (jf.1 h)
 have hl:=AN m x hxn (au hx zr);have hlr:=jv hz hx;have hi:=Cc (GG m) bits;obtain⟨b1,b2⟩:=qY bits;have hkr:=xp hz hx bits;have e:gH x bits up=aH (((s7 (aH x (-2*fL x bits)) up:Nat):Int):Rat) (fL x bits):=if_neg hz;have hne:=KP hp bits;have hsz:=cZ hx (-2*fL x bits);have hmz:=PT hsz up;have hkd:(dm x).fdiv 2-kI bits+1=fL x bits:=rfl;rw[e];clear e;have s1:=iD (GG m) x (-2*fL x bits) (au hx zd) zd zd;have hhf:=F8 (GG m) (dm x) zd zd;obtain⟨l,hL⟩:∃l,dm x=l:=⟨_,rfl⟩
 rw[hL]at hl hkd hlr hhf;obtain⟨f,hf,f1,f2⟩:∃f,l.fdiv 2=f/\-16000<=f/\f<=16000:=⟨_,rfl,rh,rh⟩
 rw[hf]at hkd hhf;have htn:¬(aH x (-2*fL x bits)).num<0:=by rw[oY];omega
 generalize fL x bits=k at*
 generalize kI bits=b at*
 have w1:i64.wrap (f-b)=f-b:=bP zd zd;have w2:i64.wrap k=k:=bP zd zd;have w3:i64.wrap (-2*k) = -2*k:=bP zd zd;have hz3:300+(-2*k).natAbs/32+1<=900:=zd
 obtain⟨k2,hk2⟩:∃k2,-2*k=k2:=⟨_,rfl⟩
 rw[hk2]at s1 hne hsz hmz htn w3 hz3⊢;generalize aH x k2=t at*
 have hsz:=au hsz hz3;have htz:=hsz.1;have htd:=hsz.2;have hw:=AQ (GG m) t (au hsz zd);obtain⟨n,hn0⟩:∃n,t.num.natAbs/t.den=n:=⟨_,rfl⟩
 have hnl:nl n<=900:=by
  have:=dZ (aeB t.num.natAbs t.den);rw[hn0]at this;omega
 have ew:dP t (decide (t.num<0))=((n:Int):Rat):=by
  unfold dP;rw[hn0,decide_eq_false htn];simp[ei]
 rw[hn0]at hne
 have hwv:bQ ((n:Int):Rat)=.agg [.d (.int .i64 (cu ((n:Int):Rat))),rC (some (aL 1000000000 n)),rC (cU ((n:Int):Rat))]:=by
  show rA _ _ _=_;rw[UQ hne]
 rw[ew,hwv]at hw;have hr:=Ma (GG m) n hne zd;obtain⟨q,hq⟩:∃q,si n=q:=⟨_,rfl⟩
 have hql:nl q<=900:=by have:=dZ (IQ n);rw[hq]at this;omega
 have hM:s7 t up=if up=true/\q*q*t.den<t.num.natAbs then q+1 else q:=by unfold s7;rw[hn0,hq]
 rw[hq]at hr;have ho:=oX (GG m);have mk:=lB (GG m) 1 false q 1 20000 (some (aL 1000000000 q)) rfl (λ_=>rfl) zr zd sc zr;rw[k7,show((ei false q:Int):Rat)=(((q:Nat):Int):Rat) from rfl]at mk;have yz:bF (((q:Nat):Int):Rat) 900:=pO _ 900 hql zr;have hmul:=oR (GG m) (((q:Nat):Int):Rat) (((q:Nat):Int):Rat) (au yz zr) (au yz zr);have hcm:=fS (GG m) ((((q:Nat):Int):Rat)*(((q:Nat):Int):Rat)) t (au (pI yz yz) zr) (au hsz zr);have hcn:bS ((((q:Nat):Int):Rat)*(((q:Nat):Int):Rat)) t<0↔q*q*t.den<t.num.natAbs:=by rw[kj,Qb,R5 htn]
 have hi1:=sE m;have o1:bF 1 900:=pO 1 900 zr zr;have hadd:=oJ (GG m) (((q:Nat):Int):Rat) 1 (au yz zr) (au o1 zr);rw[MX]at hadd;have yz1:bF (((q+1:Nat):Int):Rat) 902:=pO _ 902 (by have:=lY q 1;rw[cR]at this;show nl (q+1)<=_;omega) zr;have s20:=iD (GG m) (((q:Nat):Int):Rat) k (au yz zr) zd zd;have s21:=iD (GG m) (((q+1:Nat):Int):Rat) k (au yz1 zr) zd zd;simp only[fj]at hr ho
 by_cases hup:up=true
 rotate_left
 ·have e:s7 t up=q:=by rw[hM,if_neg (λh=>hup h.1)]
  rw[e];have hup':up=false:=by simpa using hup
  subst hup';generalize aH (((q:Nat):Int):Rat) k=z at*
  generalize (((q:Nat):Int):Rat)=y at*
  generalize cu ((n:Int):Rat)=sn at*
  generalize cU ((n:Int):Rat)=bn at*
  refine aa.enc func238 rfl (λlv=>bT lv _ _ _) λ_=>aah ?_;refine aac λK hK=>aaN s0 ?_;refine aaD tz (aan (hK _ _ (aac λK hK=>aai ?_)));simp;refine ag.p 2 9 hl ?_;simp;refine ag.p 2 9 hhf ?_;simp;refine ag.p 2 9 hi ?_;simp[w1,hkd,w2]
  repeat refine az ?_
  apply hK;refine aac λK hK=>acp 2 s1 w3 hk2 (hK _ _ ?_)
  refine aac λK hK=>aai ?_;simp[ai];refine ag.p 3 9 hw ?_;simp[ai];refine ag.p 3 9 hr ?_;simp;refine ag.p 3 9 ho ?_;simp;refine ag.p 3 9 mk ?_;simp[ai]
  repeat refine az ?_
  apply hK;refine aac λK hK=>aac λK1 hK1=>AW.dl0 mixed (hK1 _ _ ?_)
  refine aax (aan (hK _ _ (aac λK hK=>abI 4 s20 @ai.eq_1 (hK _ _ ?_))));exact aal (aF.ref (k:=1) rfl zp yi rfl)
 subst hup
 by_cases hlt:q*q*t.den<t.num.natAbs
 ·have hc1:=hcn.2 hlt;have e:s7 t true=q+1:=by rw[hM,if_pos ⟨rfl,hlt⟩]
  rw[e];generalize aH (((q+1:Nat):Int):Rat) k=z at*
  generalize (((q+1:Nat):Int):Rat)=y1 at*
  generalize bS ((((q:Nat):Int):Rat)*(((q:Nat):Int):Rat)) t=cc at*
  generalize (((q:Nat):Int):Rat)*(((q:Nat):Int):Rat)=yy at*
  generalize (((q:Nat):Int):Rat)=y at*
  generalize (1:Rat)=one at*
  generalize cu ((n:Int):Rat)=sn at*
  generalize cU ((n:Int):Rat)=bn at*
  refine aa.enc func238 rfl (λlv=>bT lv _ _ _) λ_=>aah ?_;refine aac λK hK=>aaN s0 ?_;refine aaD tz (aan (hK _ _ (aac λK hK=>aai ?_)));simp;refine ag.p 2 9 hl ?_;simp;refine ag.p 2 9 hhf ?_;simp;refine ag.p 2 9 hi ?_;simp[w1,hkd,w2]
  repeat refine az ?_
  apply hK;refine aac λK hK=>acp 2 s1 w3 hk2 (hK _ _ ?_)
  refine aac λK hK=>aai ?_;simp[ai];refine ag.p 3 9 hw ?_;simp[ai];refine ag.p 3 9 hr ?_;simp;refine ag.p 3 9 ho ?_;simp;refine ag.p 3 9 mk ?_;simp[ai]
  repeat refine az ?_
  apply hK;refine aac λK hK=>aac λK1 hK1=>?_;refine aaT mixed zt rfl ?_;simp[ai];refine ag.p 4 9 hmul ?_;simp[ai];refine ag.p 4 9 hcm ?_;simp[hc1];refine⟨zt,?_⟩
  repeat refine az ?_
  apply hK1;refine aaB (by simp[hc1]<;>omega) ?_;refine aaT mixed zt rfl ?_;simp[ai];refine ag.p 4 9 hi1 ?_;simp[ai];refine ag.p 4 9 hadd ?_;simp[ai];refine⟨zt,?_⟩
  repeat refine az ?_
  apply hK;refine aac λK hK=>abI 4 s21 @ai.eq_1 (hK _ _ ?_)
  exact aal (aF.ref (k:=1) rfl zp yi rfl)
 ·have hc1:¬bS ((((q:Nat):Int):Rat)*(((q:Nat):Int):Rat)) t<0:=λh=>hlt (hcn.1 h)
  have e:s7 t true=q:=by rw[hM,if_neg (λh=>hlt h.2)]
  rw[e];generalize aH (((q:Nat):Int):Rat) k=z at*
  generalize bS ((((q:Nat):Int):Rat)*(((q:Nat):Int):Rat)) t=cc at*
  generalize (((q:Nat):Int):Rat)*(((q:Nat):Int):Rat)=yy at*
  generalize (((q:Nat):Int):Rat)=y at*
  generalize cu ((n:Int):Rat)=sn at*
  generalize cU ((n:Int):Rat)=bn at*
  refine aa.enc func238 rfl (λlv=>bT lv _ _ _) λ_=>aah ?_;refine aac λK hK=>aaN s0 ?_;refine aaD tz (aan (hK _ _ (aac λK hK=>aai ?_)));simp;refine ag.p 2 9 hl ?_;simp;refine ag.p 2 9 hhf ?_;simp;refine ag.p 2 9 hi ?_;simp[w1,hkd,w2]
  repeat refine az ?_
  apply hK;refine aac λK hK=>acp 2 s1 w3 hk2 (hK _ _ ?_)
  refine aac λK hK=>aai ?_;simp[ai];refine ag.p 3 9 hw ?_;simp[ai];refine ag.p 3 9 hr ?_;simp;refine ag.p 3 9 ho ?_;simp;refine ag.p 3 9 mk ?_;simp[ai]
  repeat refine az ?_
  apply hK;refine aac λK hK=>aac λK1 hK1=>?_;refine aaT mixed zt rfl ?_;simp[ai];refine ag.p 4 9 hmul ?_;simp[ai];refine ag.p 4 9 hcm ?_;simp[hc1];refine⟨zt,?_⟩
  repeat refine az ?_
  apply hK1;refine aaD (by simp[hc1]<;>omega) (aan (hK _ _ (aac λK hK=>abI 4 s20 @ai.eq_1 (hK _ _ ?_))));exact aal (aF.ref (k:=1) rfl zp yi rfl)
def BR(m:Int)(x:Rat)(bits:Int)(h0:0<=x)(hx:bF x 300):aa prog (GG m) 187 [bQ x,.c (.d (.int .i64 bits))] (bQ (gH x bits false)):=by
 have c1:=xN m x bits false h0 hx;generalize gH x bits false=z at*
 refine aa.enc func187 rfl (λlv=>bT lv _ _ _) λ_=>?_;refine aau mixed c1 @ai.eq_1 ?_;exact aal (aF.ref (k:=1) rfl zp yi rfl)
def Fb(m:Int)(x:Rat)(bits:Int)(h0:0<=x)(hx:bF x 300):aa prog (GG m) 188 [bQ x,.c (.d (.int .i64 bits))] (bQ (gH x bits true)):=by
 have c1:=xN m x bits true h0 hx;generalize gH x bits true=z at*
 refine aa.enc func188 rfl (λlv=>bT lv _ _ _) λ_=>?_;refine aau mixed c1 @ai.eq_1 ?_;exact aal (aF.ref (k:=1) rfl zp yi rfl)
end Go.Am
namespace Go.Am
open Go.Am.Ty Go.Proofs N
variable {lv:Key->LB}{x:Rat}{c:Ctx}{a:Iv}{T:TypeId}{s:Sp}
theorem aF.S7{fn:Func}{t k:Nat}{s:aJ}{κ:Nat}(hr:c.P=prog/\fn.results=#[.cell t 44])(ht:s.fr t=.c (.ptr k 0))
 (hk:s.lv k=.cells true false 44 [.d (.int .i64 (cu a.1)),rC (cw a.1),rC (cU a.1),.d (.int .i64 (cu a.2)),rC (cw a.2),rC (cU a.2)]):aF c fn (cg a) .ret s κ:=
 aF.cell hr.2 ht hk (by rw[hr.1,ady,OH])
@[simp]theorem kn(lv:Key->LB)(s s':Int)(p q p' q':Option (List Nat)):gq lv (.agg [.d (.int .i64 s),rC p,rC q,.d (.int .i64 s'),rC p',rC q'])=some (.agg [.d (.int .i64 s),rC p,rC q,.d (.int .i64 s'),rC p',rC q'],[]):=by
 simp only[th];rfl
theorem NS(x:Rat):jq x=b9 x:=by
 unfold jq b9
 (repeat' split)<;>grind
theorem KH(G:List (List DV))(a:Iv)(x:Rat)(ha:a.sz 20000000000)(hx:bF x 20000000000):aa prog G 190 [cg a,bQ x] (.c (.d (.bool (decide (a.has x))))):=by
 obtain⟨a1,a2⟩:=a;have c1:=fS G a1 x ha.1 hx;have c2:=fS G x a2 hx ha.2;have e1:bS a1 x<=0↔a1<=x:=gJ;have e2:bS x a2<=0↔x<=a2:=gJ
 by_cases g1:a1<=x
 ·have d1:=e1.2 g1
  by_cases g2:x<=a2
  ·have d2:=e2.2 g2;rw[show decide (Iv.has (a1,a2) x)=true from decide_eq_true ⟨g1,g2⟩];generalize bS a1 x=n1 at*
   generalize bS x a2=n2 at*
   refine aa.en func190 rfl λ_=>aah ?_;refine aaF λK hK=>?_;simp;refine ag.p 2 9 c1 ?_;simp[d1];refine ag.p 2 9 c2 ?_;simp[d2]
   repeat refine az ?_
   apply hK;exact aaq (aD.rt rfl 4 zp)
  ·have d2:¬bS x a2<=0:=λh=>g2 (e2.1 h)
   rw[show decide (Iv.has (a1,a2) x)=false from decide_eq_false λh=>g2 h.2];generalize bS a1 x=n1 at*
   generalize bS x a2=n2 at*
   refine aa.en func190 rfl λ_=>aah ?_;refine aaF λK hK=>?_;simp;refine ag.p 2 9 c1 ?_;simp[d1];refine ag.p 2 9 c2 ?_;simp[d2]
   repeat refine az ?_
   apply hK;exact aaq (aD.rt rfl 4 zp)
 ·have d1:¬bS a1 x<=0:=λh=>g1 (e1.1 h)
  rw[show decide (Iv.has (a1,a2) x)=false from decide_eq_false λh=>g1 h.1];generalize bS a1 x=n1 at*
  refine aa.en func190 rfl λ_=>aah ?_;refine abx 2 c1 d1 ?_;exact aaq (aD.rt rfl 4 zp)
theorem mh(G:List (List DV))(a b:Iv)(ha:a.sz 10000000000)(hb:b.sz 10000000000):aa prog G 79 [cg a,cg b] (cg (a.add b)):=by
 have c1:=oJ G a.1 b.1 ha.1 hb.1;have c2:=oJ G a.2 b.2 ha.2 hb.2;unfold Iv.add;generalize a.1+b.1=r1 at*
 generalize a.2+b.2=r2 at*
 refine aa.enc func79 rfl (λlv=>kn lv _ _ _ _ _ _) λ_=>aah ?_;refine aac λK hK=>?_;refine aaT mixed zt rfl ?_;simp;refine ag.p 3 9 c1 ?_;simp;refine ag.p 3 9 c2 ?_;simp[MG,ai];refine⟨zt,?_⟩
 repeat refine az ?_
 apply hK;exact aal (aF.S7 (κ:=0) (t:=4) (k:=2) ⟨rfl,rfl⟩ zp yi)
theorem C3(G:List (List DV))(a:Iv):aa prog G 120 [cg a] (cg a.neg):=by
 have c1:=oI G a.2;have c2:=oI G a.1;unfold Iv.neg;generalize -a.2=r1 at*
 generalize -a.1=r2 at*
 refine aa.enc func120 rfl (λlv=>kn lv _ _ _ _ _ _) λ_=>aah ?_;refine aac λK hK=>?_;refine aaT mixed zt rfl ?_;simp;refine ag.p 2 9 c1 ?_;simp;refine ag.p 2 9 c2 ?_;simp[MG,ai];refine⟨zt,?_⟩
 repeat refine az ?_
 apply hK;exact aal (aF.S7 (κ:=0) (t:=2) (k:=1) ⟨rfl,rfl⟩ zp yi)
theorem sub_neg(a b:Iv):a.sub b=a.add b.neg:=by
 unfold Iv.sub Iv.add Iv.neg;rw[afs,afs]
theorem Dm(G:List (List DV))(a b:Iv)(ha:a.sz 10000000000)(hb:b.sz 10000000000):aa prog G 123 [cg a,cg b] (cg (a.sub b)):=by
 have c1:=C3 G b;have c2:=mh G a b.neg ha ⟨fk hb.2,fk hb.1⟩;rw[sub_neg];generalize a.add b.neg=r at*
 generalize b.neg=u at*
 refine aa.enc func123 rfl (λlv=>kn lv _ _ _ _ _ _) λ_=>aah ?_;refine aac λK hK=>?_;refine aaT mixed zt rfl ?_;simp;refine ag.p 3 9 c1 ?_;simp;refine ag.p 3 9 c2 ?_;simp[ai];refine⟨zt,?_⟩
 repeat refine az ?_
 apply hK;exact aal (aF.S7 (κ:=0) (t:=4) (k:=2) ⟨rfl,rfl⟩ zp yi)
theorem Hp(G:List (List DV))(a:Iv)(ha:a.sz 20000000000):aa prog G 78 [cg a] (bQ a.size):=by
 have c1:=m5 G a.1;have c2:=m5 G a.2;rw[NS]at c1 c2;have c3:=vg G _ _ (fH ha.1) (fH ha.2);unfold Iv.size;generalize fh (b9 a.1) (b9 a.2)=r at*
 generalize b9 a.1=r1 at*
 generalize b9 a.2=r2 at*
 refine aa.enc func78 rfl (λlv=>bT lv _ _ _) λ_=>aah ?_;refine aac λK hK=>?_;refine aaT mixed zt rfl ?_;simp;refine ag.p 2 9 c1 ?_;simp;refine ag.p 2 9 c2 ?_;simp;refine ag.p 2 9 c3 ?_;simp[ai];refine⟨zt,?_⟩
 repeat refine az ?_
 apply hK;exact aal (aF.ref (κ:=0) (k:=1) rfl zp yi rfl)
theorem M9(G:List (List DV))(a:Iv)(ha:a.sz 20000000000):aa prog G 186 [cg a] (bQ a.near):=by
 have c1:=m5 G a.1;have c2:=m5 G a.2;rw[NS]at c1 c2;have c3:=vj G _ _ (fH ha.1) (fH ha.2);have ch:=KH G a 0 ha (gQ _ zr);have bz:bM prog 42 [] []=some (bQ 0,[],[],True):=Q8
 by_cases h0:a.has 0
 ·have e:a.near=0:=if_pos h0;rw[decide_eq_true h0]at ch;rw[e];generalize (0:Rat)=o at*
  refine aa.enc func186 rfl (λlv=>bT lv _ _ _) λ_=>aah ?_;refine aac λK hK=>aac λK1 hK1=>aai ?_;simp[bz];refine ag.p 2 9 ch ?_;simp[bz]
  repeat refine az ?_
  apply hK1;refine aaE (aac λK1 hK1=>aai ?_);simp[bz]
  repeat refine az ?_
  apply hK1;exact aal (aF.ref (κ:=0) (k:=1) rfl zp yi rfl)
 ·have e:a.near=eM (b9 a.1) (b9 a.2):=if_neg h0;rw[decide_eq_false h0]at ch;rw[e];generalize (0:Rat)=o at*
  generalize eM (b9 a.1) (b9 a.2)=r at*
  generalize b9 a.1=r1 at*
  generalize b9 a.2=r2 at*
  refine aa.enc func186 rfl (λlv=>bT lv _ _ _) λ_=>aah ?_;refine aac λK hK=>abx 2 ch bz ?_;refine aax (aan (hK _ _ (aac λK hK=>?_)));refine aaT mixed zt rfl ?_;simp;refine ag.p 2 9 c1 ?_;simp;refine ag.p 2 9 c2 ?_;simp;refine ag.p 2 9 c3 ?_;simp[ai];refine⟨zt,?_⟩
  repeat refine az ?_
  apply hK;exact aal (aF.ref (κ:=0) (k:=1) rfl zp yi rfl)
theorem Rx(G:List (List DV))(a:Iv)(ha:a.sz 20000000000):aa prog G 121 [cg a] (cg a.abs):=by
 have c1:=M9 G a ha;have c2:=Hp G a ha;unfold Iv.abs;generalize a.near=r1 at*
 generalize a.size=r2 at*
 refine aa.enc func121 rfl (λlv=>kn lv _ _ _ _ _ _) λ_=>aah ?_;refine aac λK hK=>?_;refine aaT mixed zt rfl ?_;simp;refine ag.p 2 9 c1 ?_;simp;refine ag.p 2 9 c2 ?_;simp[MG,ai];refine⟨zt,?_⟩
 repeat refine az ?_
 apply hK;exact aal (aF.S7 (κ:=0) (t:=2) (k:=1) ⟨rfl,rfl⟩ zp yi)
theorem DI(m:Int)(a:Iv)(bits:Int)(ha:a.sz 6000):aa prog (GG m) 60 [cg a,.c (.d (.int .i64 bits))] (cg (ja a.1 bits,DW a.2 bits)):=by
 have c1:=B8 m a.1 bits ha.1;have c2:=S8 m a.2 bits ha.2;generalize ja a.1 bits=r1 at*
 generalize DW a.2 bits=r2 at*
 refine aa.enc func60 rfl (λlv=>kn lv _ _ _ _ _ _) λ_=>aah ?_;refine aac λK hK=>?_;refine aaT mixed zt rfl ?_;simp;refine ag.p 2 9 c1 ?_;simp;refine ag.p 2 9 c2 ?_;simp[MG,ai];refine⟨zt,?_⟩
 repeat refine az ?_
 apply hK;exact aal (aF.S7 (κ:=0) (t:=4) (k:=1) ⟨rfl,rfl⟩ zp yi)
theorem vm(G:List (List DV))(x y:Rat)(hx:bF x 10000000000)(hy:bF y 10000000000):aa prog G 191 [bQ x,bQ y] (bQ (x/y)):=by
 have c1:=Lg G x y hx hy;generalize x/y=z at*
 generalize (if y=0 then(8:Int)else 0)=e at*
 refine aa.enc func191 rfl (λlv=>bT lv _ _ _) λ_=>aah ?_;refine aac λK hK=>abI 3 c1 @ai.eq_1 (hK _ _ ?_)
 refine aac λK hK=>aby @ai.eq_1 (hK _ _ ?_)
 exact aal (aF.ref (κ:=0) (k:=2) rfl zp yi rfl)
theorem k9(G:List (List DV))(x:Rat):aa prog G 56 [bQ x] (cg (x,x)):=by
 refine aa.enc func56 rfl (λlv=>kn lv _ _ _ _ _ _) λ_=>aah ?_;refine aac λK hK=>abG @MG @ai.eq_1 (hK _ _ ?_)
 exact aal (aF.S7 (κ:=0) (t:=2) (k:=1) ⟨rfl,rfl⟩ zp yi)
def kQ(x:Rat):List DV:=[.int .i64 (cu x),rD (cw x),rD (cU x)]
abbrev tJ(l:List Rat):AV:=.c (.d (.sl (l.map kQ)))
theorem abL(l:List Rat)(lv:Key->LB):eT prog 212 lv (tJ l)=some (.c (.d (.int .i64 l.length)),[],[],True):=by
 simp[eT,jU,keyOf]
theorem XC(l:List Rat)(lv:Key->LB)(i:Nat)(x:Rat)(h:l[i]?=some x):aq prog 212 lv (tJ l) (.c (.d (.int .i64 (i:Int))))=some (.c (.d (.ptr (kQ x))),[],[],True):=by
 obtain⟨hi,e⟩:=List.getElem?_eq_some_iff.1 h;have hi':(i:Int)<(l.length:Int):=zd
 simp[hi,e,kQ]
theorem KS(G:List (List DV))(l:List Rat)(x0:Rat)(h0:l[0]?=some x0)(hn:l.length<=1000)(hs:∀x∈l,bF x 20000000000):
 aa prog G 189 [tJ l] (cg (wY (l.drop 1) x0,xe (l.drop 1) x0)):=by
 have hl:0<l.length:=(List.getElem?_eq_some_iff.1 h0).1;have c0:=k9 G x0;have hix0:∀lv,aq prog 212 lv (tJ l) (.c (.d (.int .i64 0)))=some (.c (.d (.ptr (kQ x0))),[],[],True):=λlv=>XC l lv 0 x0 h0
 generalize hR:wY (l.drop 1) x0=R;generalize hS:xe (l.drop 1) x0=S;refine aa.enc func189 rfl (λlv=>kn lv _ _ _ _ _ _) λ_=>aah ?_;refine aac λK hK=>aai ?_;simp[hix0,kQ,<-th];refine ag.p 1 9 c0 ?_;simp[ai]
 repeat refine az ?_
 apply hK;refine aac λK hK=>aac λK1 hK1=>aai ?_;simp
 repeat refine az ?_
 apply hK1;refine aaw ?_
 refine aaY (λ(p:Nat×Rat×Rat)=>⟨aT [(0,tJ l),(2,.c (.ptr 0 0)),(3,.c (.ptr 1 0)),(4,.c (.d (.int .i64 (p.1:Int))))],
  aM (aM (λ_=>.hole) 0 (.cells true false 44 [.d (.int .i64 0),.d .nilsl,.d .nilsl,.d (.int .i64 0),.d .nilsl,.d .nilsl])) 1 (.cells true false 44 [.d (.int .i64 (cu p.2.1)),rC (cw p.2.1),rC (cU p.2.1),.d (.int .i64 (cu p.2.2)),rC (cw p.2.2),rC (cU p.2.2)])⟩) 2
  (λp=>1<=p.1/\p.1<=l.length/\bF p.2.1 20000000000/\bF p.2.2 20000000000/\wY (l.drop p.1) p.2.1=R/\xe (l.drop p.1) p.2.2=S) (λp=>l.length-p.1) (1,x0,x0) (Le.fJ _) ⟨bf _,hl,hs _ (aet h0),hs _ (aet h0),hR,hS⟩ ?_
 rintro⟨i,u,v⟩ ⟨h1,h2,h3,h4,h5,h6⟩;simp only at h1 h2 h3 h4 h5 h6;refine aac λK2 hK2=>aaN @abL ?_
 by_cases hlt:i<l.length
 ·have hlt':(i:Int)<(l.length:Int):=by omega
  obtain⟨x,hx⟩:∃x,l[i]?=some x:=⟨_,fy hlt⟩
  have hxs:=hs _ (aet hx);have hix:=λlv=>XC l lv i x hx
  have k1:=vj G u x h3 hxs;have k2:=vg G v x h4 hxs;have f12:=bP (n:=(i:Int)+1) zd zd;have z1:=mC h3 hxs;have z2:=lp h4 hxs;have e1:wY (l.drop (i+1)) (eM u x)=R:=by rw[rL,<-wv hx];exact h5
  have e2:xe (l.drop (i+1)) (fh v x)=S:=by rw[<-xh hx];exact h6
  generalize eM u x=u1 at*
  generalize fh v x=v1 at*
  refine aaB xn (aan (hK2 _ _ (aac λK4 hK4=>aaw ?_)));refine aaT mixed zt rfl ?_;simp[hix,kQ,<-th];refine ag.p 2 9 k1 ?_;simp[hix,kQ,<-th];refine ag.p 2 9 k2 ?_;simp[MG,ai];refine⟨zt,?_⟩
  repeat refine az ?_
  apply hK4;refine aai ?_;simp[f12];exact⟨i+1,u1,v1,Le.fJ _ yi,⟨zd,zd,z1,z2,e1,e2⟩,zd⟩
 ·have hlt':¬(i:Int)<(l.length:Int):=by omega
  have hd:l.drop i=[]:=aeQ zd;rw[hd]at h5 h6;have h5:u=R:=h5;have h6:v=S:=h6;refine aaD xn (aaR (hK _ _ (aac λK hK=>aby @ai.eq_1 (hK _ _ ?_))));subst h5;subst h6;exact aal (aF.S7 (κ:=0) (t:=2) (k:=0) ⟨rfl,rfl⟩ zp yi)
def cD(a:Iv):List DV:=[.int .i64 (cu a.1),rD (cw a.1),rD (cU a.1),.int .i64 (cu a.2),rD (cw a.2),rD (cU a.2)]
theorem rF(a:Iv):(cD a).map CV.d=[.d (.int .i64 (cu a.1)),rC (cw a.1),rC (cU a.1),.d (.int .i64 (cu a.2)),rC (cw a.2),rC (cU a.2)]:=by simp only[th];rfl
def nX(l:List Iv):List CV:=(l.map cD).flatten.map CV.d
def oT(l:List Iv):LB:=if l=[]then .hole else .cells true false 44 (nX l)
def TG(l:List Iv):AV:=if l=[]then .c (.d .nilsl)else .c (.aO 0 0 l.length 6)
def Hr(l:List Iv):Option (List (List DV)):=if l=[]then none else some (l.map cD)
theorem vY(l:List Iv):(nX l).length=l.length*6:=by
 unfold nX;rw[sC,BW (z:=6) wc,sC]
theorem qm(l:List Iv)(a:Iv):nX l++[.d (.int .i64 (cu a.1)),rC (cw a.1),rC (cU a.1),.d (.int .i64 (cu a.2)),rC (cw a.2),rC (cU a.2)]=nX (l++[a]):=by
 unfold nX;rw[<-rF];simp
theorem lI(l:List Iv)(a:Iv):oT (l++[a])=.cells true false 44 (nX (l++[a])):=by
 unfold oT;rw[if_neg zp]
theorem Hg(l:List Iv)(a:Iv):TG (l++[a])=.c (.aO 0 0 (l.length+1) 6):=by
 unfold TG;rw[if_neg zp];simp
theorem nS(l:List Iv)(g:Key->Key):(nX l).map (CV.dA g)=nX l:=by
 unfold nX;rw[adT];rfl
theorem E4(lv:Key->LB)(κ:Key)(h:lv κ=.hole)(a b c d e f:CV):aB prog 54 1 [0] lv κ [.agg [a,b,c,d,e,f]]=some (.c (.aO κ 0 1 6),[(κ,.cells true false 44 [a,b,c,d,e,f])],[],True):=by
 unfold aB;rw[h];kernel_rfl
theorem uS{k:Key}{own fz:Bool}{l:List Iv}(h:lv k=.cells own fz T (nX l))(hl:l.length<=9223372036854775807)(h0:l≠[]):gq lv (.c (.aO k 0 l.length 6))=some (.c (dc (Hr l)),[k]):=by
 have:=ob (es:=l.map cD) (sz:=6) h wc (by rw[sC];exact hl);rw[sC]at this;rw[this];unfold Hr;rw[if_neg h0];rfl
def MH(s:Sp):Int:=if cz s.1=0 then cz s.2 else cz s.1
def fE:List Sp->Int
 |[]=>0
 |s::l=>if MH s≠0 then MH s else fE l
def gE:List Sp->Int
 |[]=>0
 |s::l=>if od s.1 s.2≠0 then od s.1 s.2 else gE l
def RT(l:List Sp):Int:=if fE l≠0 then fE l else gE l
theorem Ly(G:List (List DV))(b:Option (List Sp))(hb:(bH b).length<=1048576):aa prog G 35 [.c (dc (uh b))] (.tup [.c (dc (if RT (bH b)=0 then Hr (gM (bH b))else none)),.c (.d (.int .i64 (RT (bH b))))]):=by
 have hlp:=λlv=>Ra lv b
 have hix:=λlv {i:Nat}(hi:i<(bH b).length)=>YN lv b hi
 refine aa.ed func35 rfl λ_=>aah ?_;refine aac λK hK=>aah ?_;refine aaw ?_
 refine aaY (λ(i:Nat)=>⟨aT [(0,.c (dc (uh b))),(4,.c (.d (.int .i64 i)))],λ_=>.hole⟩) 0
  (λi=>i<=(bH b).length/\fE ((bH b).drop i)=fE (bH b)) (λi=>(bH b).length-i) 0 (Le.fJ _) ⟨ab5 _,rfl⟩ ?_
 rintro i ⟨hi,hb2⟩
 try simp only at hi hb2 ⊢
 refine aac λK3 hK3=>aaN hlp ?_
 by_cases hlt:i<(bH b).length
 ·have hlt':(i:Int)<((bH b).length:Int):=by omega
  have hx:=λlv=>hix lv hlt
  have f12:=bP (n:=(i:Int)+1) zd zd;have hd:(bH b).drop i=(bH b)[i]::(bH b).drop (i+1):=adP hlt;rw[hd]at hb2;have c1:=rJ G (bH b)[i].1;have c2:=rJ G (bH b)[i].2;generalize (bH b)[i]=s at*
  refine aaB xn (aan (hK3 _ _ (aac λK5 hK5=>aaw (aaF λK6 hK6=>?_))));simp[hx,Ll];refine ag.p 3 9 c1 ?_;simp
  repeat refine az ?_
  apply hK6;refine aac λK6 hK6=>aah ?_
  by_cases h1:cz s.1=0
  ·refine aaB em (aai ?_);simp[hx,Ll];refine ag.p 3 9 c2 ?_;simp
   repeat refine az ?_
   apply hK6;refine aah ?_
   by_cases h2:cz s.2=0
   ·refine aaD (by simp[h2]<;>omega) (aan (hK5 _ _ (aai ?_)));simp[f12];have hc:MH s=0:=by unfold MH;rw[if_pos h1];exact h2
    exact⟨i+1,Le.fJ _,⟨zd,by rw[<-hb2,fE,if_neg (not_not_intro hc)]⟩,zd⟩
   ·have hc:MH s=cz s.2:=by unfold MH;rw[if_pos h1]
    have hbe:fE (bH b)=cz s.2:=by rw[<-hb2,fE,if_pos (by rw[hc];exact h2),hc]
    have hre0:RT (bH b)=cz s.2:=by unfold RT;rw[hbe,if_pos h2]
    refine aaB (by simp[h2]<;>omega) (aah ?_);rw[hre0,if_neg h2];exact aal (κ:=0) (cq.iJ (κ:=0) (X:=.c (.d .nilsl)) (Y:=.c (.d (.int .i64 (cz s.2)))) (ks:=[]) rfl zp zp rfl rfl rfl)
  ·refine aaD em (aan (hK6 _ _ (aah ?_)));have hc:MH s=cz s.1:=by unfold MH;rw[if_neg h1]
   have hbe:fE (bH b)=cz s.1:=by rw[<-hb2,fE,if_pos (by rw[hc];exact h1),hc]
   have hre0:RT (bH b)=cz s.1:=by unfold RT;rw[hbe,if_pos h1]
   refine aaB em (aah ?_);rw[hre0,if_neg h1];exact aal (κ:=0) (cq.iJ (κ:=0) (X:=.c (.d .nilsl)) (Y:=.c (.d (.int .i64 (cz s.1)))) (ks:=[]) rfl zp zp rfl rfl rfl)
 have hlt':¬(i:Int)<((bH b).length:Int):=zd
 have hie:i=(bH b).length:=zd
 subst hie;have hf0:fE (bH b)=0:=py
 have hre:RT (bH b)=gE (bH b):=by unfold RT;rw[hf0];rfl
 refine aaD xn (aaR (hK _ _ (aah ?_)));refine aac λK hK=>aah ?_;refine aaw ?_
 refine aaY (λ(i:Nat)=>⟨aT [(0,.c (dc (uh b))),(6,TG (gM ((bH b).take i))),(7,.c (.d (.int .i64 i)))],aM (λ_=>.hole) 0 (oT (gM ((bH b).take i)))⟩) 1
  (λi=>i<=(bH b).length/\gE ((bH b).drop i)=gE (bH b)) (λi=>(bH b).length-i) 0 (Le.fJ _ (by simp only[List.take_zero,gM,ael,oT,if_true];exact(NQ rfl).symm) (by simp[TG,gM])) ⟨ab5 _,rfl⟩ ?_
 rintro i ⟨hi,hb2⟩
 try simp only at hi hb2 ⊢
 refine aac λK4 hK4=>aaN hlp ?_
 by_cases hlt:i<(bH b).length
 ·have hlt':(i:Int)<((bH b).length:Int):=by omega
  have hx:=λlv=>hix lv hlt
  have hnx:=GR hlt;have hll:(gM ((bH b).take i)).length=i:=by unfold gM;rw[sC,acM];omega
  have f12:=bP (n:=(i:Int)+1) zd zd;have hd:(bH b).drop i=(bH b)[i]::(bH b).drop (i+1):=adP hlt;rw[hd]at hb2;have hof:=Uf G (bH b)[i].1 (bH b)[i].2;generalize (bH b)[i]=s at*
  generalize gM ((bH b).take i)=l at*
  refine aaB xn (aan (hK4 _ _ (aac λK6 hK6=>aaw (aaF λK7 hK7=>?_))));simp[hx,Ll];refine ag.p 10 9 hof ?_;simp[ai]
  repeat refine az ?_
  apply hK7;refine aac λK7 hK7=>aah ?_
  by_cases h0:od s.1 s.2=0
  ·refine aaD ws (aan (hK7 _ _ ?_));have hg:gE ((bH b).drop (i+1))=gE (bH b):=by rw[<-hb2,gE,if_neg (not_not_intro h0)]
   by_cases hl:l=[]
   ·subst hl;refine aai ?_;simp[oT,TG,E4,cC,keyOf,ai,-aB]
    repeat refine az ?_
    apply hK6;refine aai ?_;simp[f12]
    exact⟨i+1,Le.keys [(0,13,oT ([]++[v8 s.1 s.2]))] 19 _ rf rfl zp zp zp (by
     intro e he;simp only[aZ,bw,or_false]at he;subst he;rw[lI];simp[nX,rF]) (by rw[hnx,Hg];simp[aV]),⟨zd,hg⟩,zd⟩
   ·have hzb:oT l=.cells true false 44 (nX l):=if_neg hl;have hzs:TG l=.c (.aO 0 0 l.length 6):=if_neg hl;have hzl:=vY l;refine aai ?_;simp[hzb,hzs,E4,cC,keyOf,hzl,ai,-aB]
    repeat refine az ?_
    apply hK6;refine aai ?_;simp[f12]
    exact⟨i+1,Le.keys [(0,13,oT (l++[v8 s.1 s.2]))] 19 _ rf rfl zp zp zp (by
     intro e he;simp only[aZ,bw,or_false]at he;subst he;rw[lI,<-qm];simp[nS]) (by rw[hnx,Hg];simp[aV]),⟨zd,hg⟩,zd⟩
  ·have hbe:gE (bH b)=od s.1 s.2:=by rw[<-hb2,gE,if_pos h0]
   refine aaB ws (aah ?_);rw[hre,hbe,if_neg h0];exact aal (κ:=0) (cq.iJ (κ:=0) (X:=.c (.d .nilsl)) (Y:=.c (.d (.int .i64 (od s.1 s.2)))) (ks:=[]) rfl zp zp rfl rfl rfl)
 have hlt':¬(i:Int)<((bH b).length:Int):=zd
 have hie:i=(bH b).length:=zd
 subst hie;have hg0:gE (bH b)=0:=py
 rw[afQ];refine aaD xn (aaR (hK _ _ (aah ?_)));rw[hre,hg0,if_pos rfl]
 by_cases hl:gM (bH b)=[]
 ·rw[hl];exact aal (κ:=0) (cq.iJ (κ:=0) (X:=.c (.d .nilsl)) (Y:=.c (.d (.int .i64 0))) (ks:=[]) rfl (by simp[TG,hl]) zp rfl rfl rfl)
 ·have hzb:oT (gM (bH b))=.cells true false 44 (nX (gM (bH b))):=if_neg hl;have hzs:TG (gM (bH b))=.c (.aO 0 0 (gM (bH b)).length 6):=if_neg hl;exact aal (κ:=0) (cq.iJ (κ:=0) (Y:=.c (.d (.int .i64 0))) rfl (by simp[hzs]) zp rfl rfl (Aq (e:=0) (uS (k:=0) (own:=true) (fz:=false) (T:=44) (by simp[hzb]) (by simp[gM];omega) hl)))
theorem lA(l:List Sp):(gM l).length=l.length:=by simp[gM]
theorem Hq{sz:Nat}{es:List (List DV)}(h:∀e∈es,e.length=sz):cC lv sz (.c (.d (.sl es)))=some (es.length,es.flatten.map CV.d):=by
 have:es.all (·.length==sz)=true:=List.all_eq_true.2 λe he=>by simpa using h e he
 show(if es.all (·.length==sz)=true then _ else _)=_;rw[if_pos this]
theorem Md(es:List (List DV))(g:Key->Key):(es.flatten.map CV.d).map (CV.dA g)=es.flatten.map CV.d:=by
 rw[adT];rfl
theorem Iz(E:TypeId)(es:List (List DV))(g:Key->Key):(LB.cells true false E (es.flatten.map CV.d)).like (.cells true false E (es.flatten.map CV.d)) g:=LB.aN.2 ⟨rfl,rfl,(Md es g).symm,id⟩
theorem fixC(T:TypeId)(cs:List CV):LB.fix true (.cells true false T cs)=.cells true false T cs:=rfl
theorem jL(o:Option (List Nat)):CV.d (rD o)=rC o:=(th o).symm
theorem wz(G:List (List DV))(x:Rat):aa prog G 83 [bQ x] (.c (.d (.int .i64 (cu x)))):=by
 refine aa.en func83 rfl λ_=>aah ?_;refine aah ?_;exact aaq (aD.rt rfl 2 zp)
theorem Lr(G:List (List DV))(a:Iv)(h:a.z):aa prog G 77 [cg a] (bQ (a.2-a.1)):=by
 have c1:=Fy G a.2 a.1 (szD h.2) (szD h.1);obtain⟨a1,a2⟩:=a;simp only at c1;refine aa.enc func77 rfl (λlv=>bT lv _ _ _) λ_=>aah ?_;refine abx 4 c1 @ai.eq_1 ?_;exact aal (aF.ref (k:=1) rfl zp yi rfl)
theorem JP:0<cu x↔0<x:=by
 have hn:0<x.num↔0<x:=by
  constructor
  ·intro h;refine Rat.not_le.1 λh2=>?_;have h3:=Rat.le_antisymm h2 (Rat.num_nonneg.1 zd);rw[h3]at h;exact absurd h zr
  ·intro h;have h1:=Rat.num_nonneg.2 (afP h);have h2:x.num≠0:=λe=>by rw[Rat.num_eq_zero.1 e]at h;exact absurd h zr
   omega
 unfold cu
 by_cases h:x.num=0
 ·rw[if_pos h];constructor
  ·intro h';omega
  ·intro h';have:=hn.2 h';omega
 ·rw[if_neg h];split
  ·constructor
   ·intro h';omega
   ·intro h';have:=hn.2 h';omega
  ·constructor
   ·intro _;exact hn.1 zd
   ·intro _;omega
theorem DU(G:List (List DV))(w x y z:Rat)(h1:bF w 20000)(h2:bF x 20000)(h3:bF y 20000)(h4:bF z 20000):
 aa prog G 189 [tJ [w,x,y,z]] (cg (gG w x y z)):=by
 have hs:∀u∈[w,x,y,z],bF u 20000:=by
  intro u hu;simp only[aZ,bw,or_false]at hu;rcases hu with rfl|rfl|rfl|rfl<;>assumption
 have c1:=KS G [w,x,y,z] w rfl zp λu hu=>au (hs u hu) zr
 rw[<-Cp];exact c1
theorem ag.Oi{f:FuncId}{K:AV->List (Key×LB)->List Key->Nat->Prop}(κ' kh κb:Key){w y z:Rat}{X:AV}
 (hk:lv κb=.cells true false T (((kQ w++kQ x)++(kQ y++kQ z)).map CV.d)) (hc:aa c.P c.G f [tJ [w,x,y,z]] X) (hX:X.pure=true) (hh:lv kh=.hole) (hkh:kh≠κb)
 (hK:K X [(κb,.cells true true T (((kQ w++kQ x)++(kQ y++kQ z)).map CV.d))] [kh] κ'):ag c f [.c (.aO κb 0 4 3)] lv K:=by
 refine ag.MD κ' kh κb T _ [kh] hc hX hk hh hkh rfl (λi p q=>?_) (λa ha j hj=>?_) zp hK
 ·have hi:i=0:=by simp at p;omega
  subst hi;right;simp only[aeC,fO,fX,aI];rfl
 ·simp only[aeH]at ha;subst ha;simp only[ql,jB,aZ,aI]at hj;rcases hj with rfl|hj
  ·exact .inr rfl
  ·simp only[aeO]at hj;obtain⟨y,hy,hj⟩:=hj;simp only[aeA]at hy;obtain⟨z,_,rfl⟩:=hy
   cases hj
theorem I8(a b c d e f g h i j k l:CV):ic (λi=>some (i*3,3)) (gh 4 [.d (.int .i64 0),.d .nilsl,.d .nilsl]) [(0,.agg [a,b,c]),(1,.agg [d,e,f]),(2,.agg [g,h,i]),(3,.agg [j,k,l])]=some [a,b,c,d,e,f,g,h,i,j,k,l]:=zt
theorem KU{b:Iv}(la:a.1<=a.2)(lb:b.1<=b.2):gG a.1 a.2 b.1 b.2=a.join b:=by
 simp only[gG,Iv.join,eM,fh,rK];constructor<;>grind
theorem Lv(w x y z:Rat):gG w x y z=gG x w z y:=by
 simp only[gG,eM,fh,rK];constructor<;>grind
theorem NV(G:List (List DV))(a b:Iv)(ha:a.sz 20000)(hb:b.sz 20000)(la:a.1<=a.2)(lb:b.1<=b.2):aa prog G 129 [cg a,cg b] (cg (a.join b)):=by
 have hh:=DU G a.1 a.2 b.1 b.2 ha.1 ha.2 hb.1 hb.2;rw[KU la lb]at hh;generalize a.join b=r at*
 refine aa.enc func129 rfl (λlv=>kn lv _ _ _ _ _ _) λ_=>aah ?_;refine aac λK hK=>aai ?_;simp[I8];refine ag.Oi (T:=42) 4 9 3 (w:=a.1) (x:=a.2) (y:=b.1) (z:=b.2) ?_ hh ?_ ?_ ?_ ?_
 ·simp[kQ,th]
 ·simp
 ·simp
 ·decide
 simp[ai]
 repeat refine az ?_
 apply hK;exact aal (aF.S7 (κ:=0) (t:=4) (k:=2) ⟨rfl,rfl⟩ zp yi)
theorem mA(G:List (List DV))(a b:Iv)(ha:a.sz 5000)(hb:b.sz 5000):aa prog G 124 [cg a,cg b] (cg (a.mul b)):=by
 have u:∀{x:Rat},bF x 5000->bF x 10000000000:=λh=>au h zr
 have v:∀{x y:Rat},bF x 5000->bF y 5000->bF (x*y) 20000:=λh h'=>au (pI h h') zr
 have m1:=oR G a.1 b.1 (u ha.1) (u hb.1);have m2:=oR G a.1 b.2 (u ha.1) (u hb.2);have m3:=oR G a.2 b.1 (u ha.2) (u hb.1);have m4:=oR G a.2 b.2 (u ha.2) (u hb.2);have hh:=DU G _ _ _ _ (v ha.1 hb.1) (v ha.1 hb.2) (v ha.2 hb.1) (v ha.2 hb.2);change aa _ _ _ _ (cg (a.mul b))at hh;generalize a.mul b=r at*
 generalize a.1*b.1=u1 at*
 generalize a.1*b.2=u2 at*
 generalize a.2*b.1=u3 at*
 generalize a.2*b.2=u4 at*
 refine aa.enc func124 rfl (λlv=>kn lv _ _ _ _ _ _) λ_=>aah ?_;refine aac λK hK=>?_;refine aaT mixed zt rfl ?_;simp;refine ag.p 3 9 m1 ?_;simp;refine ag.p 3 9 m2 ?_;simp;refine ag.p 3 9 m3 ?_;simp;refine ag.p 3 9 m4 ?_;simp[I8];refine ag.Oi (T:=42) 4 9 3 (w:=u1) (x:=u2) (y:=u3) (z:=u4) ?_ hh ?_ ?_ ?_ ?_
 ·simp[kQ,th]
 ·simp
 ·simp
 ·decide
 simp[ai];refine⟨zt,?_⟩
 repeat refine az ?_
 apply hK;exact aal (aF.S7 (κ:=0) (t:=4) (k:=2) ⟨rfl,rfl⟩ zp yi)
theorem Dp(G:List (List DV))(a b:Iv)(ha:a.sz 5000)(hb:b.sz 5000):aa prog G 125 [cg a,cg b] (.tup [cg (nq a b),.c (.d (.int .i64 (if b.has 0 then 8 else 0)))]):=by
 have u:∀{x:Rat},bF x 5000->bF x 10000000000:=λh=>au h zr
 have v:∀{x y:Rat},bF x 5000->bF y 5000->bF (x/y) 20000:=λh h'=>au (KF h h') zr
 have k2:=KH G b 0 (Iv.aC hb zr) (gQ _ zr);have bz:bM prog 42 [] []=some (bQ 0,[],[],True):=Q8
 by_cases h0:b.has 0
 ·rw[if_pos h0,show nq a b=(0,0) from if_pos h0];rw[decide_eq_true h0]at k2;have bz2:bM prog 44 [] []=some (cg (0,0),[],[],True):=tD;generalize hz:((0:Rat),(0:Rat))=z at*
  generalize (0:Rat)=o at*
  refine aa.enc func125 rfl (λlv=>bW lv _ _ _ _ _ _ _ rfl) λ_=>aah ?_;refine aac λK hK=>abx 3 k2 bz ?_;refine aaE (aaN bz2 ?_);exact aal (aF.fI (κ:=0) (t:=4) (k:=2) (u:=5) ⟨rfl,rfl⟩ zp yi zp)
 ·rw[if_neg h0,show nq a b=a.quo b from if_neg h0];rw[decide_eq_false h0]at k2;have m1:=vm G a.1 b.1 (u ha.1) (u hb.1);have m2:=vm G a.1 b.2 (u ha.1) (u hb.2);have m3:=vm G a.2 b.1 (u ha.2) (u hb.1);have m4:=vm G a.2 b.2 (u ha.2) (u hb.2);have hh:=DU G _ _ _ _ (v ha.1 hb.1) (v ha.1 hb.2) (v ha.2 hb.1) (v ha.2 hb.2)
  have hq:gG (a.1/b.1) (a.1/b.2) (a.2/b.1) (a.2/b.2)=a.quo b:=by
   unfold Iv.quo Iv.mul;simp only[E8];rw[Lv]
  rw[hq]at hh;generalize a.quo b=r at*
  generalize a.1/b.1=u1 at*
  generalize a.1/b.2=u2 at*
  generalize a.2/b.1=u3 at*
  generalize a.2/b.2=u4 at*
  generalize (0:Rat)=o at*
  refine aa.enc func125 rfl (λlv=>bW lv _ _ _ _ _ _ _ rfl) λ_=>aah ?_;refine aac λK hK=>abx 3 k2 bz ?_;refine aax (aan (hK _ _ (aac λK hK=>?_)));refine aaT mixed zt rfl ?_;simp;refine ag.p 3 9 m1 ?_;simp;refine ag.p 3 9 m2 ?_;simp;refine ag.p 3 9 m3 ?_;simp;refine ag.p 3 9 m4 ?_;simp[I8];refine ag.Oi (T:=42) 4 9 3 (w:=u1) (x:=u2) (y:=u3) (z:=u4) ?_ hh ?_ ?_ ?_ ?_
  ·simp[kQ,th]
  ·simp
  ·simp
  ·decide
  simp[ai];refine⟨zt,?_⟩
  repeat refine az ?_
  apply hK;exact aal (aF.fI (κ:=0) (t:=4) (k:=2) (u:=5) ⟨rfl,rfl⟩ zp yi zp)
theorem Nk(m:Int)(a:Iv)(bits:Int)(la:a.1<=a.2)(h1:bF a.1 300)(h2:bF a.2 300):aa prog (GG m) 122 [cg a,.c (.d (.int .i64 bits))] (.tup [cg (LX a bits),.c (.d (.int .i64 (Hu a.1)))]):=by
 have c0:=wz (GG m) a.1
 have hs:cu a.1<0↔a.1<0:=by
  rw[<-Rat.not_le,<-afO];unfold cu;omega
 unfold LX
 by_cases h:a.1<0
 ·rw[if_pos h,show Hu a.1=9 from if_pos h];have hs1:=hs.2 h;have bz2:bM prog 44 [] []=some (cg (0,0),[],[],True):=tD;refine aa.enc func122 rfl (λlv=>bW lv _ _ _ _ _ _ _ rfl) λ_=>aah ?_;refine aac λK hK=>abx 2 c0 hs1 ?_;refine aaB (by simp[hs1]<;>omega) (aaN bz2 ?_);exact aal (aF.fI (κ:=0) (t:=4) (k:=1) (u:=5) ⟨rfl,rfl⟩ zp yi zp)
 ·rw[if_neg h,show Hu a.1=0 from if_neg h];have hs1:¬cu a.1<0:=λh'=>h (hs.1 h')
  have c1:=BR m a.1 bits (Rat.not_lt.1 h) h1;have c2:=Fb m a.2 bits (aeW (Rat.not_lt.1 h) la) h2;generalize gH a.1 bits false=r1 at*
  generalize gH a.2 bits true=r2 at*
  refine aa.enc func122 rfl (λlv=>bW lv _ _ _ _ _ _ _ rfl) λ_=>aah ?_;refine aac λK hK=>abx 2 c0 hs1 ?_;refine aaD (by simp[hs1]<;>omega) (aan (hK _ _ (aac λK hK=>?_)));refine aaT mixed zt rfl ?_;simp;refine ag.p 2 9 c1 ?_;simp;refine ag.p 2 9 c2 ?_;simp[MG,ai];refine⟨zt,?_⟩
  repeat refine az ?_
  apply hK;exact aal (aF.fI (κ:=0) (t:=4) (k:=1) (u:=5) ⟨rfl,rfl⟩ zp yi zp)
theorem NU(r:List UInt8):cz r≠7:=by
 unfold cz fD
 (repeat' split)<;>decide
theorem OR(h:od s.1 s.2=0\/od s.1 s.2=7):MH s=0:=by
 have h1:=NU s.1;have h2:=NU s.2;unfold od at h;unfold MH
 by_cases e1:cz s.1=0
 ·rw[if_pos e1];rw[if_neg (not_not_intro e1)]at h
  by_cases e2:cz s.2=0
  ·exact e2
  ·rw[if_pos e2]at h;rcases h with h|h
   ·exact h
   ·exact absurd h h2
 ·rw[if_pos e1]at h;rcases h with h|h
  ·exact absurd h e1
  ·exact absurd h h1
theorem YB(h:od s.1 s.2≠0)(h7:od s.1 s.2≠7):MH s=od s.1 s.2:=by
 unfold od at*
 unfold MH
 by_cases e1:cz s.1=0
 ·rw[if_pos e1];rw[if_neg (not_not_intro e1)]at h h7 ⊢
  by_cases e2:cz s.2=0
  ·rw[if_neg (not_not_intro e2)]at h h7;split at h<;>simp_all
  ·rw[if_pos e2]
 ·rw[if_neg e1,if_pos e1]
theorem Iq:∀(l:List Sp) (w:Int),w=0\/w=7->pZ l w=if fE l≠0 then fE l else if w=7 then 7 else gE l
 |[],w,hw=>by
  rcases hw with rfl|rfl<;>rfl
 |s::l,w,hw=>by
  by_cases h7:od s.1 s.2=7
  ·have hc:=OR (.inr h7);have e1:fE (s::l)=fE l:=by rw[fE,if_neg (not_not_intro hc)]
   have e2:gE (s::l)=7:=by rw[gE,if_pos (by rw[h7];decide),h7]
   rw[pZ,if_pos h7,Iq l 7 (.inr rfl),e1,e2,if_pos rfl];simp
  ·by_cases h0:od s.1 s.2=0
   ·have hc:=OR (.inl h0);rw[pZ,if_neg h7,if_neg (not_not_intro h0),Iq l w hw,fE,if_neg (not_not_intro hc),gE,if_neg (not_not_intro h0)]
   ·have hc:=YB h0 h7;have e1:fE (s::l)=od s.1 s.2:=by rw[fE,if_pos (by rw[hc];exact h0),hc]
    rw[pZ,if_neg h7,if_pos h0,e1,if_pos h0]
theorem V1(l:List Sp):RT l=pZ l 0:=by
 rw[Iq l 0 (.inl rfl),if_neg (show ¬(0:Int)=7 by decide)];rfl
theorem HR(G:List (List DV))(b:Option (List Sp))(hb:(bH b).length<=1048576):aa prog G 35 [.c (dc (uh b))] (.tup [.c (dc (if pZ (bH b) 0=0 then Hr (gM (bH b))else none)),.c (.d (.int .i64 (pZ (bH b) 0)))]):=by
 have h:=Ly G b hb;rw[V1]at h;exact h
theorem Q0(n:Nat)(h:n<10):uq 1 n=[Ka n]:=by
 show [UInt8.ofNat (48+n%10)]=_;rw[ad4 h];rfl
theorem OM(n:Nat):eP n=kJ n:=by
 induction n using Nat.strongRecOn with
 |_ n ih=>
  by_cases h0:n=0
  ·subst h0;decide
  by_cases h10:n<10
  ·rw[CS h10,jw h0,wq h0,ae9 h10];exact Q0 n h10
  ·have hq:n/10≠0:=by omega
   rw[C4 h10,<-ih (n/10) zd,jw h0,jw hq,wq h0];have:=Ea (jV (n/10)) 1 n;rw[Nat.pow_one]at this;rw[this];rfl
theorem Um(x:Rat):ug x=yb x:=by unfold ug yb;simp only[OM]
theorem YD(s t s' t':List UInt8):Qn prog 20 72 (.agg [.d (.str s),.d (.str t)]) (.agg [.d (.str s'),.d (.str t')])=some ((s==s')&&((t==t')&&true)):=zt
theorem Xd(s t:List UInt8):aU prog .eql 72 (.agg [.d (.str s),.d (.str t)]) (.agg [.d (.str s),.d (.str t)])=some (.c (.d (.bool true)),[],[],True):=by
 simp[aU,YD,xz]
theorem Zb(a b:List UInt8):bM prog 72 [0,1] [.c (.d (.str a)),.c (.d (.str b))]=some (.agg [.d (.str a),.d (.str b)],[],[],True):=zt
theorem Y8(s:List UInt8):aU prog .eql 59 (.c (.d (.str s))) (.c (.d (.str s)))=some (.c (.d (.bool true)),[],[],True):=by
 simp[aU,P3,Ba]
theorem szE(h:bF x 300):bF x 1000000000:=au h zr
theorem Vd(a b:CV):iq prog 72 [a,b]=some (.agg [a,b]):=zt
theorem Jx(m:Int)(a:Iv)(h:a.z):aa prog (GG m) 36 [eo a] (.agg [.d (.str (ug a.1)),.d (.str (ug a.2))]):=by
 have c1:=Bn m a.1 (szE h.1);have c2:=Bn m a.2 (szE h.2);obtain⟨a1,a2⟩:=a;simp only at c1 c2;generalize ug a1=s at*
 generalize ug a2=t at*
 refine aa.enc func36 rfl (λlv=>rfl) λ_=>?_;refine aau mixed (eY c1 c2) (eY @ai.eq_1 @Zb) ?_;refine aal (aF.cell (κ:=0) (T:=72) (t:=2) (k:=1) (off:=0) (own:=true) (fz:=false) (U:=72) (cs:=[.d (.str s),.d (.str t)]) rfl zp yi ?_);rw[ady];exact Vd _ _
theorem Ob(m:Int):aa prog (GG m) 18 [eo (0,0),.c (.d (.str [48])),.c (.d (.str [48]))] (.c (.d (.bool true))):=by
 have c1:=Jx m (0,0) ⟨qX _ zr,qX _ zr⟩;have hu:ug 0=[48]:=zr
 simp only[hu]at c1;refine aa.en func18 rfl λ_=>?_;refine aau mixed c1 (eY @Zb @Xd) ?_;exact aaq (aD.rt rfl 6 zp)
theorem Oq(m:Int)(x:Rat)(h:bF x 300):aa prog (GG m) 37 [bu x,bQ x] (.c (.d (.bool true))):=by
 have c1:=Bn m x (szE h);have c2:=B0 (GG m) x (szC h);rw[<-Um]at c2;generalize ug x=s at*
 refine aa.en func37 rfl λ_=>?_;refine aau mixed (eY c1 c2) (eY c2 @Y8) ?_;exact aaq (aD.rt rfl 4 zp)
theorem QU(m:Int)(a:Iv)(h:a.z):aa prog (GG m) 19 [eo a,cg a] (.c (.d (.bool true))):=by
 have c1:=Yu (GG m) a;have c2:=XQ (GG m) a;have c3:=Oq m a.1 h.1;have c4:=Oq m a.2 h.2;obtain⟨a1,a2⟩:=a;simp only at c1 c2 c3 c4;refine aa.en func19 rfl λ_=>?_;refine aau mixed (mo c1 c3 c2 c4) (lD c3 c2 c4) ?_;exact aaq (aD.rt rfl 4 zp)
theorem vC(m:Int)(a:Iv)(e:Int)(h:a.z)(he:e≠0->a=(0,0)):aa prog (GG m) 6 [eo a,.c (.d (.int .i64 e)),cg a,.c (.d (.int .i64 e))] (.c (.d (.bool true))):=by
 by_cases h0:e=0
 ·subst h0;have c1:=QU m a h;refine aa.en func6 rfl λ_=>?_;refine aau mixed c1 c1 ?_;exact aaq (aD.rt rfl 8 zp)
 ·obtain rfl:=he h0;have c1:=Ob m;refine aa.en func6 rfl λ_=>?_;refine aau mixed c1 h0 ?_;exact aaq (aD.rt (t:=8) rfl 9 cf)
end Go.Am
namespace Go.Am
open Go.Proofs N
end Go.Am
