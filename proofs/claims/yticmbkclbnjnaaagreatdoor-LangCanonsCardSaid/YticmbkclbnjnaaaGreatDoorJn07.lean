/- Helpers. -/
import Derived.Test.YticmbkclbnjnaaaGreatDoorJn06
import Derived.Shelf.Strings.Search1
import Derived.Shelf.Strings.Search2
import Derived.Shelf.Strings.Search3
import Derived.Shelf.Strings.Cut
import Derived.Shelf.Strings.Count
import Derived.Test.YticmbkclbnjnaaaGreatDoorProg
import Derived.Lib.Builder
import Derived.Defers
import Derived.Recover
import Derived.WalkKit
import Derived.TacticsIn
import Derived.TacticsInMore
import Derived.RegionIn
import Derived.OwnWalkIn
import Derived.RangeFuncOwn

set_option linter.all false
set_option maxHeartbeats 8000000
set_option maxRecDepth 100000
open Go.IntKind
open Go.Proofs.Tryz
namespace Go.Am
variable {B n x c y i L k s:Nat}{a b:Option (List Nat)}{l:List Nat}
abbrev afL:=@List.replicate_zero
abbrev afs:=@Nat.div_add_mod
abbrev afM:=@Int.tdiv_eq_ediv_of_nonneg
abbrev aeH:=@Int.natCast_nonneg
abbrev afN:=@Int.tmod_eq_emod_of_nonneg
abbrev aft:=@Int.natCast_zero
abbrev adA:=@Nat.pow_pos
abbrev afu:=@Nat.add_sub_cancel
abbrev afc:=@Nat.div_mul_le_self
abbrev ad7:=@Nat.pow_add
abbrev adS:=@Nat.pow_le_pow_right
abbrev aef:=@Nat.pow_mul
abbrev aeg:=@Nat.mul_zero
abbrev aep:=@List.length_set
abbrev afO:=@Nat.div_div_eq_div_mul
abbrev afd:=@Nat.div_le_self
abbrev afX:=@Nat.mul_lt_mul_of_pos_right
abbrev aeh:=@Nat.ne_of_gt
abbrev aeV:=@Nat.pow_zero
abbrev aeW:=@Nat.pos_of_ne_zero
abbrev aei:=@Nat.le_of_lt
abbrev aeX:=@Nat.gcd_comm
abbrev aej:=@List.count_le_length
abbrev afP:=@World.putObj_heap_other
abbrev afv:=@Nat.gcd_dvd_left
abbrev afe:=@Nat.gcd_pos_of_pos_left
abbrev aff:=@Nat.gcd_one_right
abbrev aev:=@Nat.div_one
abbrev aeY:=@Nat.pow_le_pow_left
abbrev afQ:=@Rat.sub_eq_add_neg
open Go.Am.Ty Go.Proofs N
abbrev HI:=nK .u32
theorem dY(G:List (List DV))(l:List Nat):aa prog G 215 [HI (some l)] (HI (some (dG l))):=by
 refine aa.o9 func215 rfl (by simp) ?_;rintro⟨_,_,w0,F0,W0,_,jd,β0⟩ rfl rfl rfl;refine aae λK hK=>?_;refine acE rfl ?_;simp;apply hK;clear hK K;refine aae λK hK=>?_;refine acE rfl ?_;simp[P3];refine ag.pure 0 0 (By _ l) rfl (by simp[HI]) rfl ?_;simp;apply hK;clear hK K;exact acm (aq.tmp rfl 0 (by simp;rfl) rfl rfl rfl)
theorem ux(G:List (List DV))(a b:Option (List Nat))(ha:(dO a).length<=1000000000000)(hb:(dO b).length<=1000000000000):
 aa prog G 225 [HI a,HI b] (HI (some (aI 4294967296 (val 4294967296 (dO a)+val 4294967296 (dO b))))):=by
 refine aD.kK 0 (by simp) (λV v h=>iT h) λhra=>?_;refine aD.kK 1 (by simp) (λV v h=>iT h) λhrb=>?_;refine aa.o9 func225 rfl (by simp) ?_;rintro⟨_,_,w0,F0,W0,_,jd,β0⟩ rfl rfl rfl;refine aae λK hK=>?_;refine acE rfl ?_;simp;apply hK;clear hK K;refine aae λK hK=>?_;refine aae λK2 hK2=>?_;refine acE rfl ?_;simp[qT je];apply hK2;clear hK2 K2
 have main:∀(a' b':Option (List Nat)) (fr:Nat->AV) (κ:Nat),fr 0=HI a'->fr 1=HI b'->(dO b').length<=(dO a').length->(dO a').length<=1000000000000 ->
  ok 4294967296 (dO a')->ok 4294967296 (dO b')->val 4294967296 (dO a')+val 4294967296 (dO b')=val 4294967296 (dO a)+val 4294967296 (dO b)->K ⟨fr,λ_=>.hole⟩ κ:=by
  intro a' b' fr κ f0 f1 hle hla oka okb hv;apply hK;clear hK;refine aae λK hK=>?_;refine acE rfl ?_;have e1:=bE (n:=((dO a').length:Int)+1) (by omega) (by omega);simp[f0,qT je,e1,je,Iv,HZ,GL];refine⟨by omega,?_⟩;apply hK;clear hK K;refine acW 1 ?_;generalize hκ:κ=κ0;refine aae λK hK=>?_;refine acE rfl ?_;simp;apply hK;clear hK K;refine aae λK hK=>aae λK1 hK1=>?_;refine acE rfl ?_;simp[f0,qT je];apply hK1;clear hK1 K1;refine abd ?_
  refine aco (λ(p:List Nat×Nat)=>⟨aJ [(0,HI a'),(1,HI b'),(5,.c (.aE κ0 0 ((dO a').length+1) 1)),(6,.c (.d (.int .u64 p.2))),(20,HI a'),(21,.c (.d (.int .i64 (dO a').length))),(22,.c (.d (.int .i64 p.1.length)))],
   au (λ_=>.hole) κ0 (.cells true false 267 (wK .u32 (p.1++List.replicate ((dO a').length+1-p.1.length) 0)))⟩) (κ0+1)
   (λp=>p.1.length<=(dO a').length/\ok 4294967296 p.1/\p.2<=1/\val 4294967296 p.1+4294967296^p.1.length*p.2=val 4294967296 ((dO a').take p.1.length)+val 4294967296 ((dO b').take p.1.length))
   (λp=>(dO a').length-p.1.length) ([],0) (Le.mk' _ (by simp[gW]) (by simp) (by simp[f0,f1])) (by simp[cK]) ?_
  rintro⟨pre,c⟩ ⟨h1,h2,h3,h4⟩;simp only at h1 h2 h3 h4;refine aae λK3 hK3=>?_;refine acE rfl ?_;simp;apply hK3;clear hK3 K3;refine aae λK2 hK2=>?_
  by_cases hlt:pre.length<(dO a').length
  ·refine adf (b:=true) (by simp[hlt]) (aaE ?_);simp;apply hK2;have hz:(dO a').length+1-pre.length=((dO a').length-pre.length)+1:=by omega
   refine aae λK3 hK3=>abd ?_;refine aae λK4 hK4=>?_;refine acE rfl ?_;simp[NV je hlt,uy];apply hK4;clear hK4 K4;refine aae λK4 hK4=>?_;refine acE rfl ?_;simp[tZ,tE];have hx:(dO a')[pre.length]<4294967296:=oka _ (aZ hlt);generalize hxe:(dO a')[pre.length]=x at hx;have e3:=dR (n:=(x:Int)) (by omega) (by omega);have e4:=dR (n:=(c:Int)+x) (by omega) (by omega);simp only[e3,e4];apply hK4;clear hK4 K4;refine aae λK5 hK5=>aae λK6 hK6=>?_
   have fin:∀(y:Nat) (fr:Nat->AV) (κ:Nat),y<4294967296->val 4294967296 ((dO b').take (pre.length+1))=val 4294967296 ((dO b').take pre.length)+4294967296^pre.length*y ->
    fr 0=HI a'->fr 1=HI b'->fr 5=.c (.aE κ0 0 ((dO a').length+1) 1)->fr 6=.c (.d (.int .u64 ((c:Int)+x+y)))->fr 7=.c (.d (.int .i64 pre.length)) ->
    fr 20=HI a'->fr 21=.c (.d (.int .i64 (dO a').length))->fr 22=.c (.d (.int .i64 pre.length)) ->
    K5 ⟨fr,au (λ_=>.hole) κ0 (.cells true false 267 (wK .u32 (pre++List.replicate ((dO a').length+1-pre.length) 0)))⟩ κ:=by
    intro y fr κ hy hbv q0 q1 q5 q6 q7 q20 q21 q22;apply hK5;refine acW (κ0+2) ?_;refine aae λK5 hK5=>?_;refine acE rfl ?_;have e5:u32.wrap ((c:Int)+x+y)=((c+x+y)%4294967296:Nat):=by rw[r8];omega
    have e6:aj (wK .u32 (pre++List.replicate ((dO a').length+1-pre.length) 0)) pre.length [CV.d (.int .u32 (((c+x+y)%4294967296:Nat):Int))]=wK .u32 (pre++[(c+x+y)%4294967296]++List.replicate ((dO a').length-pre.length) 0):=by
     rw[hz,gx _ (by simp),lA]
    have e7:(pre.length:Int)<((dO a').length:Int)+1:=by omega
    simp[q5,q6,q7,je,tZ,tE,e5,e6,Cu,JD,-Int.natCast_emod,-Int.natCast_add];refine⟨by omega,by omega,?_⟩;apply hK5;clear hK5 K5;refine acE rfl ?_;have e8:(((c:Int)+x+y)/4294967296)=(((c+x+y)/4294967296:Nat):Int):=by omega
    have e8':Int.fdiv ((c:Int)+x+y) 4294967296=(((c+x+y)/4294967296:Nat):Int):=by rw[ad5 _ (by omega)];exact e8
    simp[q6,IntKind.bits,e8',-Int.natCast_ediv,-Int.natCast_add];apply hK3;refine acE rfl ?_;have e9:=bE (n:=(pre.length:Int)+1) (by omega) (by omega);simp[q22,e9];have e10:(dO a').length-pre.length=(dO a').length+1-(pre.length+1):=by omega
    refine⟨pre++[(c+x+y)%4294967296],(c+x+y)/4294967296,Le.mk' _ (by simp) (by simp) (by simp[q0,q1,q5,q20,q21]),⟨by simp;omega,?_,by omega,?_⟩,by simp;omega⟩
    ·exact cJ.2 ⟨h2,bS.2 ⟨by omega,cK _⟩⟩
    ·have:=oS 4294967296 pre (c+x+y);rw[ac8,adY,this,bz hlt,hxe,hbv,adF,adF];omega
   refine acE rfl ?_;simp[qT je];apply hK6;clear hK6 K6
   by_cases hlb:pre.length<(dO b').length
   ·refine adf (b:=true) (by simp[hlb]) ?_;refine acE rfl ?_;have hy:(dO b')[pre.length]<4294967296:=okb _ (aZ hlb);have e5:=dR (n:=((dO b')[pre.length]:Int)) (by omega) (by omega);have e6:=dR (n:=(c:Int)+x+(dO b')[pre.length]) (by omega) (by omega);simp[NV je hlb,uy,tZ,tE,e5,e6];exact fin _ _ _ hy (bz hlb) (by simp) (by simp) (by simp) (by simp) (by simp) (by simp) (by simp) (by simp)
   ·refine adf (b:=false) (by simp[hlb]) (aaE ?_);simp;exact fin 0 _ _ (by omega) (by rw[aM (by omega),aM (by omega)];rfl) (by simp) (by simp) (by simp) (by simp) (by simp) (by simp) (by simp) (by simp)
  ·refine adf (b:=false) (by simp[hlt]) (abX ?_);simp;have e2:pre.length=(dO a').length:=by omega
   apply hK;refine aae λK hK=>?_;refine acE rfl ?_;have e3:=wP (n:=(c:Int)) (by omega) (by omega)
   have e4:aj (wK .u32 (pre++[0])) pre.length [CV.d (.int .u32 (c:Int))]=wK .u32 (pre++[c]):=by
    rw[gx _ (by simp)];simp
   simp only[<-e2];simp[qT je,<-e2,je,tZ,tE,e3,e4,Cu,JD];refine⟨by omega,?_⟩;apply hK;clear hK K;refine aae λK hK=>?_;refine acE rfl ?_;simp[Og];have hl:pre.length+1=(pre++[c]).length:=by simp
   rw[hl]
   have hout:dG (pre++[c])=aI 4294967296 (val 4294967296 (dO a)+val 4294967296 (dO b)):=by
    refine eC (by decide) (cJ.2 ⟨h2,bS.2 ⟨by omega,cK _⟩⟩) ?_;rw[fF,h4,aM (by omega),aM (by omega),hv]
   refine gM.rT 0 (κ0+1) κ0 (by simp;rfl) (by simp;omega) (dY _ _) (by simp) (by simp) (by simp) ?_;simp;apply hK;clear hK K;exact acm (aq.tmp rfl (κ0+1) (by simp[hout]) (by simp) (by simp) (by simp))
 have oka:ok 4294967296 (dO a):=λd hd=>by have:=hra.2 d hd;simp only[rR]at this;omega
 have okb:ok 4294967296 (dO b):=λd hd=>by have:=hrb.2 d hd;simp only[rR]at this;omega
 by_cases hlt:(dO a).length<(dO b).length
 ·refine adf (b:=true) (by simp[hlt]) ?_;refine acE rfl ?_;simp;exact main b a _ _ (by simp) (by simp) (by omega) hb okb oka (by omega)
 ·refine adf (b:=false) (by simp[hlt]) (aaE ?_);simp;exact main a b _ _ (by simp) (by simp) (by omega) ha oka okb rfl
theorem Na(hx:x<4294967296)(hc:c<=1)(hy:y<4294967296):
 ∃v b:Nat,v<4294967296/\b<=1/\v+c+y=x+4294967296*b/\u32.wrap (u64.wrap (u64.wrap ((x:Int)-c)-y))=v/\Int.fdiv (u64.wrap (u64.wrap ((x:Int)-c)-y)) 9223372036854775808=b:=by
 simp only[r8,BT]
 by_cases h:c+y<=x
 ·refine⟨x-c-y,0,by omega,by omega,by omega,by omega,?_⟩
  grind
 ·refine⟨x+4294967296-c-y,1,by omega,by omega,by omega,by omega,?_⟩
  grind
theorem Lw(hx:x<4294967296)(hc:c<=1):u64.wrap (u64.wrap ((x:Int)-c)-(0:Nat))=u64.wrap ((x:Int)-c):=by
 simp only[BT];omega
theorem uB(G:List (List DV))(a b:Option (List Nat))(ha:(dO a).length<=1000000000000)(hv:val 4294967296 (dO b)<=val 4294967296 (dO a)):
 aa prog G 281 [nK .u32 a,nK .u32 b] (nK .u32 (some (aI 4294967296 (val 4294967296 (dO a)-val 4294967296 (dO b))))):=by
 refine aD.kK 0 (by simp) (λV v h=>iT h) λhra=>?_;refine aD.kK 1 (by simp) (λV v h=>iT h) λhrb=>?_;have oka:ok 4294967296 (dO a):=λd hd=>by have:=hra.2 d hd;simp only[rR]at this;omega
 have okb:ok 4294967296 (dO b):=λd hd=>by have:=hrb.2 d hd;simp only[rR]at this;omega
 refine aa.en func281 rfl λ_=>aar ?_;refine abU λK hK=>?_;simp
 repeat refine aL ?_
 apply hK;refine aar ?_;refine aae λK hK=>aar ?_;refine abd ?_
 refine aco (λ(p:List Nat×Nat)=>⟨aJ [(0,nK .u32 a),(1,nK .u32 b),(5,.c (.aE 0 0 (dO a).length 1)),(6,.c (.d (.int .u64 p.2))),(13,nK .u32 a),(14,.c (.d (.int .i64 (dO a).length))),(15,.c (.d (.int .i64 p.1.length)))],
  au (λ_=>.hole) 0 (.cells true false 267 (wK .u32 (p.1++List.replicate ((dO a).length-p.1.length) 0)))⟩) 1
  (λp=>p.1.length<=(dO a).length/\ok 4294967296 p.1/\p.2<=1/\val 4294967296 p.1+val 4294967296 ((dO b).take p.1.length)=val 4294967296 ((dO a).take p.1.length)+4294967296^p.1.length*p.2)
  (λp=>(dO a).length-p.1.length) ([],0) (Le.mk' _ (by simp[gW]) (by simp) (by simp)) (by simp[cK]) ?_
 rintro⟨pre,c⟩ ⟨h1,h2,h3,h4⟩;simp only at h1 h2 h3 h4;refine aar ?_;refine aae λK2 hK2=>?_
 by_cases hlt:pre.length<(dO a).length
 ·refine abz (by simp_all) (aaE (hK2 _ _ ?_));have hz:(dO a).length-pre.length=((dO a).length-pre.length-1)+1:=by omega
  refine aae λK3 hK3=>abd (abU λK4 hK4=>?_)
  simp[hlt];apply hK4;refine abU λK4 hK4=>?_;simp;have hx:(dO a)[pre.length]<4294967296:=oka _ (aZ hlt);generalize hxe:(dO a)[pre.length]=x at hx;have e3:=dR (n:=(x:Int)) (by omega) (by omega);simp only[e3];apply hK4;refine aae λK5 hK5=>aae λK6 hK6=>?_
  have fin:∀(y:Nat) (fr:Nat->AV) (κ:Nat),y<4294967296->val 4294967296 ((dO b).take (pre.length+1))=val 4294967296 ((dO b).take pre.length)+4294967296^pre.length*y ->
   fr 0=nK .u32 a->fr 1=nK .u32 b->fr 5=.c (.aE 0 0 (dO a).length 1)->fr 9=.c (.d (.int .u64 (u64.wrap (u64.wrap ((x:Int)-c)-y))))->fr 7=.c (.d (.int .i64 pre.length)) ->
   fr 13=nK .u32 a->fr 14=.c (.d (.int .i64 (dO a).length))->fr 15=.c (.d (.int .i64 pre.length)) ->
   K5 ⟨fr,au (λ_=>.hole) 0 (.cells true false 267 (wK .u32 (pre++List.replicate ((dO a).length-pre.length) 0)))⟩ κ:=by
   intro y fr κ hy hbv q0 q1 q5 q9 q7 q13 q14 q15;obtain⟨v,bb,g1,g2,g3,g4,g5⟩:=Na hx h3 hy;apply hK5;refine acW 2 ?_
   have e6:aj (wK .u32 (pre++List.replicate ((dO a).length-pre.length) 0)) pre.length [CV.d (.int .u32 (v:Int))]=wK .u32 (pre++[v]++List.replicate ((dO a).length-pre.length-1) 0):=by
    rw[hz,gx _ (by simp),lA];simp
   have e7:(pre.length:Int)<((dO a).length:Int):=by omega
   refine abU λK7 hK7=>?_;simp[q5,q9,q7,g4,e6,e7]
   repeat refine aL ?_
   apply hK7;refine aaJ ?_;simp[q9,IntKind.bits,g5];apply hK3;have e9:=bE (n:=(pre.length:Int)+1) (by omega) (by omega);refine aaJ ?_;simp[q15,e9];have e10:(dO a).length-pre.length-1=(dO a).length-(pre.length+1):=by omega
   refine⟨pre++[v],bb,Le.mk' _ (by simp[e10]) (by simp) (by simp[q0,q1,q5,q13,q14]),⟨by simp;omega,cJ.2 ⟨h2,bS.2 ⟨g1,cK _⟩⟩,g2,?_⟩,by simp;omega⟩;rw[ac8,adY,fF,bz hlt,hxe,hbv,adl];have g6:4294967296^pre.length*(v+c+y)=4294967296^pre.length*(x+4294967296*bb):=by rw[g3]
   rw[adF,adF,adF,<-adz]at g6;omega
  refine adg (hK6 _ _ ?_)
  by_cases hlb:pre.length<(dO b).length
  ·refine abz (by simp[hlb]<;>omega) ?_;have hy:(dO b)[pre.length]<4294967296:=okb _ (aZ hlb);have e5:=dR (n:=((dO b)[pre.length]:Int)) (by omega) (by omega);refine aaJ ?_;simp[hlb,e5];exact fin _ _ _ hy (bz hlb) (by simp) (by simp) (by simp) (by simp) (by simp) (by simp) (by simp) (by simp)
  ·refine abD (by simp[hlb]<;>omega) (aaE ?_);simp;exact fin 0 _ _ (by omega) (by rw[aM (by omega),aM (by omega)];rfl) (by simp) (by simp) (by simp) (by rw[Lw hx h3];simp) (by simp) (by simp) (by simp) (by simp)
 ·refine abD (by simp_all) (abX ?_);simp;have e2:pre.length=(dO a).length:=by omega
  apply hK;refine abU λK hK=>?_;simp
  have hlb:val 4294967296 ((dO b).take pre.length)=val 4294967296 (dO b):=by
   by_cases hb:(dO b).length<=pre.length
   ·exact aM hb
   ·have g1:=cB (B:=4294967296) (dO b) pre.length (by omega);have g2:=fV oka;rw[<-e2]at g2
    have g3:val 4294967296 ((dO b).drop pre.length)=0:=by
     apply adK;intro hne;have:4294967296^pre.length*1<=4294967296^pre.length*val 4294967296 ((dO b).drop pre.length):=adB _ (by omega);omega
    grind
  have hva:val 4294967296 ((dO a).take pre.length)=val 4294967296 (dO a):=aM (by omega)
  have hc:c=0:=by
   apply adK;intro hne;have:c=1:=by omega
   subst this;have:=fV h2;rw[hlb,hva]at h4;omega
  subst hc
  have hout:dG pre=aI 4294967296 (val 4294967296 (dO a)-val 4294967296 (dO b)):=by
   refine eC (by decide) h2 ?_;rw[hlb,hva]at h4;omega
  rw[<-e2];simp only[aes,afL,adv];refine gM.rT 0 1 0 (by simp;rfl) (by omega) (dY _ _) (by simp) (by simp) (by simp) ?_;simp;apply hK;exact aaV (aq.rt rfl 1 (by simp[hout]))
theorem Fa{j T V o L':Nat}(h1:L+B^(i+j)*c=T+B^i*(x*V))(h2:L'+B^(i+j)*o=L+B^(i+j)*((c+(x*y+o))%B)):
 L'+B^(i+j+1)*((c+(x*y+o))/B)=T+B^i*(x*(V+B^j*y)):=by
 have h3:=p9 B (i+j) (c+(x*y+o))
 grind
theorem iz(G:List (List DV))(a b:Option (List Nat))(ha:(dO a).length<=1000000000000)(hb:(dO b).length<=1000000000000):
 aa prog G 165 [nK .u32 a,nK .u32 b] (nK .u32 (some (aI 4294967296 (val 4294967296 (dO a)*val 4294967296 (dO b))))):=by
 refine aD.kK 0 (by simp) (λV v h=>iT h) λhra=>?_;refine aD.kK 1 (by simp) (λV v h=>iT h) λhrb=>?_;have oka:ok 4294967296 (dO a):=λd hd=>by have:=hra.2 d hd;simp only[rR]at this;omega
 have okb:ok 4294967296 (dO b):=λd hd=>by have:=hrb.2 d hd;simp only[rR]at this;omega
 refine aa.en func165 rfl λ_=>aar ?_;refine aae λK hK=>?_;have e0:i64.wrap (((dO a).length:Int)+(dO b).length)=(((dO a).length+(dO b).length:Nat):Int):=by rw[bE (by omega) (by omega)];omega
 refine aaJ ?_;simp[e0,-Int.natCast_add]
 repeat refine aL ?_
 apply hK;refine aae λK hK=>aar ?_;refine abd ?_
 refine aco (λ(p:Nat×List Nat)=>⟨aJ [(0,nK .u32 a),(1,nK .u32 b),(5,.c (.aE 0 0 ((dO a).length+(dO b).length) 1)),(17,nK .u32 a),(18,.c (.d (.int .i64 (dO a).length))),(19,.c (.d (.int .i64 p.1)))],
  au (λ_=>.hole) 0 (.cells true false 267 (wK .u32 (p.2++List.replicate ((dO a).length-p.1) 0)))⟩) 1
  (λp=>p.1<=(dO a).length/\p.2.length=p.1+(dO b).length/\ok 4294967296 p.2/\val 4294967296 p.2=val 4294967296 ((dO a).take p.1)*val 4294967296 (dO b))
  (λp=>(dO a).length-p.1) (0,List.replicate (dO b).length 0) (Le.mk' _ (by simp[gW,aeO]) (by simp) (by simp)) ⟨by simp,by simp,vi (by omega) _,by simp[rK]⟩ ?_
 rintro⟨i,lo⟩ ⟨h1,h2,h3,h4⟩;simp only at h1 h2 h3 h4;refine aar ?_;refine aae λK2 hK2=>?_
 by_cases hlt:i<(dO a).length
 ·refine abz (by simp_all) (aaE (hK2 _ _ (aae λK3 hK3=>abd (abU λK4 hK4=>?_))));simp[hlt];apply hK4;refine abU λK4 hK4=>?_;simp;have hx:(dO a)[i]<4294967296:=oka _ (aZ hlt);generalize hxe:(dO a)[i]=x at hx;apply hK4;refine aae λK4 hK4=>abU λK5 hK5=>?_;simp;apply hK5;refine abd ?_
  refine aco (λ(p:Nat×List Nat×Nat)=>⟨aJ [(0,nK .u32 a),(1,nK .u32 b),(5,.c (.aE 0 0 ((dO a).length+(dO b).length) 1)),(17,nK .u32 a),(18,.c (.d (.int .i64 (dO a).length))),(19,.c (.d (.int .i64 i))),
   (6,.c (.d (.int .i64 i))),(7,.c (.d (.int .u32 x))),(8,.c (.d (.int .u64 p.2.2))),(24,nK .u32 b),(25,.c (.d (.int .i64 (dO b).length))),(26,.c (.d (.int .i64 p.1)))],
   au (λ_=>.hole) 0 (.cells true false 267 (wK .u32 (p.2.1++List.replicate ((dO a).length-i) 0)))⟩) 2
   (λp=>p.1<=(dO b).length/\p.2.1.length=i+(dO b).length/\ok 4294967296 p.2.1/\p.2.2<4294967296/\val 4294967296 p.2.1+4294967296^(i+p.1)*p.2.2=val 4294967296 ((dO a).take i)*val 4294967296 (dO b)+4294967296^i*(x*val 4294967296 ((dO b).take p.1)))
   (λp=>(dO b).length-p.1) (0,lo,0) (Le.mk' _ (by simp) (by simp) (by simp)) ⟨by simp,h2,h3,by simp,by simp[h4]⟩ ?_
  rintro⟨j,lo2,c⟩ ⟨g1,g2,g3,g4,g5⟩;simp only at g1 g2 g3 g4 g5;refine aar ?_;refine aae λK7 hK7=>?_
  by_cases hlj:j<(dO b).length
  ·refine abz (by simp[hlj]<;>omega) (aaE (hK7 _ _ (aae λK8 hK8=>abd (abU λK9 hK9=>?_))));simp[hlj];apply hK9;refine aae λK9 hK9=>?_;have hy:(dO b)[j]<4294967296:=okb _ (aZ hlj);have hij:i+j<lo2.length:=by omega
   have hij2:i+j<(lo2++List.replicate ((dO a).length-i) 0).length:=by simp;omega
   have hij3:i+j<lo2.length+((dO a).length-i):=by omega
   have ho:lo2[i+j]<4294967296:=g3 _ (aZ hij);have ho2:(lo2++List.replicate ((dO a).length-i) 0)[i+j]=lo2[i+j]:=aea hij;have hb2:val 4294967296 ((dO b).take (j+1))=val 4294967296 ((dO b).take j)+4294967296^j*(dO b)[j]:=bz hlj;have hset:=yI (B:=4294967296) hij;generalize (dO b)[j]=y at hy hb2;generalize lo2[i+j]=o at ho ho2 hset;have hxy:x*y<=4294967295*4294967295:=aeo (by omega) (by omega);have e1:i64.wrap ((i:Int)+j)=((i+j:Nat):Int):=by rw[bE (by omega) (by omega)];omega
   have e2:=dR (n:=(x:Int)) (by omega) (by omega);have e3:=dR (n:=(y:Int)) (by omega) (by omega)
   have e4:u64.wrap ((x:Int)*y)=((x*y:Nat):Int):=by
    rw[<-Int.natCast_mul];generalize x*y=p at hxy;exact dR (by omega) (by omega)
   have e5:=dR (n:=(o:Int)) (by omega) (by omega)
   have e6:u64.wrap (((x*y:Nat):Int)+o)=((x*y+o:Nat):Int):=by
    generalize x*y=p at hxy;rw[dR (by omega) (by omega)];omega
   have e7:u64.wrap ((c:Int)+((x*y+o:Nat):Int))=((c+(x*y+o):Nat):Int):=by
    generalize x*y=p at hxy;rw[dR (by omega) (by omega)];omega
   refine aaJ ?_;simp[e1,e2,e3,e4,e5,e6,e7,hij3,ho2,-Int.natCast_add,-Int.natCast_mul]
   repeat refine aL ?_
   apply hK9;have hbd:c+(x*y+o)<18446744073709551616:=by generalize x*y=p at hxy;omega
   generalize hm:c+(x*y+o)=m at hbd;have f1:u32.wrap (m:Int)=((m%4294967296:Nat):Int):=by rw[r8];omega
   have f2:aj (wK .u32 (lo2++List.replicate ((dO a).length-i) 0)) (i+j) [CV.d (.int .u32 ((m%4294967296:Nat):Int))]=wK .u32 (lo2.set (i+j) (m%4294967296)++List.replicate ((dO a).length-i) 0):=by
    rw[gx _ hij2,afJ _ _ hij]
   have f3:Int.fdiv (m:Int) 4294967296=((m/4294967296:Nat):Int):=by rw[ad5 _ (by omega)];omega
   have f4:(i+j:Int)<(dO a).length+(dO b).length:=by omega
   refine abU λK9 hK9=>?_;simp[e1,f1,f2,-Int.natCast_add,-Int.natCast_emod]
   repeat refine aL ?_
   apply hK9;refine aaJ ?_;simp[IntKind.bits,f3,-Int.natCast_ediv];apply hK8;have f5:=bE (n:=(j:Int)+1) (by omega) (by omega);refine aaJ ?_;simp[f5];refine⟨j+1,lo2.set (i+j) (m%4294967296),m/4294967296,Le.mk' _ (by simp) (by simp) (by simp),⟨by omega,by simp[g2],HF g3 _ (adw _ (by omega)),?_,?_⟩,by omega⟩
   ·omega
   ·rw[hb2,<-hm,<-aez i j 1];exact Fa g5 (by grind)
  ·refine abD (by simp[hlj]<;>omega) (abX (hK4 _ _ ?_));have ej:j=(dO b).length:=by omega
   subst ej;rw[aM (aU _)]at g5;have e1:i64.wrap ((i:Int)+(dO b).length)=((i+(dO b).length:Nat):Int):=by rw[bE (by omega) (by omega)];omega
   have e2:=wP (n:=(c:Int)) (by omega) (by omega);have hz:(dO a).length-i=((dO a).length-i-1)+1:=by omega
   have f2:aj (wK .u32 (lo2++List.replicate ((dO a).length-i) 0)) (i+(dO b).length) [CV.d (.int .u32 (c:Int))]=wK .u32 (lo2++[c]++List.replicate ((dO a).length-i-1) 0):=by
    rw[gx _ (by simp;omega),hz,<-g2,lA];simp
   have f6:i+(dO b).length<lo2.length+((dO a).length-i):=by omega
   refine aaJ ?_;simp[e1,e2,f2,-Int.natCast_add]
   repeat refine aL ?_
   apply hK3;have f5:=bE (n:=(i:Int)+1) (by omega) (by omega);refine aaJ ?_;simp[f5];have f7:(dO a).length-(i+1)=(dO a).length-i-1:=by omega
   refine⟨i+1,lo2++[c],Le.mk' _ (by simp[f7]) (by simp) (by simp),⟨by omega,by simp;omega,cJ.2 ⟨g3,bS.2 ⟨g4,cK _⟩⟩,?_⟩,by omega⟩;rw[fF,g2,g5,bz hlt,hxe,adr,adz]
 ·refine abD (by simp_all) (abX (hK _ _ ?_));have e2:i=(dO a).length:=by omega
  subst e2;refine abU λK hK=>?_;simp;rw[<-h2]
  have hout:dG lo=aI 4294967296 (val 4294967296 (dO a)*val 4294967296 (dO b)):=by
   refine eC (by decide) h3 ?_;rw[h4,aM (aU _)]
  refine gM.rT 0 1 0 (by simp;rfl) (by omega) (dY _ _) (by simp) (by simp) (by simp) ?_;simp;apply hK;exact aaV (aq.rt rfl 1 (by simp[hout]))
theorem AY(G:List (List DV))(a:Option (List Nat))(b:Nat)(hb:b≠0)(ha:(dO a).length<=1000000000000):
 aa prog G 216 [nK .u32 a,.c (.d (.int .u32 b))] (.tup [nK .u32 (some (aI 4294967296 (val 4294967296 (dO a)/b))),.c (.d (.int .u32 ((val 4294967296 (dO a)%b:Nat):Int)))]):=by
 refine aD.kK 0 (by simp) (λV v h=>iT h) λhra=>?_;refine aD.kK 1 (by simp) (λV v h=>Vw.uE h) λhrb=>?_;have oka:ok 4294967296 (dO a):=λd hd=>by have:=hra.2 d hd;simp only[rR]at this;omega
 rw[qf]at hrb;simp only[Cf,rR]at hrb;refine aa.en func216 rfl λ_=>aar ?_;refine aar ?_;refine aar ?_;refine aae λK hK=>aae λK1 hK1=>?_;have e1:=bE (n:=((dO a).length:Int)-1) (by omega) (by omega);refine acC e1 (hK1 _ _ ?_);refine abd ?_
 refine aco (λ(p:Nat×List Nat×Nat)=>⟨aJ [(0,nK .u32 a),(1,.c (.d (.int .u32 b))),(4,.c (.aE 0 0 (dO a).length 1)),(6,.c (.d (.int .u64 p.2.2))),(7,.c (.d (.int .i64 ((p.1:Int)-1))))],
  au (λ_=>.hole) 0 (.cells true false 267 (wK .u32 (List.replicate p.1 0++p.2.1)))⟩) 1
  (λp=>p.1+p.2.1.length=(dO a).length/\ok 4294967296 p.2.1/\p.2.2<b/\val 4294967296 ((dO a).drop p.1)=val 4294967296 p.2.1*b+p.2.2)
  (λp=>p.1) ((dO a).length,[],0) (Le.mk' _ (by simp[gW]) (by simp) (by simp)) (by simp[cK];omega) ?_
 rintro⟨k,qs,r⟩ ⟨h1,h2,h3,h4⟩;simp only at h1 h2 h3 h4;refine aae λK3 hK3=>aar ?_
 cases k with
 |zero=>
  refine abg (abX (hK _ _ (abU λK hK=>?_)));simp;have e2:(dO a).length=qs.length:=by omega
  have e3:=wP (n:=(r:Int)) (by omega) (by omega);rw[e2];simp only[adJ]at*
  have hq:val 4294967296 (dO a)/b=val 4294967296 qs:=by
   rw[h4,aeO,Nat.add_mul_div_right _ _ (by omega),aeF h3];omega
  have hr:val 4294967296 (dO a)%b=r:=by
   rw[h4,aeO,Nat.add_mul_mod_self_right,adL h3]
  have hout:dG qs=aI 4294967296 (val 4294967296 (dO a)/b):=eC (by decide) h2 hq.symm;refine gM.rT 0 1 0 (by simp;rfl) (by omega) (dY _ _) (by simp) (by simp) (by simp) ?_;simp[e3];apply hK;exact aaV (aq.t2 rfl 1 (by simp[hout]) (by simp[hr]))
 |succ k=>
  have hk:k<(dO a).length:=by omega
  have e2:((k+1:Nat):Int)-1=k:=by omega
  simp only[e2];refine abA (aaE (hK3 _ _ (aae λK5 hK5=>abd (aae λK6 hK6=>?_))));have hx:(dO a)[k]<4294967296:=oka _ (aZ hk);have hd:val 4294967296 ((dO a).drop k)=(dO a)[k]+4294967296*val 4294967296 ((dO a).drop (k+1)):=c7 hk;generalize hxe:(dO a)[k]=x at hx hd;have f1:u64.wrap ((r:Int)*4294967296)=((r*4294967296:Nat):Int):=by rw[dR (by omega) (by omega)];omega
  have f2:=dR (n:=(x:Int)) (by omega) (by omega);have f3:=vw (m:=r) (y:=x) (by omega) hx;refine aaJ ?_;simp[hk,hxe,f1,f2,f3,IntKind.bits,-Int.natCast_add,-Int.natCast_mul];apply hK6
  have hb1:r*4294967296+x<b*4294967296:=by
   have:(r+1)*4294967296<=b*4294967296:=adn _ h3;omega
  generalize hm:r*4294967296+x=m at hb1;have g1:=dR (n:=(b:Int)) (by omega) (by omega);have g2:m/b<4294967296:=by rw[aeG (by omega),adR];exact hb1
  have hdm:=afs m b;have hml:m%b<b:=adw _ (by omega);have g3:Int.tdiv (m:Int) b=((m/b:Nat):Int):=by rw[afM (aeH m),<-Int.natCast_ediv]
  have g8:Int.tmod (m:Int) b=((m%b:Nat):Int):=by rw[afN (aeH m),<-Int.natCast_emod]
  generalize m/b=q at g2 g3 hdm;generalize m%b=r' at g8 hdm hml;have g3':=dR (n:=(q:Int)) (by omega) (by omega);have g4:=wP (n:=(q:Int)) (by omega) (by omega)
  have g5:aj (wK .u32 (List.replicate (k+1) 0++qs)) k [CV.d (.int .u32 (q:Int))]=wK .u32 (List.replicate k 0++(q::qs)):=by
   rw[gx _ (by simp;omega),qH]
  have g6:¬((b:Int)=0):=by omega
  have g7:(k:Int)<(dO a).length:=by omega
  refine AW.f7 g1 g3 g3' g4 g5 hb hk ?_;refine aaJ ?_;simp[g1,g8,hb];apply hK5;have g9:=bE (n:=(k:Int)-1) (by omega) (by omega);refine aaJ ?_;simp[g9];refine⟨k,q::qs,r',Le.mk' _ (by simp) (by simp) (by simp),⟨by simp;omega,bS.2 ⟨g2,h2⟩,hml,?_⟩,by omega⟩;rw[hd,h4,bW]
  grind
theorem gR(G:List (List DV))(n:Nat)(hn:n<18446744073709551616):aa prog G 176 [.c (.d (.int .u64 n))] (nK .u32 (some (aI 4294967296 n))):=by
 refine aa.en func176 rfl λ_=>aar ?_;refine aae λK hK=>?_;have e1:u32.wrap (n:Int)=((n%4294967296:Nat):Int):=by rw[r8];omega
 have e2:Int.fdiv (n:Int) 4294967296=((n/4294967296:Nat):Int):=by rw[ad5 _ (by omega)];omega
 have e3:u32.wrap ((n/4294967296:Nat):Int)=((n/4294967296:Nat):Int):=wP (by omega) (by omega);have hok:ok 4294967296 [n%4294967296,n/4294967296]:=bS.2 ⟨by omega,bS.2 ⟨by omega,cK _⟩⟩;have hout:dG [n%4294967296,n/4294967296]=aI 4294967296 n:=eC (by decide) hok (by simp;omega);generalize hq:n/4294967296=q at*
 generalize hr:n%4294967296=r at*
 refine aaJ ?_;simp[IntKind.bits,e1,e2,e3,ai,jf,aj,lp];refine gM.rT (l:=[r,q]) 0 1 0 (by simp[wK];rfl) (by simp) (dY _ _) (by simp) (by simp) (by simp) ?_;simp;apply hK;exact aaV (aq.rt rfl 1 (by simp[hout]))
theorem kX(G:List (List DV))(a:Option (List Nat))(ha:can 4294967296 (dO a)):aa prog G 177 [nK .u32 a] (.c (.d (.bool (decide (val 4294967296 (dO a)=1))))):=by
 refine aa.en func177 rfl λ_=>aar ?_;refine aae λK hK=>?_
 have h0:(dO a).length=1↔∃x,dO a=[x]:=by
  constructor
  ·intro h;match hd:dO a,h with|[x],_=>exact⟨x,rfl⟩
  ·grind
 by_cases hl:(dO a).length=1
 ·obtain⟨x,hx⟩:=h0.1 hl;have h1:0<(dO a).length:=by omega
  have h2:(dO a)[0]=x:=by simp[hx]
  have h3:val 4294967296 (dO a)=x:=by simp[hx]
  have h4:=gU (P:=prog) (T:=175) (lv:=λ_=>.hole) (k:=.u32) (k':=.i64) (o:=a) (i:=0) (by simp) h1;simp only[aft,h2]at h4;refine acJ hl h4 (hK _ _ ?_);have h5:(x:Int)=1↔x=1:=by omega
  exact aaV (aq.rt rfl 0 (by simp_all))
 ·have h3:¬val 4294967296 (dO a)=1:=by
   intro h;have:=iE (by decide:2<=4294967296) ha h;rw[this]at hl;exact hl rfl
  have h4:¬((dO a).length:Int)=1:=by omega
  refine acJ hl h4 (hK _ _ ?_);exact aaV (aq.rt rfl 0 (by simp[h3]))
def bt(n:Nat):Nat:=if n=0 then 0 else Nat.log2 n+1
theorem Ra(h1:2^k<=n)(h2:n<2^(k+1)):bt n=k+1:=by
 have h0:n≠0:=by have:=adA (a:=2) (n:=k) (by decide);omega
 have:=(Nat.log2_eq_iff h0).2 ⟨h1,h2⟩;simp[bt,h0,this]
theorem tO(n:Nat):n<2^bt n:=by
 unfold bt;split
 ·simp[*]
 ·exact Nat.lt_log2_self
theorem kU(h:n≠0):2^(bt n-1)<=n:=by
 simp only[bt,h,if_false,afu];exact Nat.log2_self_le h
theorem sS(h:2^k<=n):bt n=bt (n/2^k)+k:=by
 have hk:=adA (a:=2) (n:=k) (by decide);have h0:n/2^k≠0:=by have:=Nat.div_pos h hk;omega
 have h1:=kU h0;have h2:=tO (n/2^k);have h3:0<bt (n/2^k):=by simp[bt,h0]
 have h4:2^(bt (n/2^k)-1)*2^k<=n:=ab8 (adn _ h1) (afc n _);have h5:n<2^bt (n/2^k)*2^k:=by rw[<-aeG hk];exact h2
 rw[<-ad7]at h4 h5;have h6:=Ra h4 (by grind);omega
theorem aaP(f:List UInt8)(hf:(List.range 256).all (λi=>(f[i]?.getD 0).toNat==bt i)=true)(x:Nat)(hx:x<256):(f[x]?.getD 0).toNat=bt x:=by
 grind
theorem r7(G:List (List DV))(n:Nat)(hn:n<4294967296):aa prog G 284 [.c (.d (.int .u32 n))] (.c (.d (.int .i64 (bt n)))):=by
 refine aa.en func284 rfl λ_=>aar ?_;refine aae λK hK=>aar ?_
 have step2:∀(x m:Nat) (fr:Nat->AV) (κ:Nat),x<65536->m<=16->bt n=m+bt x->fr 0=.c (.d (.int .u32 x))->fr 2=.c (.d (.int .i64 m))->K ⟨fr,λ_=>.hole⟩ κ:=by
  intro x m fr κ hx hm hb f0 f2;apply hK;refine aae λK hK=>acf f0 ?_
  have step3:∀(x m:Nat) (fr:Nat->AV) (κ:Nat),x<256->m<=24->bt n=m+bt x->fr 0=.c (.d (.int .u32 x))->fr 2=.c (.d (.int .i64 m))->K ⟨fr,λ_=>.hole⟩ κ:=by
   intro x m fr κ hx hm hb f0 f2;apply hK;refine aae λK hK=>?_;have e1:u8.wrap (x:Int)=x:=c6 ⟨by simp only[Cf];omega,by simp only[rR];omega⟩
   have hbl:bt x<=8:=by
    by_cases h0:x=0
    ·subst h0;decide
    ·have:=kU h0;apply adK;intro hc;have h9:2^8<=2^(bt x-1):=adS (by decide) (by omega);omega
   refine aaJ ?_;simp[f0,f2,e1];rw[aaP (x:=x) (hx:=hx)]
   ·have e2:=bE (n:=(bt x:Int)) (by omega) (by omega);have e3:=bE (n:=(m:Int)+bt x) (by omega) (by omega);rw[e2,e3]
    repeat refine aL ?_
    apply hK;exact aaV (aq.rt rfl 0 (by simp[hb]))
   ·kernel_rfl
  by_cases h:256<=x
  ·refine abz (by simp<;>omega) ?_;have e1:Int.fdiv (x:Int) 256=((x/256:Nat):Int):=by rw[ad5 _ (by omega)];omega
   have e2:=bE (n:=(m:Int)+8) (by omega) (by omega);refine abU λK1 hK1=>?_;simp[f0,IntKind.bits,e1,-Int.natCast_ediv];apply hK1;refine aaJ ?_;simp[f2,e2];refine step3 (x/256) (m+8) _ _ (by omega) (by omega) ?_ (by simp) (by simp);have:=sS (n:=x) (k:=8) (by omega)
   grind
  ·refine abD (by simp<;>omega) (aaE ?_);simp;exact step3 x m _ _ (by omega) (by omega) hb (by simp[f0]) (by simp[f2])
 by_cases h:65536<=n
 ·refine abz (by simp<;>omega) ?_;have e1:Int.fdiv (n:Int) 65536=((n/65536:Nat):Int):=by rw[ad5 _ (by omega)];omega
  refine abU λK1 hK1=>?_;simp[IntKind.bits,e1,-Int.natCast_ediv];apply hK1;refine aaJ ?_;simp;refine step2 (n/65536) 16 _ _ (by omega) (by omega) ?_ (by simp) (by simp);have:=sS (n:=n) (k:=16) (by omega)
  grind
 ·refine abD (by simp<;>omega) (aaE ?_);simp;exact step2 n 0 _ _ (by omega) (by omega) (by simp) (by simp) (by simp)
theorem nW(G:List (List DV))(n:Nat)(hn:n<4294967296):aa prog G 259 [.c (.d (.int .u32 n))] (.c (.d (.int .i64 (32-(bt n:Int))))):=by
 have hbl:bt n<=32:=by
  by_cases h0:n=0
  ·subst h0;decide
  ·have:=kU h0;apply adK;intro hc;have h9:2^32<=2^(bt n-1):=adS (by decide) (by omega);omega
 refine aa.en func259 rfl λ_=>aar ?_;refine abU λK hK=>?_;simp;refine ag.pure 0 0 (r7 _ n hn) rfl (by simp) rfl ?_;have e2:=bE (n:=32-(bt n:Int)) (by omega) (by omega);simp[e2];apply hK;exact aaV (aq.rt rfl 0 (by simp))
theorem rV(G:List (List DV))(a:Option (List Nat))(ha:can 4294967296 (dO a))(hl:(dO a).length<=1000000000000):aa prog G 280 [nK .u32 a] (.c (.d (.int .i64 (bt (val 4294967296 (dO a)))))):=by
 refine aa.en func280 rfl λ_=>aar ?_;refine aar ?_;refine aae λK hK=>aar ?_
 by_cases h0:dO a=[]
 ·refine abz (by simp_all) (aar ?_);exact aaV (aq.rt rfl 0 (by simp[h0,bt]))
 ·refine abD (by simp_all) (aaE (hK _ _ (aae λK hK=>?_)));have h0':0<(dO a).length:=List.length_pos_iff.2 h0;have hk:(dO a).length-1<(dO a).length:=by omega
  have e1:i64.wrap (((dO a).length:Int)-1)=(((dO a).length-1:Nat):Int):=by rw[bE (by omega) (by omega)];omega
  have e2:=bE (n:=32*(((dO a).length-1:Nat):Int)) (by omega) (by omega);have hx:(dO a)[(dO a).length-1]<4294967296:=ha.1 _ (aZ hk);have hx0:(dO a)[(dO a).length-1]≠0:=ha.2 _ (by grind);have hv:=cB (B:=4294967296) (dO a) ((dO a).length-1) (by omega);rw[c7 hk,fR (l:=dO a) (i:=(dO a).length-1+1) (by omega)]at hv;have hlt:=fV (mF ha.1 ((dO a).length-1));rw[ac7,adO (by omega)]at hlt;generalize (dO a).length-1=k at*
  generalize hxe:(dO a)[k]=x at*
  have hbl:bt x<=32:=by
   have:=kU hx0;apply adK;intro hc;have h9:2^32<=2^(bt x-1):=adS (by decide) (by omega);omega
  have hb:bt (val 4294967296 (dO a))=32*k+bt x:=by
   have hP:(4294967296:Nat)^k=2^(32*k):=by rw[aef]
   rw[hP]at hv hlt
   have h1:val 4294967296 (dO a)/2^(32*k)=x:=by
    rw[hv,aeg,ad0,afq _ _ (adA (by decide)),aeF hlt,adx]
   have h2:=sS (n:=val 4294967296 (dO a)) (k:=32*k) (by
    have:2^(32*k)*1<=2^(32*k)*(x+4294967296*0):=adB _ (by omega);omega)
   rw[h1]at h2;omega
  refine aaJ ?_;simp[e1,e2,hk,hxe];refine ag.pure 0 0 (r7 _ x hx) rfl (by simp) rfl ?_;have e3:=bE (n:=32*(k:Int)+bt x) (by omega) (by omega);simp[e3];apply hK;exact aaV (aq.rt rfl 0 (by simp[hb]))
theorem Np(hx:x<4294967296)(hs:s<32):∃y h:Nat,(x*2^s)%4294967296=y*2^s/\(x*2^s)/4294967296=h/\y*2^s+2^s<=4294967296/\h<2^s/\x*2^s<18446744073709551616:=by
 have hP:(2:Nat)^(32-s)*2^s=4294967296:=by rw[<-ad7,Nat.sub_add_cancel (by omega)]
 have h0:0<2^s:=adA (by decide);have h1:0<2^(32-s):=adA (by decide);refine⟨x%2^(32-s),_,?_,rfl,?_,?_,?_⟩
 ·rw[<-hP,Nat.mul_mod_mul_right]
 ·have:=adw x h1
  calc x%2^(32-s)*2^s+2^s=(x%2^(32-s)+1)*2^s:=by grind
   _<=2^(32-s)*2^s:=adn _ this
   _=4294967296:=hP
 ·rw[aeG (by decide),adR]
  simp_all
 ·have h2:2^s<4294967296:=Nat.pow_lt_pow_right (by decide) hs |> λh=>h
  calc x*2^s<=4294967295*2^s:=adn _ (by omega)
   _<=4294967295*4294967295:=adB _ (by omega)
   _<_:=by decide
theorem ia(G:List (List DV))(a:Option (List Nat))(k:Nat)(ha:(dO a).length<=1000000000000)(hk:k<=1000000000000):
 aa prog G 260 [nK .u32 a,.c (.d (.int .i64 k))] (if dO a=[]then nK .u32 none else nK .u32 (some (aI 4294967296 (val 4294967296 (dO a)*2^k)))):=by
 refine aD.kK 0 (by simp) (λV v h=>iT h) λhra=>?_;have oka:ok 4294967296 (dO a):=λd hd=>by have:=hra.2 d hd;simp only[rR]at this;omega
 by_cases h0:dO a=[]
 ·rw[if_pos h0];refine aa.en func260 rfl λ_=>aar ?_;refine aae λK hK=>aar ?_;refine abz (by simp_all) (aar ?_);exact aaV (aq.rt rfl 0 (by simp[nK]))
 ·rw[if_neg h0];refine aa.en func260 rfl λ_=>aar ?_;refine aae λK hK=>aar ?_;refine abD (by simp_all) (aaE (hK _ _ (aae λK hK=>?_)));have d1:Int.tdiv (k:Int) 32=((k/32:Nat):Int):=by rw[afM (by omega)];omega
  have d2:Int.tmod (k:Int) 32=((k%32:Nat):Int):=by rw[afN (by omega)];omega
  have hks:k=32*(k/32)+k%32:=by omega
  have hs:k%32<32:=by omega
  have hw:k/32<=1000000000000:=by omega
  have d3:=bE (n:=((k/32:Nat):Int)) (by omega) (by omega);have d4:=dR (n:=((k%32:Nat):Int)) (by omega) (by omega);generalize k/32=w at*
  generalize k%32=s at*
  refine acY d1 d2 d3 d4 (hK _ _ ?_);have e1:i64.wrap (((dO a).length:Int)+w)=(((dO a).length+w:Nat):Int):=by rw[bE (by omega) (by omega)];omega
  have e2:i64.wrap ((((dO a).length+w:Nat):Int)+1)=(((dO a).length+w+1:Nat):Int):=by rw[bE (by omega) (by omega)];omega
  refine abU λK hK=>?_;simp[e1,e2,-Int.natCast_add]
  repeat refine aL ?_
  apply hK;refine aae λK hK=>aar ?_;refine abd ?_
  refine aco (λ(p:Nat×List Nat)=>⟨aJ [(0,nK .u32 a),(5,.c (.d (.int .i64 w))),(6,.c (.d (.int .u64 s))),(7,.c (.aE 0 0 ((dO a).length+w+1) 1)),(25,nK .u32 a),(26,.c (.d (.int .i64 (dO a).length))),(27,.c (.d (.int .i64 p.1)))],
   au (λ_=>.hole) 0 (.cells true false 267 (wK .u32 (p.2++List.replicate ((dO a).length-p.1) 0)))⟩) 1
   (λp=>p.1<=(dO a).length/\p.2.length=p.1+w+1/\ok 4294967296 p.2/\p.2.getD (p.1+w) 0<2^s/\val 4294967296 p.2=4294967296^w*(val 4294967296 ((dO a).take p.1)*2^s))
   (λp=>(dO a).length-p.1) (0,List.replicate (w+1) 0) (Le.mk' _ (by simp[gW,show(dO a).length+w+1=w+1+(dO a).length by omega]) (by simp) (by simp)) ⟨by simp,by simp,vi (by omega) _,by grind,by simp[rK]⟩ ?_
  rintro⟨i,lo⟩ ⟨h1,h2,h3,h4,h5⟩;simp only at h1 h2 h3 h4 h5;refine aar ?_;refine aae λK2 hK2=>?_
  by_cases hlt:i<(dO a).length
  ·refine abz (by simp_all) (aaE (hK2 _ _ (aae λK3 hK3=>abd (abU λK4 hK4=>?_))));simp[hlt];apply hK4;refine aae λK4 hK4=>?_;have hx:(dO a)[i]<4294967296:=oka _ (aZ hlt);have hbt:val 4294967296 ((dO a).take (i+1))=val 4294967296 ((dO a).take i)+4294967296^i*(dO a)[i]:=bz hlt;generalize (dO a)[i]=x at hx hbt;obtain⟨y,hh,g1,g2,g3,g4,g5⟩:=Np hx hs;have e3:=dR (n:=(x:Int)) (by omega) (by omega)
   have e4:u64.wrap ((x:Int)*2^min s 64)=((x*2^s:Nat):Int):=by
    rw[adO (by omega),show((x:Int)*2^s)=((x*2^s:Nat):Int) by rfl];generalize x*2^s=z at g5;exact dR (by omega) (by omega)
   refine aaJ ?_;simp[e3,IntKind.bits,e4,-Int.natCast_mul,-Int.natCast_pow];apply hK4;have hij:i+w<lo.length:=by omega
   have hij2:i+w<(lo++List.replicate ((dO a).length-i) 0).length:=by simp;omega
   have hij3:i+w<lo.length+((dO a).length-i):=by omega
   have ht:lo[i+w]<2^s:=by rwa[ac2,bp hij]at h4
   have ho2:(lo++List.replicate ((dO a).length-i) 0)[i+w]=lo[i+w]:=aea hij;have hset:=yI (B:=4294967296) hij;generalize lo[i+w]=t at ht ho2 hset;have f1:i64.wrap ((i:Int)+w)=((i+w:Nat):Int):=by rw[bE (by omega) (by omega)];omega
   have f2:u32.wrap ((x*2^s:Nat):Int)=((y*2^s:Nat):Int):=by rw[<-g1,r8];generalize x*2^s=z;omega
   have f3:Nu .u32 (t:Int) ((y*2^s:Nat):Int)=((y*2^s+t:Nat):Int):=Nl ht (by omega);have f8:y*2^s+t<4294967296:=by omega
   have f4:aj (wK .u32 (lo++List.replicate ((dO a).length-i) 0)) (i+w) [CV.d (.int .u32 ((y*2^s+t:Nat):Int))]=wK .u32 (lo.set (i+w) (y*2^s+t)++List.replicate ((dO a).length-i) 0):=by
    rw[gx _ hij2,afJ _ _ hij]
   have f5:i+w<(dO a).length+w+1:=by omega
   refine abU λK4 hK4=>?_;simp[f1,f2,f3,f4,f5,hij3,ho2,-Int.natCast_mul,-Int.natCast_pow,-Int.natCast_add]
   repeat refine aL ?_
   apply hK4;have f6:Int.fdiv ((x*2^s:Nat):Int) 4294967296=(hh:Int):=by rw[ad5 _ (by omega),<-g2];generalize x*2^s=z;omega
   have f7:i64.wrap (((i+w:Nat):Int)+1)=((i+w+1:Nat):Int):=by rw[bE (by omega) (by omega)];omega
   have hs32:(2:Nat)^s<4294967296:=Nat.pow_lt_pow_right (by decide) hs |> λh=>h
   have f9:=wP (n:=(hh:Int)) (by omega) (by omega);have hz:(dO a).length-i=((dO a).length-i-1)+1:=by omega
   have f10:aj (wK .u32 (lo.set (i+w) (y*2^s+t)++List.replicate ((dO a).length-i) 0)) (i+w+1) [CV.d (.int .u32 (hh:Int))]=wK .u32 (lo.set (i+w) (y*2^s+t)++[hh]++List.replicate ((dO a).length-i-1) 0):=by
    rw[gx _ (by simp;omega),hz];have:i+w+1=(lo.set (i+w) (y*2^s+t)).length:=by simp;omega
    rw[this,lA];simp
   have f11:i+w+1<lo.length+((dO a).length-i):=by omega
   refine aaJ ?_;simp[f1,f6,f7,f9,f10,IntKind.bits,-Int.natCast_mul,-Int.natCast_pow,-Int.natCast_add]
   repeat refine aL ?_
   apply hK3;have f12:=bE (n:=(i:Int)+1) (by omega) (by omega);refine aaJ ?_;simp[f12];have f13:(dO a).length-(i+1)=(dO a).length-i-1:=by omega
   refine⟨i+1,lo.set (i+w) (y*2^s+t)++[hh],Le.mk' _ (by simp[f13]) (by simp) (by simp),⟨by omega,by simp;omega,cJ.2 ⟨HF h3 _ f8,bS.2 ⟨by omega,cK _⟩⟩,?_,?_⟩,by omega⟩
   ·grind
   ·rw[fF,aep,h2,hbt];have p1:=hset (y*2^s+t);have p2:=p9 4294967296 (i+w) (x*2^s)
    grind
  ·refine abD (by simp_all) (abX ?_);simp;have e9:i=(dO a).length:=by omega
   subst e9;apply hK;refine abU λK hK=>?_;simp;rw[<-h2]
   have hout:dG lo=aI 4294967296 (val 4294967296 (dO a)*2^k):=by
    refine eC (by decide) h3 ?_;rw[h5,aM (aU _),hks,ad7,aef];generalize 2^s=S;generalize val 4294967296 (dO a)=V;have:(2:Nat)^32=4294967296:=by decide
    rw[this];generalize 4294967296^w=W
    grind
   refine gM.rT 0 1 0 (by simp;rfl) (by omega) (dY _ _) (by simp) (by simp) (by simp) ?_;simp;apply hK;exact aaV (aq.rt rfl 1 (by simp[hout]))
theorem mT(h:ok B l)(i:Nat)(hi:i<=l.length):val B l/B^i=val B (l.drop i):=by
 have h1:=cB (B:=B) l i hi;have h2:=fV (mF h i);rw[ac7,adO hi]at h2;have hp:0<B^i:=by omega
 rw[h1,afq _ _ hp,aeF h2,adx]
theorem Mp{D z:Nat}(hs:s<32)(hD:D=x+4294967296*(y+4294967296*z)):D/2^s%4294967296=(y*4294967296+x)/2^s%4294967296:=by
 have hP:(2:Nat)^(32-s)*2^s=4294967296:=by rw[<-ad7,Nat.sub_add_cancel (by omega)]
 have h0:0<2^s:=adA (by decide)
 have e:D=(y*4294967296+x)+2^s*(4294967296*(2^(32-s)*z)):=by
  have aux:∀S T B:Nat,T*S=B->S*(B*(T*z))=B*(B*z):=by
   intro S T B h
   calc S*(B*(T*z))=(T*S)*(B*z):=by ac_rfl
    _=_:=by rw[h]
  have this:=aux (2^s) (2^(32-s)) 4294967296 hP;rw[this,hD];omega
 rw[e,afq _ _ h0,afo]
theorem C3(G:List (List DV))(a:Option (List Nat))(k:Nat)(ha:(dO a).length<=1000000000000)(hk:k<=1000000000000):
 aa prog G 263 [nK .u32 a,.c (.d (.int .i64 k))] (if (dO a).length<=k/32 then nK .u32 none else nK .u32 (some (aI 4294967296 (val 4294967296 (dO a)/2^k)))):=by
 refine aD.kK 0 (by simp) (λV v h=>iT h) λhra=>?_;have oka:ok 4294967296 (dO a):=λd hd=>by have:=hra.2 d hd;simp only[rR]at this;omega
 have d1:Int.tdiv (k:Int) 32=((k/32:Nat):Int):=by rw[afM (by omega)];omega
 have d2:Int.tmod (k:Int) 32=((k%32:Nat):Int):=by rw[afN (by omega)];omega
 have hks:k=32*(k/32)+k%32:=by omega
 have hs:k%32<32:=by omega
 have hw:k/32<=1000000000000:=by omega
 have d3:=bE (n:=((k/32:Nat):Int)) (by omega) (by omega);have d4:=dR (n:=((k%32:Nat):Int)) (by omega) (by omega);generalize k/32=w at*
 generalize k%32=s at*
 by_cases h0:(dO a).length<=w
 ·rw[if_pos h0];refine aa.en func263 rfl λ_=>aar ?_;refine adi d1 d2 d3 d4 ?_;refine aae λK hK=>aar ?_;refine abz (by simp_all) (aar ?_);exact aaV (aq.rt rfl 0 (by simp[nK]))
 ·rw[if_neg h0];refine aa.en func263 rfl λ_=>aar ?_;refine adi d1 d2 d3 d4 ?_;refine aae λK hK=>aar ?_;refine abD (by simp_all) (aaE (hK _ _ ?_));have e1:i64.wrap (((dO a).length:Int)-w)=(((dO a).length-w:Nat):Int):=by rw[bE (by omega) (by omega)];omega
  have hw1:w<=(dO a).length:=by omega
  have hD:=mT oka w hw1;refine acf e1 ?_;refine aae λK hK=>aar ?_;refine abd ?_
  refine aco (λ(pre:List Nat)=>⟨aJ [(0,nK .u32 a),(5,.c (.d (.int .i64 w))),(6,.c (.d (.int .u64 s))),(7,.c (.aE 0 0 ((dO a).length-w) 1)),(25,.c (.d (.int .i64 ((dO a).length-w:Nat)))),(26,.c (.d (.int .i64 pre.length)))],
   au (λ_=>.hole) 0 (.cells true false 267 (wK .u32 (pre++List.replicate ((dO a).length-w-pre.length) 0)))⟩) 1
   (λpre=>pre.length<=(dO a).length-w/\ok 4294967296 pre/\val 4294967296 pre=(val 4294967296 ((dO a).drop w)/2^s)%4294967296^pre.length)
   (λpre=>(dO a).length-w-pre.length) [] (Le.mk' _ (by simp[gW]) (by simp) (by simp)) ⟨by simp,cK _,by simp[Nat.mod_one]⟩ ?_
  rintro pre ⟨h1,h2,h3⟩;refine aar ?_;refine aae λK2 hK2=>?_
  by_cases hlt:pre.length<(dO a).length-w
  ·refine abz (by simp_all) (aaE (hK2 _ _ (aae λK3 hK3=>abd (aar ?_))));refine aae λK4 hK4=>?_;have hi:pre.length+w<(dO a).length:=by omega
   have f1:i64.wrap ((pre.length:Int)+w)=((pre.length+w:Nat):Int):=by rw[bE (by omega) (by omega)];omega
   have f2:i64.wrap (((pre.length+w:Nat):Int)+1)=((pre.length+w+1:Nat):Int):=by rw[bE (by omega) (by omega)];omega
   have hx:(dO a)[pre.length+w]<4294967296:=oka _ (aZ hi)
   have hdr:val 4294967296 ((dO a).drop w)/4294967296^pre.length=(dO a)[pre.length+w]+4294967296*val 4294967296 ((dO a).drop (pre.length+w+1)):=by
    rw[mT (Dr oka w) _ (by simp;omega),aeb,aeO w,c7 hi]
   have hix:=gU (P:=prog) (T:=175) (lv:=au (λ_=>.hole) 0 (.cells true false 267 (wK .u32 (pre++List.replicate ((dO a).length-w-pre.length) 0)))) (k:=.u32) (k':=.i64) (o:=a) (i:=pre.length+w) (by simp) hi;generalize (dO a)[pre.length+w]=x at hx hdr hix;have e3:=dR (n:=(x:Int)) (by omega) (by omega);refine aaJ ?_;simp[f1,hix,e3,-Int.natCast_add];apply hK4;refine aae λK5 hK5=>aae λK6 hK6=>?_
   have fin:∀(y z:Nat) (fr:Nat->AV) (κ:Nat),y<4294967296->val 4294967296 ((dO a).drop (pre.length+w+1))=y+4294967296*z ->
    fr 0=nK .u32 a->fr 5=.c (.d (.int .i64 w))->fr 6=.c (.d (.int .u64 s))->fr 7=.c (.aE 0 0 ((dO a).length-w) 1)->fr 8=.c (.d (.int .i64 pre.length))->fr 9=.c (.d (.int .u64 ((y*4294967296+x:Nat):Int))) ->
    fr 25=.c (.d (.int .i64 ((dO a).length-w:Nat)))->fr 26=.c (.d (.int .i64 pre.length)) ->
    K5 ⟨fr,au (λ_=>.hole) 0 (.cells true false 267 (wK .u32 (pre++List.replicate ((dO a).length-w-pre.length) 0)))⟩ κ:=by
    intro y z fr κ hy hyz q0 q5 q6 q7 q8 q9 q25 q26;apply hK5;refine acW 2 ?_
    have g1:Int.fdiv ((y*4294967296+x:Nat):Int) (2^min s 64)=(((y*4294967296+x)/2^s:Nat):Int):=by
     rw[adO (by omega),ad5 _ (Int.le_of_lt (Int.pow_pos (by decide)))];generalize y*4294967296+x=m;rw[Int.natCast_ediv];congr 1
    have g2:u32.wrap (((y*4294967296+x)/2^s:Nat):Int)=(((y*4294967296+x)/2^s%4294967296:Nat):Int):=by
     rw[r8];generalize (y*4294967296+x)/2^s=m;omega
    have hdig:=Mp (x:=x) (y:=y) (z:=z) hs (D:=val 4294967296 ((dO a).drop w)/4294967296^pre.length) (by omega);have hv:(y*4294967296+x)/2^s%4294967296<4294967296:=adw _ (by omega);generalize (y*4294967296+x)/2^s%4294967296=v at g2 hdig hv;have hz:(dO a).length-w-pre.length=((dO a).length-w-pre.length-1)+1:=by omega
    have g3:aj (wK .u32 (pre++List.replicate ((dO a).length-w-pre.length) 0)) pre.length [CV.d (.int .u32 (v:Int))]=wK .u32 (pre++[v]++List.replicate ((dO a).length-w-pre.length-1) 0):=by
     rw[hz,gx _ (by simp),lA];simp
    refine aaJ ?_;simp[q6,q7,q8,q9,IntKind.bits,g1,g2,g3,hlt,-Int.natCast_add,-Int.natCast_mul,-Int.natCast_ediv,-Int.natCast_pow]
    repeat refine aL ?_
    apply hK3;have g4:=bE (n:=(pre.length:Int)+1) (by omega) (by omega);refine aaJ ?_;simp[q26,g4];have g5:(dO a).length-w-(pre.length+1)=(dO a).length-w-pre.length-1:=by omega
    refine⟨pre++[v],Le.mk' _ (by simp[g5]) (by simp) (by simp[q0,q5,q6,q7,q25]),⟨by simp;omega,cJ.2 ⟨h2,bS.2 ⟨hv,cK _⟩⟩,?_⟩,by simp;omega⟩;rw[fF,ac8,adY,Nat.mod_pow_succ,h3,afO,adR (2^s),<-afO,hdig]
   refine aaJ ?_;simp[f1,f2,-Int.natCast_add];apply hK6
   by_cases hlb:pre.length+w+1<(dO a).length
   ·refine abz (by simp[hlb]<;>omega) ?_;have hy:(dO a)[pre.length+w+1]<4294967296:=oka _ (aZ hlb);have hyz:=c7 (B:=4294967296) hlb;have hiy:=gU (P:=prog) (T:=175) (lv:=au (λ_=>.hole) 0 (.cells true false 267 (wK .u32 (pre++List.replicate ((dO a).length-w-pre.length) 0)))) (k:=.u32) (k':=.i64) (o:=a) (i:=pre.length+w+1) (by simp) hlb;generalize (dO a)[pre.length+w+1]=y at hy hyz hiy;have p1:=dR (n:=(y:Int)) (by omega) (by omega);have p2:u64.wrap ((y:Int)*4294967296)=((y*4294967296:Nat):Int):=by rw[dR (by omega) (by omega)];omega
    have p3:Nu .u64 (x:Int) ((y*4294967296:Nat):Int)=((y*4294967296+x:Nat):Int):=by rw[EO];exact vw hy hx
    refine aaJ ?_;simp[f1,f2,hiy,p1,p2,p3,IntKind.bits,-Int.natCast_add,-Int.natCast_mul];exact fin y _ _ _ hy hyz (by simp) (by simp) (by simp) (by simp) (by simp) (by simp) (by simp) (by simp)
   ·refine abD (by simp[hlb]<;>omega) (aaE ?_);simp;exact fin 0 0 _ _ (by omega) (by rw[fR (by omega)]) (by simp) (by simp) (by simp) (by simp) (by simp) (by simp) (by simp) (by simp)
  ·refine abD (by simp_all) (abX ?_);simp;have e9:pre.length=(dO a).length-w:=by omega
   apply hK;refine abU λK hK=>?_;simp
   have hout:dG pre=aI 4294967296 (val 4294967296 (dO a)/2^k):=by
    refine eC (by decide) h2 ?_;have hl:=fV (Dr oka w);rw[aeN,<-e9]at hl;rw[h3,adL (aee (afd _ _) hl),<-hD,afO,hks,ad7,aef]
   rw[<-e9];simp only[aes,afL,adv];refine gM.rT 0 1 0 (by simp;rfl) (by omega) (dY _ _) (by simp) (by simp) (by simp) ?_;simp;apply hK;exact aaV (aq.rt rfl 1 (by simp[hout]))
theorem Cc{x0 cb b:Nat}(hx:x0<4294967296)(hc:cb<4294967296)(hb:b<=1):
 ∃v b':Nat,v<4294967296/\b'<=1/\v+cb+b=x0+4294967296*b'/\u32.wrap (u64.wrap (u64.wrap ((x0:Int)-cb)-b))=v/\Int.fdiv (u64.wrap (u64.wrap ((x0:Int)-cb)-b)) 9223372036854775808=b':=by
 simp only[r8,BT]
 by_cases h:cb+b<=x0
 ·refine⟨x0-cb-b,0,by omega,by omega,by omega,by omega,?_⟩
  grind
 ·refine⟨x0+4294967296-cb-b,1,by omega,by omega,by omega,by omega,?_⟩
  grind
theorem qI(k:IntKind)(l:List Nat):∀x∈wK k l,x.pure=true:=by
 intro x hx;simp only[wK,adX]at hx;obtain⟨y,_,rfl⟩:=hx;rfl
def r9(w m:Nat):Nat:=if w<m then 1 else 0
theorem MZ{W M R bb:Nat}(hbb:bb<=1)(h:R+M=W+L*bb)(hR:R<L):bb=r9 W M/\R=W+L*r9 W M-M:=by
 unfold r9;have:bb=0\/bb=1:=by omega
 grind
theorem Bm(G:List (List DV))(lo win hi:List Nat)(n t:Nat)(v:Option (List Nat))(hw:win.length=(dO v).length+1)(hn:win.length<=n)(okw:ok 4294967296 win)(ht:t<4294967296)(hl:(lo++win++hi).length<=1000000000000):
 aD prog G 261 [.c (.aE 0 lo.length n 1),nK .u32 v,.c (.d (.int .u64 t))] [.cells false false 267 (wK .u32 (lo++win++hi))]
  (.ret (.c (.d (.bool (decide (r9 (val 4294967296 win) (t*val 4294967296 (dO v))=1))))) [.cells false false 267 (wK .u32 (lo++iA 4294967296 win.length (val 4294967296 win+4294967296^win.length*r9 (val 4294967296 win) (t*val 4294967296 (dO v))-t*val 4294967296 (dO v))++hi))] []):=by
 refine aD.kK 1 (by simp) (λV v h=>iT h) λhrv=>?_;have okv:ok 4294967296 (dO v):=λd hd=>by have:=hrv.2 d hd;simp only[rR]at this;omega
 simp only[ac8]at hl;refine aD.en1 func261 rfl λ_=>aar ?_;refine aar ?_;refine aae λK hK=>aar ?_;refine abd ?_
 refine aco (λ(p:List Nat×Nat×Nat)=>⟨aJ [(0,.c (.aE 0 lo.length n 1)),(1,nK .u32 v),(2,.c (.d (.int .u64 t))),(7,.c (.d (.int .u64 p.2.1))),(8,.c (.d (.int .u64 p.2.2))),(13,nK .u32 v),(14,.c (.d (.int .i64 (dO v).length))),(15,.c (.d (.int .i64 p.1.length)))],
  au (λ_=>.hole) 0 (.cells false false 267 (wK .u32 (lo++(p.1++win.drop p.1.length)++hi)))⟩) 1000
  (λp=>p.1.length<=(dO v).length/\ok 4294967296 p.1/\p.2.1<4294967296/\p.2.2<=1/\val 4294967296 p.1+t*val 4294967296 ((dO v).take p.1.length)=val 4294967296 (win.take p.1.length)+4294967296^p.1.length*(p.2.1+p.2.2))
  (λp=>(dO v).length-p.1.length) ([],0,0) (Le.mk' _ (by simp) (by simp) (by simp)) ⟨by simp,cK _,by simp,by simp,by simp⟩ ?_
 rintro⟨pre,c,b⟩ ⟨h1,h2,h3,h4,h5⟩;simp only at h1 h2 h3 h4 h5;have hwl:pre.length<win.length:=by omega
 have hwd:win.drop pre.length=win[pre.length]::win.drop (pre.length+1):=adV hwl;have hwx:win[pre.length]<4294967296:=okw _ (aZ hwl);have hwt:=bz (B:=4294967296) hwl;generalize hx0:win[pre.length]=x0 at hwd hwx hwt;generalize hB:lo++(pre++win.drop pre.length)++hi=BL;rw[hwd]at hB;have hget:BL[lo.length+pre.length]?=some x0:=by rw[<-hB];exact Kg hi
 have hBl:BL.length=lo.length+(win.length+hi.length):=by rw[<-hB];simp;omega
 refine aar ?_;refine aae λK2 hK2=>?_
 by_cases hlt:pre.length<(dO v).length
 ·refine abz (by simp_all) (aaE (hK2 _ _ (aae λK3 hK3=>abd (abU λK4 hK4=>?_))));simp[hlt];apply hK4;refine aae λK4 hK4=>?_;have hx:(dO v)[pre.length]<4294967296:=okv _ (aZ hlt);have hvt:=bz (B:=4294967296) hlt;generalize (dO v)[pre.length]=x at hx hvt;have htx:t*x<=4294967295*4294967295:=aeo (by omega) (by omega);have e1:=dR (n:=(x:Int)) (by omega) (by omega)
  have e2:u64.wrap ((t:Int)*x)=((t*x:Nat):Int):=by
   rw[<-Int.natCast_mul];generalize t*x=p at htx;exact dR (by omega) (by omega)
  have e3:u64.wrap ((c:Int)+((t*x:Nat):Int))=((c+t*x:Nat):Int):=by
   generalize t*x=p at htx;rw[dR (by omega) (by omega)];omega
  refine aaJ ?_;simp[e1,e2,e3,-Int.natCast_add,-Int.natCast_mul];apply hK4;generalize hm:c+t*x=m at*
  have hml:m<18446744073709551616:=by rw[<-hm];generalize t*x=p at htx;omega
  have e4:u32.wrap (m:Int)=((m%4294967296:Nat):Int):=by rw[r8];omega
  have e5:=dR (n:=((m%4294967296:Nat):Int)) (by omega) (by omega);have e6:=dR (n:=(x0:Int)) (by omega) (by omega);have hcb:m%4294967296<4294967296:=adw _ (by omega);have hdm:=afs m 4294967296;obtain⟨d,b',g1,g2,g3,g4,g5⟩:=Cc hwx hcb h4;have e7:Int.fdiv (m:Int) 4294967296=((m/4294967296:Nat):Int):=by rw[ad5 _ (by omega)];omega
  generalize m%4294967296=mr at*
  generalize m/4294967296=mq at*
  have i1:=nu (P:=prog) (T:=267) (by simp) .u32 hget
  have i2:aj (wK .u32 BL) (lo.length+pre.length) [CV.d (.int .u32 (d:Int))]=wK .u32 (lo++((pre++[d])++win.drop (pre.length+1))++hi):=by
   rw[gx _ (by omega),<-hB,yH]
  have i3:lo.length+pre.length+1<=BL.length:=by omega
  have i4:pre.length<n:=by omega
  refine abU λK4 hK4=>?_;simp[i1,e4,e5,e6,i4,-Int.natCast_emod];apply hK4;refine adi g4 i2 i3 i4 ?_;refine abU λK4 hK4=>?_;simp[IntKind.bits,g5];apply hK4;refine aaJ ?_;simp[IntKind.bits,e7,-Int.natCast_ediv];apply hK3;have e8:=bE (n:=(pre.length:Int)+1) (by omega) (by omega);refine aaJ ?_;simp[e8];refine⟨pre++[d],mq,b',Le.mk' _ (by simp) (by simp) (by simp),⟨by simp;omega,cJ.2 ⟨h2,bS.2 ⟨g1,cK _⟩⟩,by omega,g2,?_⟩,by simp;omega⟩;rw[ac8,adY,fF,hvt,hwt,adl]
  grind
 ·refine abD (by simp_all) (abX ?_);simp;have ek:pre.length=(dO v).length:=by omega
  apply hK;have hgl:win.drop (pre.length+1)=[]:=aeE (by omega);obtain⟨d,b',g1,g2,g3,g4,g5⟩:=Cc hwx h3 h4;have e6:=dR (n:=(x0:Int)) (by omega) (by omega);have i1:=nu (P:=prog) (T:=267) (by simp) .u32 hget
  have i2:aj (wK .u32 BL) (lo.length+pre.length) [CV.d (.int .u32 (d:Int))]=wK .u32 (lo++(pre++[d])++hi):=by
   rw[gx _ (by omega),<-hB,yH,hgl,adv]
  have i3:lo.length+pre.length+1<=BL.length:=by omega
  have i4:pre.length<n:=by omega
  rw[<-ek];refine abU λK hK=>?_;simp[<-ek,i1,e6,i4];apply hK;refine abU λK hK=>?_;simp[<-ek,i2,i3,i4,g4];apply hK;refine abU λK hK=>?_;simp[IntKind.bits,g5];apply hK;have hvv:val 4294967296 ((dO v).take pre.length)=val 4294967296 (dO v):=aM (by omega);have hww:val 4294967296 (win.take (pre.length+1))=val 4294967296 win:=aM (by omega);have hL:win.length=pre.length+1:=by omega
  rw[hvv]at h5
  have hfin:val 4294967296 (pre++[d])+t*val 4294967296 (dO v)=val 4294967296 win+4294967296^win.length*b':=by
   rw[hL,fF,<-hww,hwt,adl];have j1:4294967296^pre.length*(d+c+b)=4294967296^pre.length*(x0+4294967296*b'):=by rw[g3]
   rw[adF,adF,adF,<-adz]at j1;rw[adF]at h5;omega
  have hok:ok 4294967296 (pre++[d]):=cJ.2 ⟨h2,bS.2 ⟨g1,cK _⟩⟩;have hlt2:=fV hok;rw[ac8,adY,<-hL]at hlt2;obtain⟨q1,q2⟩:=MZ g2 hfin hlt2;have hdig:=rz hok q2;rw[ac8,adY,<-hL]at hdig;rw[<-hdig];have q3:(b':Int)=1↔r9 (val 4294967296 win) (t*val 4294967296 (dO v))=1:=by rw[<-q1];omega
  refine acm (κ:=0) (GF.tmp (κ:=0) rfl (by simp[q3]) rfl (by simp) (by simp))
theorem O1(hB:0<B)(h:ok B l)(hv:val B l=n%B^l.length):l=iA B l.length n:=by
 have h1:=rz (ve hB l.length n) (nt l.length n);rw[qk]at h1;rw[h1];exact rz h hv
theorem Bh(G:List (List DV))(lo win hi:List Nat)(n:Nat)(v:Option (List Nat))(hw:win.length=(dO v).length+1)(hn:win.length<=n)(okw:ok 4294967296 win)(hl:(lo++win++hi).length<=1000000000000):
 aD prog G 262 [.c (.aE 0 lo.length n 1),nK .u32 v] [.cells false false 267 (wK .u32 (lo++win++hi))]
  (.ret (.tup []) [.cells false false 267 (wK .u32 (lo++iA 4294967296 win.length (val 4294967296 win+val 4294967296 (dO v))++hi))] []):=by
 refine aD.kK 1 (by simp) (λV v h=>iT h) λhrv=>?_;have okv:ok 4294967296 (dO v):=λd hd=>by have:=hrv.2 d hd;simp only[rR]at this;omega
 simp only[ac8]at hl;refine aD.en1 func262 rfl λ_=>aar ?_;refine aae λK hK=>aar ?_;refine abd ?_
 refine aco (λ(p:List Nat×Nat)=>⟨aJ [(0,.c (.aE 0 lo.length n 1)),(1,nK .u32 v),(4,.c (.d (.int .u64 p.2))),(7,nK .u32 v),(8,.c (.d (.int .i64 (dO v).length))),(9,.c (.d (.int .i64 p.1.length)))],
  au (λ_=>.hole) 0 (.cells false false 267 (wK .u32 (lo++(p.1++win.drop p.1.length)++hi)))⟩) 1000
  (λp=>p.1.length<=(dO v).length/\ok 4294967296 p.1/\p.2<=1/\val 4294967296 p.1+4294967296^p.1.length*p.2=val 4294967296 (win.take p.1.length)+val 4294967296 ((dO v).take p.1.length))
  (λp=>(dO v).length-p.1.length) ([],0) (Le.mk' _ (by simp) (by simp) (by simp)) ⟨by simp,cK _,by simp,by simp⟩ ?_
 rintro⟨pre,c⟩ ⟨h1,h2,h4,h5⟩;simp only at h1 h2 h4 h5;have hwl:pre.length<win.length:=by omega
 have hwd:win.drop pre.length=win[pre.length]::win.drop (pre.length+1):=adV hwl;have hwx:win[pre.length]<4294967296:=okw _ (aZ hwl);have hwt:=bz (B:=4294967296) hwl;generalize hx0:win[pre.length]=x0 at hwd hwx hwt;generalize hB:lo++(pre++win.drop pre.length)++hi=BL;rw[hwd]at hB;have hget:BL[lo.length+pre.length]?=some x0:=by rw[<-hB];exact Kg hi
 have hBl:BL.length=lo.length+(win.length+hi.length):=by rw[<-hB];simp;omega
 have i1:=nu (P:=prog) (T:=267) (by simp) .u32 hget;have i3:lo.length+pre.length+1<=BL.length:=by omega
 have i4:pre.length<n:=by omega
 refine aar ?_;refine aae λK2 hK2=>?_
 by_cases hlt:pre.length<(dO v).length
 ·refine abz (by simp_all) (aaE (hK2 _ _ (aae λK3 hK3=>abd (abU λK4 hK4=>?_))));simp[hlt];apply hK4;refine aae λK4 hK4=>?_;have hx:(dO v)[pre.length]<4294967296:=okv _ (aZ hlt);have hvt:=bz (B:=4294967296) hlt;generalize (dO v)[pre.length]=x at hx hvt;have e1:=dR (n:=(x:Int)) (by omega) (by omega);have e2:=dR (n:=(x0:Int)) (by omega) (by omega);have e3:u64.wrap ((x0:Int)+x)=((x0+x:Nat):Int):=by rw[dR (by omega) (by omega)];omega
  have e4:u64.wrap ((c:Int)+((x0+x:Nat):Int))=((c+(x0+x):Nat):Int):=by rw[dR (by omega) (by omega)];omega
  refine aaJ ?_;simp[i1,i4,e1,e2,e3,e4,-Int.natCast_add];apply hK4;have hs:=oS 4294967296 pre (c+(x0+x));have hml:c+(x0+x)<8589934592:=by omega
  generalize hm:c+(x0+x)=m at*
  have e5:u32.wrap (m:Int)=((m%4294967296:Nat):Int):=by rw[r8];omega
  have e7:Int.fdiv (m:Int) 4294967296=((m/4294967296:Nat):Int):=by rw[ad5 _ (by omega)];omega
  have hd:m%4294967296<4294967296:=adw _ (by omega);have hq:m/4294967296<=1:=by omega
  generalize m%4294967296=d at*
  generalize m/4294967296=q at*
  have i2:aj (wK .u32 BL) (lo.length+pre.length) [CV.d (.int .u32 (d:Int))]=wK .u32 (lo++((pre++[d])++win.drop (pre.length+1))++hi):=by
   rw[gx _ (by omega),<-hB,yH]
  refine adi e5 i2 i3 i4 ?_;refine aaJ ?_;simp[IntKind.bits,e7];apply hK3;have e8:=bE (n:=(pre.length:Int)+1) (by omega) (by omega);refine aaJ ?_;simp[e8];refine⟨pre++[d],q,Le.mk' _ (by simp) (by simp) (by simp),⟨by simp;omega,cJ.2 ⟨h2,bS.2 ⟨hd,cK _⟩⟩,hq,?_⟩,by simp;omega⟩;rw[ac8,adY,hs,hvt,hwt,<-hm,adF,adF];omega
 ·refine abD (by simp_all) (abX ?_);simp;have ek:pre.length=(dO v).length:=by omega
  apply hK;have hgl:win.drop (pre.length+1)=[]:=aeE (by omega);have e1:=wP (n:=(c:Int)) (by omega) (by omega);have hs:=oS 4294967296 pre (x0+c);have e2:u32.wrap ((x0:Int)+c)=(((x0+c)%4294967296:Nat):Int):=by rw[r8];omega
  have hd:(x0+c)%4294967296<4294967296:=adw _ (by omega);generalize (x0+c)/4294967296=q at*
  generalize (x0+c)%4294967296=d at*
  have i2:aj (wK .u32 BL) (lo.length+pre.length) [CV.d (.int .u32 (d:Int))]=wK .u32 (lo++(pre++[d])++hi):=by
   rw[gx _ (by omega),<-hB,yH,hgl,adv]
  refine aaJ ?_;simp[<-ek,i1,i2,i3,i4,e1,e2];have hvv:val 4294967296 ((dO v).take pre.length)=val 4294967296 (dO v):=aM (by omega);have hww:val 4294967296 (win.take (pre.length+1))=val 4294967296 win:=aM (by omega);have hL:win.length=(pre++[d]).length:=by simp;omega
  rw[hvv]at h5;have hok:ok 4294967296 (pre++[d]):=cJ.2 ⟨h2,bS.2 ⟨hd,cK _⟩⟩;have hlt2:=fV hok
  have hval:val 4294967296 win+val 4294967296 (dO v)=val 4294967296 (pre++[d])+4294967296^(pre++[d]).length*q:=by
   rw[ac8,adY,hs,<-hww,hwt,adF];omega
  have hdig:pre++[d]=iA 4294967296 win.length (val 4294967296 win+val 4294967296 (dO v)):=by
   rw[hL];refine O1 (by decide) hok ?_;rw[hval,afo,adL hlt2]
  refine GF.none (.inl rfl) rfl (by simp) ?_
  grind
theorem MA(G:List (List DV))(a b:Option (List Nat))(ha:can 4294967296 (dO a))(hb:can 4294967296 (dO b))(h:val 4294967296 (dO a)<val 4294967296 (dO b)):
 aa prog G 223 [nK .u32 a,nK .u32 b] (.tup [nK .u32 none,nK .u32 a]):=by
 refine aa.en func223 rfl λ_=>aar ?_;refine AW.scope ?_;refine aar ?_;refine aae λK hK=>abd (abU λK1 hK1=>?_)
 simp;refine ag.pure 0 0 (iq ha hb) rfl (by simp) rfl ?_;simp[kf h];apply hK1;refine abA (aar ?_);exact aaV (aq.t2 rfl 0 (by simp[nK]) (by simp))
theorem Lx(G:List (List DV))(a b:Option (List Nat))(ha:can 4294967296 (dO a))(hb:can 4294967296 (dO b))(h:val 4294967296 (dO b)<=val 4294967296 (dO a))(hn:(dO b).length=1)(hl:(dO a).length<=1000000000000):
 aa prog G 223 [nK .u32 a,nK .u32 b] (.tup [nK .u32 (some (aI 4294967296 (val 4294967296 (dO a)/val 4294967296 (dO b)))),nK .u32 (some (aI 4294967296 (val 4294967296 (dO a)%val 4294967296 (dO b))))]):=by
 obtain⟨x,hx⟩:∃x,dO b=[x]:=by
  match hd:dO b,hn with|[x],_=>exact⟨x,rfl⟩
 have hxv:val 4294967296 (dO b)=x:=by simp[hx]
 have hx0:x≠0:=hb.2 x (by grind);have hxl:x<4294967296:=hb.1 x (by grind);have hlt:(0:Nat)<(dO b).length:=by omega
 have hix:=gU (P:=prog) (T:=175) (lv:=λ_=>.hole) (k:=.u32) (k':=.i64) (o:=b) (i:=0) (by simp) hlt;have hg:(dO b)[0]=x:=by simp[hx]
 simp only[hg,aft]at hix;refine aa.en func223 rfl λ_=>aar ?_;refine AW.scope ?_;refine aar ?_;refine aae λK hK=>abd (aae λK1 hK1=>?_)
 have hc:¬eA (val 4294967296 (dO a)) (val 4294967296 (dO b))<0:=by unfold eA;(repeat' split)<;>omega
 refine aaJ ?_;simp;refine ag.pure 0 0 (iq ha hb) rfl (by simp) rfl ?_;simp only[hxv]at hc⊢;simp[hc];apply hK1;refine abD (by rfl) (aar ?_);refine abz (by simp_all) (abU λK1 hK1=>?_);simp[hix];refine ag.pure 0 0 (AY _ a x hx0 hl) (by simp[AV.pure,AV.lH];exact⟨rfl,rfl⟩) (by simp) rfl ?_;simp[-Int.natCast_emod];apply hK1;have hml:val 4294967296 (dO a)%x<x:=adw _ (by omega);generalize hr:val 4294967296 (dO a)%x=r at*
 have e1:=dR (n:=(r:Int)) (by omega) (by omega);refine abU λK1 hK1=>?_;simp[e1];refine ag.pure 0 0 (gR _ r (by omega)) (by simp) (by simp) rfl ?_;simp;apply hK1;exact aaV (aq.t2 rfl 0 (by simp[hxv]) (by simp_all))
theorem Sm{lv:Key->LB}(k:IntKind)(l:List Nat):dS lv 1 (nK k (some l))=some (l.length,wK k l):=by
 have h1:(dK k l).all (λe=>e.length==1)=true:=by simp[dK]
 have h2:(dK k l).flatten.map CV.d=wK k l:=by
  induction l with
  |nil=>rfl
  |cons x l ih=>simp only[dK,wK,ac4,List.flatten_cons,afk]at ih⊢;simp[ih]
 simp only[dS,nK,h1,if_true,h2];simp[dK]
theorem AH{lo wl hi:List Nat}(h:i<wl.length):(lo++wl++hi)[lo.length+i]?=wl[i]?:=by
 grind
theorem aaC(hn:2<=n)(hl:l.length=n+1):val B l=((l[n]*B+l[n-1])*B+l[n-2])*B^(n-2)+val B (l.take (n-2)):=by
 have h1:=cB (B:=B) l (n-2) (by omega);have e1:n-2+1=n-1:=by omega
 have e2:n-1+1=n:=by omega
 rw[c7 (by omega:n-2<l.length)]at h1;simp only[e1]at h1;rw[c7 (by omega:n-1<l.length)]at h1;simp only[e2]at h1;rw[c7 (by omega:n<l.length),fR (by omega)]at h1
 grind
theorem aam(hn:2<=n)(hl:l.length=n):val B l=(l[n-1]*B+l[n-2])*B^(n-2)+val B (l.take (n-2)):=by
 have h1:=cB (B:=B) l (n-2) (by omega);have e1:n-2+1=n-1:=by omega
 rw[c7 (by omega:n-2<l.length)]at h1;simp only[e1]at h1;rw[c7 (by omega:n-1<l.length),fR (by omega)]at h1
 grind
structure Dv(dV:List Nat)(n la m U0:Nat):Prop where
 hn:2<=n
 hla:la<=1000000000000
 hm:m+n=la+1
 KG:1<=m
 okV:ok 4294967296 dV
 ac3:dV.length=n
 j5:2147483648<=dV.getD (n-1) 0
def dvI(dV:List Nat)(n m U0:Nat)(p:Nat×List Nat×List Nat×List Nat):Prop:=
 p.1<=m/\p.2.1.length=p.1/\p.2.2.1.length=n/\ok 4294967296 p.2.1/\ok 4294967296 p.2.2.1/\p.2.2.2.length+p.1=m/\ok 4294967296 p.2.2.2/\val 4294967296 p.2.2.1<val 4294967296 dV /\
  val 4294967296 p.2.1+4294967296^p.1*(val 4294967296 p.2.2.1+val 4294967296 dV*val 4294967296 p.2.2.2)=U0
def dvS(dV:List Nat)(n la m s:Nat)(p:Nat×List Nat×List Nat×List Nat):az:=
 ⟨aJ [(4,.c (.aE 1 0 m 1)),(6,.c (.d (.int .i64 n))),(9,.c (.d (.int .i64 s))),(10,nK .u32 (some dV)),(11,.c (.aE 0 0 (la+1) 1)),(12,.c (.d (.int .i64 ((p.1:Int)-1))))],
  au (au (λ_=>.hole) 0 (.cells true false 267 (wK .u32 (p.2.1++p.2.2.1++List.replicate (m-p.1) 0)))) 1 (.cells true false 267 (wK .u32 (List.replicate p.1 0++p.2.2.2)))⟩
theorem Vz{b:List Nat}(hb:can 4294967296 b)(hn:b.length=n)(h1:1<=n):∃t s,b[n-1]?=some t/\t<4294967296/\s<=31/\bt t+s=32/\val 4294967296 b*2^s<4294967296^n/\4294967296^(n-1)*2147483648<=val 4294967296 b*2^s:=by
 have hlt:n-1<b.length:=by omega
 have ht0:b[n-1]≠0:=hb.2 _ (by grind);have htl:b[n-1]<4294967296:=hb.1 _ (aZ hlt);have hv:=cB (B:=4294967296) b (n-1) (by omega);rw[c7 hlt,fR (by omega)]at hv;have hl:=fV (mF hb.1 (n-1));rw[ac7,adO (by omega)]at hl;refine⟨b[n-1],32-bt b[n-1],bp hlt,htl,?_⟩;generalize b[n-1]=t at*
 have hb1:=kU ht0;have hb2:=tO t;have hb3:1<=bt t:=by simp[bt,ht0]
 have hb4:bt t<=32:=by
  apply adK;intro hc;have h9:2^32<=2^(bt t-1):=adS (by decide) (by omega);omega
 have p1:2^bt t*2^(32-bt t)=4294967296:=by
  rw[<-ad7];have:bt t+(32-bt t)=32:=by omega
  rw[this]
 have p2:2^(bt t-1)*2^(32-bt t)=2147483648:=by
  rw[<-ad7];have:bt t-1+(32-bt t)=31:=by omega
  rw[this]
 refine⟨by omega,by omega,?_,?_⟩
 ·have q1:val 4294967296 b+1<=4294967296^(n-1)*2^bt t:=by
   have:4294967296^(n-1)*(t+1)<=4294967296^(n-1)*2^bt t:=adB _ hb2;rw[adF,ad3]at this;simp only[aeg,ad0]at hv;omega
  have q2:(val 4294967296 b+1)*2^(32-bt t)<=4294967296^(n-1)*2^bt t*2^(32-bt t):=adn _ q1;have q3:4294967296^(n-1)*4294967296=4294967296^n:=by rw[<-adl];congr 1;omega
  rw[adz,p1,q3,adr,ad1]at q2
  grind
 ·rw[<-p2,<-adz];refine adn _ ?_;have:4294967296^(n-1)*2^(bt t-1)<=4294967296^(n-1)*t:=adB _ hb1
  grind
theorem TG(hB:0<B)(L n:Nat):iA B L (n%B^L)=iA B L n:=by
 have h:=rz (ve hB L n) rfl;rw[qk,nt]at h
 grind
theorem Mz(hB:0<B)(L n:Nat):iA B L (B^L+n)=iA B L n:=by
 rw[<-TG hB,Nat.add_mod_left,TG hB]
theorem EE{a b c:LB}:au (au (au (λ_=>LB.hole) 0 a) 1 b) 0 c=au (au (λ_=>LB.hole) 0 c) 1 b:=by
 funext k;simp only[au]
 grind
theorem PB(a b:Option (List Nat))(ha:can 4294967296 (dO a))(hb:can 4294967296 (dO b))(h:val 4294967296 (dO b)<=val 4294967296 (dO a))(hn:2<=(dO b).length)(hl:(dO a).length<1000000000000):
 ∀G,aa prog G 223 [nK .u32 a,nK .u32 b] (.tup [nK .u32 (some (aI 4294967296 (val 4294967296 (dO a)/val 4294967296 (dO b)))),nK .u32 (if val 4294967296 (dO a)%val 4294967296 (dO b)=0 then none else some (aI 4294967296 (val 4294967296 (dO a)%val 4294967296 (dO b))))]):=by
 intro G;obtain⟨t,s,ht,htl,hs,hts,hV1,hV2⟩:=Vz hb rfl (by omega)
 have hlen:(dO b).length<=(dO a).length:=by
  apply adK;intro hc;have:=lZ (by omega) ha hb (by omega);omega
 have hb0:dO b≠[]:=λe=>by grind
 have ha0:dO a≠[]:=λe=>by grind
 obtain⟨hk,hte⟩:=List.getElem?_eq_some_iff.1 ht;have hlz:=nW G t htl;have e0:(32-(bt t:Int))=(s:Int):=by omega
 rw[e0]at hlz;have hsb:=ia G b s (by omega) (by omega);have hsa:=ia G a s (by omega) (by omega);rw[if_neg hb0]at hsb;rw[if_neg ha0]at hsa;refine aa.en func223 rfl λ_=>aar ?_;refine AW.scope ?_;refine aar ?_;refine aae λK hK=>abd (aae λK1 hK1=>?_)
 have hc:¬eA (val 4294967296 (dO a)) (val 4294967296 (dO b))<0:=by unfold eA;(repeat' split)<;>omega
 refine aaJ ?_;simp;refine ag.pure 0 0 (iq ha hb) rfl (by simp) rfl ?_;simp[hc];apply hK1;refine abD (by rfl) (aar ?_);have hn1:¬(dO b).length=1:=by omega
 refine abD (by simp<;>omega) (aaE (hK _ _ ?_));have e1:i64.wrap (((dO b).length:Int)-1)=(((dO b).length-1:Nat):Int):=by rw[bE (by omega) (by omega)];omega
 refine abU λK hK=>?_;simp[e1,hk,hte];refine ag.pure 0 0 hlz rfl (by simp) rfl ?_;simp;apply hK;refine abU λK hK=>?_;simp;refine ag.pure 0 0 hsb (by simp) (by simp) rfl ?_;simp;apply hK;have e2:=bE (n:=((dO a).length:Int)+1) (by omega) (by omega);refine acf e2 ?_;refine abU λK hK=>?_;simp;refine ag.pure 1 5 hsa (by simp) (by simp) (by simp) ?_;simp[iI,Sm];have hA:=sH (B:=4294967296) (n:=val 4294967296 (dO a)) (by decide);rw[<-iE (by decide) ha rfl]at hA;have hU1:val 4294967296 (dO a)*2^s<4294967296^(dO a).length*2^s:=afX hA (adA (by decide));have hs31:(2:Nat)^s<=2147483648:=adS (n:=2) (by decide) hs
 have hU2:val 4294967296 (dO a)*2^s<4294967296^((dO a).length+1):=by
  rw[adl];refine adD hU1 (adB _ (by omega))
 have hApos:0<val 4294967296 (dO a):=iP ha ha0;have hBpos:0<val 4294967296 (dO b):=iP hb hb0;have hU0:val 4294967296 (dO a)*2^s≠0:=aeh (ad4 hApos (adA (by decide)));have hV0:val 4294967296 (dO b)*2^s≠0:=aeh (ad4 hBpos (adA (by decide)));have hUl:=c8 (by decide) hU2;have hUp:0<(aI 4294967296 (val 4294967296 (dO a)*2^s)).length:=List.length_pos_iff.2 (λe=>hU0 ((eH (by decide)).1 e));have okU:=(bx (B:=4294967296) (by decide) (val 4294967296 (dO a)*2^s)).1;have vU:=bq (B:=4294967296) (by decide) (val 4294967296 (dO a)*2^s);have kD:=bx (B:=4294967296) (by decide) (val 4294967296 (dO b)*2^s);have vV:=bq (B:=4294967296) (by decide) (val 4294967296 (dO b)*2^s)
 have lV:(aI 4294967296 (val 4294967296 (dO b)*2^s)).length=(dO b).length:=by
  refine Nat.le_antisymm (c8 (by decide) hV1) ?_;apply adK;intro hc;have g1:=sH (B:=4294967296) (n:=val 4294967296 (dO b)*2^s) (by decide);have g2:4294967296^(aI 4294967296 (val 4294967296 (dO b)*2^s)).length<=4294967296^((dO b).length-1):=adS (by decide) (by omega);have g3:4294967296^((dO b).length-1)*1<=4294967296^((dO b).length-1)*2147483648:=adB _ (by decide);omega
 have hq:val 4294967296 (dO a)/val 4294967296 (dO b)=(val 4294967296 (dO a)*2^s)/(val 4294967296 (dO b)*2^s):=(Nat.mul_div_mul_right _ _ (adA (by decide))).symm;have hr:(val 4294967296 (dO a)*2^s)%(val 4294967296 (dO b)*2^s)=(val 4294967296 (dO a)%val 4294967296 (dO b))*2^s:=Nat.mul_mod_mul_right _ _ _;generalize hdV:aI 4294967296 (val 4294967296 (dO b)*2^s)=dV at*
 generalize hdU:aI 4294967296 (val 4294967296 (dO a)*2^s)=dU at*
 rw[adO hUl]
 have hseg:aj (wK .u32 (List.replicate ((dO a).length+1) 0)) 0 ((wK .u32 dU).take dU.length)=wK .u32 (dU++List.replicate ((dO a).length+1-dU.length) 0):=by
  simp[aj,wK,<-List.map_take]
 refine⟨⟨hUp,hUl,by omega⟩,?_⟩;simp only[adQ (by simp:(wK .u32 dU).length<=dU.length)]at hseg⊢;rw[gW,hseg];apply hK;refine acW 1 ?_;have e3:i64.wrap (((dO a).length:Int)-(dO b).length)=(((dO a).length-(dO b).length:Nat):Int):=by rw[bE (by omega) (by omega)];omega
 have e4:i64.wrap ((((dO a).length-(dO b).length:Nat):Int)+1)=(((dO a).length-(dO b).length+1:Nat):Int):=by rw[bE (by omega) (by omega)];omega
 obtain⟨m,hm⟩:∃m,m=(dO a).length-(dO b).length+1:=⟨_,rfl⟩
 rw[<-hm]at e4;refine acv e3 e4 ?_;refine aae λK hK=>AW.label ?_;simp;apply hK;have e5:i64.wrap ((m:Int)-1)=(m:Int)-1:=bE (by omega) (by omega);refine aae λK hK=>acf e5 ?_;refine abd ?_;have hlu:(dU++List.replicate ((dO a).length+1-dU.length) 0).length=(dO a).length+1:=by simp;omega
 have hok:ok 4294967296 (dU++List.replicate ((dO a).length+1-dU.length) 0):=cJ.2 ⟨okU,vi (by decide) _⟩;have hvu:val 4294967296 (dU++List.replicate ((dO a).length+1-dU.length) 0)=val 4294967296 (dO a)*2^s:=by rw[jN,rK,vU];omega
 generalize hu0:dU++List.replicate ((dO a).length+1-dU.length) 0=u0 at*
 have htd:=cB (B:=4294967296) u0 m (by omega);have hdv:=mT hok m (by omega)
 have hrV:val 4294967296 (u0.drop m)<val 4294967296 dV:=by
  rw[<-hdv,hvu,vV]
  have g1:val 4294967296 (dO a)*2^s<4294967296^m*(4294967296^((dO b).length-1)*2147483648):=by
   have:4294967296^(dO a).length*2^s<=4294967296^m*(4294967296^((dO b).length-1)*2147483648):=by
    rw[<-adz,<-ad7];have:m+((dO b).length-1)=(dO a).length:=by omega
    rw[this];exact adB _ hs31
   omega
  refine Nat.div_lt_of_lt_mul (adD g1 (adB _ hV2))
 have hI0:dvI dV (dO b).length m (val 4294967296 (dO a)*2^s) (m,u0.take m,u0.drop m,[]):=by
  refine⟨aU _,by simp;omega,by simp;omega,mF hok _,Dr hok _,by simp,cK _,hrV,?_⟩;simp only[vt,aeg,ad0];rw[<-htd,hvu]
 refine aco (dvS dV (dO b).length (dO a).length m s) 2 (dvI dV (dO b).length m (val 4294967296 (dO a)*2^s)) (λp=>p.1) (m,u0.take m,u0.drop m,[]) (Le.mk' _ (by simp[gW]) (by simp) (by simp)) hI0 ?_;rintro⟨k,lo,r,qs⟩ ⟨i1,i2,i3,i4,i5,i6,i7,i8,i9⟩;simp only at i1 i2 i3 i4 i5 i6 i7 i8 i9;unfold dvS;refine aae λK3 hK3=>aar ?_
 cases k with
 |zero=>
  refine abg (abX (hK _ _ (aae λK hK=>?_)));have el:lo=[]:=List.length_eq_zero_iff.1 i2;subst el;simp only[vt,aeV,ad1,adx]at i9;simp only[ad0]at i6
  have hQ:(val 4294967296 (dO a)*2^s)/(val 4294967296 (dO b)*2^s)=val 4294967296 qs:=by
   rw[<-vV,<-i9,afq _ _ (by omega),aeF i8,adx]
  have hR:(val 4294967296 (dO a)*2^s)%(val 4294967296 (dO b)*2^s)=val 4294967296 r:=by
   rw[<-vV,<-i9,afo,adL i8]
  refine acs mixed (by kernel_rfl) rfl ?_;simp;have hlq:qs.length=m:=i6
  have hQt:dG (qs.take m)=aI 4294967296 (val 4294967296 (dO a)/val 4294967296 (dO b)):=by
   rw[adQ (by omega)];exact eC (by decide) i7 (by rw[hq,hQ])
  have hrt:(r++List.replicate m 0).take (dO b).length=r:=by rw[<-i3];simp
  have hRt:dG ((r++List.replicate m 0).take (dO b).length)=aI 4294967296 ((val 4294967296 (dO a)%val 4294967296 (dO b))*2^s):=by
   rw[hrt];exact eC (by decide) i5 (by omega)
  refine vI.rT (l:=qs) 2 5 1 m (by omega) (by simp;rfl) (by omega) (dY _ _) (by simp) (by simp) (by simp) ?_;have hlr:(dO b).length<=(dO a).length+1:=by omega
  simp[je]
  repeat refine aL ?_
  refine vI.rT (l:=r++List.replicate m 0) 2 5 0 (dO b).length (by simp;omega) (by simp;rfl) (by simp;omega) (dY _ _) (by simp) (by simp) (by simp) ?_;simp only[hQt,hRt];simp
  have hsh:∀G,aa prog G 263 [nK .u32 (some (aI 4294967296 ((val 4294967296 (dO a)%val 4294967296 (dO b))*2^s))),.c (.d (.int .i64 s))] (nK .u32 (if val 4294967296 (dO a)%val 4294967296 (dO b)=0 then none else some (aI 4294967296 (val 4294967296 (dO a)%val 4294967296 (dO b))))):=by
   intro G
   have hx:(aI 4294967296 ((val 4294967296 (dO a)%val 4294967296 (dO b))*2^s)).length<=1000000000000:=by
    rw[<-hRt,hrt];exact ab8 (MQ r) (by omega)
   have key:=C3 G (some (aI 4294967296 ((val 4294967296 (dO a)%val 4294967296 (dO b))*2^s))) s hx (by omega);have hs0:s/32=0:=by omega
   simp only[bf,hs0]at key;rw[bq (by decide),Nat.mul_div_cancel _ (adA (by decide))]at key
   by_cases hz:val 4294967296 (dO a)%val 4294967296 (dO b)=0
   ·simp_all
   ·rw[if_neg hz];rw[if_neg]at key
    ·exact key
    ·intro hc;have h9:=List.length_eq_zero_iff.1 (Nat.le_zero.1 hc);have:=(eH (by decide)).1 h9;have h8:=ad4 (aeW hz) (adA (a:=2) (n:=s) (by decide));omega
  refine ag.pure 2 5 (hsh _) (by simp) (by simp) (by simp) ?_;simp;refine⟨by kernel_rfl,?_⟩;apply hK;exact aaV (aq.t2 rfl 5 (by simp) (by simp))
 |succ j=>
  refine abA (aaE (hK3 _ _ ?_));rcases aeT lo with rfl|⟨lo',x,rfl⟩
  ·simp at i2
  rw[aeU]at*
  have hlo:lo'.length=j:=by simp at i2;exact i2
  obtain⟨oklo,hx1⟩:=cJ.1 i4;have hx:x<4294967296:=(bS.1 hx1).1;have e6:((j+1:Nat):Int)-1=j:=by omega
  simp only[e6];have hwl:(x::r).length=(dO b).length+1:=by simp[i3]
  have okw:ok 4294967296 (x::r):=bS.2 ⟨hx,i5⟩;have hWv:val 4294967296 (x::r)=x+4294967296*val 4294967296 r:=rfl
  have hWV:val 4294967296 (x::r)<4294967296*val 4294967296 dV:=by
   have:4294967296*(val 4294967296 r+1)<=4294967296*val 4294967296 dV:=adB _ i8;rw[adF]at this;omega
  have hEW:=aaC (B:=4294967296) hn hwl;have hEV:=aam (B:=4294967296) hn lV;have XQ:=fV (mF okw ((dO b).length-2));rw[ac7,adO (by omega)]at XQ;have okV:=kD.1;have Qs:=fV (mF okV ((dO b).length-2));rw[ac7,adO (by omega)]at Qs
  have hv1':val 4294967296 dV/4294967296^((dO b).length-1)=dV[(dO b).length-1]:=by
   rw[mT okV _ (by omega),c7 (by omega:(dO b).length-1<dV.length),fR (l:=dV) (i:=(dO b).length-1+1) (by omega)];rfl
  have yf:2147483648<=dV[(dO b).length-1]:=by
   rw[<-hv1',ae8 (adA (by decide)),vV,adR];exact hV2
  generalize hBL:lo'++[x]++(r++List.replicate (m-(j+1)) 0)=BL;have hBL':lo'++(x::r)++List.replicate (m-(j+1)) 0=BL:=by rw[<-hBL];simp
  have hBLl:BL.length=(dO a).length+1:=by rw[<-hBL'];simp;omega
  have hb0:BL[j+(dO b).length]?=some (x::r)[(dO b).length]:=by
   rw[<-hBL',<-hlo,AH (by omega),bp (by omega)]
  have hb1:BL[j+(dO b).length-1]?=some (x::r)[(dO b).length-1]:=by
   have:j+(dO b).length-1=lo'.length+((dO b).length-1):=by omega
   rw[<-hBL',this,AH (by omega),bp (by omega)]
  have hb2:BL[j+(dO b).length-2]?=some (x::r)[(dO b).length-2]:=by
   have:j+(dO b).length-2=lo'.length+((dO b).length-2):=by omega
   rw[<-hBL',this,AH (by omega),bp (by omega)]
  have ha0l:(x::r)[(dO b).length]<4294967296:=okw _ (aZ (by omega));have ha1l:(x::r)[(dO b).length-1]<4294967296:=okw _ (aZ (by omega));have ha2l:(x::r)[(dO b).length-2]<4294967296:=okw _ (aZ (by omega));have hv1l:dV[(dO b).length-1]<4294967296:=okV _ (aZ (by omega));have hv2l:dV[(dO b).length-2]<4294967296:=okV _ (aZ (by omega));have hxv1:(dO b).length-1<(dO (some dV)).length:=by simp;omega
  have hxv2:(dO b).length-2<(dO (some dV)).length:=by simp;omega
  have gv1:∀lv,ak prog 175 lv (nK .u32 (some dV)) (.c (.d (.int .i64 (((dO b).length-1:Nat):Int))))=some (.c (.d (.ptr [DV.int .u32 (dV[(dO b).length-1]:Int)])),[],[],True):=λlv=>gU (by simp) hxv1
  have gv2:∀lv,ak prog 175 lv (nK .u32 (some dV)) (.c (.d (.int .i64 (((dO b).length-2:Nat):Int))))=some (.c (.d (.ptr [DV.int .u32 (dV[(dO b).length-2]:Int)])),[],[],True):=λlv=>gU (by simp) hxv2
  have hEst:Ts 4294967296 (4294967296^((dO b).length-2)) (val 4294967296 dV) (val 4294967296 (x::r)) dV[(dO b).length-1] dV[(dO b).length-2] (val 4294967296 (dV.take ((dO b).length-2))) ((x::r)[(dO b).length]*4294967296+(x::r)[(dO b).length-1]) (x::r)[(dO b).length-2] (val 4294967296 ((x::r).take ((dO b).length-2))):=
   ⟨hEV,hEW,Qs,XQ,hv2l,ha2l,hWV,by omega,by omega⟩
  generalize (x::r)[(dO b).length]=a0 at*
  generalize (x::r)[(dO b).length-1]=a1 at*
  generalize (x::r)[(dO b).length-2]=a2 at*
  generalize dV[(dO b).length-1]=v1 at*
  generalize dV[(dO b).length-2]=v2 at*
  have l0:=nu (P:=prog) (T:=267) (by simp) .u32 hb0;have l1:=nu (P:=prog) (T:=267) (by simp) .u32 hb1;have l2:=nu (P:=prog) (T:=267) (by simp) .u32 hb2;have f1:i64.wrap ((j:Int)+(dO b).length)=((j+(dO b).length:Nat):Int):=by rw[bE (by omega) (by omega)];omega
  have f2:i64.wrap (((j+(dO b).length:Nat):Int)-1)=((j+(dO b).length-1:Nat):Int):=by rw[bE (by omega) (by omega)];omega
  have f3:i64.wrap (((j+(dO b).length:Nat):Int)-2)=((j+(dO b).length-2:Nat):Int):=by rw[bE (by omega) (by omega)];omega
  have f4:=dR (n:=(a0:Int)) (by omega) (by omega);have f5:=dR (n:=(a1:Int)) (by omega) (by omega);have f6:=dR (n:=(a2:Int)) (by omega) (by omega);have f7:=dR (n:=(v1:Int)) (by omega) (by omega);have f8:=dR (n:=(v2:Int)) (by omega) (by omega);have f9:u64.wrap ((a0:Int)*4294967296)=((a0*4294967296:Nat):Int):=by rw[dR (by omega) (by omega)];omega
  obtain⟨top,htp⟩:∃t,t=a0*4294967296+a1:=⟨_,rfl⟩
  have f10:Nu .u64 ((a0*4294967296:Nat):Int) (a1:Int)=(top:Int):=by rw[htp];exact vw ha0l ha1l
  rw[<-htp]at hEst;have htop:=hEst.T6;refine aae λK5 hK5=>abd (aae λK6 hK6=>?_)
  refine acV mixed (by kernel_rfl) rfl rfl ?_;simp[f1,f2,l0,l1,f4,f5,f9,f10,IntKind.bits,-Int.natCast_add,-Int.natCast_mul]
  repeat refine aL ?_
  apply hK6;have htop64:top<18446744073709551616:=by omega
  have f11:Int.tdiv (top:Int) v1=((top/v1:Nat):Int):=by rw[afM (aeH top),<-Int.natCast_ediv]
  have f12:Int.tmod (top:Int) v1=((top%v1:Nat):Int):=by rw[afN (aeH top),<-Int.natCast_emod]
  have hdm:=afs top v1;have hml:top%v1<v1:=adw _ (by omega);have hq0:val 4294967296 (x::r)/val 4294967296 dV*val 4294967296 dV<=val 4294967296 (x::r):=afc _ _;have hVp:0<val 4294967296 dV:=hEst.V0
  have hq1:val 4294967296 (x::r)<(val 4294967296 (x::r)/val 4294967296 dV+1)*val 4294967296 dV:=by
   rw[adR];exact Nat.lt_mul_div_succ _ hVp
  have hqB:val 4294967296 (x::r)/val 4294967296 dV<4294967296:=by rw[aeG hVp];exact hWV
  have hqf:=hEst.first hq0
  have hg0:top/v1<=4294967297:=by
   apply Nat.lt_succ_iff.1;rw[aeG (by omega)];omega
  obtain⟨qt,hqt⟩:∃qt,qt=val 4294967296 (x::r)/val 4294967296 dV:=⟨_,rfl⟩
  rw[<-hqt]at hq0 hq1 hqB hqf;obtain⟨g0,hg0'⟩:∃g,g=top/v1:=⟨_,rfl⟩
  obtain⟨o0,ho0'⟩:∃o,o=top%v1:=⟨_,rfl⟩
  rw[<-hg0']at f11 hdm hqf hg0;rw[<-ho0']at f12 hdm hml;have f13:=dR (n:=(g0:Int)) (by omega) (by omega);have hv10:¬v1=0:=by omega
  have f14:i64.wrap (((dO b).length:Int)-1)=(((dO b).length-1:Nat):Int):=e1;refine aae λK6 hK6=>?_;refine acV mixed (by kernel_rfl) rfl rfl ?_;simp[f14,gv1,f7,f11,f12,f13,hv10];apply hK6
  have close:∀(fr:Nat->AV) (κ:Nat),fr 4=.c (.aE 1 0 m 1)->fr 6=.c (.d (.int .i64 (dO b).length))->fr 9=.c (.d (.int .i64 s))->fr 10=nK .u32 (some dV)->fr 11=.c (.aE 0 0 ((dO a).length+1) 1)->fr 12=.c (.d (.int .i64 j)) ->
   K5 ⟨fr,au (au (λ_=>.hole) 0 (.cells true false 267 (wK .u32 (lo'++(iA 4294967296 (dO b).length (val 4294967296 (x::r)%val 4294967296 dV)++List.replicate (m-j) 0))))) 1 (.cells true false 267 (wK .u32 (List.replicate j 0++(qt::qs))))⟩ κ:=by
   intro fr κ q4 q6 q9 q10 q11 q12;apply hK5;have g1:=bE (n:=(j:Int)-1) (by omega) (by omega);refine aaJ ?_;simp[q12,g1];have hml2:val 4294967296 (x::r)%val 4294967296 dV<val 4294967296 dV:=adw _ hVp;have hVn:val 4294967296 dV<4294967296^(dO b).length:=by rw[vV];exact hV1
   refine⟨j,lo',iA 4294967296 (dO b).length (val 4294967296 (x::r)%val 4294967296 dV),qt::qs,Le.mk' _ (by simp) (by simp) (by simp[q4,q6,q9,q10,q11]),⟨by omega,hlo,qk _ _ _,oklo,ve (by decide) _ _,by simp only[adN];omega,bS.2 ⟨hqB,i7⟩,?_,?_⟩,by omega⟩
   ·simp only[nt];rw[adL (Nat.lt_trans hml2 hVn)];omega
   ·simp only[nt];rw[bW 4294967296 qt qs,adL (Nat.lt_trans hml2 hVn),<-i9,jN,hlo,adl];have hdm2:=Nat.mod_add_div (val 4294967296 (x::r)) (val 4294967296 dV);rw[<-hqt]at hdm2
    have h1:val 4294967296 (x::r)%val 4294967296 dV+val 4294967296 dV*(qt+4294967296*val 4294967296 qs)=x+4294967296*(val 4294967296 r+val 4294967296 dV*val 4294967296 qs):=by
     rw[adF,<-aez,hdm2,hWv,adF,Nat.mul_left_comm,aez]
    rw[h1,bW,vt,aeg,ad0,adF,adz,aez]
  refine aae λK6 hK6=>abd ?_
  have fin:∀(g:Nat) (fr:Nat->AV) (κ:Nat),g<4294967296->qt<=g->g<=qt+1->fr 4=.c (.aE 1 0 m 1)->fr 6=.c (.d (.int .i64 (dO b).length))->fr 9=.c (.d (.int .i64 s))->fr 10=nK .u32 (some dV)->fr 11=.c (.aE 0 0 ((dO a).length+1) 1)->fr 12=.c (.d (.int .i64 j))->fr 14=.c (.d (.int .u64 g)) ->
   K6 ⟨fr,au (au (λ_=>.hole) 0 (.cells true false 267 (wK .u32 BL))) 1 (.cells true false 267 (wK .u32 (List.replicate (j+1) 0++qs)))⟩ κ:=by
   intro g fr κ hg1 hg2 hg3 q4 q6 q9 q10 q11 q12 q14;apply hK6;refine acW 2 ?_;have hVn:val 4294967296 dV<4294967296^(dO b).length:=by rw[vV];exact hV1
   have hmlt:val 4294967296 (x::r)%val 4294967296 dV<4294967296^(dO b).length:=Nat.lt_trans (adw _ hVp) hVn;have hsn:iA 4294967296 ((dO b).length+1) (val 4294967296 (x::r)%val 4294967296 dV)=iA 4294967296 (dO b).length (val 4294967296 (x::r)%val 4294967296 dV)++[0]:=yU hmlt;have hmj1:m-j=(m-(j+1))+1:=by rw[Nat.sub_succ];exact(Nat.succ_pred_eq_of_pos (Nat.sub_pos_of_lt i1)).symm
   have hmj:List.replicate (m-j) (0:Nat)=0::List.replicate (m-(j+1)) 0:=by
    rw[hmj1];exact afi
   have hmodq:val 4294967296 (x::r)%val 4294967296 dV=val 4294967296 (x::r)-qt*val 4294967296 dV:=by
    rw[hqt,adR];exact Nat.mod_def _ _
   have hLq:List.replicate (j+1) (0:Nat)++qs=List.replicate j 0++(0::qs):=by
    rw[List.replicate_succ',adq];rfl
   refine aae λK7 hK7=>acf q14 ?_
   by_cases hgz:g=0
   ·refine abz (by simp[hgz]<;>omega) (abX ?_);simp;have hqz:qt=0:=by omega
    have e9:iA 4294967296 ((dO b).length+1) (val 4294967296 (x::r))=x::r:=by rw[<-hwl];exact RF okw
    have e8:val 4294967296 (x::r)%val 4294967296 dV=val 4294967296 (x::r):=by rw[hmodq,hqz];simp
    have e6:iA 4294967296 (dO b).length (val 4294967296 (x::r)%val 4294967296 dV)++[0]=x::r:=by rw[<-hsn,e8,e9]
    have e5:∀(A B:List Nat),A++(0::B)=(A++[0])++B:=λA B=>by simp
    have e7:lo'++(iA 4294967296 (dO b).length (val 4294967296 (x::r)%val 4294967296 dV)++List.replicate (m-j) 0)=BL:=by
     rw[hmj,e5,e6,<-hBL',adq]
    have hcl:∀(fr':Nat->AV) (κ':Nat),fr' 4=.c (.aE 1 0 m 1)->fr' 6=.c (.d (.int .i64 (dO b).length))->fr' 9=.c (.d (.int .i64 s))->fr' 10=nK .u32 (some dV)->fr' 11=.c (.aE 0 0 ((dO a).length+1) 1)->fr' 12=.c (.d (.int .i64 j)) ->
     K5 ⟨fr',au (au (λ_=>.hole) 0 (.cells true false 267 (wK .u32 BL))) 1 (.cells true false 267 (wK .u32 (List.replicate (j+1) 0++qs)))⟩ κ':=by
     intro fr' κ' z1 z2 z3 z4 z5 z6;have hcl:=close fr' κ' z1 z2 z3 z4 z5 z6;rwa[e7,hqz,<-hLq]at hcl
    exact hcl _ _ (by simp[q4]) (by simp[q6]) (by simp[q9]) (by simp[q10]) (by simp[q11]) (by simp[q12])
   ·refine abD (by simp[hgz]<;>omega) (aaE (hK7 _ _ (aae λK7 hK7=>aae λK8 hK8=>?_)))
    have store:∀(fr':Nat->AV) (κ':Nat),fr' 4=.c (.aE 1 0 m 1)->fr' 6=.c (.d (.int .i64 (dO b).length))->fr' 9=.c (.d (.int .i64 s))->fr' 10=nK .u32 (some dV)->fr' 11=.c (.aE 0 0 ((dO a).length+1) 1)->fr' 12=.c (.d (.int .i64 j))->fr' 14=.c (.d (.int .u64 qt)) ->
     K7 ⟨fr',au (au (λ_=>.hole) 0 (.cells true false 267 (wK .u32 (lo'++(iA 4294967296 ((dO b).length+1) (val 4294967296 (x::r)%val 4294967296 dV)++List.replicate (m-(j+1)) 0))))) 1 (.cells true false 267 (wK .u32 (List.replicate (j+1) 0++qs)))⟩ κ':=by
     intro fr' κ' z1 z2 z3 z4 z5 z6 z7;apply hK7;have y1:u32.wrap (qt:Int)=(qt:Int):=wP (by omega) (by omega)
     have y2:aj (wK .u32 (List.replicate (j+1) 0++qs)) j [CV.d (.int .u32 (qt:Int))]=wK .u32 (List.replicate j 0++(qt::qs)):=by
      rw[gx _ (by simp;omega),qH]
     have y3:lo'++(iA 4294967296 (dO b).length (val 4294967296 (x::r)%val 4294967296 dV)++List.replicate (m-j) 0)=lo'++(iA 4294967296 ((dO b).length+1) (val 4294967296 (x::r)%val 4294967296 dV)++List.replicate (m-(j+1)) 0):=by
      rw[hmj,hsn];simp only[adq,ad6,adM]
     refine aaJ ?_;simp[z1,z6,z7,y1,y2,-bW,-List.append_assoc];refine⟨by omega,?_⟩;have hcl:=close (κ:=κ'+1) (fr:=au (au (au (au (au fr' 156 (.c (.aE 1 0 m 1))) 157 (.c (.d (.int .i64 j)))) 158 (.c (.d (.int .u64 qt)))) 159 (.c (.d (.int .u32 qt)))) 160 (.c (.ptr 1 j))) (by simp[z1]) (by simp[z2]) (by simp[z3]) (by simp[z4]) (by simp[z5]) (by simp[z6]);rwa[y3]at hcl
    have hwin:(x::r).length=(dO (some dV)).length+1:=by rw[hwl];simp[lV]
    have hT:=λ(G:List (List DV))=>Bm G lo' (x::r) (List.replicate (m-(j+1)) 0) ((dO a).length+1-j) g (some dV) hwin (by rw[hwl];omega) okw hg1 (by rw[hBL',hBLl];omega)
    simp only[hBL',hlo,hwl,bf]at hT
    have hWB:val 4294967296 (x::r)<4294967296^((dO b).length+1):=by
     have:=fV okw;rwa[hwl]at this
    by_cases too:val 4294967296 (x::r)<g*val 4294967296 dV
    ·have hb1:r9 (val 4294967296 (x::r)) (g*val 4294967296 dV)=1:=by unfold r9;rw[if_pos too]
     have hgq:g=qt+1:=by
      rcases aeL qt g with hc|hc
      ·omega
      ·exact absurd too (Nat.not_lt.2 (ab8 (adn _ hc) hq0))
     simp only[hb1,ad3,eq_self,decide_true]at hT;obtain⟨R,hR⟩:∃R,R=iA 4294967296 ((dO b).length+1) (val 4294967296 (x::r)+4294967296^((dO b).length+1)-g*val 4294967296 dV):=⟨_,rfl⟩
     simp only[<-hR]at hT;have hRl:R.length=(dO b).length+1:=by rw[hR,qk]
     have hRo:ok 4294967296 R:=by rw[hR];exact ve (by decide) _ _
     have hgV:g*val 4294967296 dV=qt*val 4294967296 dV+val 4294967296 dV:=by rw[hgq,adr,ad1]
     have hRv:val 4294967296 R+val 4294967296 dV=4294967296^((dO b).length+1)+val 4294967296 (x::r)%val 4294967296 dV:=by
      rw[hR,nt,hmodq]
      have hVE:val 4294967296 dV<=4294967296^((dO b).length+1):=by
       rw[adl];exact ab8 (aei hVn) (Nat.le_mul_of_pos_right _ (by decide))
      have key:∀(W E gv qv V:Nat),W<gv->gv=qv+V->qv<=W->V<=E->W+E-gv<E/\(W+E-gv)+V=E+(W-qv):=by intros;omega
      obtain⟨k1,k2⟩:=key _ _ _ _ _ too hgV hq0 hVE;rw[adL k1];exact k2
     have hRd:iA 4294967296 ((dO b).length+1) (val 4294967296 R+val 4294967296 dV)=iA 4294967296 ((dO b).length+1) (val 4294967296 (x::r)%val 4294967296 dV):=by
      rw[hRv,Mz (by decide)]
     have hwin':R.length=(dO (some dV)).length+1:=by rw[hRl];simp[lV]
     have hll:(lo'++R++List.replicate (m-(j+1)) 0).length<=1000000000000:=by
      simp only[ac8,List.length_replicate,hlo,hRl];omega
     have hGv:=λ(G:List (List DV))=>Bh G lo' R (List.replicate (m-(j+1)) 0) ((dO a).length+1-j) (some dV) hwin' (by rw[hRl];omega) hRo hll
     simp only[hlo,hRl,bf,hRd,adq]at hGv;simp only[adq]at hT;refine aaJ ?_;simp[q11,q12,q10,q14,-bW];refine⟨by omega,?_⟩
     refine gM.N8 3 9 0 (by simp;rfl) (qI _ _) (qI _ _) (hT _) rfl rfl (by
      intro i h h'
      match i,h with
      |0,_=>exact .inr (.inl ⟨_,_,_,rfl,rfl⟩)
      |1,_=>exact .inl ⟨by simp,rfl⟩
      |2,_=>exact .inl ⟨rfl,rfl⟩) (by simp) (by decide) ?_
     simp[-bW,EE];apply hK8;refine abA (aae λK8 hK8=>?_);have y5:u64.wrap ((g:Int)-1)=(qt:Int):=by rw[dR (by omega) (by omega)];omega
     refine aaJ ?_;simp[q14,y5,-bW];apply hK8;refine aaJ ?_;simp[q11,q12,q10,-bW];refine⟨by omega,?_⟩
     refine gM.N8 4 9 0 (own:=true) (T:=267) (cs:=wK .u32 (lo'++(R++List.replicate (m-(j+1)) 0))) (by simp) (qI _ _) (qI _ _) (hGv _) rfl rfl (by
      intro i h h'
      match i,h with
      |0,_=>exact .inr (.inl ⟨_,_,_,rfl,rfl⟩)
      |1,_=>exact .inl ⟨by simp,rfl⟩) (by simp) (by decide) ?_
     simp[-bW,EE];exact store _ _ (by simp[q4]) (by simp[q6]) (by simp[q9]) (by simp[q10]) (by simp[q11]) (by simp[q12]) (by simp)
    ·have hb1:r9 (val 4294967296 (x::r)) (g*val 4294967296 dV)=0:=by unfold r9;rw[if_neg too]
     have hgq:g=qt:=by
      rcases aeL qt g with hc|hc
      ·have:(qt+1)*val 4294967296 dV<=g*val 4294967296 dV:=adn _ hc;omega
      ·omega
     have hWm:val 4294967296 (x::r)+4294967296^((dO b).length+1)*0-g*val 4294967296 dV=val 4294967296 (x::r)%val 4294967296 dV:=by
      rw[hmodq,hgq,aeg,ad0]
     simp only[hb1,hWm,Nat.zero_ne_one,decide_false,adq]at hT;refine aaJ ?_;simp[q11,q12,q10,q14,-bW];refine⟨by omega,?_⟩
     refine gM.N8 3 9 0 (by simp;rfl) (qI _ _) (qI _ _) (hT _) rfl rfl (by
      intro i h h'
      match i,h with
      |0,_=>exact .inr (.inl ⟨_,_,_,rfl,rfl⟩)
      |1,_=>exact .inl ⟨by simp,rfl⟩
      |2,_=>exact .inl ⟨rfl,rfl⟩) (by simp) (by decide) ?_
     simp[-bW,EE];apply hK8;refine abg (aaE ?_);simp[-bW];exact store _ _ (by simp[q4]) (by simp[q6]) (by simp[q9]) (by simp[q10]) (by simp[q11]) (by simp[q12]) (by simp[q14,hgq])
  refine aco (λ(p:Nat×Nat)=>⟨aJ [(4,.c (.aE 1 0 m 1)),(6,.c (.d (.int .i64 (dO b).length))),(9,.c (.d (.int .i64 s))),(10,nK .u32 (some dV)),(11,.c (.aE 0 0 ((dO a).length+1) 1)),(12,.c (.d (.int .i64 j))),(14,.c (.d (.int .u64 p.1))),(15,.c (.d (.int .u64 p.2)))],
   au (au (λ_=>.hole) 0 (.cells true false 267 (wK .u32 BL))) 1 (.cells true false 267 (wK .u32 (List.replicate (j+1) 0++qs)))⟩) 2
   (λp=>p.1*v1+p.2=top/\qt<=p.1/\p.1<=4294967297/\p.2<4294967296) (λp=>p.1) (g0,o0) (Le.mk' _ rfl (by simp) (by simp)) ⟨by rw[adR];exact hdm,hqf,hg0,by omega⟩ ?_
  rintro⟨g,o⟩ ⟨w1,w2,w3,w4⟩;simp only at w1 w2 w3 w4;refine aae λK7 hK7=>aae λK8 hK8=>?_
  have dec:∀(fr:Nat->AV) (κ:Nat),qt<g->fr 4=.c (.aE 1 0 m 1)->fr 6=.c (.d (.int .i64 (dO b).length))->fr 9=.c (.d (.int .i64 s))->fr 10=nK .u32 (some dV)->fr 11=.c (.aE 0 0 ((dO a).length+1) 1)->fr 12=.c (.d (.int .i64 j))->fr 14=.c (.d (.int .u64 g))->fr 15=.c (.d (.int .u64 o)) ->
   K7 ⟨fr,au (au (λ_=>.hole) 0 (.cells true false 267 (wK .u32 BL))) 1 (.cells true false 267 (wK .u32 (List.replicate (j+1) 0++qs)))⟩ κ:=by
   intro fr κ hg q4 q6 q9 q10 q11 q12 q14 q15;apply hK7;refine acW 2 ?_;refine abd ?_;have g1:u64.wrap ((g:Int)-1)=((g-1:Nat):Int):=by rw[dR (by omega) (by omega)];omega
   have g2:u64.wrap ((o:Int)+v1)=((o+v1:Nat):Int):=by rw[dR (by omega) (by omega)];omega
   refine acv q14 g1 ?_;refine abU λK9 hK9=>?_;simp[q15,q10,q6,f14,gv1,f7,g2,-Int.natCast_add];apply hK9;refine aae λK9 hK9=>?_
   have w1':(g-1)*v1+(o+v1)=top:=by
    rw[<-w1];obtain⟨g',rfl⟩:∃g',g=g'+1:=⟨g-1,by omega⟩
    rw[afu,adr,ad1];omega
   by_cases ho:o+v1<4294967296
   ·have g3:Int.fdiv ((o+v1:Nat):Int) 4294967296=0:=by rw[ad5 _ (by omega)];omega
    refine aaJ ?_;simp[IntKind.bits,g3,-Int.natCast_add];apply hK9;refine abg (aaE ?_);simp;refine⟨g-1,o+v1,Le.mk' _ rfl (by simp) (by simp[q4,q6,q9,q10,q11,q12]),⟨w1',by omega,by omega,ho⟩,by omega⟩
   ·have g3:Int.fdiv ((o+v1:Nat):Int) 4294967296=1:=by rw[ad5 _ (by omega)];omega
    refine aaJ ?_;simp[IntKind.bits,g3,-Int.natCast_add];apply hK9;refine abA (abX ?_);simp
    have hgB:g-1<4294967296:=by
     apply adK;intro hc;have:4294967296*v1<=(g-1)*v1:=adn _ (by omega);rw[adF]at htop;omega
    have hnear:=hEst.near hq1 w1' hgB (by
     have h1:(g-1)*v2<=4294967296*4294967296:=aeo (by omega) (by omega);omega)
    exact fin (g-1) _ _ hgB (by omega) hnear (by simp[q4]) (by simp[q6]) (by simp[q9]) (by simp[q10]) (by simp[q11]) (by simp[q12]) (by simp)
  by_cases hgB:4294967296<=g
  ·have g1:Int.fdiv (g:Int) 4294967296=1:=by rw[ad5 _ (by omega)];omega
   refine acV mixed (by kernel_rfl) rfl rfl ?_;simp[IntKind.bits,g1];apply hK8;refine abA (aaE ?_);simp;exact dec _ _ (by omega) (by simp) (by simp) (by simp) (by simp) (by simp) (by simp) (by simp) (by simp)
  ·have g1:Int.fdiv (g:Int) 4294967296=0:=by rw[ad5 _ (by omega)];omega
   have hgv:g*v2<=4294967295*4294967295:=aeo (by omega) (by omega)
   have g2:u64.wrap ((g:Int)*v2)=((g*v2:Nat):Int):=by
    rw[<-Int.natCast_mul];generalize g*v2=p at hgv;exact dR (by omega) (by omega)
   have g3:u64.wrap ((o:Int)*4294967296)=((o*4294967296:Nat):Int):=by rw[dR (by omega) (by omega)];omega
   have g4:=vw w4 ha2l;have g5:i64.wrap (((dO b).length:Int)-2)=(((dO b).length-2:Nat):Int):=by rw[bE (by omega) (by omega)];omega
   have hgo:∀{P Q:Nat},((P:Nat):Int)<((Q:Nat):Int)↔P<Q:=by intro P Q;omega
   refine acV mixed (by kernel_rfl) rfl rfl ?_;simp[IntKind.bits,g1,g5,gv2,f8,g2,g3,f1,f3,l2,f6,g4,-Int.natCast_add,-Int.natCast_mul]
   repeat refine aL ?_
   apply hK8
   by_cases ht:o*4294967296+a2<g*v2
   ·refine abz (by simp[ht]<;>omega) (aaE ?_);simp;exact dec _ _ (hEst.over hq0 w1 ht) (by simp) (by simp) (by simp) (by simp) (by simp) (by simp) (by simp) (by simp)
   ·refine abD (by simp[ht]<;>omega) (abX ?_);simp;exact fin g _ _ (by omega) w2 (hEst.near hq1 w1 (by omega) (by omega)) (by simp) (by simp) (by simp) (by simp) (by simp) (by simp) (by simp)
def xO(a b:Option (List Nat)):Option (List Nat):=if val 4294967296 (dO a)<val 4294967296 (dO b)then none else some (aI 4294967296 (val 4294967296 (dO a)/val 4294967296 (dO b)))
def mZ(a b:Option (List Nat)):Option (List Nat):=
 if val 4294967296 (dO a)<val 4294967296 (dO b)then a
 else if (dO b).length=1 then some (aI 4294967296 (val 4294967296 (dO a)%val 4294967296 (dO b)))
 else if val 4294967296 (dO a)%val 4294967296 (dO b)=0 then none else some (aI 4294967296 (val 4294967296 (dO a)%val 4294967296 (dO b)))
theorem Vm:dO (xO a b)=aI 4294967296 (val 4294967296 (dO a)/val 4294967296 (dO b)):=by
 unfold xO;split
 ·rename_i h;rw[aeF h];rfl
 ·rfl
theorem HG(ha:can 4294967296 (dO a)):dO (mZ a b)=aI 4294967296 (val 4294967296 (dO a)%val 4294967296 (dO b)):=by
 unfold mZ;split
 ·rename_i h;rw[adL h];exact iE (by decide) ha rfl
 ·split
  ·rfl
  ·split
   ·simp_all
   ·rfl
theorem oJ(G:List (List DV))(a b:Option (List Nat))(ha:can 4294967296 (dO a))(hb:can 4294967296 (dO b))(h0:dO b≠[])(hl:(dO a).length<1000000000000):
 aa prog G 223 [nK .u32 a,nK .u32 b] (.tup [nK .u32 (xO a b),nK .u32 (mZ a b)]):=by
 by_cases h:val 4294967296 (dO a)<val 4294967296 (dO b)
 ·have:=MA G a b ha hb h;simpa only[xO,mZ,if_pos h]using this
 ·by_cases hn:(dO b).length=1
  ·have:=Lx G a b ha hb (Nat.le_of_not_lt h) hn (aei hl);simpa only[xO,mZ,if_neg h,if_pos hn]using this
  ·have h1:0<(dO b).length:=List.length_pos_iff.2 h0;have:=PB a b ha hb (Nat.le_of_not_lt h) (by omega) hl G;simp only[xO,mZ,if_neg h,if_neg hn]
   grind
def jK(a b:Option (List Nat)):Nat->Option (List Nat)
 |0=>a
 |n+1=>if dO b=[]then a else jK b (mZ a b) n
theorem yZ(h:dO b=[])(n:Nat):jK a b n=a:=by
 cases n<;>simp[jK,h]
theorem wE(o o':Option (List Nat)):(AV.tup [nK .u32 o,nK .u32 o']).pure=true:=by
 cases o<;>cases o'<;>rfl
theorem dB{m:Nat}(hB:2<=B)(h:m<=n):(aI B m).length<=(aI B n).length:=
 c8 hB (aee h (sH hB))
theorem rD:∀(n:Nat) (a b:Option (List Nat)),can 4294967296 (dO a)->can 4294967296 (dO b)->val 4294967296 (dO b)<=n->jK a b n=jK a b (val 4294967296 (dO b))/\dO (jK a b n)=aI 4294967296 (Nat.gcd (val 4294967296 (dO a)) (val 4294967296 (dO b)))
 |0,a,b,ha,hb,h=>by
  have h0:val 4294967296 (dO b)=0:=by omega
  rw[h0];exact⟨rfl,by rw[Nat.gcd_zero_right];exact iE (by decide) ha rfl⟩
 |n+1,a,b,ha,hb,h=>by
  by_cases he:dO b=[]
  ·rw[yZ he,yZ he];refine⟨rfl,?_⟩;rw[he];simp only[vt,Nat.gcd_zero_right];exact iE (by decide) ha rfl
  ·have hv0:0<val 4294967296 (dO b):=iP hb he;have hR:=HG (b:=b) ha;have hRc:can 4294967296 (dO (mZ a b)):=by rw[hR];exact bx (by decide) _
   have hlt:val 4294967296 (dO (mZ a b))<val 4294967296 (dO b):=by rw[hR,bq (by decide)];exact adw _ hv0
   obtain⟨k,hk⟩:∃k,val 4294967296 (dO b)=k+1:=⟨val 4294967296 (dO b)-1,by omega⟩
   have r1:=rD n b (mZ a b) hb hRc (by omega);have r2:=rD k b (mZ a b) hb hRc (by omega);have e1:jK a b (n+1)=jK b (mZ a b) n:=by simp only[jK,if_neg he]
   have e2:jK a b (val 4294967296 (dO b))=jK b (mZ a b) k:=by rw[hk];simp only[jK,if_neg he]
   refine⟨by grind,?_⟩;rw[e1,r1.2,hR,bq (by decide),aeX (val 4294967296 (dO b)),<-Nat.gcd_rec,aeX]
 termination_by n a b=>val 4294967296 (dO b)
theorem LR(ha:can 4294967296 (dO a))(hb:can 4294967296 (dO b))(he:dO b≠[]):jK b (mZ a b) (val 4294967296 (dO (mZ a b)))=jK a b (val 4294967296 (dO b)):=by
 have hv0:0<val 4294967296 (dO b):=iP hb he;have hR:=HG (b:=b) ha;have hRc:can 4294967296 (dO (mZ a b)):=by rw[hR];exact bx (by decide) _
 have hlt:val 4294967296 (dO (mZ a b))<val 4294967296 (dO b):=by rw[hR,bq (by decide)];exact adw _ hv0
 obtain⟨k,hk⟩:∃k,val 4294967296 (dO b)=k+1:=⟨val 4294967296 (dO b)-1,by omega⟩
 have e2:jK a b (val 4294967296 (dO b))=jK b (mZ a b) k:=by rw[hk];simp only[jK,if_neg he]
 rw[e2,(rD k b (mZ a b) hb hRc (by omega)).1]
theorem Ab(ha:can 4294967296 (dO a))(hb:can 4294967296 (dO b)):dO (jK a b (val 4294967296 (dO b)))=aI 4294967296 (Nat.gcd (val 4294967296 (dO a)) (val 4294967296 (dO b))):=
 (rD _ a b ha hb (aU _)).2
theorem u9(G:List (List DV))(a b:Option (List Nat))(ha:can 4294967296 (dO a))(hb:can 4294967296 (dO b))(hl:(dO a).length<1000000000000)(hl':(dO b).length<1000000000000):
 aa prog G 178 [nK .u32 a,nK .u32 b] (nK .u32 (jK a b (val 4294967296 (dO b)))):=by
 refine aa.en func178 rfl λ_=>aar ?_;refine aae λK hK=>abd ?_
 refine aco (λ(p:Option (List Nat)×Option (List Nat))=>⟨aJ [(0,nK .u32 p.1),(1,nK .u32 p.2)],λ_=>.hole⟩) 0
  (λp=>can 4294967296 (dO p.1)/\can 4294967296 (dO p.2)/\(dO p.1).length<1000000000000/\(dO p.2).length<1000000000000/\jK p.1 p.2 (val 4294967296 (dO p.2))=jK a b (val 4294967296 (dO b)))
  (λp=>val 4294967296 (dO p.2)) (a,b) (Le.mk' _ rfl (by simp) (by simp)) ⟨ha,hb,hl,hl',rfl⟩ ?_
 rintro⟨x,y⟩ ⟨i1,i2,i3,i4,i5⟩;simp only at i1 i2 i3 i4 i5;refine aae λK3 hK3=>aar ?_
 by_cases hy:dO y=[]
 ·have hy':¬(0:Int)<((dO y).length:Int):=by rw[hy];simp
  refine abD (by simp<;>omega) (abX (hK _ _ ?_));rw[yZ hy]at i5;refine aar ?_;exact aaV (aq.rt rfl 4 (by simp[i5]))
 ·have hy1:0<(dO y).length:=List.length_pos_iff.2 hy;have hy':(0:Int)<((dO y).length:Int):=by omega
  refine abz (by simp<;>omega) (aaE (hK3 _ _ (abd (abU λK5 hK5=>?_))));simp;refine ag.pure 0 0 (oJ _ _ _ i1 i2 hy i3) (wE _ _) (by simp) rfl ?_;simp;apply hK5;refine aaJ ?_;simp;have hv0:0<val 4294967296 (dO y):=iP i2 hy;have hR:=HG (b:=y) i1;have hlt:val 4294967296 (dO (mZ x y))<val 4294967296 (dO y):=by rw[hR,bq (by decide)];exact adw _ hv0
  refine⟨y,mZ x y,Le.mk' _ rfl (by simp) (by simp),⟨i2,by rw[hR];exact bx (by decide) _,i4,?_,?_⟩,hlt⟩
  ·rw[hR];refine aee (dB (by decide) (aei (adw _ hv0))) ?_;rw[<-iE (by decide) i2 rfl];exact i4
  ·rw[LR i1 i2 hy];exact i5
noncomputable def ze:Code:=match Tryz.f175.body with|some (.seq _ (.seq _ (.seq (.seq _ (.block _ (.rangeFunc _ _ _ b))) _)))=>b|_=>.skip
noncomputable def Cd:Code:=match Tryz.f175.body with|some (.seq _ (.seq _ (.seq (.seq _ (.block _ (.rangeFunc _ _ b _))) _)))=>b|_=>.skip
def lU(u:List UInt8)(d:DV):Key->LB:=au (au (λ_=>.hole) 0 (.cells false false 9 [.d (.str u)])) 1 (.cells false false 175 [.d d])
theorem OM(u:List UInt8)(d:DV):∀k,lU u d k=.hole\/∃T cs,lU u d k=.cells false false T cs:=by
 intro k;unfold lU au
 grind
theorem Q5(u:List UInt8)(d d':DV):au (lU u d) 1 (.cells false false 175 [.d d'])=lU u d':=by
 funext k;unfold lU au
 grind
theorem K0(G:List (List DV))(v sz:Nat)(hv:v<4294967296)(hz:sz<4294967296)(o:Option (List Nat))(dv:DV)(hdv:(.c (.d dv):AV)=nK .u32 o)(hl:(dO o).length<=100000000000)(L:Nat)(hL:L<=100000000000)(hval:val 4294967296 (dO o)<4294967296^L)(u:List UInt8)(r:Option Nat)(fr:Nat->AV)
 (f3:fr 3=.c (.ptr 1 0)) (f4:fr 4=.c (.d (.int .u32 v))) (f5:fr 5=.c (.d (.int .u32 sz))) :
 ∀c:Ctx,c.P=prog->c.G=G->c.n=20->AW c r ze ⟨fr,lU u dv⟩ 0 (λx s _=>x=.normal/\s.lv=lU u (.sl (dK .u32 (aI 4294967296 (val 4294967296 (dO o)*sz+v))))):=by
 rintro⟨_,Gc,w0,F0,W0,_,jd,β0⟩ rfl hG rfl;have hG:Gc=G:=hG;subst hG;have g1:lU u dv 1=.cells false false 175 [.d dv]:=by simp[lU]
 have g5:lU u dv 5=.hole:=by simp[lU,au]
 have w1:u64.wrap (sz:Int)=sz:=dR (by omega) (by omega);have w2:u64.wrap (v:Int)=v:=dR (by omega) (by omega);have hp:(AV.c (.d dv)).pure=true:=by rw[hdv];cases o<;>rfl
 have b1:(aI 4294967296 sz).length<=1:=c8 (by decide) (by omega);have b2:(aI 4294967296 v).length<=1:=c8 (by decide) (by omega)
 have b3:(aI 4294967296 (val 4294967296 (dO o)*sz)).length<=L+1:=c8 (by decide) (by
  rw[adl];exact aee (adB _ (aei hz)) (afX hval (by decide)))
 have m1:aa prog Gc 165 [.c (.d dv),nK .u32 (some (aI 4294967296 sz))] (nK .u32 (some (aI 4294967296 (val 4294967296 (dO o)*sz)))):=by
  have:=iz Gc o (some (aI 4294967296 sz)) (by omega) (by simp;omega);rw[<-hdv]at this;simpa[bq]using this
 have m2:aa prog Gc 225 [nK .u32 (some (aI 4294967296 (val 4294967296 (dO o)*sz))),nK .u32 (some (aI 4294967296 v))] (nK .u32 (some (aI 4294967296 (val 4294967296 (dO o)*sz+v)))):=by
  have:=ux Gc (some (aI 4294967296 (val 4294967296 (dO o)*sz))) (some (aI 4294967296 v)) (by simp;omega) (by simp;omega);simpa[bq]using this
 refine abd ?_;refine acs mixed (by kernel_rfl) rfl ?_;simp[f3,f5,g1,w1];refine ag.pure 0 5 (gR _ sz (by omega)) (by simp) (by simp) g5 ?_;simp;refine ag.pure 0 5 m1 (by simp) (by simp[hp]) g5 ?_;simp[f4,w2];refine ag.pure 0 5 (gR _ v (by omega)) (by simp) (by simp) g5 ?_;simp;refine ag.pure 0 5 m2 (by simp) (by simp) g5 ?_;generalize aI 4294967296 (val 4294967296 (dO o)*sz+v)=ds at*
 have e1:nK .u32 (some ds)=.c (.d (.sl (dK .u32 ds))):=rfl;simp[f3,g1,e1,aj];refine⟨by kernel_rfl,?_⟩;exact Q5 u dv (.sl (dK .u32 ds))
end Go.Am
namespace Go.Proofs
open Go.Shelf
def Tryz.Hj:Go.Shelf.Ren:=⟨λ|217=>145|266=>195|n=>n,λ|9=>9|5=>5|3=>3|n=>n,λ|n=>n⟩
def Tryz.Q1:Go.Proofs.Lays.n217 prog Tryz.Hj:={
 mixed:=by kernel_rfl
 f217:=func145.trans (congrArg some (by kernel_rfl))
 f266:=func195.trans (congrArg some (by kernel_rfl))
 t3:=Tryz.underlying3
 a3:=Tryz.isAgg3
 z3:=Tryz.sizeOf3
 v3:=Tryz.zeroValue3
 t5:=Tryz.underlying5
 a5:=Tryz.isAgg5
 z5:=Tryz.sizeOf5
 v5:=Tryz.zeroValue5
 t9:=Tryz.underlying9
 a9:=Tryz.isAgg9
 z9:=Tryz.sizeOf9
 v9:=Tryz.zeroValue9 }
def Tryz.Gl:Go.Shelf.Ren:=⟨λ|219=>143|217=>145|225=>192|224=>193|267=>194|266=>195|314=>239|n=>n,λ|9=>9|3=>3|4=>4|5=>5|46=>246|146=>296|51=>267|n=>n,λ|1=>4|n=>n⟩
def Tryz.Ss:Go.Proofs.Lays.n219 prog Tryz.Gl:={
 mixed:=by kernel_rfl
 f217:=func145.trans (congrArg some (by kernel_rfl))
 f219:=func143.trans (congrArg some (by kernel_rfl))
 f224:=func193.trans (congrArg some (by kernel_rfl))
 f225:=func192.trans (congrArg some (by kernel_rfl))
 f266:=func195.trans (congrArg some (by kernel_rfl))
 f267:=func194.trans (congrArg some (by kernel_rfl))
 f314:=func239.trans (congrArg some (by kernel_rfl))
 t3:=Tryz.underlying3
 a3:=Tryz.isAgg3
 z3:=Tryz.sizeOf3
 v3:=Tryz.zeroValue3
 t4:=Tryz.underlying4
 a4:=Tryz.isAgg4
 z4:=Tryz.sizeOf4
 v4:=Tryz.zeroValue4
 t5:=Tryz.underlying5
 a5:=Tryz.isAgg5
 z5:=Tryz.sizeOf5
 v5:=Tryz.zeroValue5
 t9:=Tryz.underlying9
 a9:=Tryz.isAgg9
 z9:=Tryz.sizeOf9
 v9:=Tryz.zeroValue9
 t46:=Tryz.underlying246
 a46:=Tryz.isAgg246
 z46:=Tryz.sizeOf246
 v46:=Tryz.zeroValue246
 t51:=Tryz.underlying267
 a51:=Tryz.isAgg267
 z51:=Tryz.sizeOf267
 v51:=Tryz.zeroValue267
 t146:=Tryz.underlying296
 a146:=Tryz.isAgg296
 z146:=Tryz.sizeOf296
 v146:=Tryz.zeroValue296
 g1:=by kernel_rfl }
def Tryz.Ff:Go.Shelf.Ren:=⟨λ|138=>92|195=>140|218=>142|143=>93|219=>143|217=>145|225=>192|224=>193|267=>194|266=>195|314=>239|n=>n,λ|9=>9|3=>3|4=>4|5=>5|0=>0|46=>246|146=>296|51=>267|n=>n,λ|1=>4|n=>n⟩
def Tryz.Q0:Go.Proofs.Lays.n138 prog Tryz.Ff:={
 mixed:=by kernel_rfl
 f138:=func92.trans (congrArg some (by kernel_rfl))
 f143:=func93.trans (congrArg some (by kernel_rfl))
 f195:=func140.trans (congrArg some (by kernel_rfl))
 f217:=func145.trans (congrArg some (by kernel_rfl))
 f218:=func142.trans (congrArg some (by kernel_rfl))
 f219:=func143.trans (congrArg some (by kernel_rfl))
 f224:=func193.trans (congrArg some (by kernel_rfl))
 f225:=func192.trans (congrArg some (by kernel_rfl))
 f266:=func195.trans (congrArg some (by kernel_rfl))
 f267:=func194.trans (congrArg some (by kernel_rfl))
 f314:=func239.trans (congrArg some (by kernel_rfl))
 t0:=Tryz.underlying0
 a0:=Tryz.isAgg0
 z0:=Tryz.sizeOf0
 v0:=Tryz.zeroValue0
 t3:=Tryz.underlying3
 a3:=Tryz.isAgg3
 z3:=Tryz.sizeOf3
 v3:=Tryz.zeroValue3
 t4:=Tryz.underlying4
 a4:=Tryz.isAgg4
 z4:=Tryz.sizeOf4
 v4:=Tryz.zeroValue4
 t5:=Tryz.underlying5
 a5:=Tryz.isAgg5
 z5:=Tryz.sizeOf5
 v5:=Tryz.zeroValue5
 t9:=Tryz.underlying9
 a9:=Tryz.isAgg9
 z9:=Tryz.sizeOf9
 v9:=Tryz.zeroValue9
 t46:=Tryz.underlying246
 a46:=Tryz.isAgg246
 z46:=Tryz.sizeOf246
 v46:=Tryz.zeroValue246
 t51:=Tryz.underlying267
 a51:=Tryz.isAgg267
 z51:=Tryz.sizeOf267
 v51:=Tryz.zeroValue267
 t146:=Tryz.underlying296
 a146:=Tryz.isAgg296
 z146:=Tryz.sizeOf296
 v146:=Tryz.zeroValue296
 g1:=by kernel_rfl }
open Go.RowKit Go.Lib in
def Tryz.stringslite_IndexByte(s:ByteArray)(c:Int)(w:World):
 Calls prog 145 #[.string s,.int .u8 c] w λe w'=>e=.returned (.int .i64 (Lib.indexByte s.data.toList c.toNat.toUInt8))/\w'=w:=Any.stringslite_IndexByte Tryz.Q1 s c w
open Go.RowKit Go.Lib in
def Tryz.stringslite_Index(s sub:ByteArray)(m:Int)(w:World)(hs:s.size<4294967281)(hm:w.cell? ⟨4,0,none⟩=some (.int .i64 m)):
 Calls prog 143 #[.string s,.string sub] w λe w'=>e=.returned (.int .i64 (Lib.index s.data.toList sub.data.toList))/\w'=w:=Any.stringslite_Index Tryz.Ss s sub m w hs hm
open Go.RowKit Go.Lib in
def Tryz.strings_Count_one(s:ByteArray)(c:UInt8)(w:World):
 Calls prog 92 #[.string s,.string ⟨#[c]⟩] w λe w'=>e=.returned (.int .i64 (Lib.countByte s.data.toList c))/\w'=w:=Any.strings_Count_one Tryz.Q0 s c w
end Go.Proofs
namespace Go.Am
open Go.Proofs Go.Lib
variable {x:AV}{off T n:Nat}{us:List AV}{V:Vw}{P:Program}{G:List (List DV)}{lv:Key->LB}{vs:Array Value}{w:World}
def Qn(T off len:Nat):Bool:=(Nat.beq T 101&&(Nat.beq off 0&&Nat.ble 2 len)) ||(Nat.beq T 103&&(Nat.beq off 8&&Nat.ble 10 len))
theorem Ka{len:Nat}(h:Qn T off len=true):(T=101/\off=0/\2<=len)\/(T=103/\off=8/\10<=len):=by
 simp only[Qn,ad2,cy]at h
 simp_all
theorem S4:(prog.info? 101).map (·.size)=some 2:=by kernel_rfl
theorem Uy:prog.cellsOf 101=2:=by kernel_rfl
theorem Sq:prog.cellsOf 103=10:=by kernel_rfl
theorem Ul:∃d,prog.depth=d+1:=⟨prog.depth-1,by kernel_rfl⟩
theorem aaZ:rowAt prog (sameLayout prog prog.depth · 101) prog.depth 101 1 0 1=true:=by kernel_rfl
theorem Xy:rowAt prog (sameLayout prog prog.depth · 101) prog.depth 103 1 8 1=true:=by kernel_rfl
theorem yV{p:Program}{fits:TypeId->Bool}{d:Nat}{e:TypeId}{c c':Nat}(h:rowAt p fits d e c off n=true)(hc:c<=c'):rowAt p fits d e c' off n=true:=by
 cases d with
 |zero=>simp[rowAt]at h
 |succ d=>
  unfold rowAt at h⊢;simp only at h⊢;split at h
  ·cases h
  grind
theorem Xs(h:Qn T off n=true):liesAt prog prog.depth T (n/prog.cellsOf T) off 101 1=true:=by
 obtain⟨d,hd⟩:=Ul
 have key:∀T off c,rowAt prog (sameLayout prog prog.depth · 101) prog.depth T c off 1=true->liesAt prog prog.depth T c off 101 1=true:=by
  intro T off c h;rw[hd]at h⊢;unfold liesAt;rw[hd,h];simp
 rcases Ka h with⟨rfl,rfl,h3⟩|⟨rfl,rfl,h3⟩
 ·rw[Uy];exact key _ _ _ (yV aaZ (by omega))
 ·rw[Sq];exact key _ _ _ (yV Xy (by omega))
theorem Ro(b off:Nat)(w:World)(h0:w.cell? ⟨b,off,none⟩=some (.pointer (some ⟨b,off,none⟩))):
 Calls prog 124 #[.pointer (some ⟨b,off,none⟩)] w λe w'=>e=.returned (.tuple #[])/\w'=w:=by
 obtain⟨j,hj,_⟩:=Option.map_eq_some_iff.1 S4
 go_enter func124,Tryz.ntmps124
 go_wp2
 rw[Lib.run_neq_ptr_same w _ Tryz.underlying98 hj]
 go_wp2
 go_end0
 simp
theorem Nw(b off n:Nat)(T:TypeId)(w:World)(h0:w.cell? ⟨b,off,none⟩=some (.pointer none))(hn:Qn T off n=true)(hsh:w.shape? b=some (T,n))(hfz:w.frozen? ⟨b,off,none⟩=false):
 Calls prog 124 #[.pointer (some ⟨b,off,none⟩)] w λe w'=>e=.returned (.tuple #[])/\w'=w.setCell ⟨b,off,none⟩ (.pointer (some ⟨b,off,none⟩)):=by
 obtain⟨j,hj,hjs⟩:=Option.map_eq_some_iff.1 S4;have hlt:off<n:=by rcases Ka hn with⟨_,h1,h2⟩|⟨_,h1,h2⟩<;>omega
 go_enter func124,Tryz.ntmps124
 go_wp2
 rw[Lib.run_to_unsafe w ⟨b,off,none⟩ Tryz.underlying98 Tryz.underlying225 hj (by omega) hsh hlt];simp only[Result.andThen];rw[Oper.upon_value]
 go_wp2
 rw[run_callFunc_extern func170 (by kernel_rfl) (by kernel_rfl) (by kernel_rfl) (e:=Extern.AbiNoEscape.same) (by kernel_rfl)];rw[Lib.run_noEscape];simp only[Result.andThen];rw[Oper.upon_value]
 go_wp2
 rw[Lib.run_from_unsafe w ⟨b,off,none⟩ Tryz.underlying225 Tryz.underlying98 hj hsh (Xs hn)];simp only[Result.andThen];rw[Oper.upon_value]
 go_wp2
 go_end0
 simp
theorem cu.of_same{f:FuncId}(hx:x.flat=true)
 (h:∀(F:Nat->Prop) (β:Key->Nat) (w:World) (vs:Array Value),cY (de P G w F β lv) F β lv w->vs.size=us.length->(∀i (h:i<us.length) (h':i<vs.size),(Vw.mk F β lv w).av vs[i] us[i]) ->
  ∃v,(Vw.mk F β lv w).av v x/\Calls P f vs w λe w'=>e=.returned v/\w'=w):cu P G f us lv (.ret x lv):=by
 intro F β w vs hS hl hv;obtain⟨v,h1,h2⟩:=h F β w vs hS hl hv;refine h2.mono λe w' he=>?_;obtain⟨rfl,rfl⟩:=he;exact⟨v,F,β,rfl,hS,h1⟩
theorem args1(hl:vs.size=[x].length)(hv:∀i (h:i < [x].length) (h':i<vs.size),V.av vs[i] [x][i]):∃u,vs=#[u]/\V.av u x:=by
 have h1:vs.size=1:=hl;refine⟨vs[0],?_,hv 0 (by simp) (by omega)⟩
 grind
theorem args2{y:AV}(hl:vs.size=[x,y].length)(hv:∀i (h:i < [x,y].length) (h':i<vs.size),V.av vs[i] [x,y][i]):∃u v,vs=#[u,v]/\V.av u x/\V.av v y:=by
 have h1:vs.size=2:=hl;refine⟨vs[0],vs[1],?_,hv 0 (by simp) (by omega),hv 1 (by simp) (by omega)⟩
 grind
def GR:List UInt8->List UInt8->Bool
 |[],_=>true
 |a::l,b::m=>Nat.beq a.toNat b.toNat&&GR l m
 |_::_,[]=>false
theorem G1(a b:UInt8):Nat.beq a.toNat b.toNat=(a==b):=by
 rw[Bool.eq_iff_iff];constructor
 ·intro h;have:=aen h;simpa using UInt8.toNat_inj.1 this
 simp_all
theorem zU:∀(l m:List UInt8),GR l m=l.isPrefixOf m
 |[],m=>by rfl
 |a::l,b::m=>by simp only[GR,List.isPrefixOf,G1,zU l m]
 |a::l,[]=>by rfl
def De(t:List UInt8):List UInt8->Nat->Option Nat
 |[],i=>bif GR t []then some i else none
 |a::l,i=>bif GR t (a::l)then some i else De t l (Nat.succ i)
def Ed:Option Nat->Int
 |some i=>Int.ofNat i
 |none=>Int.negSucc 0
theorem JH(t:List UInt8):∀(s:List UInt8) (i:Nat),Ed (De t s i)=if Lib.index s t = -1 then -1 else Lib.index s t+i
 |[],i=>by
  simp only[De,zU,Lib.index]
  cases t with
  |nil=>simp[Ed]
  |cons a t=>simp[Ed]
 |a::l,i=>by
  have ih:=JH t l (Nat.succ i);have e:Lib.index (a::l) t=if t.isPrefixOf (a::l)then 0 else(if Lib.index l t == -1 then -1 else Lib.index l t+1):=by simp only[Lib.index]
  simp only[De,zU]
  cases hp:t.isPrefixOf (a::l)with
  |true=>
   have e2:Lib.index (a::l) t=0:=by rw[e,if_pos hp]
   rw[e2];simp[Ed]
  |false=>
   have e2:Lib.index (a::l) t=if Lib.index l t == -1 then -1 else Lib.index l t+1:=by rw[e,if_neg (by simp[hp])]
   rw[e2];simp only[cond_false];rw[ih]
   by_cases h:Lib.index l t = -1
   ·simp[h]
   ·have hge:=index_ge l t
    grind
theorem oU(s t:List UInt8):Lib.index s t=Ed (De t s 0):=by
 rw[JH];simp
theorem index_one(s:List UInt8)(c:UInt8):Lib.indexByte s c=Lib.index s [c]:=by
 induction s with
 |nil=>rfl
 |cons a s ih=>
  simp only[Lib.indexByte,Lib.index,ih]
  grind
def C6:List AV->Option AV
 |[.c (.d (.str s)),.c (.d (.str t))]=>bif Nat.blt s.length 4294967281 then some (.c (.d (.int .i64 (Ed (De t s 0)))))else none
 |_=>none
def yE:List AV->Option AV
 |[.c (.d (.str s)),.c (.d (.int .u8 (.ofNat n)))]=>bif Nat.blt s.length 4294967281 then some (.c (.d (.int .i64 (Ed (De [UInt8.ofNat n] s 0)))))else none
 |_=>none
def IU(c:Nat):List UInt8->Nat
 |[]=>0
 |a::l=>bif Nat.beq a.toNat c then Nat.succ (IU c l)else IU c l
theorem Dc(c:UInt8):∀l:List UInt8,IU c.toNat l=Lib.countByte l c
 |[]=>rfl
 |a::l=>by
  have ih:=Dc c l;unfold Lib.countByte at*
  simp only[IU,G1,List.count_cons]
  grind
def CT:List AV->Option AV
 |[.c (.d (.str s)),.c (.d (.str [t]))]=>bif Nat.blt s.length 4294967281 then some (.c (.d (.int .i64 (.ofNat (IU t.toNat s)))))else none
 |_=>none
theorem Da{n:Int}(h:-9223372036854775808<=n/\n<=9223372036854775807):V.av (.int .i64 n) (.c (.d (.int .i64 n))):=
 Vw.kJ _ _ _ (c6 (by simpa[Cf,rR]using h))
theorem B9(s t:List UInt8)(h:s.length<4294967281):-9223372036854775808<=Lib.index s t/\Lib.index s t<=9223372036854775807:=by
 have h1:=index_ge s t
 have h2:Lib.index s t<=s.length:=by
  clear h h1
  induction s with
  |nil=>simp only[Lib.index];omega
  |cons a s ih=>
   simp only[Lib.index]
   grind
 omega
theorem L5{F:Nat->Prop}{β:Key->Nat}{g:Nat}{k:IntKind}{n:Int}(hS:cY (de P G w F β lv) F β lv w)(hg:G[g]?=some [.int k n]):w.cell? ⟨g,0,none⟩=some (.int k n):=by
 have:=hS.rO g _ hg
 cases this with
 |ptr b off vs cs hm ho hr=>
  have h1:=hm 0 (by simp);have h2:=hr 0 (by simp);simp only[adW]at h2;have h3:=h1.2;generalize vs 0=u at h2 h3
  cases h2
  exact h3
theorem Ln(m:Int)(h:C6 us=some x)(lv:Key->LB):cu prog (GG m) 143 us lv (.ret x lv):=by
 unfold C6 at h;split at h
 ·rename_i s t
  cases hb:Nat.blt s.length 4294967281 with
  |false=>rw[hb]at h;cases h
  |true=>
   rw[hb]at h;simp only[cond_true,ah]at h;subst h;have hs:s.length<4294967281:=adE hb;refine cu.of_same (by rfl) λF β w vs hS hl hv=>?_;obtain⟨u,v,rfl,hu,hv⟩:=args2 hl hv;have:=Tryz.stringslite_Index ⟨s.toArray⟩ ⟨t.toArray⟩ m w (by rw[dA];exact hs) (L5 hS rfl);refine⟨.int .i64 (Ed (De t s 0)),?_,?_⟩
   ·rw[<-oU];exact Da (B9 s t hs)
   ·rw[Vw.jD hu,Vw.jD hv];simpa[oU]using this
 ·cases h
theorem Jf(m:Int)(h:yE us=some x)(lv:Key->LB):cu prog (GG m) 145 us lv (.ret x lv):=by
 unfold yE at h;split at h
 ·rename_i s n
  cases hb:Nat.blt s.length 4294967281 with
  |false=>rw[hb]at h;cases h
  |true=>
   rw[hb]at h;simp only[cond_true,ah]at h;subst h;have hs:s.length<4294967281:=adE hb;refine cu.of_same (by rfl) λF β w vs hS hl hv=>?_;obtain⟨u,v,rfl,hu,hv⟩:=args2 hl hv;have:=Tryz.stringslite_IndexByte ⟨s.toArray⟩ n w;refine⟨.int .i64 (Ed (De [UInt8.ofNat n] s 0)),?_,?_⟩
   ·rw[<-oU];exact Da (B9 s _ hs)
   ·rw[Vw.jD hu,Vw.gm hv];simpa[<-oU,index_one]using this
 ·cases h
theorem LU(m:Int)(h:CT us=some x)(lv:Key->LB):cu prog (GG m) 92 us lv (.ret x lv):=by
 unfold CT at h;split at h
 ·rename_i s t
  cases hb:Nat.blt s.length 4294967281 with
  |false=>rw[hb]at h;cases h
  |true=>
   rw[hb]at h;simp only[cond_true,ah]at h;subst h;have hs:s.length<4294967281:=adE hb;refine cu.of_same (by rfl) λF β w vs hS hl hv=>?_;obtain⟨u,v,rfl,hu,hv⟩:=args2 hl hv;have:=Tryz.strings_Count_one ⟨s.toArray⟩ t w;have hle:IU t.toNat s<=s.length:=by rw[Dc];exact aej
   refine⟨.int .i64 (.ofNat (IU t.toNat s)),?_,?_⟩
   ·exact Da ⟨by simp,by grind⟩
   ·rw[Vw.jD hu,Vw.jD hv];simpa[Dc]using this
 ·cases h
theorem xo{b:Nat}{arr:Array Value}{T:TypeId}{v:Value}{fr:Nat×Nat}(hb:w.heap[b]?=some (.cells arr T fr))(off:Nat):
 w.setCell ⟨b,off,none⟩ v=w.setRow b (arr.setIfInBounds off v):=by
 unfold World.setCell World.setRow
 have:(w.heap.modify b λ
  |.cells c elem frozen=>.cells (c.setIfInBounds off v) elem frozen
  |o=>o)=w.heap.modify b λ
  |.cells _ elem frozen=>.cells (arr.setIfInBounds off v) elem frozen
  |o=>o:=by
  apply Array.ext
  ·simp
  ·intro i p q;simp only[Array.getElem_modify];split
   ·rename_i hi
    subst hi;obtain⟨h1,h2⟩:=Array.getElem?_eq_some_iff.1 hb;rw[h2]
   ·rfl
 grind
theorem Oi{m:Nat}(h:Qn T off n=true)(hm:n<=m):Qn T off m=true:=by
 have key:∀k,n<=m->Nat.ble k n=true->Nat.ble k m=true:=λk h1 h2=>Nat.ble_eq_true_of_le (ab8 (adE h2) h1)
 simp only[Qn,ad2,cy]at h ⊢
 grind
theorem Kq{α:Type}{cs r:List α}{x:α}(h:cs.drop off=x::r):∃hlt:off<cs.length,cs[off]=x:=by
 have hlt:off<cs.length:=by
  apply adK;intro hc;rw[aeE (by omega)]at h;cases h
 rw[adV hlt]at h
 grind
theorem Li(m:Int)(lv:Key->LB)(k off T:Nat)(cs r:List CV)(hk:lv k=.cells false false T cs)(hc:cs.drop off=.ptr k off::r):
 cu prog (GG m) 124 [.c (.ptr k off)] lv (.ret (.tup []) lv):=by
 intro F β w vs hS hl hv;obtain⟨u,rfl,hu⟩:=args1 hl hv
 have hu1:u=.pointer (some ⟨β k,off,none⟩):=by
  obtain⟨h1,_⟩:=hu;simpa only[Vw.dD,hk]using h1
 subst hu1;have hb:=hS.bU k;unfold Vw.bU at hb;simp only[hk]at hb;obtain⟨arr,b1,b2,b3,_⟩:=hb;obtain⟨hlt,hx⟩:=Kq hc;have hpos:off<arr.size:=by omega
 have h0:=b3 off hlt hpos;rw[hx]at h0;obtain⟨h0,_⟩:=h0;simp only[Vw.dD,hk]at h0
 have hcell:w.cell? ⟨β k,off,none⟩=some (.pointer (some ⟨β k,off,none⟩)):=by
  rw[cell_of_heap b1];simp[hpos,h0]
 refine(Ro _ _ w hcell).mono λe w' he=>?_;obtain⟨rfl,rfl⟩:=he;exact⟨_,F,β,rfl,hS,⟨#[],rfl,rfl,λi h=>absurd h (by simp)⟩⟩
theorem HA(m:Int)(lv:Key->LB)(k off T:Nat)(cs r:List CV)(hok:Qn T off cs.length=true)(hk:lv k=.cells false false T cs)(hc:cs.drop off=.d .nilp::r):
 cu prog (GG m) 124 [.c (.ptr k off)] lv (.ret (.tup []) (au lv k (.cells false false T (aj cs off [.ptr k off])))):=by
 intro F β w vs hS hl hv;obtain⟨u,rfl,hu⟩:=args1 hl hv
 have hu1:u=.pointer (some ⟨β k,off,none⟩):=by
  obtain⟨h1,_⟩:=hu;simpa only[Vw.dD,hk]using h1
 subst hu1;have hb:=hS.bU k;unfold Vw.bU at hb;simp only[hk]at hb;obtain⟨arr,b1,b2,b3,_⟩:=hb;obtain⟨hlt,hx⟩:=Kq hc;have hpos:off<arr.size:=by omega
 have h0:=b3 off hlt hpos;rw[hx]at h0
 have h0':arr[off]=.pointer none:=by
  obtain⟨h0,_⟩:=h0;have h0:Rd _ arr[off] .nilp:=h0;generalize arr[off]=v at h0
  cases h0;rfl
 have hcell:w.cell? ⟨β k,off,none⟩=some (.pointer none):=by
  rw[cell_of_heap b1];simp[hpos,h0']
 refine(Nw _ off arr.size T w hcell (Oi hok b2) (by simp[World.shape?,b1]) (frozen_of_heap b1 off)).mono λe w' he=>?_;obtain⟨rfl,rfl⟩:=he;have hset:=xo (v:=.pointer (some ⟨β k,off,none⟩)) b1 off;have hle:off+[CV.ptr k off].length<=cs.length:=by simp;omega
 have hS2:=hS.setRow (arr:=arr.setIfInBounds off (.pointer (some ⟨β k,off,none⟩))) (cs':=aj cs off [.ptr k off]) hk b1 (by simp) (by rw[dx _ _ _ hle];grind) (by
  intro i p q;rw[Array.getElem_setIfInBounds (by grind),eZ _ _ _ hle i p]
  by_cases hi:off=i
  ·subst hi;rw[if_pos rfl,dif_pos ⟨aU _,by simp⟩];simp only[aes,adW];refine⟨?_,rfl⟩;simp only[Vw.dD,hk]
  grind)
 rw[hset];exact⟨_,F,β,rfl,hS2,⟨#[],rfl,rfl,λi h=>absurd h (by simp)⟩⟩
end Go.Am
namespace Go.Am
open Go.Proofs Go.Lib Go.RowKit
def Ij(p:Addr)(w:World):
 CallsD prog 49 #[.pointer (some p)] .returning w λe u' w'=>e=.returned (.tuple #[])/\u'=.returning/\w'=w:=by
 refine callsD_of_wpS func49 rfl λc₀ cs hu=>?_;apply wpS_seq;apply wpS_region;simp[wpOpsS,go_sem,recoverD,hu,Tryz.ntmps49,Exit.thenS];refine wpS_of_wp ?_
 go_wp2
 cases c₀
 simp_all [bodyPostS,results,Tryz.results49]
def KR(b:Nat)(n m:Int)(w:World)(hc:w.cell? ⟨b,0,none⟩=some (.int .i64 m))(hz:w.frozen? ⟨b,0,none⟩=false):
 CallsD prog 49 #[.pointer (some ⟨b,0,none⟩)] (.panicking [{ v:=.iface 117 (.agg #[.int .i64 n]),recovered:=false }]) w λe u' w'=>e=.returned (.tuple #[])/\u'=.panicking [{ v:=.iface 117 (.agg #[.int .i64 n]),recovered:=true }]/\w'=(w.setCell ⟨b,0,none⟩ (.int .i64 n)).alloc (.cells #[.int .i64 n] 117):=by
 have ha:∀(d:Value) (w:World),(Instr.typeAssert (.iface 117 d) 20 117 true).run prog w=.ok (.tuple #[d,.bool true]) w:=by
  intro d w;simp[Instr.typeAssert,run_underlying Tryz.underlying117]
 have hlt:b<w.heap.size:=by
  rcases aeL b w.heap.size with h'|h'
  ·exact h'
  ·simp[World.cell?,Array.getElem?_eq_none h']at hc
 have hcA:(w.alloc (.cells #[.int .i64 n] 117)).cell? ⟨b,0,none⟩=some (.int .i64 m):=by rw[World.cell?_alloc_lt _ _ ⟨b,0,none⟩ hlt];exact hc
 have hzA:(w.alloc (.cells #[.int .i64 n] 117)).frozen? ⟨b,0,none⟩=false:=by
  unfold World.frozen? at hz⊢;rw[heap_alloc,if_neg (by simp;omega)];exact hz
 refine callsD_of_wpS func49 rfl λc₀ cs hu=>?_;apply wpS_seq;apply wpS_region;simp[wpOpsS,go_sem,recoverD,hu,Tryz.ntmps49,Exit.thenS];refine wpS_of_wp ?_
 go_wp2
 cases c₀
 simp_all [bodyPostS,results,Tryz.results49]
def IG(t:FuncId)(fs cs:Array Value)(w:World)(Q:World->Prop)(hf:aH prog t=true)
 (h:Calls prog t (fs++cs) (w.alloc (.cells #[.int .i64 0] 31)) λe w2=>(∃v,e=.returned v)/\Q w2/\w2.cell? ⟨w.heap.size,0,none⟩=some (.int .i64 0)/\w2.frozen? ⟨w.heap.size,0,none⟩=false) :
 Calls prog 27 #[.func (.func t) fs cs] w λe w'=>∃w2,Q w2/\w2.cell? ⟨w.heap.size,0,none⟩=some (.int .i64 0)/\e=.returned (.int .i64 0)/\w'=w2.setCell ⟨w.heap.size,0,none⟩ (.int .i64 0):=by
 have hmf:∀(fn:Fn) (first cap:Array Value) (w:World),(Instr.makeFunc fn first cap).run prog w=.ok (.func fn first cap) w:=λ_ _ _ _=>rfl
 have hcall:∀(args:Array Value) (w:World),(callFunc t args).run prog w=.ok (.enter t args) w:=λargs w=>kZ hf args w
 go_enter_defers func27,Tryz.ntmps27
 go_wp2
 refine h.mono ?_;rintro e w2 ⟨⟨v,rfl⟩,hQ,hc,hz⟩;simp only
 go_wp2
 refine leaves_cons (f:=49) (args:=#[.pointer (some ⟨w.heap.size,0,none⟩)]) (by simp) (by rfl) ?_;refine(Ij ⟨w.heap.size,0,none⟩ _).mono ?_;rintro e u' w'' ⟨rfl,rfl,rfl⟩;simp[Leaves,settle,results,Tryz.results27,go_sem,hc]
 grind
def I2(t:FuncId)(fs cs:Array Value)(w:World)(Q:World->Prop)(n:Int)(hf:aH prog t=true)
 (h:Calls prog t (fs++cs) (w.alloc (.cells #[.int .i64 0] 31)) λe w2=>e=.panicked [{ v:=.iface 117 (.agg #[.int .i64 n]),recovered:=false }]/\Q w2/\w2.cell? ⟨w.heap.size,0,none⟩=some (.int .i64 0)/\w2.frozen? ⟨w.heap.size,0,none⟩=false) :
 Calls prog 27 #[.func (.func t) fs cs] w λe w'=>∃w2,Q w2/\w2.cell? ⟨w.heap.size,0,none⟩=some (.int .i64 0)/\e=.returned (.int .i64 n)/\w'=(w2.setCell ⟨w.heap.size,0,none⟩ (.int .i64 n)).alloc (.cells #[.int .i64 n] 117):=by
 have hmf:∀(fn:Fn) (first cap:Array Value) (w:World),(Instr.makeFunc fn first cap).run prog w=.ok (.func fn first cap) w:=λ_ _ _ _=>rfl
 have hcall:∀(args:Array Value) (w:World),(callFunc t args).run prog w=.ok (.enter t args) w:=λargs w=>kZ hf args w
 go_enter_defers func27,Tryz.ntmps27
 go_wp2
 refine h.mono ?_;rintro e w2 ⟨rfl,hQ,hc,hz⟩;simp only;refine leaves_cons (f:=49) (args:=#[.pointer (some ⟨w.heap.size,0,none⟩)]) (by simp) (by rfl) ?_;refine(KR w.heap.size n 0 _ hc hz).mono ?_;rintro e u' w'' ⟨rfl,rfl,rfl⟩
 have hlt:w.heap.size<w2.heap.size:=by
  rcases aeL w.heap.size w2.heap.size with h'|h'
  ·exact h'
  ·simp[World.cell?,Array.getElem?_eq_none h']at hc
 have hc2:((w2.setCell ⟨w.heap.size,0,none⟩ (.int .i64 n)).alloc (.cells #[.int .i64 n] 117)).cell? ⟨w.heap.size,0,none⟩=some (.int .i64 n):=by
  rw[World.cell?_alloc_lt _ _ ⟨w.heap.size,0,none⟩ (by simp_all)];exact World.cell?_setCell_same _ _ _ hc
 simp[Leaves,settle,results,Tryz.results27,go_sem,hc2]
 grind
end Go.Am
namespace Go.Am
open Go.Proofs Go.Lib
variable {F:Nat->Prop}{β:Key->Nat}{w:World}{c:Ctx}{s:az}{a:Act}
theorem aA.far{w':World}(h:aA c F β s a w)(B:Nat->Prop)
 (hs:∀b,¬B b->b<w.heap.size->w'.heap[b]?=w.heap[b]?) (hF:∀b,B b->¬F b) (hL:∀k,(s.lv k).live=true->¬B (β k)) (hW:∀b,B b->c.w0.heap.size<=b)
 (hsz:w.heap.size<=w'.heap.size) (ha:∀b,cM w b<=cM w' b) (hoo:w'.os=w.os/\w'.output=w.output:=by exact⟨rfl,rfl⟩):aA c F β s a w':=by
 have hm:∀b,F b->w'.heap[b]?=w.heap[b]?:=λb hb=>hs b (λhB=>hF b hB hb) (h.nU b hb).1
 have:=h.step (hoo:=hoo) (F':=F) (β':=β) (lv':=s.lv) (w':=w') (λ_ h=>h) hm (λk=>LB.bG _) (λ_ _ _=>rfl) ha ?_ h.inj (λb hb=>.inl hb) hsz ?_
 ·exact this
 ·intro k hK;have hb:=h.bU k
  have key:(s.lv k).live=true->(Vw.mk F β s.lv w').bU c k:=λhl=>
   Vw.bQ hb hK rfl rfl (hs _ (hL k hl) (h.gE hl)) (λ_ h=>h)
  cases e:s.lv k with
  |cells own fz T cs=>
   cases fz with
   |false=>exact key (by rw[e];rfl)
   |true=>
    refine Vw.bQ hb hK rfl rfl (hm _ ?_) (λ_ h=>h);unfold Vw.bU at hb;grind
  |map own es=>exact key (by rw[e];rfl)
  |hole=>unfold Vw.bU;grind
  |dead=>unfold Vw.bU;grind
  |bO=>unfold Vw.bU;grind
 ·intro b hb hW0;exact hs b (λhB=>by grind) (adD hb h.ge)
theorem aA.uZ(h:aA c F β s a w)(o:Obj):aA c F β s a (w.alloc o):=
 h.far (λ_=>False) (λb _ hb=>by rw[heap_alloc,if_neg (by omega)]) (λ_ h=>h.elim) (λ_ _ h=>h.elim) (λ_ h=>h.elim) (by simp) (jl w o)
theorem aA.OY(h:aA c F β s a w){b:Nat}{arr:Array Value}{T:TypeId}{fr:Nat×Nat}(hb:w.heap[b]?=some (.cells arr T fr))(v:Value)
 (hF:¬F b) (hL:∀k,(s.lv k).live=true->β k≠b) (hW:c.w0.heap.size<=b):aA c F β s a (w.setCell ⟨b,0,none⟩ v):=by
 rw[xo hb];refine h.far (λx=>x=b) (λx hx _=>setRow_other _ _ _ _ hx) (λx hx=>hx▸hF) (λk hk=>hL k hk) (λx hx=>hx▸hW) (by simp) (λx=>?_);rw[ic w b arr _ T fr hb (by simp)];simp
theorem B7{P:Program}{G:List (List DV)}{t:FuncId}{us:List AV}{lv:Key->LB}{o:Qb}(ho:dc lv)(hc:cu P G t us lv o){vs:Array Value}
 (hS:cY (de P G w F β lv) F β lv w) (hl:vs.size=us.length) (hv:∀i (h:i<us.length) (h':i<vs.size),(Vw.mk F β lv w).av vs[i] us[i]) (ob:Obj) :
 Calls P t vs (w.alloc ob) λe w2=>w2.heap[w.heap.size]?=some ob/\match o with
  |.ret _ lv'=>(∃v,e=.returned v)/\∃F' β',cY (de P G w F β lv) F' β' lv' w2/\¬F' w.heap.size/\∀k,(lv' k).live=true->β' k≠w.heap.size
  |.vu d lv'=>∃v,e=.panicked [{ v:=v,recovered:=false }]/\∃F' β',cY (de P G w F β lv) F' β' lv' w2/\¬F' w.heap.size/\(∀k,(lv' k).live=true->β' k≠w.heap.size)/\Rd (l7 w2 F') v d:=by
 have h1:=aA.uZ hS ob;have h2:cY (de P G (w.alloc ob) F β lv) F β lv (w.alloc ob):=h1.wQ ho
 have UB:∀i (h:i<us.length) (h':i<vs.size),(Vw.mk F β lv (w.alloc ob)).av vs[i] us[i]:=λi p q=>
  (Vw.ju (V:=Vw.mk F β lv w) (V':=Vw.mk F β lv (w.alloc ob)) (λ_ h=>h) (λb hb=>by
   have:=(hS.nU b hb).1;show(w.alloc ob).heap[b]?=_;rw[heap_alloc,if_neg (by omega)]) (λk=>LB.bG _) (λ_ _ _=>rfl) (jl w ob)).av (hv i p q)
 have key:∀F' β' lv' w2,cY (de P G (w.alloc ob) F β lv) F' β' lv' w2->w2.heap[w.heap.size]?=some ob/\cY (de P G w F β lv) F' β' lv' w2/\¬F' w.heap.size/\∀k,(lv' k).live=true->β' k≠w.heap.size:=by
  intro F' β' lv' w2 hX;have hsz:(w.alloc ob).heap.size=w.heap.size+1:=by show(w.heap.push ob).size=_;exact Array.size_push _
  refine⟨?_,?_,?_,?_⟩
  ·have:=hX.old w.heap.size (by show w.heap.size<(w.alloc ob).heap.size;omega) (by
    rintro⟨k,hk,he⟩;have:=hS.gE (k:=k) hk;omega)
   rw[this];show(w.alloc ob).heap[w.heap.size]?=_;rw[heap_alloc,if_pos rfl]
  ·exact h1.CC hX
  ·intro hb;rcases(hX.nU _ hb).2 with h3|h3
   ·have:=(hS.nU _ h3).1;omega
   ·have:(w.alloc ob).heap.size<=w.heap.size:=h3;omega
  ·intro k hk he;rcases hX.fJ (k:=k) hk with h3|⟨j,hj,hj2⟩
   ·have:(w.alloc ob).heap.size<=β' k:=h3;omega
   ·have:=hS.gE (k:=j) hj;omega
 refine(hc F β (w.alloc ob) vs h2 hl UB).mono λe w2 he=>?_
 cases o with
 |ret x lv'=>
  obtain⟨v,F',β',rfl,hX,_⟩:=he;obtain⟨k1,k2,k3,k4⟩:=key _ _ _ _ hX
  grind
 |vu d lv'=>
  obtain⟨v,F',β',rfl,hX,hr⟩:=he;obtain⟨k1,k2,k3,k4⟩:=key _ _ _ _ hX
  grind
theorem Jm(m:Int)(v:AV)(t:FuncId)(fs cs:List AV)(lv lv':Key->LB)(x:AV)(ht:cG v=some (t,fs,cs))(hf:aH prog t=true)(ho:dc lv)(hc:cu prog (GG m) t (fs++cs) lv (.ret x lv')):
 cu prog (GG m) 27 [v] lv (.ret (.c (.d (.int .i64 0))) lv'):=by
 intro F β w vs hS hl hv;obtain⟨u,rfl,hu⟩:=args1 hl hv;obtain⟨fs',cs',h1,h2,h3,h4,h5⟩:=mE hu ht;subst h1;have hv':=qK (V:=Vw.mk F β lv w) (args':=#[]) h2 (show(#[]:Array Value).size=([]:List AV).length from rfl) h3 h4 (λi p q=>absurd p (by simp)) h5;simp only[adv,Array.append_empty]at hv';have hcall:=B7 ho hc hS hv'.1 hv'.2 (.cells #[.int .i64 0] 31)
 have:=IG t fs' cs' w (λw2=>∃F' β',cY (de prog (GG m) w F β lv) F' β' lv' w2/\¬F' w.heap.size/\(∀k,(lv' k).live=true->β' k≠w.heap.size)/\w2.heap[w.heap.size]?=some (.cells #[.int .i64 0] 31)) hf
  (hcall.mono λe w2 he=>⟨he.2.1,(let ⟨F',β',k2,k3,k4⟩:=he.2.2;⟨F',β',k2,k3,k4,he.1⟩),by simp[World.cell?,he.1],by simp[World.frozen?,he.1]⟩)
 refine this.mono λe w' he=>?_;obtain⟨w2,⟨F',β',k2,k3,k4,k5⟩,_,rfl,rfl⟩:=he;exact⟨_,F',β',rfl,aA.OY k2 k5 _ k3 k4 (aU _),Vw.kJ _ _ _ (by decide)⟩
theorem IT(m:Int)(v:AV)(t:FuncId)(fs cs:List AV)(lv lv':Key->LB)(n:Int)(ht:cG v=some (t,fs,cs))(hf:aH prog t=true)(ho:dc lv)(hc:cu prog (GG m) t (fs++cs) lv (.vu (.iface 117 (.agg [.int .i64 n])) lv')):
 cu prog (GG m) 27 [v] lv (.ret (.c (.d (.int .i64 n))) lv'):=by
 intro F β w vs hS hl hv;obtain⟨u,rfl,hu⟩:=args1 hl hv;obtain⟨fs',cs',h1,h2,h3,h4,h5⟩:=mE hu ht;subst h1;have hv':=qK (V:=Vw.mk F β lv w) (args':=#[]) h2 (show(#[]:Array Value).size=([]:List AV).length from rfl) h3 h4 (λi p q=>absurd p (by simp)) h5;simp only[adv,Array.append_empty]at hv';have hcall:=B7 ho hc hS hv'.1 hv'.2 (.cells #[.int .i64 0] 31)
 have hval:∀(M:Mem) (v:Value),Rd M v (.iface 117 (.agg [.int .i64 n]))->v=.iface 117 (.agg #[.int .i64 n])/\i64.wrap n=n:=by
  intro M v h
  cases h with
  |iface _ u _ hu=>
   cases hu with
   |agg arr _ hl _ hr=>
    have h0:=hr 0 (by simp);have hl1:arr.size=1:=hl;simp only[adW]at h0
    have:arr=#[arr[0]]:=by
     apply Array.ext
     ·simpa using hl1
     ·intro i p q;have:i=0:=by simp at q;omega
      subst this;rfl
    generalize arr[0]=z at h0 this
    cases h0 with
    |int _ _ hw=>grind
 have:=I2 t fs' cs' w (λw2=>i64.wrap n=n/\∃F' β',cY (de prog (GG m) w F β lv) F' β' lv' w2/\¬F' w.heap.size/\(∀k,(lv' k).live=true->β' k≠w.heap.size)/\w2.heap[w.heap.size]?=some (.cells #[.int .i64 0] 31)) n hf
  (hcall.mono λe w2 he=>by
   obtain⟨he1,v,rfl,F',β',k2,k3,k4,hr⟩:=he;obtain⟨rfl,hw⟩:=hval _ _ hr;exact⟨rfl,⟨hw,F',β',k2,k3,k4,he1⟩,by simp[World.cell?,he1],by simp[World.frozen?,he1]⟩)
 refine this.mono λe w' he=>?_;obtain⟨w2,⟨hw,F',β',k2,k3,k4,k5⟩,_,rfl,rfl⟩:=he;exact⟨_,F',β',rfl,aA.uZ (aA.OY k2 k5 _ k3 k4 (aU _)) _,Vw.kJ _ _ _ hw⟩
end Go.Am
namespace Go.Am
variable {l n κ:Nat}{P:Program}{G:List (List DV)}{fr:Nat->AV}{lv jd lv':Key->LB}{F0 F:Nat->Prop}{β0 β:Key->Nat}{w w0:World}{o:Obj}{s:az}{a:Act}{rec:Loop}
section
variable {c:Ctx}{r:Option Nat}{F:Nat->Prop}{β:Key->Nat}{s:az}{a:Act}{w w':World}
theorem AW.fresh{code:Code}{Q:Ex->az->Nat->Prop}(h:aA c F β ⟨fr,lv⟩ a w)(ho:dc lv)
 (hA:∀c':Ctx,c'.P=c.P->c'.G=c.G->c'.n=c.n->c'.jd=lv->AW c' r code ⟨fr,lv⟩ κ Q) :
 code.wpIn (rM r) 0 c.P (λe a' w'=>∃x s' κ' F' β',Q x s' κ'/\aA c F' β' s' a' w'/\Fi x e F' w'/\w.heap.size<=w'.heap.size/\(∀b,F' b->F b\/w.heap.size<=b)/\(∀k,(s'.lv k).live=true->w.heap.size<=β' k\/∃j,(lv j).live=true/\β j=β' k) /\
  ∀b,b<w.heap.size->(∀k,(lv k).live=true->β k≠b)->w'.heap[b]?=w.heap[b]?) a w:=by
 let c':Ctx:={ de c.P c.G w F β lv with n:=c.n }
 have h1:aA c' F β ⟨fr,lv⟩ a w:=cY.with (c:=c') (h.wQ ho) h.size h.defers h.fr;refine wpIn_mono (hA c' rfl rfl rfl rfl F β a w h1) ?_;rintro e a' w' ⟨x,s',κ',F',β',hQ,h2,hx⟩;have hx0:cY (de c.P c.G w F β lv) F' β' s'.lv w':=aA.xN (c:=c') h2;have h3:aA c F' β' ⟨fr,s'.lv⟩ a w':=h.CC hx0;have h4:aA c F' β' s' a' w':=cY.with (c:=c) (aA.xN (s:=⟨fr,s'.lv⟩) h3) h2.size h2.defers h2.fr;refine⟨x,s',κ',F',β',hQ,h4,hx,h2.ge,λb hb=>(h2.nU b hb).2,λk hk=>h2.fJ hk,λb hb hn=>?_⟩;exact h2.old b hb (λ⟨k,hk,he⟩=>hn k hk he)
theorem aA.aa7(h:aA c F β s a w)(B:Nat->Prop)
 (hs:∀b,¬B b->b<w.heap.size->w'.heap[b]?=w.heap[b]?) (hF:∀b,B b->¬F b) (hL:∀k,(s.lv k).live=true->¬B (β k)) (hW:∀b,B b->c.w0.heap.size<=b\/c.W0 b)
 (hsz:w.heap.size<=w'.heap.size) (ha:∀b,cM w b<=cM w' b) (hoo:w'.os=w.os/\w'.output=w.output:=by exact⟨rfl,rfl⟩):aA c F β s a w':=by
 have hm:∀b,F b->w'.heap[b]?=w.heap[b]?:=λb hb=>hs b (λhB=>hF b hB hb) (h.nU b hb).1
 have:=h.step (hoo:=hoo) (F':=F) (β':=β) (lv':=s.lv) (w':=w') (λ_ h=>h) hm (λk=>LB.bG _) (λ_ _ _=>rfl) ha ?_ h.inj (λb hb=>.inl hb) hsz ?_
 ·exact this
 ·intro k hK;have hb:=h.bU k
  have key:(s.lv k).live=true->(Vw.mk F β s.lv w').bU c k:=λhl=>
   Vw.bQ hb hK rfl rfl (hs _ (hL k hl) (h.gE hl)) (λ_ h=>h)
  cases e:s.lv k with
  |cells own fz T cs=>
   cases fz with
   |false=>exact key (by rw[e];rfl)
   |true=>
    refine Vw.bQ hb hK rfl rfl (hm _ ?_) (λ_ h=>h);unfold Vw.bU at hb;grind
  |map own es=>exact key (by rw[e];rfl)
  |hole=>unfold Vw.bU;grind
  |dead=>unfold Vw.bU;grind
  |bO=>unfold Vw.bU;grind
 ·intro b hb hW0;exact hs b (λhB=>(hW b hB).elim (λh1=>by omega) hW0) (adD hb h.ge)
theorem aA.EA(h:aA c F β s a w)(o':Obj)(hl:w.heap[l]?=some o)(hc:∀x y z,o≠.cells x y z)(hF:¬F l)(hL:∀k,(s.lv k).live=true->β k≠l)(hW:c.w0.heap.size<=l\/c.W0 l):aA c F β s a (w.putObj l o'):=by
 refine h.aa7 (λx=>x=l) (λx hx _=>afP hx) (λx hx=>hx▸hF) (λk hk=>hL k hk) (λx hx=>hx▸hW) (by simp) (λb=>?_)
 by_cases e:b=l
 ·subst e;unfold cM
  grind
 ·unfold cM;rw[afP e];simp
end
def Sr(P:Program)(G:List (List DV))(w:World)(F:Nat->Prop)(β:Key->Nat)(lv:Key->LB)(n l:Nat):Ctx:=
 ⟨P,G,w,F,λb=>(∃k,(lv k).live=true/\β k=b)\/b=l,n,lv,β⟩
theorem aA.toR(l:Nat)(h:aA { de P G w0 F0 β0 jd with n:=n } F β s a w):
 aA (Sr P G w0 F0 β0 jd n l) F β s a w:=by
 refine⟨λk=>Vw.Ki ?_ (h.bU k),h.inj,h.fr,h.size,h.defers,h.nU,h.F0,λb hb hW=>h.old b hb (λhx=>hW (.inl hx)),h.ge,h.rO,h.keep,h.J5,h.Gt⟩;intro o ho;unfold fj at ho ⊢
 cases o with
 |true=>exact ho
 |false=>exact ho.imp id .inl
theorem aA.ofR(h:aA (Sr P G w0 F0 β0 jd n l) F β s a w)
 (hl0:w0.heap[l]?=some o) (hl:w.heap[l]?=some o) (hc:∀x y z,o≠.cells x y z) (hm:∀x y,o≠.map x y):cY (de P G w0 F0 β0 jd) F β s.lv w:=by
 refine⟨λk=>?_,h.inj,λ_=>trivial,rfl,rfl,h.nU,h.F0,λb hb hW=>?_,h.ge,h.rO,h.keep,h.J5,h.Gt⟩
 ·have hb:=h.bU k
  have key:∀ow,fj (Sr P G w0 F0 β0 jd n l) ow (β k)->β k≠l->fj { de P G w0 F0 β0 jd with n:=0 } ow (β k):=by
   intro ow ho hne;unfold fj at ho ⊢
   cases ow with
   |true=>exact ho
   |false=>
    rcases ho with h1|h1|h1
    ·exact .inl h1
    ·exact .inr h1
    omega
  unfold Vw.bU at hb ⊢
  grind
 ·by_cases e:b=l
  ·subst e;show w.heap[b]?=w0.heap[b]?
   grind
  ·refine h.old b hb ?_;rintro(h1|h1)
   ·exact hW h1
   omega
theorem tM.yield{w1:World}{ops:Array Oper}{o:Oper}{cl:Call}{fo:Operand}{xs:List AV}(hd:∀d,o.dst=some d->d<n)
 (hg:o.guard=none) (ho:o.op=.call cl) (hcal:cl.callee=.value fo) (hfo:(az.mk fr lv).val G fo=.c (.d (.func (.yield l) [] [])))
 (hxs:cl.args.toList.map ((az.mk fr lv).val G)=xs) (hps:rec.params.size=xs.length) (hl:w1.heap[l]?=some (.loop rec)) (hnl:∀k,(jd k).live=true->β0 k≠l) (hok:dc lv)
 (hround:∀(F:Nat->Prop) (β:Key->Nat) (w:World) (vs:Array Value),cY (de P G w1 F0 β0 jd) F β lv w->cY (de P G w F β lv) F β lv w->w.heap[l]?=some (.loop rec)->vs.size=xs.length->(∀i (h:i<xs.length) (h':i<vs.size),(Vw.mk F β lv w).av vs[i] xs[i]) ->
  RoundIn (rM none) 0 P l rec.fn ((rec.params.zip vs).foldl (λtmps (t,a)=>tmps.setIfInBounds t a) rec.tmps) rec.assign rec.body w λe w'=>e=.returned (.bool true)/\∃F' β',cY (de P G w F β lv) F' β' lv' w') :
 tM { de P G w1 F0 β0 jd with n:=n } none ops o ⟨fr,lv⟩ (az.put ⟨fr,lv'⟩ o.dst (.c (.d (.bool true)))):=by
 intro F β a w K Q hs hK;have hw:Region.wanted o (yielded ops a.tmps)=true:=by unfold Region.wanted;rw[hg]
 rw[if_pos hw];have hS:cY (de P G w1 F0 β0 jd) F β lv w:=aA.xN hs
 have hlw:w.heap[l]?=some (.loop rec):=by
  rw[<-hl];have hlt:=(Array.getElem?_eq_some_iff.1 hl).1;exact hs.old l hlt (λ⟨k,hk,he⟩=>hnl k hk he)
 have hv0:=hs.val fo
 have yf:a.eval fo=.func (.yield l) #[] #[]:=by
  have h1:(Vw.mk F β lv w).av (a.eval fo) (.c (.d (.func (.yield l) [] []))):=hfo▸hv0;obtain⟨h1,_⟩:=h1;generalize a.eval fo=u at h1
  cases h1 with
  |func _ fs cs _ _ hf hc _ _=>
   grind
 have hsz:(cl.args.map a.eval).size=xs.length:=by rw[<-hxs];simp
 have hav:∀i (h:i<xs.length) (h':i<(cl.args.map a.eval).size),(Vw.mk F β lv w).av (cl.args.map a.eval)[i] xs[i]:=by
  intro i p q;subst hxs;simp only[afx,BH,aeq];exact hs.val _
 have hr:(execOp a.eval o).run P w=.ok (.round l rec.fn ((rec.params.zip (cl.args.map a.eval)).foldl (λtmps (t,a)=>tmps.setIfInBounds t a) rec.tmps) rec.assign rec.body) w:=by
  simp only[execOp,ho,resolve,hcal,yf,Deferred.ofValue,cn,adG,iL,invoke];have:=run_yield (P:=P) (args:=cl.args.map a.eval) hlw (by omega);simpa using this
 refine⟨λ_ _=>trivial,?_⟩;rw[Oper.semAt_eq _ _ _ (λc h=>by grind)];show o.uponIn (rM none) 0 P a K Q ((execOp a.eval o).run P w);rw[hr,Oper.uponIn_round];refine⟨λh=>by simp[rM,Fence.wide]at h,?_⟩;refine(hround F β w _ hS (hs.wQ hok) hlw hsz hav).mono λe w' he=>?_;obtain⟨rfl,F',β',hX⟩:=he;exact hK F' β' _ _ (aA.D6 (hs.CC hX) hd (Vw.od _ _))
theorem FJ{tmps:Array Value}{fr2:Nat->AV}(hS:cY (de P G w F β lv) F β lv w)(hok:dc lv)
 (hlw:w.heap[l]?=some (.loop rec)) (hst:rec.state=.ready) (hpe:rec.pending=none) (hn:tmps.size=n) (hfr:∀t,(Vw.mk F β lv w).av (tmps.getD t undef) (fr t)) (hFl:¬F l)
 (h1:∀c:Ctx,c.P=P->c.G=G->c.n=n->c.jd=lv->AW c (some l) rec.assign ⟨fr,lv⟩ κ (λx s _=>x=.normal/\s=⟨fr2,lv⟩))
 (h2:∀c:Ctx,c.P=P->c.G=G->c.n=n->c.jd=lv->AW c (some l) rec.body ⟨fr2,lv⟩ κ (λx s _=>x=.normal/\s.lv=lv')) :
 RoundIn (rM none) 0 P l rec.fn tmps rec.assign rec.body w λe w'=>e=.returned (.bool true)/\∃F' β',cY (de P G w F β lv) F' β' lv' w':=by
 have hlt:l<w.heap.size:=(Array.getElem?_eq_some_iff.1 hlw).1
 have hnot:∀(F:Nat->Prop) (β:Key->Nat) (lv:Key->LB) (c:Ctx) (s:az) (a:Act) (w:World) (r:Loop),aA c F β s a w->w.heap[l]?=some (.loop r)->∀k,(s.lv k).live=true->β k≠l:=by
  intro F β lv c s a w r h hl k hk he;have hb:=h.bU k;unfold Vw.bU at hb
  cases e:s.lv k with
  |cells own fz T cs=>grind
  |map own es=>grind
  |hole=>rw[e]at hk;cases hk
  |dead=>rw[e]at hk;cases hk
  |bO=>rw[e]at hk;cases hk
 have s0:aA (Sr P G w F β lv n l) F β ⟨fr,lv⟩ ⟨tmps,[]⟩ w:=aA.toR l (cY.enter hS (a:=⟨tmps,[]⟩) hn rfl hfr);refine roundIn_of_wpIn trivial ?_;show rec.assign.wpIn (rM (some l)) 0 P _ _ w;refine wpIn_mono (AW.fresh (r:=some l) s0 hok (h1 ·)) ?_;rintro e a1 w1 ⟨x,s1,κ1,F1,β1,⟨rfl,rfl⟩,s1',hx,z1,z2,z2b,z3⟩
 cases hx
 have hl1:w1.heap[l]?=some (.loop rec):=by rw[z3 l hlt (hnot F β lv _ _ _ w rec s0 hlw)];exact hlw
 refine⟨_,run_beginRound hl1 hst,?_⟩
 have hF1:¬F1 l:=λh=>by
  grind
 have s2:=s1'.EA (.loop { rec with state:=.busy }) hl1 (λ_ _ _ h=>by cases h) hF1 (hnot _ _ lv _ _ _ _ _ s1' hl1) (.inr (.inr rfl));have hl2:(w1.putObj l (.loop { rec with state:=.busy })).heap[l]?=some (.loop { rec with state:=.busy }):=World.putObj_heap_same (by omega);show rec.body.wpIn (rM (some l)) 0 P _ _ _;refine wpIn_mono (AW.fresh (r:=some l) s2 hok (h2 ·)) ?_;rintro e a3 w3 ⟨x,s3,κ3,F3,β3,⟨rfl,hlv⟩,s3',hx,y1,y2,y2b,y3⟩
 cases hx
 have hl3:w3.heap[l]?=some (.loop { rec with state:=.busy }):=by rw[y3 l (by simp;omega) (hnot _ _ lv _ _ _ _ _ s2 hl2)];exact hl2
 have hF3:¬F3 l:=λh=>by
  grind
 have hrec:({ { rec with state:=.busy } with state:=.ready,pending:=none }:Loop)=rec:=by
  cases rec;simp only at hst hpe;subst hst;subst hpe;rfl
 have s4:=s3'.EA (.loop rec) hl3 (λ_ _ _ h=>by cases h) hF3 (hnot _ _ lv _ _ _ _ _ s3' hl3) (.inr (.inr rfl));have hl4:(w3.putObj l (.loop rec)).heap[l]?=some (.loop rec):=World.putObj_heap_same (Array.getElem?_eq_some_iff.1 hl3).1;have hS4:=s4.ofR hlw hl4 (λ_ _ _ h=>by cases h) (λ_ _ h=>by cases h);refine⟨.bool true,w3.putObj l (.loop rec),?_,rfl,F3,β3,hlv▸hS4⟩;have:=run_endRound (P:=P) none hl3
 grind
end Go.Am
namespace Go.Am
open Go.Am.Ty Go.Proofs N
def aP:List UInt8->Nat->Nat
 |[],n=>n
 |c::l,n=>aP l (10*n+(c.toNat-48))
def xG(l:List UInt8):Prop:=∀c∈l,48<=c.toNat/\c.toNat<=57
def lC:∀(a b:List UInt8) (n:Nat),aP (a++b) n=aP b (aP a n)
 |[],b,n=>rfl
 |c::a,b,n=>by simp[aP,lC a b]
def ga:∀(l:List UInt8) (n:Nat),aP l n=n*10^l.length+aP l 0
 |[],n=>by simp[aP]
 |c::l,n=>by
  simp only[aP,adN,adl];rw[ga l (10*n+_),ga l (10*0+_)]
  grind
def oE:∀{l:List UInt8},xG l->aP l 0<10^l.length
 |[],_=>by simp[aP]
 |c::l,h=>by
  have h1:=h c (ad9 ..);have ih:=oE (l:=l) (λx hx=>h x (ael _ hx));simp only[aP,adN,adl];rw[ga];have h2:(10*0+(c.toNat-48))*10^l.length<=9*10^l.length:=adn _ (by omega);omega
def tM.plain{c:Ctx}{r:Option Nat}{ops:Array Oper}{o:Oper}{s:az}{κ:Key}{x:AV}{vc:Prop}(hd:∀d,o.dst=some d->d<c.n)(hg:o.guard=none)
 (h:cX c.P o.op (o.op.operands.toList.map (s.val c.G)) s.lv κ=some (x,[],[],vc)) (hvc:vc) {s1:az}(h1:s1=s.put o.dst x):tM c r ops o s s1:=by
 subst h1;exact tM.Vb (cQ.plain hd (by unfold eK;rw[hg]) h hvc)
def oO(st:Bool)(n:Nat):Option (List Nat):=if st then some (aI 4294967296 n)else none
def nD:Option (List Nat)->DV
 |none=>.nilsl
 |some l=>.sl (dK .u32 l)
def TJ(o:Option (List Nat)):(AV.c (.d (nD o)))=nK .u32 o:=by cases o<;>rfl
@[simp]def W1(u:List UInt8)(d:DV):lU u d 0=.cells false false 9 [.d (.str u)]:=by rfl
@[simp]def S2(u:List UInt8)(d:DV):lU u d 1=.cells false false 175 [.d d]:=by rfl
@[simp]def XD(u u':List UInt8)(d:DV):au (lU u d) 0 (.cells false false 9 [.d (.str u')])=lU u' d:=by
 funext k;unfold lU au
 grind
def qz(u:List UInt8)(d:DV):jk (lU u d):=by
 intro k own es h;rcases OM u d k with h1|⟨T,cs,h1⟩<;>rw[h1]at h<;>cases h
def O0(G:List (List DV))(v sz:Nat)(lv:Key->LB)(r:Option Nat)(fr:Nat->AV)(f8:fr 8=.c (.d (.int .u32 v)))(f9:fr 9=.c (.d (.int .u32 sz))):
 ∀c:Ctx,c.P=prog->c.G=G->c.n=20->AW c r Cd ⟨fr,lv⟩ 0 (λx s _=>x=.normal/\s=⟨au (au fr 4 (.c (.d (.int .u32 v)))) 5 (.c (.d (.int .u32 sz))),lv⟩):=by
 rintro⟨_,Gc,w0,F0,W0,_,jd,β0⟩ rfl rfl rfl;unfold Cd;refine acf f8 ?_;refine aaJ ?_;simp[f9]
noncomputable def HC:Code:=match Tryz.f264.body with|some b=>b|_=>.skip
def Q7(c:Ctx)(Y:AV):Prop:=
 ∀(u:List UInt8) (n:Nat) (st:Bool) (v sz L:Nat) (fr:Nat->AV) (ops:Array Oper) (o:Oper) (cl:Call),v<4294967296->sz<4294967296->(st=false->n=0)->L<=10000000000->n<4294967296^L ->
  o.dst=some 32->o.guard=none->o.op=.call cl->cl.callee=.value (.tmp 29)->cl.args=#[.tmp 30,.tmp 31]->fr 29=Y->fr 30=.c (.d (.int .u32 v))->fr 31=.c (.d (.int .u32 sz)) ->
  tM c none ops o ⟨fr,lU u (nD (oO st n))⟩ (az.put ⟨fr,lU u (nD (oO true (n*sz+v)))⟩ (some 32) (.c (.d (.bool true))))
def pw(j:Nat):Nat:=10^j
def QG(j:Nat):pw (j+1)=10*pw j:=by unfold pw;omega
def QB:pw 0=1:=rfl
def p10{j:Nat}(h:j<=9):pw j<=1000000000:=by
 unfold pw;have:=adS (n:=10) (by decide) h;omega
def IA{u:List UInt8}{j:Nat}{ch:UInt8}{rest:List UInt8}(h:u.drop j=ch::rest):u.take (j+1)=u.take j++[ch]/\u.drop (j+1)=rest/\j<u.length:=by
 have hlt:j<u.length:=by
  apply adK;intro hc;rw[aeE (by omega)]at h;cases h
 have e:u.drop j=u[j]::u.drop (j+1):=adV hlt
 grind
def SJ(G:List (List DV))(s0:List UInt8)(hD:xG s0)(hlen:s0.length<=1000000000)(Y:AV)(hY:Y.bF=true):
 ∀c:Ctx,c.P=prog->c.G=G->c.n=34->Q7 c Y->AW c none HC ⟨λt=>[Y,.c (.ptr 0 0)].getD t .undef,lU s0 .nilsl⟩ 0 (λx s _=>x=.normal/\s.lv=lU [] (nD (oO (!s0.isEmpty) (aP s0 0)))):=by
 rintro⟨_,Gc,w0,F0,W0,_,jd,β0⟩ rfl rfl rfl hy;unfold HC;refine abd ?_
 refine aco (λ(p:List UInt8×Nat×Bool×Nat)=>⟨aJ [(0,Y),(1,.c (.ptr 0 0))],lU p.1 (nD (oO p.2.2.1 p.2.1))⟩) 0
  (λp=>xG p.1/\p.2.2.2+p.1.length<=1000000000/\p.2.1<4294967296^p.2.2.2/\aP p.1 p.2.1=aP s0 0/\(p.2.2.1=false->p.2.1=0/\p.1=s0)/\(p.2.2.1=true->s0≠[]))
  (λp=>p.1.length) (s0,0,false,0) (Le.mk' _ (by rfl) (qz _ _) (by simp[hY])) (by grind) ?_
 rintro⟨u,n,st,L⟩ ⟨h1,h2,h3,h4,h5,h6⟩;simp only at h1 h2 h3 h4 h5 h6;refine aae λK hK=>aar ?_
 by_cases hu:u=[]
 ·subst hu;refine abg (abX ?_);simp;have e1:n=aP s0 0:=h4
  have e2:st = !s0.isEmpty:=by
   cases st with
   |true=>grind
   |false=>grind
  grind
 have hu0:0<u.length:=List.length_pos_iff.2 hu
 have hs0:s0≠[]:=by
  cases st with
  |true=>exact h6 rfl
  |false=>rw[<-(h5 rfl).2];exact hu
 refine abz (by simp_all) (aaE (hK _ _ (abd (aar ?_))));refine aae λK hK=>?_
 have fin:∀(j:Nat) (fr:Nat->AV) (κ:Nat),0<j->j<=9->j<=u.length->fr 0=Y->fr 1=.c (.ptr 0 0)->fr 3=.c (.d (.int .u32 (aP (u.take j) 0)))->fr 4=.c (.d (.int .u32 (pw j)))->K ⟨fr,lU (u.drop j) (nD (oO st n))⟩ κ:=by
  intro j fr κ hj0 hj9 hju f0 f1 f3 f4
  have hvj:aP (u.take j) 0<pw j:=by
   unfold pw;have:=oE (l:=u.take j) (λc hc=>h1 c (aey hc))
   rwa[ac7,adO hju]at this
  have hpj:=p10 hj9
  have hdec:aP (u.drop j) (n*pw j+aP (u.take j) 0)=aP s0 0:=by
   rw[<-h4]
   conv=>rhs;rw[<-afn j u]
   rw[lC,ga (u.take j) n,ac7,adO hju];rfl
  have hbig:n*pw j+aP (u.take j) 0<4294967296^(L+1):=by
   rw[adl];have g1:n*pw j+aP (u.take j) 0<(n+1)*pw j:=by rw[adr];omega
   exact adD g1 (aeo (by omega) (by omega))
  generalize aP (u.take j) 0=v at*
  generalize hpw:pw j=q at*
  apply hK;refine aae λK2 hK2=>?_;have hd:∀t:Nat,t<34->∀d,some t=some d->d<34:=λt ht d h=>by grind
  refine AW.SO (s':=⟨au (au (au (au (au fr 29 Y) 30 (.c (.d (.int .u32 v)))) 31 (.c (.d (.int .u32 q)))) 32 (.c (.d (.bool true)))) 33 (.c (.d (.bool false))),lU (u.drop j) (nD (oO true (n*q+v)))⟩) ?_ ?_
  ·refine⟨⟨au fr 29 Y,lU (u.drop j) (nD (oO st n))⟩,?_,⟨au (au fr 29 Y) 30 (.c (.d (.int .u32 v))),lU (u.drop j) (nD (oO st n))⟩,?_,⟨au (au (au fr 29 Y) 30 (.c (.d (.int .u32 v)))) 31 (.c (.d (.int .u32 q))),lU (u.drop j) (nD (oO st n))⟩,?_,
    ⟨au (au (au (au fr 29 Y) 30 (.c (.d (.int .u32 v)))) 31 (.c (.d (.int .u32 q)))) 32 (.c (.d (.bool true))),lU (u.drop j) (nD (oO true (n*q+v)))⟩,?_,⟨au (au (au (au (au fr 29 Y) 30 (.c (.d (.int .u32 v)))) 31 (.c (.d (.int .u32 q)))) 32 (.c (.d (.bool true)))) 33 (.c (.d (.bool false))),lU (u.drop j) (nD (oO true (n*q+v)))⟩,?_,rfl⟩
   ·exact tM.plain (κ:=0) (x:=fr 0) (hd 29 (by decide)) rfl rfl trivial (by simp_all)
   ·exact tM.plain (κ:=0) (x:=fr 3) (hd 30 (by decide)) rfl rfl trivial (by simp_all)
   ·exact tM.plain (κ:=0) (x:=fr 4) (hd 31 (by decide)) rfl rfl trivial (by simp_all)
   ·exact hy (u.drop j) n st v q L _ _ _ _ (by omega) (by omega) (λh=>(h5 h).1) (by omega) h3 rfl rfl rfl rfl rfl (by simp) (by simp) (by simp)
   ·exact tM.plain (κ:=0) (x:=.c (.d (.bool false))) (hd 33 (by decide)) rfl rfl trivial rfl
  ·simp only[vk];apply hK2;refine abg (aaE ?_);simp only[wg,vk];refine⟨(u.drop j,n*q+v,true,L+1),Le.mk' _ rfl (qz _ _) (by simp_all),⟨λc hc=>h1 c (aeK hc),by simp;omega,hbig,hdec,(by simp),(λ_=>hs0)⟩,by simp;omega⟩
 refine aar ?_;refine abd ?_
 refine aco (λ(j:Nat)=>⟨aJ [(0,Y),(1,.c (.ptr 0 0)),(3,.c (.d (.int .u32 (aP (u.take j) 0)))),(4,.c (.d (.int .u32 (pw j:Int)))),(5,.c (.d (.int .i64 j)))],lU (u.drop j) (nD (oO st n))⟩) 0
  (λj=>j<=9/\j<=u.length) (λj=>9-j) 0 (Le.mk' _ (by simp) (qz _ _) (by simp[hY,aP,QB])) (by simp) ?_
 rintro j ⟨hj,hju⟩
 have hvj:aP (u.take j) 0<pw j:=by
  unfold pw;have:=oE (l:=u.take j) (λc hc=>h1 c (aey hc))
  rwa[ac7,adO hju]at this
 have hpj:=p10 hj;refine aae λK2 hK2=>aae λK3 hK3=>?_
 by_cases hj9:j<9
 ·have hj9':(j:Int)<9:=by omega
  by_cases hje:j=u.length
  ·subst hje;refine acJ hj9 hj9' (hK3 _ _ ?_);refine abg (abX ?_);simp;have:=fin u.length;simp at this;refine this _ _ hu0 hj (by simp) (by simp) (by simp) (by simp)
  ·have hlt:j<u.length:=by omega
   obtain⟨ch,rest,hcr⟩:∃ch rest,u.drop j=ch::rest:=⟨u[j],u.drop (j+1),adV hlt⟩
   obtain⟨t1,t2,_⟩:=IA hcr;have hch:48<=ch.toNat/\ch.toNat<=57:=h1 ch (aeK (by rw[hcr];simp));have hlt':0<u.length-j:=by omega
   refine acY hj9 hj9' hlt hlt' (hK3 _ _ ?_);refine abz (by rfl) (aaE (hK2 _ _ (aae λK2 hK2=>abd (aae λK3 hK3=>?_))));have hpj':=p10 (j:=j+1) (by omega);have hps:=QG j;obtain⟨x,hx⟩:∃x,ch.toNat-48=x:=⟨_,rfl⟩
   obtain⟨v,hv⟩:∃v,aP (u.take j) 0=v:=⟨_,rfl⟩
   obtain⟨v',hv'⟩:∃v',aP (u.take (j+1)) 0=v':=⟨_,rfl⟩
   obtain⟨q',hq'⟩:∃q',pw (j+1)=q':=⟨_,rfl⟩
   have hvv:v'=10*v+x:=by rw[<-hv',t1,lC,hv,<-hx];rfl
   rw[hq']at hps hpj';rw[hv]at hvj
   have w1:u8.wrap ((ch.toNat:Int)-48)=(x:Int):=by
    rw[c6 ⟨by simp only[Cf];omega,by simp only[rR];omega⟩];omega
   have w2:u32.wrap (x:Int)=(x:Int):=wP (by omega) (by omega);have w3:u32.wrap (10*(v:Int))=10*(v:Int):=wP (by omega) (by omega);have w4:u32.wrap (10*(v:Int)+(x:Int))=(v':Int):=by rw[wP (by omega) (by omega)];omega
   have w5:u32.wrap (10*(pw j:Int))=(q':Int):=by rw[wP (by omega) (by omega)];omega
   have w6:i64.wrap ((j:Int)+1)=((j+1:Nat):Int):=by rw[c6 ⟨by simp only[Cf];omega,by simp only[rR];omega⟩];omega
   refine aaJ ?_;simp[hcr,hv,w1,w2,w3,w4,w5];apply hK3;refine acJ hcr @aj.eq_1 (hK2 _ _ ?_);refine acW 0 ?_;refine aaJ ?_;simp[w6];refine⟨j+1,Le.mk' _ (by simp[t2]) (qz _ _) (by simp[hY,hv',hq']),?_,?_⟩
   ·omega
   ·omega
 ·have hj':j=9:=by omega
  subst hj';refine adg (hK3 _ _ ?_);refine abg (abX ?_)
  simp_all
end Go.Am
namespace Go.Am
open Go.Proofs Go.Am.Ty N
variable {P:Program}{G:List (List DV)}{lv:Key->LB}{F:Nat->Prop}{β:Key->Nat}{w:World}
theorem L9:Tryz.f264.body=some HC:=rfl
theorem Iu(s:ByteArray)(w:World):Calls prog 224 #[.string s] w λe w'=>e=.returned (.func (.func 264) #[] #[.pointer (some ⟨w.heap.size,0,none⟩)])/\w'=w.alloc (.cells #[.string s] 9):=by
 have hmf:∀(fn:Fn) (first cap:Array Value) (w:World),(Instr.makeFunc fn first cap).run prog w=.ok (.func fn first cap) w:=λ_ _ _ _=>rfl
 go_enter func224,Tryz.ntmps224
 go_wp2
 go_ret
 simp
def Vr(s:ByteArray)(w:World):World:=(w.alloc (.cells #[.slice none 0 0] 175)).alloc (.cells #[.string s] 9)
def QT(s:ByteArray)(w:World):Array Value:=#[.string s,undef,.slice none 0 0,.pointer (some ⟨w.heap.size,0,none⟩),undef,undef,.string s,.func (.func 264) #[] #[.pointer (some ⟨w.heap.size+1,0,none⟩)],undef,undef,undef,undef,undef,undef,undef,undef,undef,undef,undef,undef]
theorem Ob(s:ByteArray)(w:World)(R:Ending->World->Prop)
 (h:(Code.rangeFunc (.tmp 7) #[8,9] Cd ze).wpIn Fence.wide 0 prog (λe a' W=>e=.normal/\∃D v,a'={ tmps:=QT s w,defers:=[{ target:=.collected D,args:=#[] }] }/\W.heap[D]?=some (.deferred (some []))/\W.cell? ⟨w.heap.size,0,none⟩=some v/\R (.returned v) (W.putObj D (.deferred none))) ⟨QT s w,[]⟩ (Vr s w)) :
 Calls prog 175 #[.string s] w R:=by
 refine(callsIn_wide (n:=0)).1 ?_;refine callsIn_of_wp_marks func175 rfl trivial ?_ rfl;simp only[Tryz.ntmps175,afj,adN,List.length_nil,Nat.reduceAdd,Nat.reduceSub,Array.replicate_succ,Array.replicate_zero,List.push_toArray,List.append_toArray,adM,ad6]
 gi_wp2
 refine⟨trivial,rfl,((callsIn_wide (n:=0)).2 (Iu s _)).mono ?_⟩;rintro e w' ⟨rfl,rfl⟩
 gi_wp2
 refine wpIn_mono (show(Code.rangeFunc (.tmp 7) #[8,9] Cd ze).wpIn Fence.wide 0 prog _ _ _ from h) ?_;rintro e a' W ⟨rfl,D,v,rfl,hD,hc,hR⟩;simp only[Exit.inBlock,Exit.then]
 apply_assumption
 unfold QT
 gi_wp2
 refine⟨by simp,.inl ⟨_,_,rfl,run_takeDeferred hD,?_⟩⟩;exact⟨_,results_tmp rfl _ _ _,by simp_all⟩
theorem NU{f:FuncId}{fn:Func}{code:Code}{args:List AV}{lv':Key->LB}{κ:Nat}(hf:P.funcs[f]?=some fn)(hb:fn.body=some code)(hl:args.length<=fn.ntmps)(hres:fn.results=#[]){vs:Array Value}(hS:cY (de P G w F β lv) F β lv w)(hvl:vs.size=args.length)(hv:∀i (h:i<args.length) (h':i<vs.size),(Vw.mk F β lv w).av vs[i] args[i])
 (h:AW { de P G w F β lv with n:=fn.ntmps } none code ⟨λt=>args.getD t .undef,lv⟩ κ (λx s _=>x=.normal/\s.lv=lv')) :
 Calls P f vs w λe w'=>(∃v,e=.returned v)/\∃F' β',cY (de P G w F β lv) F' β' lv' w':=by
 refine calls_of_wp hf hb ?_
 let a:Act:={ tmps:=vs++Array.replicate (fn.ntmps-vs.size) undef,defers:=[] }
 have hst:aA { de P G w F β lv with n:=fn.ntmps } F β ⟨λt=>args.getD t .undef,lv⟩ a w:=by
  refine cY.with (c:={ de P G w F β lv with n:=fn.ntmps }) hS ?_ rfl (λt=>?_)
  ·grind
  ·show(Vw.mk F β lv w).av ((vs++Array.replicate (fn.ntmps-vs.size) undef).getD t undef) (args.getD t .undef)
   by_cases ht:t<args.length
   ·have h1:args.getD t .undef=args[t]:=dW ht
    have h2:(vs++Array.replicate (fn.ntmps-vs.size) undef).getD t undef=vs[t]'(by omega):=by
     rw[adZ,afT (by omega),aeu (by omega)];rfl
    grind
   ·have h1:args.getD t .undef=.undef:=iy ht
    have h2:(vs++Array.replicate (fn.ntmps-vs.size) undef).getD t undef=undef:=by
     rw[adZ,afU (by omega),aeR];split<;>rfl
    rw[h1,h2];rfl
 have hw:=(wpIn_wide (n:=0)).1 (h F β a w hst);refine wp_mono hw λe a' w' hp=>?_;obtain⟨e',s',κ',F',β',⟨rfl,hq⟩,hs',he⟩:=hp
 cases he
 exact⟨hs'.defers,.tuple #[],by simp[results,hres],⟨_,rfl⟩,F',β',hq▸hs'.xN⟩
theorem vH(u:List UInt8)(d:DV):dc (lU u d):=by
 intro k;rcases OM u d k with h|⟨T,cs,h⟩<;>rw[h]<;>rfl
theorem O8(s:List UInt8)(d:DV):au (au (au (au (λ_=>LB.hole) 1 (.cells true false 175 [.d d])) 1 (.cells false false 175 [.d d])) 0 (.cells true false 9 [.d (.str s)])) 0 (.cells false false 9 [.d (.str s)])=lU s d:=by
 funext k;unfold lU au
 grind
theorem PX{s:List UInt8}(hlv:lv=λ_=>.hole)(hS:cY (de P G w F β lv) F β lv w)(hs:s.length<=9223372036854775807):
 ∃β2:Key->Nat,cY (de P G w F β lv) F β2 (lU s .nilsl) (Vr ⟨s.toArray⟩ w)/\β2 1=w.heap.size/\β2 0=w.heap.size+1:=by
 subst hlv
 have h1:=aA.alloc (κ:=1) hS rfl (arr:=#[.slice none 0 0]) 175 (cs:=[.d .nilsl]) (by simp) (λi p q=>by
  have:i=0:=by simp at p;omega
  subst this;exact⟨.nilsl,rfl⟩)
 have h2:=h1.oZ (k:=1) (T:=175) (cs:=[.d .nilsl]) false (by rfl)
 have h3:=aA.alloc (κ:=0) h2 (by simp[au]) (arr:=#[.string ⟨s.toArray⟩]) 9 (cs:=[.d (.str s)]) (by simp) (λi p q=>by
  have:i=0:=by simp at p;omega
  subst this;refine⟨?_,rfl⟩;have:=Rd.str (M:=(Vw.mk F (au β 1 w.heap.size) (au (au (λ_=>LB.hole) 1 (.cells true false 175 [.d .nilsl])) 1 (.cells false false 175 [.d .nilsl])) (w.alloc (.cells #[.slice none 0 0] 175))).mem) ⟨s.toArray⟩ (by omega)
  grind)
 have h4:=h3.oZ (k:=0) (T:=9) (cs:=[.d (.str s)]) false (by rfl);refine⟨au (au β 1 w.heap.size) 0 (w.alloc (.cells #[.slice none 0 0] 175)).heap.size,?_,?_,?_⟩
 ·have:=h4.xN;rw[<-O8 s .nilsl];exact this
 ·simp[au]
 simp
theorem r6(G:List (List DV))(s:List UInt8)(hD:xG s)(hlen:s.length<=1000000000):aa prog G 175 [.c (.d (.str s))] (nK .u32 (oO (!s.isEmpty) (aP s 0))):=by
 intro F β w vs hS hl hv;have hlv:bu [] []=λ_=>LB.hole:=iY
 obtain⟨u,rfl,hu⟩:=args1 hl hv;rw[Vw.jD hu];obtain⟨β2,hS2,e1,e0⟩:=PX hlv hS (s:=s) (by omega);refine Ob _ w _ ?_;refine wpIn_rangeFunc ?_;intro fn hfn;obtain⟨rec,hrec⟩:∃rec:Loop,rec={ state:=.ready,pending:=none,fn,tmps:=QT ⟨s.toArray⟩ w,params:=#[8,9],assign:=Cd,body:=ze,defers:=(Vr ⟨s.toArray⟩ w).heap.size }:=⟨_,rfl⟩
 have hsz:(Vr ⟨s.toArray⟩ w).heap.size=w.heap.size+2:=by simp[Vr]
 obtain⟨w1,hw1⟩:∃w1,((Vr ⟨s.toArray⟩ w).alloc (.deferred (some []))).alloc (.loop rec)=w1:=⟨_,rfl⟩
 have hD1:w1.heap[w.heap.size+2]?=some (.deferred (some [])):=by
  rw[<-hw1,heap_alloc,if_neg (by simp[hsz]),heap_alloc,if_pos hsz.symm]
 have hL1:w1.heap[w.heap.size+3]?=some (.loop rec):=by
  rw[<-hw1,heap_alloc,if_pos (by simp[hsz])]
 have hw1s:w1.heap.size=w.heap.size+4:=by rw[<-hw1];simp[hsz]
 have hS3:cY (de prog G w F β (bu [] [])) F β2 (lU s .nilsl) w1:=by
  rw[<-hw1];exact(hS2.uZ _).uZ _
 have hS4:cY (de prog G w1 F β2 (lU s .nilsl)) F β2 (lU s .nilsl) w1:=aA.wQ hS3 (vH _ _);have hFw:∀b,F b->b<w.heap.size:=λb hb=>(hS.nU b hb).1
 have hnot:∀b,w.heap.size+2<=b->∀k,(lU s .nilsl k).live=true->β2 k≠b:=by
  intro b hb k hk he
  by_cases h1:k=1
  ·grind
  ·by_cases h0:k=0
   ·grind
   ·rw[show lU s .nilsl k=.hole by unfold lU au;grind]at hk;cases hk
 refine⟨w.heap.size+3,[{ target:=.collected (w.heap.size+2),args:=#[] }],w1,{ target:=.fn (.func 264) #[.pointer (some ⟨w.heap.size+1,0,none⟩)],args:=#[.func (.yield (w.heap.size+3)) #[] #[]] },w1,264,
  #[.func (.yield (w.heap.size+3)) #[] #[]]++#[.pointer (some ⟨w.heap.size+1,0,none⟩)],w1,?_,?_,λ_ _=>trivial,?_,(λh=>by simp[Fence.wide]at h),?_⟩
 ·have:=run_enterLoop_outer (P:=prog) (w:=Vr ⟨s.toArray⟩ w) fn (QT ⟨s.toArray⟩ w) #[8,9] Cd ze
  simp_all
 ·have hg:(Act.eval ⟨QT ⟨s.toArray⟩ w,[]⟩ (.tmp 7))=.func (.func 264) #[] #[.pointer (some ⟨w.heap.size+1,0,none⟩)]:=rfl;simp only[resolve,hg];simp[go_sem]
 ·rfl
 ·refine(callsIn_wide (n:=0)).2 ?_
  let Y:AV:=.c (.d (.func (.yield (w.heap.size+3)) [] []))
  have hit:=NU (κ:=0) (lv':=lU [] (nD (oO (!s.isEmpty) (aP s 0)))) (args:=[Y,.c (.ptr 0 0)]) (vs:=#[.func (.yield (w.heap.size+3)) #[] #[]]++#[.pointer (some ⟨w.heap.size+1,0,none⟩)]) func264 L9 (by simp) rfl hS4 rfl (λi p q=>by
   have:i=0\/i=1:=by simp at p;omega
   rcases this with rfl|rfl
   ·exact⟨.func _ _ _ _ _ rfl rfl (λi h=>absurd h (adT i)) (λi h=>absurd h (adT i)),rfl⟩
   ·refine⟨?_,rfl⟩;simp only[Vw.dD,W1,e0];rfl) (SJ G s hD hlen Y rfl _ rfl rfl rfl ?_)
  ·refine hit.mono λe w3 he=>?_;obtain⟨⟨v,rfl⟩,F3,β3,hX⟩:=he;have hold:∀b,w.heap.size+2<=b->b<w1.heap.size->w3.heap[b]?=w1.heap[b]?:=λb h1 h2=>hX.old b h2 (λ⟨k,hk,he⟩=>hnot b h1 k hk he)
   have hL3:w3.heap[w.heap.size+3]?=some (.loop rec):=(hold _ (by omega) (by omega)).trans hL1;have hD3:w3.heap[w.heap.size+2]?=some (.deferred (some [])):=(hold _ (by omega) (by omega)).trans hD1
   have hF3:∀b,w.heap.size+2<=b->b<w1.heap.size->¬F3 b:=by
    intro b h1 h2 hb;rcases(hX.nU _ hb).2 with h|h
    ·have:=hFw _ h;omega
    ·have:w1.heap.size<=b:=h;omega
   have hlv3:∀b,w.heap.size+2<=b->b<w1.heap.size->∀k,(lU [] (nD (oO (!s.isEmpty) (aP s 0))) k).live=true->β3 k≠b:=by
    intro b h1 h2 k hk he;rcases hX.fJ (k:=k) hk with h|⟨j,hj,hj2⟩
    ·have:w1.heap.size<=β3 k:=h;omega
    ·grind
   have hc1:β3 1=w.heap.size:=by
    have h0:lU s DV.nilsl 1≠.hole:=by simp
    rcases hX.keep 1 h0 with h|⟨h,_⟩
    ·simp at h
    ·rw[h];exact e1
   have q1:aA { de prog G w F β (bu [] [])with n:=0 } F3 β3 ⟨λ_=>.junk,lU [] (nD (oO (!s.isEmpty) (aP s 0)))⟩ ⟨#[],[]⟩ w3:=hS3.CC hX;have q2:=q1.EA (.loop { rec with state:=.exhausted }) hL3 (λ_ _ _ h=>by cases h) (hF3 _ (by omega) (by omega)) (hlv3 _ (by omega) (by omega)) (.inl (by show w.heap.size<=_;omega));have hD4:(w3.putObj (w.heap.size+3) (.loop { rec with state:=.exhausted })).heap[w.heap.size+2]?=some (.deferred (some [])):=(afP (by omega)).trans hD3;have q3:=q2.EA (.deferred none) hD4 (λ_ _ _ h=>by cases h) (hF3 _ (by omega) (by omega)) (hlv3 _ (by omega) (by omega)) (.inl (by show w.heap.size<=_;omega));have hb:=q2.bU 1;unfold Vw.bU at hb;simp only[S2]at hb;obtain⟨arr,b1,b2,b3,_⟩:=hb;have hpos:0<arr.size:=by simp at b2;omega
   have h0:=b3 0 (by simp) hpos;simp only[adW]at h0;refine⟨none,w3.putObj (w.heap.size+3) (.loop { rec with state:=.exhausted }),?_,rfl,w.heap.size+2,arr[0],rfl,hD4,?_,arr[0],F3,β3,rfl,?_,?_⟩
   ·have:=run_endLoop (P:=prog) hL3 (by grind)
    grind
   ·rw[hc1]at b1;simp only[World.cell?]
    grind
   ·refine⟨λk=>?_,λk k' h=>?_,λ_=>trivial,rfl,rfl,q3.nU,q3.F0,q3.old,q3.ge,q3.rO,λk h=>?_,q3.J5,q3.Gt⟩
    ·unfold Vw.bU;grind
    ·rw[hlv]at h;cases h
    ·exact absurd (by rw[hlv];rfl) h
   ·have hR:∀x,(Vw.mk F3 β3 (lU [] (nD (oO (!s.isEmpty) (aP s 0)))) (w3.putObj (w.heap.size+3) (.loop { rec with state:=.exhausted }))).cv arr[0] (.d x)->(Vw.mk F3 β3 (bu [] []) ((w3.putObj (w.heap.size+3) (.loop { rec with state:=.exhausted })).putObj (w.heap.size+2) (.deferred none))).av arr[0] (.c (.d x)):=by
     rintro x ⟨g1,g2⟩;refine⟨Rd.mono (hO (λ_ h=>h) (λb hb=>?_)) g1,g2⟩;refine afP (λe=>?_);subst e;exact hF3 _ (by omega) (by omega) hb
    rw[<-TJ]
    grind
  ·intro u n st v sz L fr ops o cl hv hz hst hL hn hdst hg ho hcal hargs f29 f30 f31;rw[<-hdst];refine tM.yield (xs:=[.c (.d (.int .u32 v)),.c (.d (.int .u32 sz))]) (λd hd=>?_) hg ho hcal f29 (by simp_all) (by grind) hL1 (λk hk=>hnot _ (by omega) k hk) (vH _ _) ?_
   ·rw[hdst]at hd;cases hd;simp
   intro F' β' w' vs' hX hXe hl' hvs hav;obtain⟨x,y,rfl,hx,hy⟩:=args2 hvs hav;have ht:(rec.params.zip #[x,y]).foldl (λtmps (t,a)=>tmps.setIfInBounds t a) rec.tmps=((QT ⟨s.toArray⟩ w).setIfInBounds 8 x).setIfInBounds 9 y:=by rw[hrec];simp only[List.zip_toArray,List.zip_cons_cons,List.zip_nil_right,List.foldl_toArray,ae2,List.foldl_nil]
   rw[ht]
   have hb1:β' 1=w.heap.size:=by
    have h0:lU s DV.nilsl 1≠.hole:=by simp
    rcases hX.keep 1 h0 with h|⟨h,_⟩
    ·simp at h
    ·rw[h];exact e1
   have hFl:¬F' (w.heap.size+3):=by
    intro hb;rcases(hX.nU _ hb).2 with h|h
    ·have:=hFw _ h;omega
    ·have:w1.heap.size<=w.heap.size+3:=h;omega
   let fr0:Nat->AV:=λt=>if t=3 then .c (.ptr 1 0)else if t=8 then .c (.d (.int .u32 v))else if t=9 then .c (.d (.int .u32 sz))else .junk
   have hval:val 4294967296 (dO (oO st n))=n:=by
    cases st with
    |false=>have:=hst rfl;subst this;rfl
    |true=>exact bq (by decide) n
   have hlenO:(dO (oO st n)).length<=L:=by
    cases st with
    |false=>simp[oO,dO]
    |true=>exact c8 (by decide) hn
   refine FJ (n:=20) (κ:=0) (fr:=fr0) (fr2:=au (au fr0 4 (.c (.d (.int .u32 v)))) 5 (.c (.d (.int .u32 sz)))) hXe (vH _ _) hl' (by rw[hrec]) (by rw[hrec]) (by simp[QT]) (λt=>?_) hFl ?_ ?_
   ·show(Vw.mk F' β' _ w').av _ (if t=3 then .c (.ptr 1 0)else if t=8 then .c (.d (.int .u32 v))else if t=9 then .c (.d (.int .u32 sz))else .junk)
    by_cases h3:t=3
    ·subst h3;simp only[if_true];have:(((QT ⟨s.toArray⟩ w).setIfInBounds 8 x).setIfInBounds 9 y).getD 3 undef=.pointer (some ⟨w.heap.size,0,none⟩):=rfl;rw[this];refine⟨?_,rfl⟩;simp only[Vw.dD,S2,hb1]
    ·by_cases h8:t=8
     ·subst h8;exact hx
     ·by_cases h9:t=9
      ·subst h9;exact hy
      ·simp only[h3,h8,h9,if_false];trivial
   ·intro c hP hG hn' _;rw[hrec];exact O0 G v sz _ _ fr0 rfl rfl c hP hG hn'
   ·intro c hP hG hn' _;rw[hrec];have:=K0 G v sz hv hz (oO st n) (nD (oO st n)) (TJ _) (by omega) L (by omega) (by omega) u (some (w.heap.size+3)) (au (au fr0 4 (.c (.d (.int .u32 v)))) 5 (.c (.d (.int .u32 sz)))) (by rfl) (by simp[au]) (by simp[au]) c hP hG hn';rwa[hval]at this
end Go.Am
namespace Go.Am
open Go.Proofs N
variable {x:AV}{V V':Vw}{v:Value}{us:List AV}
theorem xm(hm:∀a v,V.mem a v->V'.mem a v){x:CV}(hx:x.pure=true)(h:V.cv v x):V'.cv v x:=by
 cases x with
 |d x=>exact⟨Rd.mono hm h.1,h.2⟩
 |junk=>exact h
 |_=>cases hx
theorem og(hm:∀a v,V.mem a v->V'.mem a v)(hx:x.lH=true)(h:V.l5 v x):V'.l5 v x:=by
 cases x with
 |c x=>exact xm hm hx h
 |agg cs=>
  obtain⟨arr,h1,h2,h3⟩:=h;refine⟨arr,h1,h2,λi p q=>xm hm ?_ (h3 i p q)⟩;simp only[AV.lH,ab3]at hx
  grind
 |tup l=>exact h.elim
 |undef=>exact h
 |junk=>trivial
theorem xx(hm:∀a v,V.mem a v->V'.mem a v)(hx:x.pure=true)(h:V.av v x):V'.av v x:=by
 cases x with
 |tup l=>
  obtain⟨arr,h1,h2,h3⟩:=h;refine⟨arr,h1,h2,λi p q=>og hm ?_ (h3 i p q)⟩;simp only[AV.pure,ab3]at hx
  grind
 |c x=>
  have hx':(AV.c x).lH=true:=hx;exact og (x:=.c x) hm hx' h
 |agg cs=>
  have hx':(AV.agg cs).lH=true:=hx;exact og (x:=.agg cs) hm hx' h
 |undef=>exact h
 |junk=>trivial
theorem cu.wF{P:Program}{G:List (List DV)}{f:FuncId}{lv:Key->LB}(hus:∀u∈us,u.pure=true)(hx:x.pure=true)(h:aa P G f us x):cu P G f us lv (.ret x lv):=by
 intro F β w vs hS hl hv;have hlv:bu [] []=λ_=>LB.hole:=iY
 have hS0:cY (de P G w F β (bu [] [])) F β (bu [] []) w:=by
  rw[hlv];exact⟨λk=>trivial,λk k' h=>(by cases h),λ_=>trivial,rfl,rfl,λb hb=>⟨(hS.nU b hb).1,.inl hb⟩,λ_ hb=>hb,λ_ _ _=>rfl,aU _,hS.rO,λk hk=>absurd rfl hk,λ_=>aU _,⟨rfl,rfl⟩⟩
 refine(h F β w vs hS0 hl (λi p q=>xx (V:=Vw.mk F β lv w) (V':=Vw.mk F β (bu [] []) w) (λ_ _ h=>h) (hus _ (aZ p)) (hv i p q))).mono λe w' he=>?_;obtain⟨v,F',β',rfl,hX,hav⟩:=he
 have hold:∀b,b<w.heap.size->w'.heap[b]?=w.heap[b]?:=λb hb=>hX.old b hb (by
  rintro⟨k,hk,_⟩;rw[hlv]at hk;cases hk)
 have hFl:∀b,F' b->F b\/w.heap.size<=b:=λb hb=>(hX.nU b hb).2
 refine⟨v,F',β,rfl,?_,xx (V:=Vw.mk F' β' (bu [] []) w') (V':=Vw.mk F' β lv w') (λ_ _ h=>h) hx hav⟩;refine aA.step (hoo:=hX.Gt) (c:={ de P G w F β lv with n:=0 }) (s:=⟨λ_=>.junk,lv⟩) hS hX.F0 (λb hb=>hold b (hS.nU b hb).1) (λk=>LB.bG _) (λ_ _ _=>rfl) hX.J5 ?_ hS.inj (λb hb=>(hFl b hb).imp id λh=>⟨(hX.nU b hb).1,h⟩) hX.ge (λb hb _=>hold b hb);intro k hK;have hb:=hS.bU k
 have key:(lv k).live=true->(Vw.mk F' β lv w').bU { de P G w F β lv with n:=0 } k:=λhl=>
  Vw.bQ hb hK rfl rfl (hold _ (hS.gE hl)) (λ_ hf=>by
   rcases hFl _ hf with h|h
   ·exact h
   ·have:=hS.gE (k:=k) hl
    grind)
 cases e:lv k with
 |cells own fz T cs=>
  cases fz with
  |false=>exact key (by rw[e];rfl)
  |true=>
   unfold Vw.bU at hb⊢;simp only[e]at hb⊢;obtain⟨arr,b1,b2,b3,b4,b5⟩:=hb;simp only[if_true]at b4⊢;exact⟨arr,by grind,b2,λi p q=>hK.cv (b3 i p q),hX.F0 _ b4,b5⟩
 |map own es=>exact key (by rw[e];rfl)
 |hole=>unfold Vw.bU;grind
 |dead=>unfold Vw.bU;grind
 |bO=>unfold Vw.bU;grind
noncomputable def BD(f:Nat)(x:Spec)(t:Tb Spec):Tb Spec:=t.set .body x (pathOf f)
theorem nr(f j:Nat)(x:Spec)(t:Tb Spec):(BD f x t).get .body (pathOf j)=if j=f then x else t.get .body (pathOf j):=by
 have:Decidable (pathOf j=pathOf f):=Classical.propDecidable _;unfold BD;rw[Tb.DO]
 by_cases e:j=f
 ·grind
 ·rw[if_neg e,if_neg (λh=>e (tu h))]
def OR:List UInt8->Bool
 |[]=>true
 |c::l=>(Nat.ble 48 c.toNat&&Nat.ble c.toNat 57)&&OR l
theorem Gq:∀{l:List UInt8},OR l=true->xG l
 |[],_=>λc hc=>by cases hc
 |c::l,h=>by
  simp only[OR,cy]at h;intro d hd;rcases List.mem_cons.1 hd with rfl|hd
  ·simp_all
  ·exact Gq h.2 d hd
def JK:List AV->Option AV
 |[.c (.d (.str s))]=>bif OR s&&Nat.ble s.length 1000000000 then some (nK .u32 (oO (!s.isEmpty) (aP s 0)))else none
 |_=>none
theorem N5(m:Int)(h:JK us=some x)(lv:Key->LB):cu prog (GG m) 175 us lv (.ret x lv):=by
 unfold JK at h;split at h
 ·rename_i s
  cases hb:OR s&&Nat.ble s.length 1000000000 with
  |false=>rw[hb]at h;cases h
  |true=>
   rw[hb]at h;simp only[cond_true,ah]at h;subst h;simp only[cy]at hb;exact cu.wF (λu hu=>by simp_all) (by simp) (r6 (GG m) s (Gq hb.1) (adE hb.2))
 ·cases h
noncomputable def Yn:Tb Spec:=BD 27 .caught (BD 124 (.self Qn) (BD 143 (.pure C6) (BD 145 (.pure yE) (BD 92 (.pure CT) (BD 175 (.pure JK) .leaf)))))
theorem uM(f:Nat):Yn.get .body (pathOf f)=if f=27 then .caught else if f=124 then .self Qn else if f=143 then .pure C6 else if f=145 then .pure yE else if f=92 then .pure CT else if f=175 then .pure JK else .body:=by
 unfold Yn;simp only[nr,Tb.eR]
theorem P4(m:Int):yJ prog (GG m) Yn 117 where
 pure:=by
  intro f g us x h hg lv ho;rw[uM]at h;split at h
  ·cases h
  split at h
  ·cases h
  split at h
  ·rename_i e;subst e;cases h;exact Ln m hg lv
  split at h
  ·rename_i e;subst e;cases h;exact Jf m hg lv
  split at h
  ·rename_i e;subst e;cases h;exact LU m hg lv
  split at h
  ·rename_i e;subst e;cases h;exact N5 m hg lv
  ·cases h
 yq:=by
  intro f h v t fs cs lv lv' x ht hf ho hc;rw[uM]at h;split at h
  ·rename_i e;subst e;exact Jm m v t fs cs lv lv' x ht hf ho hc
  ·repeat (split at h;· cases h)
   cases h
 yy:=by
  intro f h v t fs cs lv lv' n ht hf ho hc;rw[uM]at h;split at h
  ·rename_i e;subst e;exact IT m v t fs cs lv lv' n ht hf ho hc
  ·repeat (split at h;· cases h)
   cases h
 JA:=by
  intro f g h lv k off T cs r ho hok hk hc;rw[uM]at h;split at h
  ·cases h
  split at h
  ·rename_i e;subst e;cases h;exact HA m lv k off T cs r hok hk hc
  ·repeat (split at h;· cases h)
   cases h
 Ku:=by
  intro f g h lv k off T cs r ho hok hk hc;rw[uM]at h;split at h
  ·cases h
  split at h
  ·rename_i e;subst e;cases h;exact Li m lv k off T cs r hk hc
  ·repeat (split at h;· cases h)
   cases h
theorem DQ(m:Int)(n:Nat):lP prog (GG m) (V4 prog (GG m) Yn 117 n):=HK mixed (P4 m) n
end Go.Am
namespace Go.Am
open Go.Proofs
variable {ks:List Key}{x y X':AV}{lv lv':Key->LB}{v:Value}{P:Program}{G:List (List DV)}{f:FuncId}{us:List AV}
def eJ(lv:Key->LB):AV->Option (AV×List Key)
 |.tup l=>(jj lv l).map λp=>(.tup p.1,p.2)
 |x=>fu lv x
theorem Cx(h:eJ lv x=some (y,ks)):∀k∈ks,∃own fz T cs,lv k=.cells own fz T cs:=by
 cases x with
 |tup l=>
  simp only[eJ,ado]at h;obtain⟨⟨ys,ks'⟩,h1,h2⟩:=h;simp only[rP]at h2;obtain⟨rfl,rfl⟩:=h2;exact sP h1
 |c x=>exact wu (x:=.c x) h
 |agg x=>exact wu (x:=.agg x) h
 |undef=>cases h
 |junk=>cases h
theorem ML{V:Vw}(h:fu lv x=some (y,ks))(hv:V.av v y):V.l5 v y:=by
 cases x with
 |c x=>
  simp only[fu,ado]at h;obtain⟨p,_,h2⟩:=h;simp only[rP]at h2;obtain⟨rfl,rfl⟩:=h2;exact hv
 |agg cs=>
  simp only[fu,ado]at h;obtain⟨p,_,h2⟩:=h;simp only[rP]at h2;obtain⟨rfl,rfl⟩:=h2;exact hv
 |_=>cases h
theorem cY.eJ{c:Ctx}{F Fz:Nat->Prop}{β:Key->Nat}{s:az}{w:World}(h:cY c F β s.lv w)(hF:∀b,F b->Fz b){β':Key->Nat}(ht:Am.eJ s.lv x=some (y,ks))
 (hk:∀k∈ks,Fz (β k)) (hv:(Vw.mk F β s.lv w).av v x):(Vw.mk Fz β' lv' w).av v y:=by
 cases x with
 |tup l=>
  simp only[Am.eJ,ado]at ht;obtain⟨⟨ys,ks'⟩,h1,h2⟩:=ht;simp only[rP]at h2;obtain⟨rfl,rfl⟩:=h2;obtain⟨g1,g2⟩:=vY h1;obtain⟨arr,a1,a2,a3⟩:=hv;refine⟨arr,a1,by omega,λi p q=>?_⟩;obtain⟨k,h3,h4⟩:=g2 i p (by omega)
  have hx:(Vw.mk F β s.lv w).av arr[i] (l[i]'(by omega)):=by
   have:=a3 i (by omega) q;generalize l[i]'(by omega)=z at this h3
   cases z with
   |tup l=>cases h3
   |_=>exact this
  exact ML h3 (h.fu hF h3 (λk' hk'=>hk k' (h4 k' hk')) hx)
 |c x=>exact h.fu (x:=.c x) hF ht hk hv
 |agg cs=>exact h.fu (x:=.agg cs) hF ht hk hv
 |undef=>cases ht
 |junk=>cases ht
theorem aa.Ba{X:AV}(h:cu P G f us (λ_=>.hole) (.ret X lv'))(hd:eJ lv' X=some (X',ks)):aa P G f us X':=by
 intro F β w vs hS hl hv;have hlv:bu [] []=λ_=>LB.hole:=iY
 rw[hlv]at hS hv;refine(h F β w vs hS hl hv).mono λe w' he=>?_;obtain⟨v,F',β',rfl,hX,hav⟩:=he;have hFz:∀b,F' b->(F' b\/∃k∈ks,b=β' k):=λb hb=>.inl hb
 refine⟨v,λb=>F' b\/∃k∈ks,b=β' k,β',rfl,?_,?_⟩
 ·rw[hlv];refine⟨λk=>trivial,λk k' h=>(by cases h),λ_=>trivial,rfl,rfl,λb hb=>?_,λb hb=>.inl (hX.F0 b hb),λb hb hW=>hX.old b hb (by omega),hX.ge,λg cs hg=>Rd.mono (hO hFz (λ_ _=>rfl)) (hX.rO g cs hg),λk hk=>absurd rfl hk,hX.J5,hX.Gt⟩;rcases hb with hb|⟨k,hk,rfl⟩
  ·exact hX.nU b hb
  ·obtain⟨own,fz,T,cs',e⟩:=Cx hd k hk;have hlt:β' k<w'.heap.size:=aA.tT hX e
   cases fz with
   |false=>
    refine⟨hlt,?_⟩;rcases hX.fJ (k:=k) (by show(lv' k).live=true;rw[e];rfl)with h1|⟨j,hj,_⟩
    ·omega
    ·cases hj
   |true=>
    have hb:=hX.bU k;unfold Vw.bU at hb;simp only[e]at hb;obtain⟨arr,b1,b2,b3,b4,b5⟩:=hb;simp only[if_true]at b4;exact hX.nU _ b4
 ·exact cY.eJ (s:=⟨λ_=>.junk,lv'⟩) hX hFz hd (λk hk=>.inr ⟨k,hk,rfl⟩) hav
noncomputable def JE:Jt:=λx lv nx lg=>.done x lv nx []
noncomputable def Z1(r:dI):Option AV:=
 dI.rec (motive:=λ_=>Option AV) (λ_ _=>none) (λx lv _ _=>(eJ (aY lv) x).map (·.1)) (λ_ _ _ _=>none) r
theorem aa.F4{ev:eV}(hc:lP P G ev)(h:Z1 (ev f us .leaf 0 [] JE .vu)=some X'):aa P G f us X':=by
 have h0:dc (aY .leaf):=λk=>by simp[aY,Tb.eR,LB.okB]
 have e0:aY .leaf=λ_=>LB.hole:=by funext k;simp[aY,Tb.eR]
 generalize hr:ev f us .leaf 0 [] JE .vu=r at h
 cases r with
 |bad n o=>cases h
 |vu d lv nx lg=>cases h
 |done X LV nx lg=>
  rcases hc f us .leaf 0 [] JE .vu _ hr (λn o h=>by cases h) h0 with⟨x,lv',nx',l,q1,q2,_⟩|⟨d,lv',nx',l,q1,_⟩
  ·simp only[JE,dI.done.injEq]at q1;obtain⟨rfl,rfl,_,_⟩:=q1;rw[e0]at q2;have h1:(eJ (aY lv') x).map (·.1)=some X':=h;obtain⟨⟨y,ks⟩,h2,h3⟩:=Option.map_eq_some_iff.1 h1;simp only at h3;subst h3;exact aa.Ba q2 h2
  grind
end Go.Am
namespace Go.Am
variable {fn:Func}{x:AV}{P:Program}{G:List (List DV)}{f:FuncId}{code:Code}{args:List AV}
def cU(c:Ctx)(fn:Func)(x:AV):Ex->az->Nat->Prop
 |.normal,s,_|.ret,s,_=>eD c.P s fn.results.toList=some x
 |_,_,_=>False
def iR(c:Ctx)(fn:Func)(x:AV):Ex->az->Nat->Prop
 |.normal,s,_|.ret,s,_=>∃X ks,eD c.P s fn.results.toList=some X/\eJ s.lv X=some (x,ks)
 |_,_,_=>False
theorem aa.MX(hf:P.funcs[f]?=some fn)(hb:fn.body=some code)(hl:args.length<=fn.ntmps)
 (h:∀c:Ctx,c.P=P->c.G=G->c.n=fn.ntmps->c.jd=(λ_=>.hole)->AW c none code ⟨λt=>args.getD t .undef,λ_=>.hole⟩ 0 (iR c fn x)):aa P G f args x:=by
 intro F β w vs hS hvl hv;have hlv:bu [] []=λ_=>LB.hole:=iY
 rw[hlv]at hS hv;refine yK hf hb hl hS hvl hv (h _ rfl rfl rfl rfl) (λe s κ hq=>by cases e<;>first|exact .inl rfl|exact .inr rfl|exact hq.elim) λe s' κ F' β' a' w' hq hX0=>?_;obtain⟨X,ks,h0,hd⟩:∃X ks,eD P s' fn.results.toList=some X/\eJ s'.lv X=some (x,ks):=by cases e<;>first|exact hq|exact hq.elim
 obtain⟨v,h4,hav⟩:=uC hX0 h0;have hX:cY (de P G w F β (λ_=>.hole)) F' β' s'.lv w':=hX0.xN;have hFz:∀b,F' b->(F' b\/∃k∈ks,b=β' k):=λb hb=>.inl hb
 refine⟨hX0.defers,v,h4,v,λb=>F' b\/∃k∈ks,b=β' k,β',rfl,?_,?_⟩
 ·rw[hlv];refine⟨λk=>trivial,λk k' h=>(by cases h),λ_=>trivial,rfl,rfl,λb hb=>?_,λb hb=>.inl (hX.F0 b hb),λb hb hW=>hX.old b hb (by omega),hX.ge,λg cs hg=>Rd.mono (hO hFz (λ_ _=>rfl)) (hX.rO g cs hg),λk hk=>absurd rfl hk,hX.J5,hX.Gt⟩;rcases hb with hb|⟨k,hk,rfl⟩
  ·exact hX.nU b hb
  ·obtain⟨own,fz,T,cs',e⟩:=Cx hd k hk;have hlt:β' k<w'.heap.size:=aA.tT hX e
   cases fz with
   |false=>
    refine⟨hlt,?_⟩;rcases hX.fJ (k:=k) (by show(s'.lv k).live=true;rw[e];rfl)with h1|⟨j,hj,_⟩
    ·omega
    ·cases hj
   |true=>
    have hb:=hX.bU k;unfold Vw.bU at hb;simp only[e]at hb;obtain⟨arr,b1,b2,b3,b4,b5⟩:=hb;simp only[if_true]at b4;exact hX.nU _ b4
 ·rw[hlv];exact cY.eJ (s:=⟨λ_=>.junk,s'.lv⟩) hX hFz hd (λk hk=>.inr ⟨k,hk,rfl⟩) hav
theorem cU.d{c:Ctx}{e:Ex}{s:az}{κ:Nat}(hx:eJ s.lv x=some (x,[]))(h:cU c fn x e s κ):iR c fn x e s κ:=by
 cases e<;>first|exact⟨x,[],h,hx⟩|exact h.elim
theorem aa.Vq(hf:P.funcs[f]?=some fn)(hb:fn.body=some code)(hl:args.length<=fn.ntmps)
 (hx:∀lv,eJ lv x=some (x,[]))
 (h:∀c:Ctx,c.P=P->c.G=G->c.n=fn.ntmps->AW c none code ⟨λt=>args.getD t .undef,λ_=>.hole⟩ 0 (cU c fn x)):aa P G f args x:=
 aa.MX hf hb hl λc h1 h2 h3 _=>(h c h1 h2 h3).mono λe s κ hq=>cU.d (hx _) hq
theorem aa.enc(hf:P.funcs[f]?=some fn)(hb:fn.body=some code)(hx:∀lv,eJ lv x=some (x,[]))
 (h:∀z:Ev,AW ⟨P,G,z.w,z.F,z.W,fn.ntmps,z.q,z.b⟩ none code ⟨λt=>args.getD t .undef,λ_=>.hole⟩ 0 (cU ⟨P,G,z.w,z.F,z.W,fn.ntmps,z.q,z.b⟩ fn x)) (hl:Nat.ble args.length fn.ntmps=true:=by kernel_rfl):aa P G f args x:=
 aa.Vq hf hb (adE hl) hx λ⟨_,_,w,F,W,_,q,b⟩ h1 h2 h3=>by cases h1;cases h2;cases h3;exact h ⟨w,F,W,q,b⟩
end Go.Am
namespace Go.Am
open Go.Am.Ty Go.Proofs N
variable {c:Ctx}{fn:Func}{x:AV}{t k off κ:Nat}{T U:TypeId}{own fz:Bool}{cs:List CV}{s:az}
def nC:Option (List Nat)->CV
 |none=>.d .nilsl
 |some l=>.d (.sl (dK .u32 l))
theorem mN(o:Option (List Nat)):nK .u32 o=.c (nC o):=by cases o<;>rfl
@[simp]theorem gH(lv:Key->LB)(b:Bool)(p q:Option (List Nat)):eJ lv (.agg [.d (.bool b),nC p,nC q])=some (.agg [.d (.bool b),nC p,nC q],[]):=by
 cases p<;>cases q<;>rfl
@[simp]theorem ZX(o:Option (List Nat)):(nC o).pure=true:=by cases o<;>rfl
@[simp]theorem W7(o:Option (List Nat)):(AV.c (nC o)).bF=true:=by cases o<;>rfl
@[simp]theorem XE(o:Option (List Nat)):(AV.c (nC o)).pure=true:=by cases o<;>rfl
theorem cU.cell(hr:fn.results=#[.cell t T])(ht:s.fr t=.c (.ptr k off))(hk:s.lv k=.cells own fz U cs)
 (hx:fq c.P T (cs.drop off)=some x):cU c fn x .ret s κ:=by
 show eD c.P s fn.results.toList=some x;rw[hr];simp[eD,l8,pE,ht,hk,hx]
theorem cU.wY{y:AV}{u:Nat}(hr:fn.results=#[.cell t T,.tmp u])(ht:s.fr t=.c (.ptr k off))(hk:s.lv k=.cells own fz U cs)
 (hx:fq c.P T (cs.drop off)=some x) (hy:s.fr u=y) (hn:x.cD=true) (hm:y.cD=true):cU c fn (.tup [x,y]) .ret s κ:=by
 show eD c.P s fn.results.toList=some _;rw[hr];simp[eD,l8,pE,ht,hk,hx,hy,hn,hm]
attribute [local irreducible] cU
theorem KH:eO prog 177 [] []=some (.agg [.d (.bool false),.d .nilsl,.d .nilsl],[],[],True):=by kernel_rfl
theorem IC(b p q:CV):eO prog 177 [0,1,2] [.c b,.c p,.c q]=some (.agg [b,p,q],[],[],True):=by kernel_rfl
theorem oL(b p q:CV):fq prog 177 [b,p,q]=some (.agg [b,p,q]):=by kernel_rfl
abbrev rZ(neg:Bool)(p q:Option (List Nat)):AV:=.agg [.d (.bool neg),nC p,nC q]
def gO(p q:Option (List Nat)):Option (List Nat):=jK p q (val 4294967296 (dO q))
def mP(p q:Option (List Nat)):Option (List Nat):=if val 4294967296 (dO q)=1 then p else if val 4294967296 (dO (gO p q))=1 then p else xO p (gO p q)
def Tk(p q:Option (List Nat)):Option (List Nat):=if val 4294967296 (dO q)=1 then q else if val 4294967296 (dO (gO p q))=1 then q else xO q (gO p q)
def mQ(p q:Option (List Nat)):Option (List Nat):=if val 4294967296 (dO (Tk p q))=1 then none else Tk p q
def kO(neg:Bool)(p q:Option (List Nat)):AV:=if dO p=[]then rZ false none none else rZ neg (mP p q) (mQ p q)
theorem HY(lv:Key->LB)(neg:Bool)(p q:Option (List Nat)):eJ lv (kO neg p q)=some (kO neg p q,[]):=by
 unfold kO;split<;>exact gH ..
theorem so(G:List (List DV))(neg:Bool)(p q:Option (List Nat))(hp:can 4294967296 (dO p))(hq:can 4294967296 (dO q))(hq0:dO q≠[])(hl:(dO p).length<1000000000000)(hl':(dO q).length<1000000000000):
 aa prog G 174 [.c (.d (.bool neg)),nK .u32 p,nK .u32 q] (kO neg p q):=by
 have hgd:=Ab hp hq;have hgc:can 4294967296 (dO (gO p q)):=by unfold gO;rw[hgd];exact bx (by decide) _
 have hqv:0<val 4294967296 (dO q):=iP hq hq0
 have hg0:dO (gO p q)≠[]:=by
  unfold gO;rw[hgd];intro h;have:=(eH (by decide)).1 h;have:=Nat.gcd_pos_of_pos_right (val 4294967296 (dO p)) hqv;omega
 refine aa.enc func174 rfl (λlv=>HY lv _ _ _) λ_=>aar ?_;refine aae λK hK=>aar ?_
 by_cases hpe:dO p=[]
 ·refine abz (by simp_all) (acf KH ?_);refine acm ?_;refine cU.cell (T:=177) (t:=6) (k:=0) (off:=0) (own:=true) (fz:=false) (U:=177) (cs:=[.d (.bool false),.d .nilsl,.d .nilsl]) rfl ?_ ?_ ?_
  ·simp
  ·rfl
  ·rw[adJ,oL];simp[kO,hpe,nC]
 refine abD (by simp_all) (aaE (hK _ _ (aae λK hK=>?_)))
 have rest:∀(fr:Nat->AV) (κ:Nat) (p' q':Option (List Nat)),fr 0=.c (.d (.bool neg))->fr 1=nK .u32 p'->fr 2=nK .u32 q'->fr 6=.c (.ptr 0 0)->can 4294967296 (dO q')->mP p q=p'->Tk p q=q' ->
  K ⟨fr,au (λ_=>.hole) 0 (.cells true false 177 [.d (.bool false),.d .nilsl,.d .nilsl])⟩ κ:=by
  intro fr κ p' q' z0 z1 z2 z6 hc e1 e2;apply hK;refine aae λK1 hK1=>abU λK2 hK2=>?_;simp[z2];refine ag.pure κ 9 (kX _ _ hc) rfl (by simp) (by simp) ?_;simp;apply hK2
  by_cases h1:val 4294967296 (dO q')=1
  ·refine abz (by simp_all) (adg (hK1 _ _ ?_));refine AW.f5 z0 z1 z6 @mN @IC ?_;refine acm ?_;refine cU.cell (T:=177) (t:=6) (k:=0) (off:=0) (own:=true) (fz:=false) (U:=177) (cs:=[.d (.bool neg),nC p',.d .nilsl]) rfl ?_ ?_ ?_
   ·simp[z6]
   ·rfl
   ·rw[adJ,oL];simp[kO,hpe,e1,mQ,e2,h1,nC]
  ·refine abD (by simp_all) (aaE (hK1 _ _ (AW.f6 z0 z1 z2 z6 @mN @IC ?_)));refine acm ?_;refine cU.cell (T:=177) (t:=6) (k:=0) (off:=0) (own:=true) (fz:=false) (U:=177) (cs:=[.d (.bool neg),nC p',nC q']) rfl ?_ ?_ ?_
   ·simp[z6]
   ·rfl
   ·rw[adJ,oL];simp[kO,hpe,e1,mQ,e2,h1]
 refine abU λK1 hK1=>?_;simp;refine ag.pure 1 9 (kX _ _ hq) rfl (by simp) (by simp) ?_;simp;apply hK1
 by_cases h1:val 4294967296 (dO q)=1
 ·refine abD (by simp_all) (aaE ?_);simp;exact rest _ _ p q (by simp) (by simp) (by simp) (by simp) hq (by simp[mP,h1]) (by simp[Tk,h1])
 refine abz (by simp_all) (abU λK1 hK1=>?_);simp;refine ag.pure 1 9 (u9 _ _ _ hp hq hl hl') (by simp) (by simp) (by simp) ?_;simp;apply hK1;refine abU λK1 hK1=>?_;simp;refine ag.pure 1 9 (kX _ (jK p q (val 4294967296 (dO q))) hgc) rfl (by simp) (by simp) ?_;simp;apply hK1
 by_cases h2:val 4294967296 (dO (gO p q))=1
 ·have h2':val 4294967296 (dO (jK p q (val 4294967296 (dO q))))=1:=h2;refine abD (by simp_all) (aaE ?_);simp;exact rest _ _ p q (by simp) (by simp) (by simp) (by simp) hq (by simp[mP,h2]) (by simp[Tk,h2])
 have h2':¬val 4294967296 (dO (jK p q (val 4294967296 (dO q))))=1:=h2;refine abz (by simp_all) (abU λK1 hK1=>?_);simp;refine ag.pure 1 9 (oJ _ _ (jK p q (val 4294967296 (dO q))) hp hgc hg0 hl) (wE _ _) (by simp) (by simp) ?_;simp;apply hK1;refine aaJ ?_;simp;refine ag.pure 1 9 (oJ _ _ (jK p q (val 4294967296 (dO q))) hq hgc hg0 hl') (wE _ _) (by simp) (by simp) ?_;simp;exact rest _ _ (xO p (gO p q)) (xO q (gO p q)) (by simp) (by simp;rfl) (by simp;rfl) (by simp) (by rw[Vm];exact bx (by decide) _) (by simp[mP,h1,h2]) (by simp[Tk,h1,h2])
end Go.Am
namespace Go.Am
open Go.Am.Ty Go.Proofs N
variable {x y:Rat}{a L n b m:Nat}{q p:Option (List Nat)}{k:Int}{neg neg':Bool}
theorem S1(q:Option (List Nat)):aK prog .eql 175 (.c (nC q)) (.c (.d .nilsl))=some (.c (.d (.bool q.isNone)),[],[],True):=by
 cases q with
 |none=>kernel_rfl
 |some l=>rfl
theorem lpC(lv:Key->LB)(o:Option (List Nat)):dm prog 175 lv (.c (nC o))=some (.c (.d (.int .i64 (dO o).length)),[],[],True):=by
 rw[<-mN];simp
@[simp]theorem W9(neg:Bool)(p q:Option (List Nat)):(AV.agg [.d (.bool neg),nC p,nC q]).pure=true:=by cases p<;>cases q<;>rfl
def vA(neg:Bool)(p:Option (List Nat)):Int:=if dO p=[]then 0 else if neg then -1 else 1
def fT:Option (List Nat)->Option (List Nat)
 |none=>some (aI 4294967296 1)
 |some l=>some l
theorem mz(G:List (List DV))(neg:Bool)(p q:Option (List Nat)):aa prog G 158 [rZ neg p q] (.c (.d (.int .i64 (vA neg p)))):=by
 refine aa.en func158 rfl λ_=>aar ?_;refine aae λK hK=>abd (acf @lpC ?_)
 by_cases hp:dO p=[]
 ·refine abz (by simp_all) (aar ?_);exact aaV (aq.rt rfl 2 (by simp[vA,hp]))
 ·refine abD (by simp_all) (aar ?_)
  cases neg with
  |true=>
   refine abA (aar ?_);exact aaV (aq.rt rfl 2 (by simp[vA,hp]))
  |false=>
   refine abg (aaE (hK _ _ (aar ?_)));exact aaV (aq.rt rfl 2 (by simp[vA,hp]))
theorem dZ(G:List (List DV))(neg:Bool)(p q:Option (List Nat)):aa prog G 166 [rZ neg p q] (.c (nC (fT q))):=by
 have hof:=gR G 1 (by decide);simp only[mN]at hof;refine aa.en func166 rfl λ_=>aar ?_;refine aae λK hK=>abU λK1 hK1=>?_;simp[S1];apply hK1
 cases q with
 |none=>
  refine abA (abU λK1 hK1=>?_);simp;refine ag.pure 1 9 hof (by simp) (by simp) (by simp) ?_;simp;apply hK1;exact aaV (aq.rt rfl 2 (by simp[fT]))
 |some l=>
  refine abg (aaE (hK _ _ (aar ?_)));exact aaV (aq.rt rfl 2 (by simp[fT]))
theorem D8(G:List (List DV))(neg:Bool)(p q:Option (List Nat)):aa prog G 162 [rZ neg p q] (.c (.d (.bool q.isNone))):=by
 refine aa.en func162 rfl λ_=>aar ?_;refine abU λK hK=>?_;simp[S1];apply hK;exact aaV (aq.rt rfl 2 (by simp))
theorem Io(G:List (List DV))(neg:Bool)(p q:Option (List Nat)):aa prog G 163 [rZ neg p q] (rZ false p q):=by
 refine aa.enc func163 rfl (λlv=>gH lv _ _ _) λ_=>aar ?_;refine acf @IC ?_;refine acm ?_;rfl
def Ua(neg:Bool)(p q:Option (List Nat))(neg':Bool)(p' q':Option (List Nat)):Int:=
 if vA neg p=vA neg' p' then vA neg p*eA (val 4294967296 (dO p)*val 4294967296 (dO (fT q'))) (val 4294967296 (dO p')*val 4294967296 (dO (fT q)))
 else if vA neg p<vA neg' p' then -1 else 1
theorem ET(a b:Nat):-1<=eA a b/\eA a b<=1:=by unfold eA;omega
theorem Vx(neg:Bool)(p:Option (List Nat))(a b:Nat):i64.wrap (vA neg p*eA a b)=vA neg p*eA a b:=by
 have h1:=ET a b;have h2:vA neg p=0\/vA neg p=1\/vA neg p = -1:=by unfold vA;split<;>(try split)<;>simp
 rcases h2 with h|h|h<;>rw[h]<;>exact bE (by omega) (by omega)
theorem tK(h:(dO q).length<=n)(hn:1<=n):(dO (fT q)).length<=n:=by
 cases q with
 |none=>exact ab8 (c8 (m:=1) (by decide) (by decide)) hn
 |some l=>exact h
theorem IM(G:List (List DV))(neg neg':Bool)(p q p' q':Option (List Nat))(h1:(dO p).length<=100000000000)(h2:(dO q).length<=100000000000)(h3:(dO p').length<=100000000000)(h4:(dO q').length<=100000000000):
 aa prog G 118 [rZ neg p q,rZ neg' p' q'] (.c (.d (.int .i64 (Ua neg p q neg' p' q')))):=by
 have b1:=tK h2 (by decide);have b2:=tK h4 (by decide);have m1:=iz G p (fT q') (by omega) (by omega);have m2:=iz G p' (fT q) (by omega) (by omega);have m3:=iq (G:=G) (a:=some (aI 4294967296 (val 4294967296 (dO p)*val 4294967296 (dO (fT q'))))) (b:=some (aI 4294967296 (val 4294967296 (dO p')*val 4294967296 (dO (fT q))))) (bx (by decide) _) (bx (by decide) _);simp only[bf,bq (by decide:2<=4294967296)]at m3;simp only[mN]at m1 m2 m3;refine aa.en func118 rfl λ_=>aar ?_;refine aae λK hK=>?_;refine acs mixed (by kernel_rfl) rfl ?_;simp;refine ag.pure 2 9 (mz _ neg p q) (by simp) (by simp) rfl ?_;simp;refine ag.pure 2 9 (mz _ neg' p' q') (by simp) (by simp) rfl ?_;simp;refine⟨by kernel_rfl,?_⟩;apply hK;refine aae λK hK=>aar ?_
 by_cases hs:vA neg p=vA neg' p'
 ·refine abD (by simp_all) (aaE (hK _ _ (aae λK hK=>?_)));refine acs mixed (by kernel_rfl) rfl ?_;simp[hs];refine ag.pure 2 9 (dZ _ neg' p' q') (by simp) (by simp) rfl ?_;simp;refine ag.pure 2 9 m1 (by simp) (by simp) rfl ?_;simp;refine ag.pure 2 9 (dZ _ neg p q) (by simp) (by simp) rfl ?_;simp;refine ag.pure 2 9 m2 (by simp) (by simp) rfl ?_;simp;refine ag.pure 2 9 m3 (by simp) (by simp) rfl ?_;simp[Vx];refine⟨by kernel_rfl,?_⟩;apply hK;exact aaV (aq.rt rfl 4 (by simp[Ua,hs]))
 ·refine abz (by simp_all) (aae λK1 hK1=>aar ?_)
  by_cases hlt:vA neg p<vA neg' p'
  ·refine abz (by simp_all) (aar ?_);exact aaV (aq.rt rfl 4 (by simp[Ua,hs,hlt]))
  ·refine abD (by simp_all) (aaE (hK1 _ _ (aar ?_)));exact aaV (aq.rt rfl 4 (by simp[Ua,hs,hlt]))
def fB(n:Nat):Option (List Nat):=if n=0 then none else some (aI 4294967296 n)
def iV(n:Nat):Option (List Nat):=if n=1 then none else some (aI 4294967296 n)
abbrev gL(x:Rat):AV:=rZ (decide (x.num<0)) (fB x.num.natAbs) (iV x.den)
def eY(neg:Bool)(a:Nat):Int:=if neg then -(a:Int)else a
theorem mU(n:Nat):dO (fB n)=(aI 4294967296 n):=by
 unfold fB;split
 ·simp_all
 ·rfl
theorem DH(n:Nat):fT (iV n)=some (aI 4294967296 n):=by
 unfold iV;split
 ·rename_i h;subst h;rfl
 ·rfl
theorem eS(n:Nat):val 4294967296 (aI 4294967296 n)=n:=bq (by decide) n
theorem iu(n:Nat):can 4294967296 (aI 4294967296 n):=bx (by decide) n
theorem pR(n:Nat):(val 4294967296 (dO (fB n)))=n:=by rw[mU,eS]
theorem vF(n:Nat):(val 4294967296 (dO (fT (iV n))))=n:=by rw[DH,bf,eS]
theorem qg(n:Nat):can 4294967296 (dO (fB n)):=by rw[mU];exact iu n
theorem FG(n:Nat):can 4294967296 (dO (fT (iV n))):=by rw[DH];exact iu n
theorem m6(h:n≠0):(aI 4294967296 n)≠[]:=λe=>h ((eH (by decide)).1 e)
theorem AT{o:Option (List Nat)}(hc:can 4294967296 (dO o))(h:dO o≠[]):o=some (aI 4294967296 (val 4294967296 (dO o))):=by
 cases o with
 |none=>simp_all
 |some l=>exact congrArg some (iE (by decide) hc rfl)
theorem jA(neg:Bool)(hb:b≠0):(mkRat (eY neg a) b).num=eY neg (a/Nat.gcd a b)/\(mkRat (eY neg a) b).den=b/Nat.gcd a b:=by
 have h1:(eY neg a).natAbs=a:=by unfold eY;split<;>omega
 rw[Rat.num_mkRat,Rat.den_mkRat,if_neg hb,if_neg hb,h1,aeX b a];refine⟨?_,rfl⟩
 cases neg with
 |false=>rfl
 |true=>
  show -(a:Int)/((Nat.gcd a b:Nat):Int) = -((a/Nat.gcd a b:Nat):Int)
  rw[Int.neg_ediv_of_dvd (Int.ofNat_dvd.2 (afv a b))];rfl
theorem uv(neg:Bool)(a:Nat):(eY neg a).natAbs=a:=by unfold eY;omega
theorem J2(neg:Bool)(h:a≠0):decide (eY neg a<0)=neg:=by
 cases neg<;>simp[eY]<;>omega
theorem Yy(hp:can 4294967296 (dO p))(hq:can 4294967296 (dO q))(h0:dO p≠[]):mP p q=fB ((val 4294967296 (dO p))/Nat.gcd (val 4294967296 (dO p)) (val 4294967296 (dO q))):=by
 have ha:0<(val 4294967296 (dO p)):=iP hp h0;have ep:=AT hp h0;have hgv:(val 4294967296 (dO (gO p q)))=Nat.gcd (val 4294967296 (dO p)) (val 4294967296 (dO q)):=by unfold gO;rw[Ab hp hq,eS]
 have hgp:0<Nat.gcd (val 4294967296 (dO p)) (val 4294967296 (dO q)):=afe _ ha;have hle:Nat.gcd (val 4294967296 (dO p)) (val 4294967296 (dO q))<=(val 4294967296 (dO p)):=Nat.le_of_dvd ha (afv _ _);have hag:(val 4294967296 (dO p))/Nat.gcd (val 4294967296 (dO p)) (val 4294967296 (dO q))≠0:=aeh (Nat.div_pos hle hgp);unfold fB;rw[if_neg hag];unfold mP;split
 ·rename_i h;rw[h,aff,aev];exact ep
 ·split
  ·grind
  ·unfold xO;grind
theorem X5(hp:can 4294967296 (dO p))(hq:can 4294967296 (dO q))(h0:dO q≠[]):mQ p q=iV ((val 4294967296 (dO q))/Nat.gcd (val 4294967296 (dO p)) (val 4294967296 (dO q))):=by
 have hb:0<(val 4294967296 (dO q)):=iP hq h0;have eq:=AT hq h0;have hgv:(val 4294967296 (dO (gO p q)))=Nat.gcd (val 4294967296 (dO p)) (val 4294967296 (dO q)):=by unfold gO;rw[Ab hp hq,eS]
 have hle:Nat.gcd (val 4294967296 (dO p)) (val 4294967296 (dO q))<=(val 4294967296 (dO q)):=Nat.le_of_dvd hb (Nat.gcd_dvd_right _ _)
 have e:Tk p q=some (aI 4294967296 ((val 4294967296 (dO q))/Nat.gcd (val 4294967296 (dO p)) (val 4294967296 (dO q)))):=by
  unfold Tk;split
  ·rename_i h;rw[h,aff,aev,<-h];exact eq
  ·split
   ·grind
   ·unfold xO;grind
 unfold mQ iV;rw[e,bf,eS]
theorem CN(neg:Bool)(hp:can 4294967296 (dO p))(hq:can 4294967296 (dO q))(hq0:dO q≠[]):kO neg p q=gL (mkRat (eY neg (val 4294967296 (dO p))) (val 4294967296 (dO q))):=by
 have hb:(val 4294967296 (dO q))≠0:=aeh (iP hq hq0);unfold kO
 by_cases h0:dO p=[]
 ·have e:eY neg (val 4294967296 (dO p))=0:=by rw[h0,vt];cases neg<;>rfl
  rw[if_pos h0,e,Rat.zero_mkRat];rfl
 ·have ha:0<(val 4294967296 (dO p)):=iP hp h0;have hgp:0<Nat.gcd (val 4294967296 (dO p)) (val 4294967296 (dO q)):=afe _ ha;have hle:Nat.gcd (val 4294967296 (dO p)) (val 4294967296 (dO q))<=(val 4294967296 (dO p)):=Nat.le_of_dvd ha (afv _ _);have hag:(val 4294967296 (dO p))/Nat.gcd (val 4294967296 (dO p)) (val 4294967296 (dO q))≠0:=aeh (Nat.div_pos hle hgp);obtain⟨n1,n2⟩:=jA neg (a:=(val 4294967296 (dO p))) hb;rw[if_neg h0,Yy hp hq h0,X5 hp hq hq0];show rZ neg _ _=rZ (decide (_<0)) (fB _) (iV _);rw[n1,n2,uv,J2 neg hag]
theorem wN(x:Rat):eY (decide (x.num<0)) x.num.natAbs=x.num:=by
 unfold eY
 grind
def nl(n:Nat):Nat:=(aI 4294967296 n).length
theorem GS(h:n<4294967296^m):nl n<=m:=c8 (by decide) h
theorem AI(n:Nat):n<4294967296^nl n:=sH (by decide)
theorem mu(h:m<=n):nl m<=nl n:=dB (by decide) h
theorem gT(a b:Nat):nl (a*b)<=nl a+nl b:=by
 refine GS ?_;rw[ad7];exact Nat.mul_lt_mul'' (AI a) (AI b)
theorem HH(a b:Nat):nl (a+b)<=max (nl a) (nl b)+1:=by
 refine GS ?_;have h1:a<4294967296^max (nl a) (nl b):=adD (AI a) (adS (by decide) (by omega));have h2:b<4294967296^max (nl a) (nl b):=adD (AI b) (adS (by decide) (by omega));omega
theorem S3(m:Nat):(2:Nat)^(32*m)=4294967296^m:=by rw[aef]
theorem qx(k:Nat):nl (2^k)<=k/32+1:=by
 refine GS ?_;rw[<-S3];exact Nat.pow_lt_pow_right (by decide) (by omega)
theorem s7:nl 1=1:=by rfl
theorem Ux(h:a<10^L):nl a<=(L+8)/9:=by
 refine GS (adD h ?_);have h1:(10:Nat)^L<=10^(9*((L+8)/9)):=adS (by decide) (by omega);rw[aef]at h1;exact ab8 h1 (aeY (by decide) _)
theorem yt(h:n≠0):bt n<=32*nl n:=by
 have h1:=AI n;rw[<-S3]at h1;have h2:=kU h;have h3:bt n-1<32*nl n:=(afG (by decide)).1 (aee h2 h1);omega
def kF(x:Rat)(L:Nat):Prop:=nl x.num.natAbs<=L/\nl x.den<=L
theorem ct{M:Nat}(h:kF x L)(hm:L<=M):kF x M:=⟨ab8 h.1 hm,ab8 h.2 hm⟩
theorem pX(neg:Bool)(hb:b≠0)(h1:nl a<=L)(h2:nl b<=L):kF (mkRat (eY neg a) b) L:=by
 obtain⟨n1,n2⟩:=jA neg (a:=a) hb;unfold kF;rw[n1,n2,uv];exact⟨ab8 (mu (afd _ _)) h1,ab8 (mu (afd _ _)) h2⟩
theorem yz(h:kF x L):kF (-x) L:=by
 unfold kF at*;simp_all
def aO(x:Rat)(k:Int):Rat:=if k<0 then mkRat x.num (x.den*2^(-k).toNat)else mkRat (x.num*2^k.toNat) x.den
theorem sX(x:Rat)(k:Nat):x.den*2^k≠0:=aeh (ad4 x.den_pos (adA (by decide)))
theorem iU(h:k<0):aO x k=mkRat (eY (decide (x.num<0)) x.num.natAbs) (x.den*2^(-k).toNat):=by rw[wN];unfold aO;grind
theorem ug(neg:Bool)(a b:Nat):eY neg a*(b:Int)=eY neg (a*b):=by
 unfold eY;grind
theorem iS(h:¬k<0):aO x k=mkRat (eY (decide (x.num<0)) (x.num.natAbs*2^k.toNat)) x.den:=by
 unfold aO;rw[if_neg h,<-ug,wN];congr 2
theorem jM(h:kF x L)(k:Int):kF (aO x k) (L+k.natAbs/32+1):=by
 by_cases hk:k<0
 ·rw[iU hk];refine pX _ (sX _ _) (by have:=h.1;omega) ?_;have h1:=gT x.den (2^(-k).toNat);have h2:=qx (-k).toNat;have h3:(-k).toNat=k.natAbs:=by omega
  have:=h.2;omega
 ·rw[iS hk];refine pX _ x.den_nz ?_ (by have:=h.2;omega);have h1:=gT x.num.natAbs (2^k.toNat);have h2:=qx k.toNat;have h3:k.toNat=k.natAbs:=by omega
  have:=h.1;omega
theorem Jd(x y:Rat):x+y=mkRat (eY (decide (x.num<0)) (x.num.natAbs*y.den)+eY (decide (y.num<0)) (y.num.natAbs*x.den)) (x.den*y.den):=by
 rw[Rat.add_def',<-ug,<-ug,wN,wN]
theorem DM(neg:Bool)(a b:Nat):eY neg a+eY neg b=eY neg (a+b):=by unfold eY;grind
theorem H6(h:neg≠neg')(hab:a<b):eY neg a+eY neg' b=eY neg' (b-a):=by
 unfold eY;grind
theorem Hx(h:neg≠neg')(hab:¬a<b):eY neg a+eY neg' b=eY neg (a-b):=by
 unfold eY;grind
theorem R6(hx:kF x L)(hy:kF y L):kF (x+y) (2*L+1):=by
 have hd:x.den*y.den≠0:=aeh (ad4 x.den_pos y.den_pos);have e1:=gT x.num.natAbs y.den;have e2:=gT y.num.natAbs x.den;have e3:=gT x.den y.den;obtain⟨a1,a2⟩:=hx;obtain⟨b1,b2⟩:=hy;rw[Jd]
 by_cases h:decide (x.num<0)=decide (y.num<0)
 ·rw[h,DM];refine pX _ hd ?_ (by omega);have:=HH (x.num.natAbs*y.den) (y.num.natAbs*x.den);omega
 ·by_cases hab:x.num.natAbs*y.den<y.num.natAbs*x.den
  ·rw[H6 h hab];refine pX _ hd ?_ (by omega);have:=mu (Nat.sub_le (y.num.natAbs*x.den) (x.num.natAbs*y.den));omega
  ·rw[Hx h hab];refine pX _ hd ?_ (by omega);have:=mu (Nat.sub_le (x.num.natAbs*y.den) (y.num.natAbs*x.den));omega
def jc(x y:Rat):Int:=if x<y then -1 else if y<x then 1 else 0
theorem TX(a b:Bool):aK prog .eql 4 (.c (.d (.bool a))) (.c (.d (.bool b)))=some (.c (.d (.bool (a==b))),[],[],True):=by
 rfl
theorem AS(G:List (List DV))(neg:Bool)(p q:Option (List Nat))(hp:can 4294967296 (dO p))(hq:can 4294967296 (dO q))(hq0:dO q≠[])(hl:(dO p).length<1000000000000)(hl':(dO q).length<1000000000000):
 aa prog G 174 [.c (.d (.bool neg)),.c (nC p),.c (nC q)] (gL (mkRat (eY neg (val 4294967296 (dO p))) (val 4294967296 (dO q)))):=by
 have:=so G neg p q hp hq hq0 hl hl';rw[CN neg hp hq hq0]at this;simp only[mN]at this;omega
theorem Ch(G:List (List DV))(neg:Bool)(a b:Nat)(hb:b≠0)(hl:nl a<1000000000000)(hl':nl b<1000000000000):
 aa prog G 174 [.c (.d (.bool neg)),.c (nC (some (aI 4294967296 a))),.c (nC (some (aI 4294967296 b)))] (gL (mkRat (eY neg a) b)):=by
 have:=AS G neg (some (aI 4294967296 a)) (some (aI 4294967296 b)) (iu a) (iu b) (m6 hb) hl hl';simp only[bf,eS]at this;omega
theorem IB(G:List (List DV))(neg:Bool)(p q:Option (List Nat)):aa prog G 116 [rZ neg p q] (rZ (!neg&&decide (dO p≠[])) p q):=by
 cases neg with
 |true=>
  show aa prog G 116 [rZ true p q] (rZ false p q);refine aa.enc func116 rfl (λlv=>gH lv _ _ _) λ_=>aar ?_;refine acf @IC ?_;refine acm ?_;rfl
 |false=>
  by_cases hp:dO p=[]
  ·rw[show(!false&&decide (dO p≠[]))=false by simp[hp]];refine aa.enc func116 rfl (λlv=>gH lv _ _ _) λ_=>aar ?_;refine adb @IC @lpC hp ?_;refine acm ?_;rfl
  ·rw[show(!false&&decide (dO p≠[]))=true by simp[hp]];refine aa.enc func116 rfl (λlv=>gH lv _ _ _) λ_=>aar ?_;refine aae λK hK=>?_;have hp':=List.length_pos_iff.2 hp;refine acY @IC @lpC hp hp' (hK _ _ ?_);refine acm ?_;rfl
theorem QS(G:List (List DV))(x:Rat):aa prog G 116 [gL x] (gL (-x)):=by
 have h:=IB G (decide (x.num<0)) (fB x.num.natAbs) (iV x.den)
 have e:(!decide (x.num<0)&&decide (dO (fB x.num.natAbs)≠[]))=decide ((-x).num<0):=by
  rw[Rat.neg_num,mU]
  by_cases h0:x.num=0
  ·simp_all
  ·have h1:(aI 4294967296 x.num.natAbs)≠[]:=m6 (by omega)
   grind
 rw[e]at h;show aa _ _ _ _ (rZ (decide ((-x).num<0)) (fB (-x).num.natAbs) (iV (-x).den));rw[show(-x).num.natAbs=x.num.natAbs by simp,Rat.neg_den];exact h
theorem KW(neg:Bool)(a:Nat):mkRat (eY neg a) 1=((eY neg a:Int):Rat):=by
 rw[Rat.mkRat_one]
theorem JG(G:List (List DV))(n:Int)(h1:-9223372036854775808<=n)(h2:n<=9223372036854775807):aa prog G 154 [.c (.d (.int .i64 n))] (gL (n:Rat)):=by
 have hof1:=gR G 1 (by decide);have hofn:=gR G n.natAbs (by omega)
 have hl:nl n.natAbs<1000000000000:=by
  have e2:(4294967296:Nat)^2=18446744073709551616:=by decide
  have:=GS (n:=n.natAbs) (m:=2) (by omega);omega
 have hm:=λneg=>Ch G neg n.natAbs 1 (by decide) hl (by rw[s7];decide)
 simp only[mN]at hof1 hofn;simp only[KW]at hm
 by_cases hn:n<0
 ·have e:eY true n.natAbs=n:=by unfold eY;rw[if_pos rfl];omega
  have KG:=hm true;rw[e]at KG;have ew:u64.wrap (-u64.wrap n)=(n.natAbs:Int):=by rw[BT,BT];omega
  refine aa.enc func154 rfl (λlv=>gH lv _ _ _) λ_=>aar ?_;refine aae λK hK=>acf hn ?_;refine abz (by rfl) (abU λK1 hK1=>?_);simp[ew];refine ag.p 1 9 hofn ?_;simp;refine ag.p 1 9 hof1 ?_;simp;refine ag.p 1 9 KG ?_;simp;apply hK1;refine acm ?_;rfl
 ·have e:eY false n.natAbs=n:=by unfold eY;rw[if_neg (by decide)];omega
  have KG:=hm false;rw[e]at KG;have ew:u64.wrap n=(n.natAbs:Int):=by rw[BT];omega
  refine aa.enc func154 rfl (λlv=>gH lv _ _ _) λ_=>aar ?_;refine aae λK hK=>acf hn ?_;refine abD (by rfl) (aaE (hK _ _ (abU λK hK=>?_)));simp[ew];refine ag.p 1 9 hofn ?_;simp;refine ag.p 1 9 hof1 ?_;simp;refine ag.p 1 9 KG ?_;simp;apply hK;refine acm ?_;rfl
def C0(neg:Bool)(a:Nat)(neg':Bool)(b q:Nat):Rat:=
 if neg=neg' then mkRat (eY neg (a+b)) q else if a<b then mkRat (eY neg' (b-a)) q else mkRat (eY neg (a-b)) q
theorem uG:(eA a b<0)↔a<b:=by unfold eA;omega
theorem Ib(G:List (List DV))(neg neg':Bool)(p q p' q':Option (List Nat))(h1:(dO p).length<=10000000000)(h2:(dO q).length<=10000000000)(h3:(dO p').length<=10000000000)(h4:(dO q').length<=10000000000)
 (c1:can 4294967296 (dO p)) (c2:can 4294967296 (dO (fT q))) (c3:can 4294967296 (dO p')) (c4:can 4294967296 (dO (fT q'))) (z2:(val 4294967296 (dO (fT q)))≠0) (z4:(val 4294967296 (dO (fT q')))≠0) :
 aa prog G 251 [rZ neg p q,rZ neg' p' q'] (gL (C0 neg ((val 4294967296 (dO p))*(val 4294967296 (dO (fT q')))) neg' ((val 4294967296 (dO p'))*(val 4294967296 (dO (fT q)))) ((val 4294967296 (dO (fT q)))*(val 4294967296 (dO (fT q')))))):=by
 have b1:=tK h2 (by decide);have b2:=tK h4 (by decide);have m1:=iz G p (fT q') (by omega) (by omega);have m2:=iz G p' (fT q) (by omega) (by omega);have m3:=iz G (fT q) (fT q') (by omega) (by omega);have hQ:(val 4294967296 (dO (fT q)))*(val 4294967296 (dO (fT q')))≠0:=aeh (ad4 (aeW z2) (aeW z4));have lv:∀{o:Option (List Nat)},can 4294967296 (dO o)->nl (val 4294967296 (dO o))=(dO o).length:=λ{o} hc=>by unfold nl;rw[<-iE (by decide) hc rfl]
 have l1:nl ((val 4294967296 (dO p))*(val 4294967296 (dO (fT q'))))<=20000000000:=by
  have:=gT (val 4294967296 (dO p)) (val 4294967296 (dO (fT q')));rw[lv c1,lv c4]at this;omega
 have l2:nl ((val 4294967296 (dO p'))*(val 4294967296 (dO (fT q))))<=20000000000:=by
  have:=gT (val 4294967296 (dO p')) (val 4294967296 (dO (fT q)));rw[lv c3,lv c2]at this;omega
 have l3:nl ((val 4294967296 (dO (fT q)))*(val 4294967296 (dO (fT q'))))<=20000000000:=by
  have:=gT (val 4294967296 (dO (fT q))) (val 4294967296 (dO (fT q')));rw[lv c2,lv c4]at this;omega
 generalize (val 4294967296 (dO p))*(val 4294967296 (dO (fT q')))=a at*
 generalize (val 4294967296 (dO p'))*(val 4294967296 (dO (fT q)))=b at*
 generalize (val 4294967296 (dO (fT q)))*(val 4294967296 (dO (fT q')))=Q at*
 have la:(dO (some (aI 4294967296 a))).length<=20000000000:=l1;have lb:(dO (some (aI 4294967296 b))).length<=20000000000:=l2;have k1:=ux G (some (aI 4294967296 a)) (some (aI 4294967296 b)) (by omega) (by omega);have k2:=iq (G:=G) (a:=some (aI 4294967296 a)) (b:=some (aI 4294967296 b)) (iu _) (iu _);have k3:=λh=>uB G (some (aI 4294967296 a)) (some (aI 4294967296 b)) (by omega) h
 have k4:=λh=>uB G (some (aI 4294967296 b)) (some (aI 4294967296 a)) (by omega) h
 simp only[bf,eS]at k1 k2 k3 k4;simp only[mN,HI]at m1 m2 m3 k1 k2 k3 k4;have mk1:=λneg n (h:nl n<=20000000001)=>Ch G neg n Q hQ (by omega) (by omega)
 have hsum:nl (a+b)<=20000000001:=by have:=HH a b;omega
 have hs1:nl (a-b)<=20000000001:=by have:=mu (Nat.sub_le a b);omega
 have hs2:nl (b-a)<=20000000001:=by have:=mu (Nat.sub_le b a);omega
 refine aa.enc func251 rfl (λlv=>gH lv _ _ _) λ_=>aar ?_;refine aae λK hK=>?_;refine acs mixed (by kernel_rfl) rfl ?_;simp;refine ag.p 3 9 (dZ _ neg' p' q') ?_;simp;refine ag.p 3 9 m1 ?_;simp;refine ag.p 3 9 (dZ _ neg p q) ?_;simp;refine ag.p 3 9 m2 ?_;simp;refine ag.p 3 9 (dZ _ neg p q) ?_;simp;refine ag.p 3 9 (dZ _ neg' p' q') ?_;simp;refine ag.p 3 9 m3 ?_;simp;refine⟨by kernel_rfl,?_⟩;apply hK;refine aae λK hK=>abd (acf @TX ?_)
 by_cases hn:neg=neg'
 ·subst hn;have e:C0 neg a neg b Q=mkRat (eY neg (a+b)) Q:=by unfold C0;rw[if_pos rfl]
  rw[e];refine abA (aae λK1 hK1=>?_);refine acs mixed (by kernel_rfl) rfl ?_;simp;refine ag.p 3 9 k1 ?_;simp;refine ag.p 3 9 (mk1 neg _ hsum) ?_;simp;refine⟨by kernel_rfl,?_⟩;apply hK1;refine acm ?_;rfl
 have hn':(neg==neg')=false:=by cases neg<;>cases neg'<;>simp_all
 refine abD (by simp_all) (acF 3 k2 ?_)
 by_cases hab:a<b
 ·have e:C0 neg a neg' b Q=mkRat (eY neg' (b-a)) Q:=by unfold C0;rw[if_neg hn,if_pos hab]
  rw[e];have hc:=uG.2 hab;refine abz (by simp_all) (aae λK1 hK1=>?_);refine acs mixed (by kernel_rfl) rfl ?_;simp;refine ag.p 3 9 (k4 (by omega)) ?_;simp;refine ag.p 3 9 (mk1 neg' _ hs2) ?_;simp;refine⟨by kernel_rfl,?_⟩;apply hK1;refine acm ?_;rfl
 ·have e:C0 neg a neg' b Q=mkRat (eY neg (a-b)) Q:=by unfold C0;rw[if_neg hn,if_neg hab]
  have hc:¬eA a b<0:=λh=>hab (uG.1 h)
  refine abD (by simp_all) (aaE (hK _ _ (aae λK hK=>?_)));refine acs mixed (by kernel_rfl) rfl ?_;simp;refine ag.p 3 9 (k3 (by omega)) ?_;simp;refine ag.p 3 9 (mk1 neg _ hs1) ?_;simp;refine⟨by kernel_rfl,?_⟩;apply hK;refine acm ?_;refine cU.cell (κ:=0) (T:=177) (t:=4) (k:=2) (off:=0) (own:=true) (fz:=false) (U:=177) (cs:=[.d (.bool (decide ((mkRat (eY neg (a-b)) Q).num<0))),nC (fB (mkRat (eY neg (a-b)) Q).num.natAbs),nC (iV (mkRat (eY neg (a-b)) Q).den)]) rfl ?_ ?_ ?_
  ·simp
  ·rfl
  simp_all
theorem jt(n:Nat):(dO (fB n)).length=nl n:=by rw[mU];rfl
theorem tX(n:Nat):(dO (iV n)).length<=nl n:=by
 unfold iV;split
 ·simp
 ·exact aU _
theorem SG(G:List (List DV))(x y:Rat)(hx:kF x 10000000000)(hy:kF y 10000000000):aa prog G 251 [gL x,gL y] (gL (x+y)):=by
 have h:=Ib G (decide (x.num<0)) (decide (y.num<0)) (fB x.num.natAbs) (iV x.den) (fB y.num.natAbs) (iV y.den)
  (by rw[jt];exact hx.1) (ab8 (tX _) hx.2) (by rw[jt];exact hy.1) (ab8 (tX _) hy.2) (qg _) (FG _) (qg _) (FG _) (by rw[vF];exact x.den_nz) (by rw[vF];exact y.den_nz)
 simp only[pR,vF]at h
 have e:C0 (decide (x.num<0)) (x.num.natAbs*y.den) (decide (y.num<0)) (y.num.natAbs*x.den) (x.den*y.den)=x+y:=by
  rw[Jd];unfold C0;split
  ·rename_i hh;rw[hh,DM]
  ·split
   ·rename_i hh hl;rw[H6 hh hl]
   ·rename_i hh hl;rw[Hx hh hl]
 grind
theorem Q2(G:List (List DV))(x y:Rat)(hx:kF x 10000000000)(hy:kF y 10000000000):aa prog G 214 [gL x,gL y] (gL (x-y)):=by
 have h1:=QS G y;have h2:=SG G x (-y) hx (yz hy);rw[<-afQ]at h2;refine aa.enc func214 rfl (λlv=>gH lv _ _ _) λ_=>aar ?_;refine aae λK hK=>?_;refine acs mixed (by kernel_rfl) rfl ?_;simp;refine ag.p 3 9 h1 ?_;simp;refine ag.p 3 9 h2 ?_;simp;refine⟨by kernel_rfl,?_⟩;apply hK;refine acm ?_;rfl
theorem FF(G:List (List DV))(x:Rat)(k:Int)(hx:kF x 10000000000)(h1:-1000000<=k)(h2:k<=1000000):aa prog G 248 [gL x,.c (.d (.int .i64 k))] (gL (aO x k)):=by
 have hbot:=dZ G (decide (x.num<0)) (fB x.num.natAbs) (iV x.den);rw[DH]at hbot;have hw:i64.wrap (-k) = -k:=bE (by omega) (by omega)
 by_cases hk:k<0
 ·have e:=iU (x:=x) hk;have ht:((-k).toNat:Int) = -k:=by omega
  have hs:=ia G (some (aI 4294967296 x.den)) (-k).toNat (by have:=hx.2;show nl _<=_;omega) (by omega);simp only[bf,m6 x.den_nz,if_false,eS,mN,ht]at hs
  have hm:=AS G (decide (x.num<0)) (fB x.num.natAbs) (some (aI 4294967296 (x.den*2^(-k).toNat))) (qg _) (iu _) (m6 (sX _ _)) (by rw[jt];have:=hx.1;omega) (by
   have h3:=gT x.den (2^(-k).toNat);have h4:=qx (-k).toNat;have:=hx.2;show nl _<_;omega)
  rw[pR,bf,eS,<-e]at hm;generalize aO x k=r at*
  refine aa.enc func248 rfl (λlv=>gH lv _ _ _) λ_=>aar ?_;refine aae λK hK=>acf hk ?_;refine abz (by rfl) (aae λK1 hK1=>?_);refine acs mixed (by kernel_rfl) rfl ?_;simp;refine ag.p 2 9 hbot ?_;simp[hw];refine ag.p 2 9 hs ?_;simp;refine ag.p 2 9 hm ?_;simp;refine⟨by kernel_rfl,?_⟩;apply hK1;refine acm ?_;rfl
 ·have e:=iS (x:=x) hk;have ht:(k.toNat:Int)=k:=by omega
  have hs:=ia G (fB x.num.natAbs) k.toNat (by rw[jt];have:=hx.1;omega) (by omega)
  have hs':aa prog G 260 [.c (nC (fB x.num.natAbs)),.c (.d (.int .i64 k))] (.c (nC (fB (x.num.natAbs*2^k.toNat)))):=by
   simp only[pR]at hs;simp only[mU,ht,mN]at hs
   by_cases h0:x.num.natAbs=0
   ·have:(aI 4294967296 x.num.natAbs)=[]:=by rw[h0];rfl
    rw[if_pos this]at hs;rw[h0,Nat.zero_mul];rwa[h0]at hs
   ·rw[if_neg (m6 h0)]at hs;unfold fB at hs⊢;rw[if_neg h0]at hs;rw[if_neg h0,if_neg (aeh (ad4 (aeW h0) (adA (by decide))))];exact hs
  have hm:=AS G (decide (x.num<0)) (fB (x.num.natAbs*2^k.toNat)) (some (aI 4294967296 x.den)) (qg _) (iu _) (m6 x.den_nz) (by
   rw[jt];have h3:=gT x.num.natAbs (2^k.toNat);have h4:=qx k.toNat;have:=hx.1;omega) (by have:=hx.2;show nl _<_;omega)
  rw[pR,bf,eS,<-e]at hm;generalize aO x k=r at*
  refine aa.enc func248 rfl (λlv=>gH lv _ _ _) λ_=>aar ?_;refine aae λK hK=>acf hk ?_;refine abD (by rfl) (aaE (hK _ _ (aae λK hK=>?_)));refine acs mixed (by kernel_rfl) rfl ?_;simp;refine ag.p 2 9 hs' ?_;simp;refine ag.p 2 9 hbot ?_;simp;refine ag.p 2 9 hm ?_;simp;refine⟨by kernel_rfl,?_⟩;apply hK;refine acm ?_;rfl
theorem EX(lv:Key->LB)(b:Bool)(p q:Option (List Nat))(n:Int):eJ lv (.tup [rZ b p q,.c (.d (.int .i64 n))])=some (.tup [rZ b p q,.c (.d (.int .i64 n))],[]):=by
 cases p<;>cases q<;>rfl
@[simp]theorem Sj(b:Bool)(p q:Option (List Nat))(n:Int):(AV.tup [.agg [.d (.bool b),nC p,nC q],.c (.d (.int .i64 n))]).pure=true:=by
 cases p<;>cases q<;>rfl
theorem BZ(G:List (List DV))(x:Rat)(k:Int)(hx:kF x 10000000000)(h1:-20000<=k)(h2:k<=20000):aa prog G 210 [gL x,.c (.d (.int .i64 k))] (.tup [gL (aO x k),.c (.d (.int .i64 0))]):=by
 have h:=FF G x k hx (by omega) (by omega);generalize aO x k=r at*
 have i1:¬k < -20000:=by omega
 have i2:¬20000<k:=by omega
 refine aa.enc func210 rfl (λlv=>EX lv _ _ _ _) λ_=>aar ?_;refine aae λK hK=>acv i1 i2 ?_;refine abg (aaE (hK _ _ (acF 2 h ?_)));refine acm ?_;rfl
theorem RB(G:List (List DV))(k:Int)(h1:-20000<=k)(h2:k<=20000):aa prog G 250 [.c (.d (.int .i64 k))] (.tup [gL (aO 1 k),.c (.d (.int .i64 0))]):=by
 have hi:=JG G 1 (by decide) (by decide);have h:=BZ G 1 k ⟨by show nl 1<=_;rw[s7];decide,by show nl 1<=_;rw[s7];decide⟩ h1 h2;change aa _ _ _ _ (gL (1:Rat))at hi;generalize aO 1 k=r at*
 generalize (1:Rat)=o at*
 refine aa.enc func250 rfl (λlv=>EX lv _ _ _ _) λ_=>aar ?_;refine abU λK hK=>?_;simp;refine ag.p 1 9 hi ?_;simp;refine ag.p 1 9 h ?_;simp;apply hK;refine acm ?_;rfl
def gX(x:Rat):Int:=
 let k:=(bt x.num.natAbs:Int)-bt x.den
 if x.num.natAbs*2^(max (-k) 0).toNat<x.den*2^(max k 0).toNat then k-1 else k
theorem zR(hx:x≠0)(h:kF x L):-(32*(L:Int))<=gX x/\gX x<=32*L:=by
 have h0:x.num.natAbs≠0:=by intro e;exact hx (Rat.num_eq_zero.1 (by omega))
 have h1:=yt h0;have h2:=yt x.den_nz;have h3:1<=bt x.num.natAbs:=by unfold bt;rw[if_neg h0];omega
 have h4:1<=bt x.den:=by unfold bt;rw[if_neg x.den_nz];omega
 have:=h.1;have:=h.2;unfold gX
 grind
theorem So(G:List (List DV))(x:Rat)(hx:x≠0)(hs:kF x 10000000):aa prog G 249 [gL x] (.c (.d (.int .i64 (gX x)))):=by
 have h0:x.num.natAbs≠0:=by intro e;exact hx (Rat.num_eq_zero.1 (by omega))
 have hbot:=dZ G (decide (x.num<0)) (fB x.num.natAbs) (iV x.den);rw[DH]at hbot;have l1:=hs.1;have l2:=hs.2;have b1:=yt h0;have b2:=yt x.den_nz;have p1:=rV G (fB x.num.natAbs) (qg _) (by rw[jt];omega);have p2:=rV G (some (aI 4294967296 x.den)) (iu _) (by show nl _<=_;omega);rw[pR]at p1;rw[bf,eS]at p2;have ek:∃k:Int,(bt x.num.natAbs:Int)-bt x.den=k/\-320000000<=k/\k<=320000000:=⟨_,rfl,by omega,by omega⟩
 obtain⟨k,hk,k1,k2⟩:=ek;have ew:i64.wrap ((bt x.num.natAbs:Int)-bt x.den)=k:=by rw[hk];exact bE (by omega) (by omega)
 have ew2:i64.wrap (-k) = -k:=bE (by omega) (by omega);have mx1:(List.foldl (λa b:Int=>if a<b then b else a) (-k) [0])=((max (-k) 0).toNat:Int):=by simp only[List.foldl];split<;>omega
 have mx2:(List.foldl (λa b:Int=>if a<b then b else a) k [0])=((max k 0).toNat:Int):=by simp only[List.foldl];split<;>omega
 have hlog:gX x=if x.num.natAbs*2^(max (-k) 0).toNat<x.den*2^(max k 0).toNat then k-1 else k:=by unfold gX;simp only[hk]
 have s1:=ia G (fB x.num.natAbs) (max (-k) 0).toNat (by rw[jt];omega) (by omega);have s2:=ia G (some (aI 4294967296 x.den)) (max k 0).toNat (by show nl _<=_;omega) (by omega);rw[mU,if_neg (m6 h0),eS]at s1;rw[bf,if_neg (m6 x.den_nz),eS]at s2;have cm:=iq (G:=G) (a:=some (aI 4294967296 (x.num.natAbs*2^(max (-k) 0).toNat))) (b:=some (aI 4294967296 (x.den*2^(max k 0).toNat))) (iu _) (iu _);simp only[bf,eS]at cm;generalize x.num.natAbs*2^(max (-k) 0).toNat=a at*
 generalize x.den*2^(max k 0).toNat=b at*
 generalize (max (-k) 0).toNat=u at*
 generalize (max k 0).toNat=v at*
 simp only[mN]at p1 p2 s1 s2 cm;have ew3:i64.wrap (k-1)=k-1:=bE (by omega) (by omega);refine aa.en func249 rfl λ_=>aar ?_;refine acF 1 hbot ?_;refine abU λK hK=>?_;simp;refine ag.p 1 9 p1 ?_;simp;refine ag.p 1 9 p2 ?_;simp[ew];apply hK;refine aae λK hK=>abU λK1 hK1=>?_;simp[ew2,eF,mx1,-List.foldl_cons,-List.foldl_nil];refine ag.p 1 9 s1 ?_;simp[eF,mx2,-List.foldl_cons,-List.foldl_nil];refine ag.p 1 9 s2 ?_;simp[-List.foldl_cons,-List.foldl_nil];refine ag.p 1 9 cm ?_;simp;apply hK1
 by_cases hab:a<b
 ·have hc:=uG.2 hab;rw[if_pos hab]at hlog;refine abz (by simp_all) (acC ew3 (hK _ _ ?_));refine aar ?_;exact aaV (aq.rt rfl 2 (by simp[hlog]))
 ·have hc:¬eA a b<0:=λh=>hab (uG.1 h)
  rw[if_neg hab]at hlog;refine abD (by simp_all) (aaE (hK _ _ (aar ?_)));exact aaV (aq.rt rfl 2 (by simp[hlog]))
theorem Nx(hx:x≠0):vA (decide (x.num<0)) (fB x.num.natAbs)≠0:=by
 have h0:x.num.natAbs≠0:=by intro e;exact hx (Rat.num_eq_zero.1 (by omega))
 unfold vA;rw[mU,if_neg (m6 h0)];omega
theorem NR(hx:x=0):vA (decide (x.num<0)) (fB x.num.natAbs)=0:=by subst hx;rfl
theorem SI(G:List (List DV))(x:Rat)(hx:x≠0)(hs:kF x 10000000):aa prog G 212 [gL x] (.tup [.c (.d (.int .i64 (gX x))),.c (.d (.int .i64 0))]):=by
 have h:=So G x hx hs;have hg:=mz G (decide (x.num<0)) (fB x.num.natAbs) (iV x.den);have hne:=Nx hx;refine aa.en func212 rfl λ_=>aar ?_;refine aae λK hK=>acX 1 hg hne ?_;refine abD (by rfl) (aaE (hK _ _ (acF 1 h ?_)));exact aaV (aq.t2 rfl 9 (by simp) (by simp))
theorem I7:x<y↔eY (decide (x.num<0)) (x.num.natAbs*y.den)<eY (decide (y.num<0)) (y.num.natAbs*x.den):=by
 rw[Rat.lt_iff,<-ug,<-ug,wN,wN]
theorem Kk(x y:Rat):Ua (decide (x.num<0)) (fB x.num.natAbs) (iV x.den) (decide (y.num<0)) (fB y.num.natAbs) (iV y.den)=jc x y:=by
 unfold jc;simp only[I7];unfold Ua;simp only[pR,vF];have hx:0<x.den:=x.den_pos;have hy:0<y.den:=y.den_pos
 have sx:vA (decide (x.num<0)) (fB x.num.natAbs)=if x.num.natAbs=0 then 0 else if x.num<0 then -1 else 1:=by
  unfold vA;rw[mU];simp only[eH (by decide:2<=4294967296),decide_eq_true_eq]
 have sy:vA (decide (y.num<0)) (fB y.num.natAbs)=if y.num.natAbs=0 then 0 else if y.num<0 then -1 else 1:=by
  unfold vA;rw[mU];simp only[eH (by decide:2<=4294967296),decide_eq_true_eq]
 rw[sx,sy];have ha:x.num.natAbs*y.den=0↔x.num.natAbs=0:=by rw[Nat.mul_eq_zero];omega
 have hb:y.num.natAbs*x.den=0↔y.num.natAbs=0:=by rw[Nat.mul_eq_zero];omega
 generalize x.num.natAbs*y.den=a at*
 generalize y.num.natAbs*x.den=b at*
 unfold eY eA
 grind
theorem JM(G:List (List DV))(x y:Rat)(hx:kF x 10000000000)(hy:kF y 10000000000):aa prog G 118 [gL x,gL y] (.c (.d (.int .i64 (jc x y)))):=by
 have h:=IM G (decide (x.num<0)) (decide (y.num<0)) (fB x.num.natAbs) (iV x.den) (fB y.num.natAbs) (iV y.den)
  (by rw[jt];have:=hx.1;omega) (ab8 (tX _) (by have:=hx.2;omega)) (by rw[jt];have:=hy.1;omega) (ab8 (tX _) (by have:=hy.2;omega))
 rwa[Kk]at h
end Go.Am
namespace Go.Am
open Go.Proofs
def Lb(m:Int):aa prog (GG m) 10 [.c (.d (.str [114,101,115,117,108,116,32,121,10]))]
 (.tup [.agg [.d .nilsl,.d (.int .i64 (.ofNat 0)),.d .nilsl,.d .nilsl,.d (.int .i64 (.ofNat 0)),.d (.int .i64 (.ofNat 0)),.d .nilsl,.d (.int .i64 (.ofNat 0))],.c (.d (.int .i64 (.ofNat 1))),.c (.d (.int .i64 (.ofNat 144)))]):=
 aa.F4 (DQ m 60) (by kernel_rfl)
end Go.Am
