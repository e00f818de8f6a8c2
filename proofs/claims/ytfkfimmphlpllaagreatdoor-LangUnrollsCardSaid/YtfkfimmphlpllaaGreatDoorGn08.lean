/- Helpers. -/
import Derived.Test.YtfkfimmphlpllaaGreatDoorGn07
import Derived.Shelf.Strings.Search1
import Derived.Shelf.Strings.Search2
import Derived.Shelf.Strings.Search3
import Derived.Shelf.Strings.Cut
import Derived.Shelf.Strings.Count
import Derived.Test.YtfkfimmphlpllaaGreatDoorProg
import Derived.Lib.Builder
import Derived.Defers
import Derived.Recover
import Derived.WalkKit
import Derived.TacticsIn
import Derived.TacticsInMore
import Derived.RegionIn
import Derived.OwnWalkIn
import Derived.RangeFuncOwn

set_option linter.all false
set_option maxHeartbeats 8000000
set_option maxRecDepth 100000
open Go.IntKind
open Go.Proofs.Tryz
namespace Go.Am
variable {B n x c y i L k s:Nat}{a b:Option (List Nat)}{l:List Nat}
abbrev Z2:=@Nat.pow_add
abbrev ab3:=@Nat.div_add_mod
abbrev ab4:=@Int.tdiv_eq_ediv_of_nonneg
abbrev aaU:=@Int.natCast_nonneg
abbrev ab5:=@Int.tmod_eq_emod_of_nonneg
abbrev abK:=@Int.natCast_zero
abbrev Zv:=@Nat.pow_pos
abbrev ab6:=@Nat.add_sub_cancel
abbrev abL:=@Nat.div_mul_le_self
abbrev ZQ:=@Nat.pow_le_pow_right
abbrev aaV:=@Nat.pow_mul
abbrev Z7:=@Nat.mul_zero
abbrev acq:=@Nat.div_div_eq_div_mul
abbrev abM:=@Nat.div_le_self
abbrev acB:=@Nat.mul_lt_mul_of_pos_right
abbrev aaW:=@Nat.ne_of_gt
abbrev abw:=@Nat.pow_zero
abbrev abx:=@Nat.pos_of_ne_zero
abbrev aaX:=@Nat.le_of_lt
abbrev acr:=@Nat.le_mul_of_pos_right
abbrev aaY:=@List.length_replicate
abbrev aby:=@Nat.gcd_comm
abbrev acs:=@World.putObj_heap_other
abbrev ab7:=@Nat.gcd_dvd_left
abbrev abN:=@Nat.gcd_pos_of_pos_left
abbrev abO:=@Nat.gcd_one_right
abbrev aaZ:=@Nat.div_one
abbrev ab8:=@Rat.zero_mkRat
abbrev abz:=@Nat.pow_le_pow_left
open Go.Am.Ty Go.Proofs N
abbrev Ga:=nK .u32
def dM(G:List (List DV))(l:List Nat):aa prog G 281 [Ga (some l)] (Ga (some (di l))):=by
 refine aa.nZ func281 rfl (by rw[Tryz.ntmps281];simp) ?_;rintro⟨_,_,w0,F0,W0,_,iV,β0⟩ rfl rfl rfl;refine aaa λK hK=>?_;refine aat rfl ?_;simp;apply hK;clear hK K;refine aaa λK hK=>?_;refine aat rfl ?_;simp[Kg];refine ag.pure 0 0 (zX _ l) rfl (by simp[Ga]) rfl ?_;simp;apply hK;clear hK K;exact aal (au.tmp rfl 0 (by simp;rfl) rfl rfl rfl)
theorem td(G:List (List DV))(a b:Option (List Nat))(ha:(dO a).length<=1000000000000)(hb:(dO b).length<=1000000000000):
 aa prog G 280 [Ga a,Ga b] (Ga (some (aK 4294967296 (val 4294967296 (dO a)+val 4294967296 (dO b))))):=by
 refine aA.jR 0 (by simp) (λV v h=>iJ h) λhra=>?_;refine aA.jR 1 (by simp) (λV v h=>iJ h) λhrb=>?_;refine aa.nZ func280 rfl (by rw[Tryz.ntmps280];simp) ?_;rintro⟨_,_,w0,F0,W0,_,iV,β0⟩ rfl rfl rfl;refine aaa λK hK=>?_;refine aat rfl ?_;simp;apply hK;clear hK K;refine aaa λK hK=>?_;refine aaa λK2 hK2=>?_;refine aat rfl ?_;simp[nO gL];apply hK2;clear hK2 K2
 have main:∀(a' b':Option (List Nat)) (fr:Nat->AV) (κ:Nat),fr 0=Ga a'->fr 1=Ga b'->(dO b').length<=(dO a').length->(dO a').length<=1000000000000 ->
  ok 4294967296 (dO a')->ok 4294967296 (dO b')->val 4294967296 (dO a')+val 4294967296 (dO b')=val 4294967296 (dO a)+val 4294967296 (dO b)->K ⟨fr,λ_=>.hole⟩ κ:=by
  intro a' b' fr κ f0 f1 hle hla oka okb hv;apply hK;clear hK;refine aaa λK hK=>?_;refine aat rfl ?_;have e1:=bF (n:=((dO a').length:Int)+1) (by omega) (by omega);simp[f0,nO gL,e1,gL,FP,F5,Em];refine⟨by omega,?_⟩;apply hK;clear hK K;refine aaz 1 ?_;generalize hκ:κ=κ0;refine aaa λK hK=>?_;refine aat rfl ?_;simp;apply hK;clear hK K;refine aaa λK hK=>aaa λK1 hK1=>?_;refine aat rfl ?_;simp[f0,nO gL];apply hK1;clear hK1 K1;refine aaf ?_
  refine aao (λ(p:List Nat×Nat)=>⟨aU [(0,Ga a'),(1,Ga b'),(5,.c (.aD κ0 0 ((dO a').length+1) 1)),(6,.c (.d (.int .u64 p.2))),(20,Ga a'),(21,.c (.d (.int .i64 (dO a').length))),(22,.c (.d (.int .i64 p.1.length)))],
   az (λ_=>.hole) κ0 (.cells true false 322 (wK .u32 (p.1++List.replicate ((dO a').length+1-p.1.length) 0)))⟩) (κ0+1)
   (λp=>p.1.length<=(dO a').length/\ok 4294967296 p.1/\p.2<=1/\val 4294967296 p.1+4294967296^p.1.length*p.2=val 4294967296 ((dO a').take p.1.length)+val 4294967296 ((dO b').take p.1.length))
   (λp=>(dO a').length-p.1.length) ([],0) (Le.mk' _ (by simp[gx]) (by simp) (by simp[f0,f1])) (by simp[cC]) ?_
  rintro⟨pre,c⟩ ⟨h1,h2,h3,h4⟩;simp only at h1 h2 h3 h4;refine aaa λK3 hK3=>?_;refine aat rfl ?_;simp;apply hK3;clear hK3 K3;refine aaa λK2 hK2=>?_
  by_cases hlt:pre.length<(dO a').length
  ·refine aaB (b:=true) (by simp[hlt]) (aad ?_);simp;apply hK2;have hz:(dO a').length+1-pre.length=((dO a').length-pre.length)+1:=by omega
   refine aaa λK3 hK3=>aaf ?_;refine aaa λK4 hK4=>?_;refine aat rfl ?_;simp[Lh gL hlt,mI];apply hK4;clear hK4 K4;refine aaa λK4 hK4=>?_;refine aat rfl ?_;simp[tX,tZ];have hx:(dO a')[pre.length]<4294967296:=oka _ (bh hlt);generalize hxe:(dO a')[pre.length]=x at hx;have e3:=dH (n:=(x:Int)) (by omega) (by omega);have e4:=dH (n:=(c:Int)+x) (by omega) (by omega);simp only[e3,e4];apply hK4;clear hK4 K4;refine aaa λK5 hK5=>aaa λK6 hK6=>?_
   have fin:∀(y:Nat) (fr:Nat->AV) (κ:Nat),y<4294967296->val 4294967296 ((dO b').take (pre.length+1))=val 4294967296 ((dO b').take pre.length)+4294967296^pre.length*y ->
    fr 0=Ga a'->fr 1=Ga b'->fr 5=.c (.aD κ0 0 ((dO a').length+1) 1)->fr 6=.c (.d (.int .u64 ((c:Int)+x+y)))->fr 7=.c (.d (.int .i64 pre.length)) ->
    fr 20=Ga a'->fr 21=.c (.d (.int .i64 (dO a').length))->fr 22=.c (.d (.int .i64 pre.length)) ->
    K5 ⟨fr,az (λ_=>.hole) κ0 (.cells true false 322 (wK .u32 (pre++List.replicate ((dO a').length+1-pre.length) 0)))⟩ κ:=by
    intro y fr κ hy hbv q0 q1 q5 q6 q7 q20 q21 q22;apply hK5;refine aaz (κ0+2) ?_;refine aaa λK5 hK5=>?_;refine aat rfl ?_;have e5:u32.wrap ((c:Int)+x+y)=((c+x+y)%4294967296:Nat):=by rw[qz];omega
    have e6:aj (wK .u32 (pre++List.replicate ((dO a').length+1-pre.length) 0)) pre.length [CV.d (.int .u32 (((c+x+y)%4294967296:Nat):Int))]=wK .u32 (pre++[(c+x+y)%4294967296]++List.replicate ((dO a').length-pre.length) 0):=by
     rw[hz,fS _ (by simp),kN]
    have e7:(pre.length:Int)<((dO a').length:Int)+1:=by omega
    simp[q5,q6,q7,gL,mI,tX,tZ,e5,e6,e7,A8,HG,-Int.natCast_emod,-Int.natCast_add];refine⟨by omega,by omega,?_⟩;apply hK5;clear hK5 K5;refine aat rfl ?_;have e8:(((c:Int)+x+y)/4294967296)=(((c+x+y)/4294967296:Nat):Int):=by omega
    have e8':Int.fdiv ((c:Int)+x+y) 4294967296=(((c+x+y)/4294967296:Nat):Int):=by rw[ZM _ (by omega)];exact e8
    simp[q6,IntKind.bits,e8',-Int.natCast_ediv,-Int.natCast_add];apply hK3;refine aat rfl ?_;have e9:=bF (n:=(pre.length:Int)+1) (by omega) (by omega);simp[q22,e9];have e10:(dO a').length-pre.length=(dO a').length+1-(pre.length+1):=by omega
    refine⟨pre++[(c+x+y)%4294967296],(c+x+y)/4294967296,Le.mk' _ (by simp) (by simp) (by simp[q0,q1,q5,q20,q21]),⟨by simp;omega,?_,by omega,?_⟩,by simp;omega⟩
    ·exact cA.2 ⟨h2,bJ.2 ⟨by omega,cC _⟩⟩
    ·have:=nH 4294967296 pre (c+x+y);rw[Zg,ZY,this,bA hlt,hxe,hbv,Zc,Zc];omega
   refine aat rfl ?_;simp[nO gL];apply hK6;clear hK6 K6
   by_cases hlb:pre.length<(dO b').length
   ·refine aaB (b:=true) (by simp[hlb]) ?_;refine aat rfl ?_;have hy:(dO b')[pre.length]<4294967296:=okb _ (bh hlb);have e5:=dH (n:=((dO b')[pre.length]:Int)) (by omega) (by omega);have e6:=dH (n:=(c:Int)+x+(dO b')[pre.length]) (by omega) (by omega);simp[Lh gL hlb,mI,tX,tZ,e5,e6];exact fin _ _ _ hy (bA hlb) (by simp) (by simp) (by simp) (by simp) (by simp) (by simp) (by simp) (by simp)
   ·refine aaB (b:=false) (by simp[hlb]) (aad ?_);simp;exact fin 0 _ _ (by omega) (by rw[aN (by omega),aN (by omega)];rfl) (by simp) (by simp) (by simp) (by simp) (by simp) (by simp) (by simp) (by simp)
  ·refine aaB (b:=false) (by simp[hlt]) (aan ?_);simp;have e2:pre.length=(dO a').length:=by omega
   apply hK;refine aaa λK hK=>?_;refine aat rfl ?_;have e3:=uH (n:=(c:Int)) (by omega) (by omega)
   have e4:aj (wK .u32 (pre++[0])) pre.length [CV.d (.int .u32 (c:Int))]=wK .u32 (pre++[c]):=by
    rw[fS _ (by simp)];simp
   simp only[<-e2];simp[nO gL,<-e2,gL,mI,tX,tZ,e3,e4,A8,HG];refine⟨by omega,?_⟩;apply hK;clear hK K;refine aaa λK hK=>?_;refine aat rfl ?_;simp[M1];have hl:pre.length+1=(pre++[c]).length:=by simp
   rw[hl]
   have hout:di (pre++[c])=aK 4294967296 (val 4294967296 (dO a)+val 4294967296 (dO b)):=by
    refine dZ (by decide) (cA.2 ⟨h2,bJ.2 ⟨by omega,cC _⟩⟩) ?_;rw[eY,h4,aN (by omega),aN (by omega),hv]
   refine gB.qg 0 (κ0+1) κ0 (by simp;rfl) (by simp;omega) (dM _ _) (by simp) (by simp) (by simp) ?_;simp;apply hK;clear hK K;exact aal (au.tmp rfl (κ0+1) (by simp[hout]) (by simp) (by simp) (by simp))
 have oka:ok 4294967296 (dO a):=λd hd=>by have:=hra.2 d hd;simp only[qj]at this;omega
 have okb:ok 4294967296 (dO b):=λd hd=>by have:=hrb.2 d hd;simp only[qj]at this;omega
 by_cases hlt:(dO a).length<(dO b).length
 ·refine aaB (b:=true) (by simp[hlt]) ?_;refine aat rfl ?_;simp;exact main b a _ _ (by simp) (by simp) (by omega) hb okb oka (by omega)
 ·refine aaB (b:=false) (by simp[hlt]) (aad ?_);simp;exact main a b _ _ (by simp) (by simp) (by omega) ha oka okb rfl
def MW(hx:x<4294967296)(hc:c<=1)(hy:y<4294967296):
 ∃v b:Nat,v<4294967296/\b<=1/\v+c+y=x+4294967296*b/\u32.wrap (u64.wrap (u64.wrap ((x:Int)-c)-y))=v/\Int.fdiv (u64.wrap (u64.wrap ((x:Int)-c)-y)) 9223372036854775808=b:=by
 simp only[qz,AA]
 by_cases h:c+y<=x
 ·refine⟨x-c-y,0,by omega,by omega,by omega,by omega,?_⟩;rw[ZM _ (by omega)];omega
 ·refine⟨x+4294967296-c-y,1,by omega,by omega,by omega,by omega,?_⟩;rw[ZM _ (by omega)];omega
def Ji(hx:x<4294967296)(hc:c<=1):u64.wrap (u64.wrap ((x:Int)-c)-(0:Nat))=u64.wrap ((x:Int)-c):=by
 simp only[AA];omega
theorem tF(G:List (List DV))(a b:Option (List Nat))(ha:(dO a).length<=1000000000000)(hv:val 4294967296 (dO b)<=val 4294967296 (dO a)):
 aa prog G 359 [nK .u32 a,nK .u32 b] (nK .u32 (some (aK 4294967296 (val 4294967296 (dO a)-val 4294967296 (dO b))))):=by
 refine aA.jR 0 (by simp) (λV v h=>iJ h) λhra=>?_;refine aA.jR 1 (by simp) (λV v h=>iJ h) λhrb=>?_;have oka:ok 4294967296 (dO a):=λd hd=>by have:=hra.2 d hd;simp only[qj]at this;omega
 have okb:ok 4294967296 (dO b):=λd hd=>by have:=hrb.2 d hd;simp only[qj]at this;omega
 refine aa.en func359 rfl λ_=>aab ?_;refine aak λK hK=>?_;simp
 repeat refine ah ?_
 apply hK;refine aab ?_;refine aaa λK hK=>aab ?_;refine aaf ?_
 refine aao (λ(p:List Nat×Nat)=>⟨aU [(0,nK .u32 a),(1,nK .u32 b),(5,.c (.aD 0 0 (dO a).length 1)),(6,.c (.d (.int .u64 p.2))),(13,nK .u32 a),(14,.c (.d (.int .i64 (dO a).length))),(15,.c (.d (.int .i64 p.1.length)))],
  az (λ_=>.hole) 0 (.cells true false 322 (wK .u32 (p.1++List.replicate ((dO a).length-p.1.length) 0)))⟩) 1
  (λp=>p.1.length<=(dO a).length/\ok 4294967296 p.1/\p.2<=1/\val 4294967296 p.1+val 4294967296 ((dO b).take p.1.length)=val 4294967296 ((dO a).take p.1.length)+4294967296^p.1.length*p.2)
  (λp=>(dO a).length-p.1.length) ([],0) (Le.mk' _ (by simp[gx]) (by simp) (by simp)) (by simp[cC]) ?_
 rintro⟨pre,c⟩ ⟨h1,h2,h3,h4⟩;simp only at h1 h2 h3 h4;refine aab ?_;refine aaa λK2 hK2=>?_
 by_cases hlt:pre.length<(dO a).length
 ·refine aag (by simp[hlt]<;>omega) (aad (hK2 _ _ ?_));have hz:(dO a).length-pre.length=((dO a).length-pre.length-1)+1:=by omega
  refine aaa λK3 hK3=>aaf (aak λK4 hK4=>?_)
  simp[hlt];apply hK4;refine aak λK4 hK4=>?_;simp;have hx:(dO a)[pre.length]<4294967296:=oka _ (bh hlt);generalize hxe:(dO a)[pre.length]=x at hx;have e3:=dH (n:=(x:Int)) (by omega) (by omega);simp only[e3];apply hK4;refine aaa λK5 hK5=>aaa λK6 hK6=>?_
  have fin:∀(y:Nat) (fr:Nat->AV) (κ:Nat),y<4294967296->val 4294967296 ((dO b).take (pre.length+1))=val 4294967296 ((dO b).take pre.length)+4294967296^pre.length*y ->
   fr 0=nK .u32 a->fr 1=nK .u32 b->fr 5=.c (.aD 0 0 (dO a).length 1)->fr 9=.c (.d (.int .u64 (u64.wrap (u64.wrap ((x:Int)-c)-y))))->fr 7=.c (.d (.int .i64 pre.length)) ->
   fr 13=nK .u32 a->fr 14=.c (.d (.int .i64 (dO a).length))->fr 15=.c (.d (.int .i64 pre.length)) ->
   K5 ⟨fr,az (λ_=>.hole) 0 (.cells true false 322 (wK .u32 (pre++List.replicate ((dO a).length-pre.length) 0)))⟩ κ:=by
   intro y fr κ hy hbv q0 q1 q5 q9 q7 q13 q14 q15;obtain⟨v,bb,g1,g2,g3,g4,g5⟩:=MW hx h3 hy;apply hK5;refine aaz 2 ?_
   have e6:aj (wK .u32 (pre++List.replicate ((dO a).length-pre.length) 0)) pre.length [CV.d (.int .u32 (v:Int))]=wK .u32 (pre++[v]++List.replicate ((dO a).length-pre.length-1) 0):=by
    rw[hz,fS _ (by simp),kN];simp
   have e7:(pre.length:Int)<((dO a).length:Int):=by omega
   refine aak λK7 hK7=>?_;simp[q5,q9,q7,g4,e6,e7,hlt]
   repeat refine ah ?_
   apply hK7;refine aac ?_;simp[q9,IntKind.bits,g5];apply hK3;have e9:=bF (n:=(pre.length:Int)+1) (by omega) (by omega);refine aac ?_;simp[q15,e9];have e10:(dO a).length-pre.length-1=(dO a).length-(pre.length+1):=by omega
   refine⟨pre++[v],bb,Le.mk' _ (by simp[e10]) (by simp) (by simp[q0,q1,q5,q13,q14]),⟨by simp;omega,cA.2 ⟨h2,bJ.2 ⟨g1,cC _⟩⟩,g2,?_⟩,by simp;omega⟩;rw[Zg,ZY,eY,bA hlt,hxe,hbv,Zl];have g6:4294967296^pre.length*(v+c+y)=4294967296^pre.length*(x+4294967296*bb):=by rw[g3]
   rw[Zc,Zc,Zc,<-Zn]at g6;omega
  refine aaD (hK6 _ _ ?_)
  by_cases hlb:pre.length<(dO b).length
  ·refine aag (by simp[hlb]<;>omega) ?_;have hy:(dO b)[pre.length]<4294967296:=okb _ (bh hlb);have e5:=dH (n:=((dO b)[pre.length]:Int)) (by omega) (by omega);refine aac ?_;simp[hlb,e5];exact fin _ _ _ hy (bA hlb) (by simp) (by simp) (by simp) (by simp) (by simp) (by simp) (by simp) (by simp)
  ·refine aaj (by simp[hlb]<;>omega) (aad ?_);simp;exact fin 0 _ _ (by omega) (by rw[aN (by omega),aN (by omega)];rfl) (by simp) (by simp) (by simp) (by rw[Ji hx h3];simp) (by simp) (by simp) (by simp) (by simp)
 ·refine aaj (by simp[hlt]<;>omega) (aan ?_);simp;have e2:pre.length=(dO a).length:=by omega
  apply hK;refine aak λK hK=>?_;simp
  have hlb:val 4294967296 ((dO b).take pre.length)=val 4294967296 (dO b):=by
   by_cases hb:(dO b).length<=pre.length
   ·exact aN hb
   ·have g1:=cq (B:=4294967296) (dO b) pre.length (by omega);have g2:=fu oka;rw[<-e2]at g2
    have g3:val 4294967296 ((dO b).drop pre.length)=0:=by
     apply ZG;intro hne;have:4294967296^pre.length*1<=4294967296^pre.length*val 4294967296 ((dO b).drop pre.length):=ZD _ (by omega);omega
    rw[g3]at g1;omega
  have hva:val 4294967296 ((dO a).take pre.length)=val 4294967296 (dO a):=aN (by omega)
  have hc:c=0:=by
   apply ZG;intro hne;have:c=1:=by omega
   subst this;have:=fu h2;rw[hlb,hva]at h4;omega
  subst hc
  have hout:di pre=aK 4294967296 (val 4294967296 (dO a)-val 4294967296 (dO b)):=by
   refine dZ (by decide) h2 ?_;rw[hlb,hva]at h4;omega
  rw[<-e2];simp only[aa2,List.replicate_zero,ZL];refine gB.qg 0 1 0 (by simp;rfl) (by omega) (dM _ _) (by simp) (by simp) (by simp) ?_;simp;apply hK;exact aae (au.rt rfl 1 (by simp[hout]))
def Dk{j T V o L':Nat}(h1:L+B^(i+j)*c=T+B^i*(x*V))(h2:L'+B^(i+j)*o=L+B^(i+j)*((c+(x*y+o))%B)):
 L'+B^(i+j+1)*((c+(x*y+o))/B)=T+B^i*(x*(V+B^j*y)):=by
 have h3:=oI B (i+j) (c+(x*y+o));have h4:B^i*(x*(V+B^j*y))=B^i*(x*V)+B^(i+j)*(x*y):=by rw[Z2];grind
 rw[Zc,Zc]at h3;omega
theorem gJ(G:List (List DV))(a b:Option (List Nat))(ha:(dO a).length<=1000000000000)(hb:(dO b).length<=1000000000000):
 aa prog G 238 [nK .u32 a,nK .u32 b] (nK .u32 (some (aK 4294967296 (val 4294967296 (dO a)*val 4294967296 (dO b))))):=by
 refine aA.jR 0 (by simp) (λV v h=>iJ h) λhra=>?_;refine aA.jR 1 (by simp) (λV v h=>iJ h) λhrb=>?_;have oka:ok 4294967296 (dO a):=λd hd=>by have:=hra.2 d hd;simp only[qj]at this;omega
 have okb:ok 4294967296 (dO b):=λd hd=>by have:=hrb.2 d hd;simp only[qj]at this;omega
 refine aa.en func238 rfl λ_=>aab ?_;refine aaa λK hK=>?_;have e0:i64.wrap (((dO a).length:Int)+(dO b).length)=(((dO a).length+(dO b).length:Nat):Int):=by rw[bF (by omega) (by omega)];omega
 refine aac ?_;simp[e0,-Int.natCast_add]
 repeat refine ah ?_
 apply hK;refine aaa λK hK=>aab ?_;refine aaf ?_
 refine aao (λ(p:Nat×List Nat)=>⟨aU [(0,nK .u32 a),(1,nK .u32 b),(5,.c (.aD 0 0 ((dO a).length+(dO b).length) 1)),(17,nK .u32 a),(18,.c (.d (.int .i64 (dO a).length))),(19,.c (.d (.int .i64 p.1)))],
  az (λ_=>.hole) 0 (.cells true false 322 (wK .u32 (p.2++List.replicate ((dO a).length-p.1) 0)))⟩) 1
  (λp=>p.1<=(dO a).length/\p.2.length=p.1+(dO b).length/\ok 4294967296 p.2/\val 4294967296 p.2=val 4294967296 ((dO a).take p.1)*val 4294967296 (dO b))
  (λp=>(dO a).length-p.1) (0,List.replicate (dO b).length 0) (Le.mk' _ (by simp[gx,Z8]) (by simp) (by simp)) ⟨by simp,by simp,r5 (by omega) _,by simp[p7]⟩ ?_
 rintro⟨i,lo⟩ ⟨h1,h2,h3,h4⟩;simp only at h1 h2 h3 h4;refine aab ?_;refine aaa λK2 hK2=>?_
 by_cases hlt:i<(dO a).length
 ·refine aag (by simp[hlt]<;>omega) (aad (hK2 _ _ (aaa λK3 hK3=>aaf (aak λK4 hK4=>?_))));simp[hlt];apply hK4;refine aak λK4 hK4=>?_;simp;have hx:(dO a)[i]<4294967296:=oka _ (bh hlt);generalize hxe:(dO a)[i]=x at hx;apply hK4;refine aaa λK4 hK4=>aak λK5 hK5=>?_;simp;apply hK5;refine aaf ?_
  refine aao (λ(p:Nat×List Nat×Nat)=>⟨aU [(0,nK .u32 a),(1,nK .u32 b),(5,.c (.aD 0 0 ((dO a).length+(dO b).length) 1)),(17,nK .u32 a),(18,.c (.d (.int .i64 (dO a).length))),(19,.c (.d (.int .i64 i))),
   (6,.c (.d (.int .i64 i))),(7,.c (.d (.int .u32 x))),(8,.c (.d (.int .u64 p.2.2))),(24,nK .u32 b),(25,.c (.d (.int .i64 (dO b).length))),(26,.c (.d (.int .i64 p.1)))],
   az (λ_=>.hole) 0 (.cells true false 322 (wK .u32 (p.2.1++List.replicate ((dO a).length-i) 0)))⟩) 2
   (λp=>p.1<=(dO b).length/\p.2.1.length=i+(dO b).length/\ok 4294967296 p.2.1/\p.2.2<4294967296/\val 4294967296 p.2.1+4294967296^(i+p.1)*p.2.2=val 4294967296 ((dO a).take i)*val 4294967296 (dO b)+4294967296^i*(x*val 4294967296 ((dO b).take p.1)))
   (λp=>(dO b).length-p.1) (0,lo,0) (Le.mk' _ (by simp) (by simp) (by simp)) ⟨by simp,h2,h3,by simp,by simp[h4]⟩ ?_
  rintro⟨j,lo2,c⟩ ⟨g1,g2,g3,g4,g5⟩;simp only at g1 g2 g3 g4 g5;refine aab ?_;refine aaa λK7 hK7=>?_
  by_cases hlj:j<(dO b).length
  ·refine aag (by simp[hlj]<;>omega) (aad (hK7 _ _ (aaa λK8 hK8=>aaf (aak λK9 hK9=>?_))));simp[hlj];apply hK9;refine aaa λK9 hK9=>?_;have hy:(dO b)[j]<4294967296:=okb _ (bh hlj);have hij:i+j<lo2.length:=by omega
   have hij2:i+j<(lo2++List.replicate ((dO a).length-i) 0).length:=by simp;omega
   have hij3:i+j<lo2.length+((dO a).length-i):=by omega
   have ho:lo2[i+j]<4294967296:=g3 _ (bh hij);have ho2:(lo2++List.replicate ((dO a).length-i) 0)[i+j]=lo2[i+j]:=ZN hij;have hb2:val 4294967296 ((dO b).take (j+1))=val 4294967296 ((dO b).take j)+4294967296^j*(dO b)[j]:=bA hlj;have hset:=xz (B:=4294967296) hij;generalize (dO b)[j]=y at hy hb2;generalize lo2[i+j]=o at ho ho2 hset;have hxy:x*y<=4294967295*4294967295:=aa6 (by omega) (by omega);have e1:i64.wrap ((i:Int)+j)=((i+j:Nat):Int):=by rw[bF (by omega) (by omega)];omega
   have e2:=dH (n:=(x:Int)) (by omega) (by omega);have e3:=dH (n:=(y:Int)) (by omega) (by omega)
   have e4:u64.wrap ((x:Int)*y)=((x*y:Nat):Int):=by
    rw[<-Int.natCast_mul];generalize x*y=p at hxy;exact dH (by omega) (by omega)
   have e5:=dH (n:=(o:Int)) (by omega) (by omega)
   have e6:u64.wrap (((x*y:Nat):Int)+o)=((x*y+o:Nat):Int):=by
    generalize x*y=p at hxy;rw[dH (by omega) (by omega)];omega
   have e7:u64.wrap ((c:Int)+((x*y+o:Nat):Int))=((c+(x*y+o):Nat):Int):=by
    generalize x*y=p at hxy;rw[dH (by omega) (by omega)];omega
   refine aac ?_;simp[e1,e2,e3,e4,e5,e6,e7,hij3,ho2,-Int.natCast_add,-Int.natCast_mul]
   repeat refine ah ?_
   apply hK9;have hbd:c+(x*y+o)<18446744073709551616:=by generalize x*y=p at hxy;omega
   generalize hm:c+(x*y+o)=m at hbd;have f1:u32.wrap (m:Int)=((m%4294967296:Nat):Int):=by rw[qz];omega
   have f2:aj (wK .u32 (lo2++List.replicate ((dO a).length-i) 0)) (i+j) [CV.d (.int .u32 ((m%4294967296:Nat):Int))]=wK .u32 (lo2.set (i+j) (m%4294967296)++List.replicate ((dO a).length-i) 0):=by
    rw[fS _ hij2,acp _ _ hij]
   have f3:Int.fdiv (m:Int) 4294967296=((m/4294967296:Nat):Int):=by rw[ZM _ (by omega)];omega
   have f4:(i+j:Int)<(dO a).length+(dO b).length:=by omega
   refine aak λK9 hK9=>?_;simp[e1,f1,f2,hij3,-Int.natCast_add,-Int.natCast_emod]
   repeat refine ah ?_
   apply hK9;refine aac ?_;simp[IntKind.bits,f3,-Int.natCast_ediv];apply hK8;have f5:=bF (n:=(j:Int)+1) (by omega) (by omega);refine aac ?_;simp[f5];refine⟨j+1,lo2.set (i+j) (m%4294967296),m/4294967296,Le.mk' _ (by simp) (by simp) (by simp),⟨by omega,by simp[g2],GI g3 _ (Zz _ (by omega)),?_,?_⟩,by omega⟩
   ·generalize x*y=p at hxy hm;omega
   ·rw[hb2,<-hm,<-aaH i j 1];exact Dk g5 (by rw[hm];exact hset _)
  ·refine aaj (by simp[hlj]<;>omega) (aan (hK4 _ _ ?_));have ej:j=(dO b).length:=by omega
   subst ej;rw[aN (aY _)]at g5;have e1:i64.wrap ((i:Int)+(dO b).length)=((i+(dO b).length:Nat):Int):=by rw[bF (by omega) (by omega)];omega
   have e2:=uH (n:=(c:Int)) (by omega) (by omega);have hz:(dO a).length-i=((dO a).length-i-1)+1:=by omega
   have f2:aj (wK .u32 (lo2++List.replicate ((dO a).length-i) 0)) (i+(dO b).length) [CV.d (.int .u32 (c:Int))]=wK .u32 (lo2++[c]++List.replicate ((dO a).length-i-1) 0):=by
    rw[fS _ (by simp;omega),hz,<-g2,kN];simp
   have f6:i+(dO b).length<lo2.length+((dO a).length-i):=by omega
   refine aac ?_;simp[e1,e2,f2,f6,-Int.natCast_add]
   repeat refine ah ?_
   apply hK3;have f5:=bF (n:=(i:Int)+1) (by omega) (by omega);refine aac ?_;simp[f5];have f7:(dO a).length-(i+1)=(dO a).length-i-1:=by omega
   refine⟨i+1,lo2++[c],Le.mk' _ (by simp[f7]) (by simp) (by simp),⟨by omega,by simp;omega,cA.2 ⟨g3,bJ.2 ⟨g4,cC _⟩⟩,?_⟩,by omega⟩;rw[eY,g2,g5,bA hlt,hxe,Zh,Zn]
 ·refine aaj (by simp[hlt]<;>omega) (aan (hK _ _ ?_));have e2:i=(dO a).length:=by omega
  subst e2;refine aak λK hK=>?_;simp;rw[<-h2]
  have hout:di lo=aK 4294967296 (val 4294967296 (dO a)*val 4294967296 (dO b)):=by
   refine dZ (by decide) h3 ?_;rw[h4,aN (aY _)]
  refine gB.qg 0 1 0 (by simp;rfl) (by omega) (dM _ _) (by simp) (by simp) (by simp) ?_;simp;apply hK;exact aae (au.rt rfl 1 (by simp[hout]))
theorem zR(G:List (List DV))(a:Option (List Nat))(b:Nat)(hb:b≠0)(ha:(dO a).length<=1000000000000):
 aa prog G 314 [nK .u32 a,.c (.d (.int .u32 b))] (.tup [nK .u32 (some (aK 4294967296 (val 4294967296 (dO a)/b))),.c (.d (.int .u32 ((val 4294967296 (dO a)%b:Nat):Int)))]):=by
 refine aA.jR 0 (by simp) (λV v h=>iJ h) λhra=>?_;refine aA.jR 1 (by simp) (λV v h=>Vw.sj h) λhrb=>?_;have oka:ok 4294967296 (dO a):=λd hd=>by have:=hra.2 d hd;simp only[qj]at this;omega
 rw[oR]at hrb;simp only[Bl,qj]at hrb;refine aa.en func314 rfl λ_=>aab ?_;refine aab ?_;refine aab ?_;refine aaa λK hK=>aaa λK1 hK1=>?_;have e1:=bF (n:=((dO a).length:Int)-1) (by omega) (by omega);refine aas e1 (hK1 _ _ ?_);refine aaf ?_
 refine aao (λ(p:Nat×List Nat×Nat)=>⟨aU [(0,nK .u32 a),(1,.c (.d (.int .u32 b))),(4,.c (.aD 0 0 (dO a).length 1)),(6,.c (.d (.int .u64 p.2.2))),(7,.c (.d (.int .i64 ((p.1:Int)-1))))],
  az (λ_=>.hole) 0 (.cells true false 322 (wK .u32 (List.replicate p.1 0++p.2.1)))⟩) 1
  (λp=>p.1+p.2.1.length=(dO a).length/\ok 4294967296 p.2.1/\p.2.2<b/\val 4294967296 ((dO a).drop p.1)=val 4294967296 p.2.1*b+p.2.2)
  (λp=>p.1) ((dO a).length,[],0) (Le.mk' _ (by simp[gx]) (by simp) (by simp)) (by simp[cC];omega) ?_
 rintro⟨k,qs,r⟩ ⟨h1,h2,h3,h4⟩;simp only at h1 h2 h3 h4;refine aaa λK3 hK3=>aab ?_
 cases k with
 |zero=>
  refine aah (aan (hK _ _ (aak λK hK=>?_)));simp;have e2:(dO a).length=qs.length:=by omega
  have e3:=uH (n:=(r:Int)) (by omega) (by omega);rw[e2];simp only[List.replicate_zero,aaS,Y9]at*
  have hq:val 4294967296 (dO a)/b=val 4294967296 qs:=by
   rw[h4,Z8,Nat.add_mul_div_right _ _ (by omega),abk h3];omega
  have hr:val 4294967296 (dO a)%b=r:=by
   rw[h4,Z8,Nat.add_mul_mod_self_right,ZI h3]
  have hout:di qs=aK 4294967296 (val 4294967296 (dO a)/b):=dZ (by decide) h2 hq.symm;refine gB.qg 0 1 0 (by simp;rfl) (by omega) (dM _ _) (by simp) (by simp) (by simp) ?_;simp[e3];apply hK;exact aae (au.t2 rfl 1 (by simp[hout]) (by simp[hr]))
 |succ k=>
  have hk:k<(dO a).length:=by omega
  have e2:((k+1:Nat):Int)-1=k:=by omega
  simp only[e2];refine aai (aad (hK3 _ _ (aaa λK5 hK5=>aaf (aaa λK6 hK6=>?_))));have hx:(dO a)[k]<4294967296:=oka _ (bh hk);have hd:val 4294967296 ((dO a).drop k)=(dO a)[k]+4294967296*val 4294967296 ((dO a).drop (k+1)):=cL hk;generalize hxe:(dO a)[k]=x at hx hd;have f1:u64.wrap ((r:Int)*4294967296)=((r*4294967296:Nat):Int):=by rw[dH (by omega) (by omega)];omega
  have f2:=dH (n:=(x:Int)) (by omega) (by omega);have f3:=tQ (m:=r) (y:=x) (by omega) hx;refine aac ?_;simp[hk,hxe,f1,f2,f3,IntKind.bits,-Int.natCast_add,-Int.natCast_mul];apply hK6
  have hb1:r*4294967296+x<b*4294967296:=by
   have:(r+1)*4294967296<=b*4294967296:=Zq _ h3;omega
  generalize hm:r*4294967296+x=m at hb1;have g1:=dH (n:=(b:Int)) (by omega) (by omega);have g2:m/b<4294967296:=by rw[abb (by omega),Zk];exact hb1
  have hdm:=ab3 m b;have hml:m%b<b:=Zz _ (by omega);have g3:Int.tdiv (m:Int) b=((m/b:Nat):Int):=by rw[ab4 (aaU m),<-Int.natCast_ediv]
  have g8:Int.tmod (m:Int) b=((m%b:Nat):Int):=by rw[ab5 (aaU m),<-Int.natCast_emod]
  generalize m/b=q at g2 g3 hdm;generalize m%b=r' at g8 hdm hml;have g3':=dH (n:=(q:Int)) (by omega) (by omega);have g4:=uH (n:=(q:Int)) (by omega) (by omega)
  have g5:aj (wK .u32 (List.replicate (k+1) 0++qs)) k [CV.d (.int .u32 (q:Int))]=wK .u32 (List.replicate k 0++(q::qs)):=by
   rw[fS _ (by simp;omega),pJ]
  have g6:¬((b:Int)=0):=by omega
  have g7:(k:Int)<(dO a).length:=by omega
  refine AW.f7 g1 g3 g3' g4 g5 hb hk ?_;refine aac ?_;simp[g1,g8,hb];apply hK5;have g9:=bF (n:=(k:Int)-1) (by omega) (by omega);refine aac ?_;simp[g9];refine⟨k,q::qs,r',Le.mk' _ (by simp) (by simp) (by simp),⟨by simp;omega,bJ.2 ⟨g2,h2⟩,hml,?_⟩,by omega⟩;rw[hd,h4,bT];have e9:4294967296*(val 4294967296 qs*b+r)=4294967296*val 4294967296 qs*b+r*4294967296:=by rw[Zc,Zn];omega
  rw[e9,Zh,Zk q b];omega
theorem gu(G:List (List DV))(n:Nat)(hn:n<18446744073709551616):aa prog G 227 [.c (.d (.int .u64 n))] (nK .u32 (some (aK 4294967296 n))):=by
 refine aa.en func227 rfl λ_=>aab ?_;refine aaa λK hK=>?_;have e1:u32.wrap (n:Int)=((n%4294967296:Nat):Int):=by rw[qz];omega
 have e2:Int.fdiv (n:Int) 4294967296=((n/4294967296:Nat):Int):=by rw[ZM _ (by omega)];omega
 have e3:u32.wrap ((n/4294967296:Nat):Int)=((n/4294967296:Nat):Int):=uH (by omega) (by omega);have hok:ok 4294967296 [n%4294967296,n/4294967296]:=bJ.2 ⟨by omega,bJ.2 ⟨by omega,cC _⟩⟩;have hout:di [n%4294967296,n/4294967296]=aK 4294967296 n:=dZ (by decide) hok (by simp;omega);generalize hq:n/4294967296=q at*
 generalize hr:n%4294967296=r at*
 refine aac ?_;simp[IntKind.bits,e1,e2,e3,ak,fM,aj,jz];refine gB.qg (l:=[r,q]) 0 1 0 (by simp[wK];rfl) (by simp) (dM _ _) (by simp) (by simp) (by simp) ?_;simp;apply hK;exact aae (au.rt rfl 1 (by simp[hout]))
theorem kE(G:List (List DV))(a:Option (List Nat))(ha:can 4294967296 (dO a)):aa prog G 228 [nK .u32 a] (.c (.d (.bool (decide (val 4294967296 (dO a)=1))))):=by
 refine aa.en func228 rfl λ_=>aab ?_;refine aaa λK hK=>?_
 have h0:(dO a).length=1↔∃x,dO a=[x]:=by
  constructor
  ·intro h;match hd:dO a,h with|[x],_=>exact⟨x,rfl⟩
  ·rintro⟨x,h⟩;simp[h]
 by_cases hl:(dO a).length=1
 ·obtain⟨x,hx⟩:=h0.1 hl;have h1:0<(dO a).length:=by omega
  have h2:(dO a)[0]=x:=by simp[hx]
  have h3:val 4294967296 (dO a)=x:=by simp[hx]
  have h4:=gA (P:=prog) (T:=222) (lv:=λ_=>.hole) (k:=.u32) (k':=.i64) (o:=a) (i:=0) (by simp) h1;simp only[abK,h2]at h4;refine aau hl h4 (hK _ _ ?_);have h5:(x:Int)=1↔x=1:=by omega
  exact aae (au.rt rfl 0 (by simp[h3,h5]))
 ·have h3:¬val 4294967296 (dO a)=1:=by
   intro h;have:=ig (by decide:2<=4294967296) ha h;rw[this]at hl;exact hl rfl
  have h4:¬((dO a).length:Int)=1:=by omega
  refine aau hl h4 (hK _ _ ?_);exact aae (au.rt rfl 0 (by simp[h3]))
def br(n:Nat):Nat:=if n=0 then 0 else Nat.log2 n+1
theorem O9(h1:2^k<=n)(h2:n<2^(k+1)):br n=k+1:=by
 have h0:n≠0:=by have:=Zv (a:=2) (n:=k) (by decide);omega
 have:=(Nat.log2_eq_iff h0).2 ⟨h1,h2⟩;simp[br,h0,this]
def tE(n:Nat):n<2^br n:=by
 unfold br;split
 ·simp[*]
 ·exact Nat.lt_log2_self
def kF(h:n≠0):2^(br n-1)<=n:=by
 simp only[br,h,if_false,ab6];exact Nat.log2_self_le h
theorem rM(h:2^k<=n):br n=br (n/2^k)+k:=by
 have hk:=Zv (a:=2) (n:=k) (by decide);have h0:n/2^k≠0:=by have:=Nat.div_pos h hk;omega
 have h1:=kF h0;have h2:=tE (n/2^k);have h3:0<br (n/2^k):=by simp[br,h0]
 have h4:2^(br (n/2^k)-1)*2^k<=n:=Zf (Zq _ h1) (abL n _);have h5:n<2^br (n/2^k)*2^k:=by rw[<-abb hk];exact h2
 rw[<-Z2]at h4 h5;have h6:=O9 h4 (by rw[show br (n/2^k)-1+k+1=br (n/2^k)+k by omega];exact h5);omega
def XY(f:List UInt8)(hf:(List.range 256).all (λi=>(f[i]?.getD 0).toNat==br i)=true)(x:Nat)(hx:x<256):(f[x]?.getD 0).toNat=br x:=by
 rw[Zb]at hf;simpa using hf x (List.mem_range.2 hx)
theorem qF(G:List (List DV))(n:Nat)(hn:n<4294967296):aa prog G 357 [.c (.d (.int .u32 n))] (.c (.d (.int .i64 (br n)))):=by
 refine aa.en func357 rfl λ_=>aab ?_;refine aaa λK hK=>aab ?_
 have step2:∀(x m:Nat) (fr:Nat->AV) (κ:Nat),x<65536->m<=16->br n=m+br x->fr 0=.c (.d (.int .u32 x))->fr 2=.c (.d (.int .i64 m))->K ⟨fr,λ_=>.hole⟩ κ:=by
  intro x m fr κ hx hm hb f0 f2;apply hK;refine aaa λK hK=>aam f0 ?_
  have step3:∀(x m:Nat) (fr:Nat->AV) (κ:Nat),x<256->m<=24->br n=m+br x->fr 0=.c (.d (.int .u32 x))->fr 2=.c (.d (.int .i64 m))->K ⟨fr,λ_=>.hole⟩ κ:=by
   intro x m fr κ hx hm hb f0 f2;apply hK;refine aaa λK hK=>?_;have e1:u8.wrap (x:Int)=x:=cM ⟨by simp only[Bl];omega,by simp only[qj];omega⟩
   have hbl:br x<=8:=by
    by_cases h0:x=0
    ·subst h0;decide
    ·have:=kF h0;apply ZG;intro hc;have h9:2^8<=2^(br x-1):=ZQ (by decide) (by omega);omega
   refine aac ?_;simp[f0,f2,e1];rw[XY (x:=x) (hx:=hx)]
   ·have e2:=bF (n:=(br x:Int)) (by omega) (by omega);have e3:=bF (n:=(m:Int)+br x) (by omega) (by omega);rw[e2,e3]
    repeat refine ah ?_
    apply hK;exact aae (au.rt rfl 0 (by simp[hb]))
   ·kernel_rfl
  by_cases h:256<=x
  ·refine aag (by simp[h]<;>omega) ?_;have e1:Int.fdiv (x:Int) 256=((x/256:Nat):Int):=by rw[ZM _ (by omega)];omega
   have e2:=bF (n:=(m:Int)+8) (by omega) (by omega);refine aak λK1 hK1=>?_;simp[f0,IntKind.bits,e1,-Int.natCast_ediv];apply hK1;refine aac ?_;simp[f2,e2];refine step3 (x/256) (m+8) _ _ (by omega) (by omega) ?_ (by simp) (by simp);have:=rM (n:=x) (k:=8) (by omega);rw[hb,this];simp;omega
  ·refine aaj (by simp[h]<;>omega) (aad ?_);simp;exact step3 x m _ _ (by omega) (by omega) hb (by simp[f0]) (by simp[f2])
 by_cases h:65536<=n
 ·refine aag (by simp[h]<;>omega) ?_;have e1:Int.fdiv (n:Int) 65536=((n/65536:Nat):Int):=by rw[ZM _ (by omega)];omega
  refine aak λK1 hK1=>?_;simp[IntKind.bits,e1,-Int.natCast_ediv];apply hK1;refine aac ?_;simp;refine step2 (n/65536) 16 _ _ (by omega) (by omega) ?_ (by simp) (by simp);have:=rM (n:=n) (k:=16) (by omega);rw[this];simp;omega
 ·refine aaj (by simp[h]<;>omega) (aad ?_);simp;exact step2 n 0 _ _ (by omega) (by omega) (by simp) (by simp) (by simp)
def nj(G:List (List DV))(n:Nat)(hn:n<4294967296):aa prog G 325 [.c (.d (.int .u32 n))] (.c (.d (.int .i64 (32-(br n:Int))))):=by
 have hbl:br n<=32:=by
  by_cases h0:n=0
  ·subst h0;decide
  ·have:=kF h0;apply ZG;intro hc;have h9:2^32<=2^(br n-1):=ZQ (by decide) (by omega);omega
 refine aa.en func325 rfl λ_=>aab ?_;refine aak λK hK=>?_;simp;refine ag.pure 0 0 (qF _ n hn) rfl (by simp) rfl ?_;have e2:=bF (n:=32-(br n:Int)) (by omega) (by omega);simp[e2];apply hK;exact aae (au.rt rfl 0 (by simp))
theorem qE(G:List (List DV))(a:Option (List Nat))(ha:can 4294967296 (dO a))(hl:(dO a).length<=1000000000000):aa prog G 358 [nK .u32 a] (.c (.d (.int .i64 (br (val 4294967296 (dO a)))))):=by
 refine aa.en func358 rfl λ_=>aab ?_;refine aab ?_;refine aaa λK hK=>aab ?_
 by_cases h0:dO a=[]
 ·refine aag (by simp[h0]<;>omega) (aab ?_);exact aae (au.rt rfl 0 (by simp[h0,br]))
 ·refine aaj (by simp[h0]<;>omega) (aad (hK _ _ (aaa λK hK=>?_)));have h0':0<(dO a).length:=List.length_pos_iff.2 h0;have hk:(dO a).length-1<(dO a).length:=by omega
  have e1:i64.wrap (((dO a).length:Int)-1)=(((dO a).length-1:Nat):Int):=by rw[bF (by omega) (by omega)];omega
  have e2:=bF (n:=32*(((dO a).length-1:Nat):Int)) (by omega) (by omega);have hx:(dO a)[(dO a).length-1]<4294967296:=ha.1 _ (bh hk);have hx0:(dO a)[(dO a).length-1]≠0:=ha.2 _ (by rw[acj,cy hk]);have hv:=cq (B:=4294967296) (dO a) ((dO a).length-1) (by omega);rw[cL hk,fq (l:=dO a) (i:=(dO a).length-1+1) (by omega)]at hv;have hlt:=fu (lS ha.1 ((dO a).length-1));rw[Ze,ZS (by omega)]at hlt;generalize (dO a).length-1=k at*
  generalize hxe:(dO a)[k]=x at*
  have hbl:br x<=32:=by
   have:=kF hx0;apply ZG;intro hc;have h9:2^32<=2^(br x-1):=ZQ (by decide) (by omega);omega
  have hb:br (val 4294967296 (dO a))=32*k+br x:=by
   have hP:(4294967296:Nat)^k=2^(32*k):=by rw[aaV]
   rw[hP]at hv hlt
   have h1:val 4294967296 (dO a)/2^(32*k)=x:=by
    rw[hv,Z7,ZO,abZ _ _ (Zv (by decide)),abk hlt,Zw]
   have h2:=rM (n:=val 4294967296 (dO a)) (k:=32*k) (by
    have:2^(32*k)*1<=2^(32*k)*(x+4294967296*0):=ZD _ (by omega);omega)
   rw[h1]at h2;omega
  refine aac ?_;simp[e1,e2,hk,hxe];refine ag.pure 0 0 (qF _ x hx) rfl (by simp) rfl ?_;have e3:=bF (n:=32*(k:Int)+br x) (by omega) (by omega);simp[e3];apply hK;exact aae (au.rt rfl 0 (by simp[hb]))
def MA(hx:x<4294967296)(hs:s<32):∃y h:Nat,(x*2^s)%4294967296=y*2^s/\(x*2^s)/4294967296=h/\y*2^s+2^s<=4294967296/\h<2^s/\x*2^s<18446744073709551616:=by
 have hP:(2:Nat)^(32-s)*2^s=4294967296:=by rw[<-Z2,Nat.sub_add_cancel (by omega)]
 have h0:0<2^s:=Zv (by decide);have h1:0<2^(32-s):=Zv (by decide);refine⟨x%2^(32-s),_,?_,rfl,?_,?_,?_⟩
 ·rw[<-hP,Nat.mul_mod_mul_right]
 ·have:=Zz x h1
  calc x%2^(32-s)*2^s+2^s=(x%2^(32-s)+1)*2^s:=by rw[Zh,ZT]
   _<=2^(32-s)*2^s:=Zq _ this
   _=4294967296:=hP
 ·rw[abb (by decide),Zk];exact Nat.mul_lt_mul_of_pos_left hx h0
 ·have h2:2^s<4294967296:=Nat.pow_lt_pow_right (by decide) hs |> λh=>h
  calc x*2^s<=4294967295*2^s:=Zq _ (by omega)
   _<=4294967295*4294967295:=ZD _ (by omega)
   _<_:=by decide
theorem gU(G:List (List DV))(a:Option (List Nat))(k:Nat)(ha:(dO a).length<=1000000000000)(hk:k<=1000000000000):
 aa prog G 326 [nK .u32 a,.c (.d (.int .i64 k))] (if dO a=[]then nK .u32 none else nK .u32 (some (aK 4294967296 (val 4294967296 (dO a)*2^k)))):=by
 refine aA.jR 0 (by simp) (λV v h=>iJ h) λhra=>?_;have oka:ok 4294967296 (dO a):=λd hd=>by have:=hra.2 d hd;simp only[qj]at this;omega
 by_cases h0:dO a=[]
 ·rw[if_pos h0];refine aa.en func326 rfl λ_=>aab ?_;refine aaa λK hK=>aab ?_;refine aag (by simp[h0]<;>omega) (aab ?_);exact aae (au.rt rfl 0 (by simp[nK]))
 ·rw[if_neg h0];refine aa.en func326 rfl λ_=>aab ?_;refine aaa λK hK=>aab ?_;refine aaj (by simp[h0]<;>omega) (aad (hK _ _ (aaa λK hK=>?_)));have d1:Int.tdiv (k:Int) 32=((k/32:Nat):Int):=by rw[ab4 (by omega)];omega
  have d2:Int.tmod (k:Int) 32=((k%32:Nat):Int):=by rw[ab5 (by omega)];omega
  have hks:k=32*(k/32)+k%32:=by omega
  have hs:k%32<32:=by omega
  have hw:k/32<=1000000000000:=by omega
  have d3:=bF (n:=((k/32:Nat):Int)) (by omega) (by omega);have d4:=dH (n:=((k%32:Nat):Int)) (by omega) (by omega);generalize k/32=w at*
  generalize k%32=s at*
  refine aay d1 d2 d3 d4 (hK _ _ ?_);have e1:i64.wrap (((dO a).length:Int)+w)=(((dO a).length+w:Nat):Int):=by rw[bF (by omega) (by omega)];omega
  have e2:i64.wrap ((((dO a).length+w:Nat):Int)+1)=(((dO a).length+w+1:Nat):Int):=by rw[bF (by omega) (by omega)];omega
  refine aak λK hK=>?_;simp[e1,e2,-Int.natCast_add]
  repeat refine ah ?_
  apply hK;refine aaa λK hK=>aab ?_;refine aaf ?_
  refine aao (λ(p:Nat×List Nat)=>⟨aU [(0,nK .u32 a),(5,.c (.d (.int .i64 w))),(6,.c (.d (.int .u64 s))),(7,.c (.aD 0 0 ((dO a).length+w+1) 1)),(25,nK .u32 a),(26,.c (.d (.int .i64 (dO a).length))),(27,.c (.d (.int .i64 p.1)))],
   az (λ_=>.hole) 0 (.cells true false 322 (wK .u32 (p.2++List.replicate ((dO a).length-p.1) 0)))⟩) 1
   (λp=>p.1<=(dO a).length/\p.2.length=p.1+w+1/\ok 4294967296 p.2/\p.2.getD (p.1+w) 0<2^s/\val 4294967296 p.2=4294967296^w*(val 4294967296 ((dO a).take p.1)*2^s))
   (λp=>(dO a).length-p.1) (0,List.replicate (w+1) 0) (Le.mk' _ (by simp[gx,show(dO a).length+w+1=w+1+(dO a).length by omega]) (by simp) (by simp)) ⟨by simp,by simp,r5 (by omega) _,by simp[Zv],by simp[p7]⟩ ?_
  rintro⟨i,lo⟩ ⟨h1,h2,h3,h4,h5⟩;simp only at h1 h2 h3 h4 h5;refine aab ?_;refine aaa λK2 hK2=>?_
  by_cases hlt:i<(dO a).length
  ·refine aag (by simp[hlt]<;>omega) (aad (hK2 _ _ (aaa λK3 hK3=>aaf (aak λK4 hK4=>?_))));simp[hlt];apply hK4;refine aaa λK4 hK4=>?_;have hx:(dO a)[i]<4294967296:=oka _ (bh hlt);have hbt:val 4294967296 ((dO a).take (i+1))=val 4294967296 ((dO a).take i)+4294967296^i*(dO a)[i]:=bA hlt;generalize (dO a)[i]=x at hx hbt;obtain⟨y,hh,g1,g2,g3,g4,g5⟩:=MA hx hs;have e3:=dH (n:=(x:Int)) (by omega) (by omega)
   have e4:u64.wrap ((x:Int)*2^min s 64)=((x*2^s:Nat):Int):=by
    rw[ZS (by omega),show((x:Int)*2^s)=((x*2^s:Nat):Int) by push_cast;rfl];generalize x*2^s=z at g5;exact dH (by omega) (by omega)
   refine aac ?_;simp[e3,IntKind.bits,e4,-Int.natCast_mul,-Int.natCast_pow];apply hK4;have hij:i+w<lo.length:=by omega
   have hij2:i+w<(lo++List.replicate ((dO a).length-i) 0).length:=by simp;omega
   have hij3:i+w<lo.length+((dO a).length-i):=by omega
   have ht:lo[i+w]<2^s:=by rwa[Y8,cy hij]at h4
   have ho2:(lo++List.replicate ((dO a).length-i) 0)[i+w]=lo[i+w]:=ZN hij;have hset:=xz (B:=4294967296) hij;generalize lo[i+w]=t at ht ho2 hset;have f1:i64.wrap ((i:Int)+w)=((i+w:Nat):Int):=by rw[bF (by omega) (by omega)];omega
   have f2:u32.wrap ((x*2^s:Nat):Int)=((y*2^s:Nat):Int):=by rw[<-g1,qz];generalize x*2^s=z;omega
   have f3:Lr .u32 (t:Int) ((y*2^s:Nat):Int)=((y*2^s+t:Nat):Int):=KY ht (by omega);have f8:y*2^s+t<4294967296:=by omega
   have f4:aj (wK .u32 (lo++List.replicate ((dO a).length-i) 0)) (i+w) [CV.d (.int .u32 ((y*2^s+t:Nat):Int))]=wK .u32 (lo.set (i+w) (y*2^s+t)++List.replicate ((dO a).length-i) 0):=by
    rw[fS _ hij2,acp _ _ hij]
   have f5:i+w<(dO a).length+w+1:=by omega
   refine aak λK4 hK4=>?_;simp[f1,f2,f3,f4,f5,hij3,ho2,-Int.natCast_mul,-Int.natCast_pow,-Int.natCast_add]
   repeat refine ah ?_
   apply hK4;have f6:Int.fdiv ((x*2^s:Nat):Int) 4294967296=(hh:Int):=by rw[ZM _ (by omega),<-g2];generalize x*2^s=z;omega
   have f7:i64.wrap (((i+w:Nat):Int)+1)=((i+w+1:Nat):Int):=by rw[bF (by omega) (by omega)];omega
   have hs32:(2:Nat)^s<4294967296:=Nat.pow_lt_pow_right (by decide) hs |> λh=>h
   have f9:=uH (n:=(hh:Int)) (by omega) (by omega);have hz:(dO a).length-i=((dO a).length-i-1)+1:=by omega
   have f10:aj (wK .u32 (lo.set (i+w) (y*2^s+t)++List.replicate ((dO a).length-i) 0)) (i+w+1) [CV.d (.int .u32 (hh:Int))]=wK .u32 (lo.set (i+w) (y*2^s+t)++[hh]++List.replicate ((dO a).length-i-1) 0):=by
    rw[fS _ (by simp;omega),hz];have:i+w+1=(lo.set (i+w) (y*2^s+t)).length:=by simp;omega
    rw[this,kN];simp
   have f11:i+w+1<lo.length+((dO a).length-i):=by omega
   refine aac ?_;simp[f1,f6,f7,f9,f10,f11,IntKind.bits,-Int.natCast_mul,-Int.natCast_pow,-Int.natCast_add]
   repeat refine ah ?_
   apply hK3;have f12:=bF (n:=(i:Int)+1) (by omega) (by omega);refine aac ?_;simp[f12];have f13:(dO a).length-(i+1)=(dO a).length-i-1:=by omega
   refine⟨i+1,lo.set (i+w) (y*2^s+t)++[hh],Le.mk' _ (by simp[f13]) (by simp) (by simp),⟨by omega,by simp;omega,cA.2 ⟨GI h3 _ f8,bJ.2 ⟨by omega,cC _⟩⟩,?_,?_⟩,by omega⟩
   ·have:i+1+w=(lo.set (i+w) (y*2^s+t)).length:=by simp;omega
    rw[this,abh (aY _)];simpa using g4
   ·rw[eY,List.length_set,h2,hbt];have p1:=hset (y*2^s+t);have p2:=oI 4294967296 (i+w) (x*2^s);rw[g1,g2]at p2
    have p3:4294967296^w*((val 4294967296 ((dO a).take i)+4294967296^i*x)*2^s)=4294967296^w*(val 4294967296 ((dO a).take i)*2^s)+4294967296^(i+w)*(x*2^s):=by
     rw[Z2];generalize 2^s=S;generalize 4294967296^w=W;generalize 4294967296^i=I;grind
    rw[p3,<-h5,<-p2];rw[Zc]at p1;omega
  ·refine aaj (by simp[hlt]<;>omega) (aan ?_);simp;have e9:i=(dO a).length:=by omega
   subst e9;apply hK;refine aak λK hK=>?_;simp;rw[<-h2]
   have hout:di lo=aK 4294967296 (val 4294967296 (dO a)*2^k):=by
    refine dZ (by decide) h3 ?_;rw[h5,aN (aY _),hks,Z2,aaV];generalize 2^s=S;generalize val 4294967296 (dO a)=V;have:(2:Nat)^32=4294967296:=by decide
    rw[this];generalize 4294967296^w=W
    grind
   refine gB.qg 0 1 0 (by simp;rfl) (by omega) (dM _ _) (by simp) (by simp) (by simp) ?_;simp;apply hK;exact aae (au.rt rfl 1 (by simp[hout]))
def lG(h:ok B l)(i:Nat)(hi:i<=l.length):val B l/B^i=val B (l.drop i):=by
 have h1:=cq (B:=B) l i hi;have h2:=fu (lS h i);rw[Ze,ZS hi]at h2;have hp:0<B^i:=by omega
 rw[h1,abZ _ _ hp,abk h2,Zw]
theorem J2{D z:Nat}(hs:s<32)(hD:D=x+4294967296*(y+4294967296*z)):D/2^s%4294967296=(y*4294967296+x)/2^s%4294967296:=by
 have hP:(2:Nat)^(32-s)*2^s=4294967296:=by rw[<-Z2,Nat.sub_add_cancel (by omega)]
 have h0:0<2^s:=Zv (by decide)
 have e:D=(y*4294967296+x)+2^s*(4294967296*(2^(32-s)*z)):=by
  have aux:∀S T B:Nat,T*S=B->S*(B*(T*z))=B*(B*z):=by
   intro S T B h
   calc S*(B*(T*z))=(T*S)*(B*z):=by ac_rfl
    _=_:=by rw[h]
  have this:=aux (2^s) (2^(32-s)) 4294967296 hP;rw[this,hD];omega
 rw[e,abZ _ _ h0,abY]
theorem Cv(G:List (List DV))(a:Option (List Nat))(k:Nat)(ha:(dO a).length<=1000000000000)(hk:k<=1000000000000):
 aa prog G 329 [nK .u32 a,.c (.d (.int .i64 k))] (if (dO a).length<=k/32 then nK .u32 none else nK .u32 (some (aK 4294967296 (val 4294967296 (dO a)/2^k)))):=by
 refine aA.jR 0 (by simp) (λV v h=>iJ h) λhra=>?_;have oka:ok 4294967296 (dO a):=λd hd=>by have:=hra.2 d hd;simp only[qj]at this;omega
 have d1:Int.tdiv (k:Int) 32=((k/32:Nat):Int):=by rw[ab4 (by omega)];omega
 have d2:Int.tmod (k:Int) 32=((k%32:Nat):Int):=by rw[ab5 (by omega)];omega
 have hks:k=32*(k/32)+k%32:=by omega
 have hs:k%32<32:=by omega
 have hw:k/32<=1000000000000:=by omega
 have d3:=bF (n:=((k/32:Nat):Int)) (by omega) (by omega);have d4:=dH (n:=((k%32:Nat):Int)) (by omega) (by omega);generalize k/32=w at*
 generalize k%32=s at*
 by_cases h0:(dO a).length<=w
 ·rw[if_pos h0];refine aa.en func329 rfl λ_=>aab ?_;refine aaE d1 d2 d3 d4 ?_;refine aaa λK hK=>aab ?_;refine aag (by simp[h0]<;>omega) (aab ?_);exact aae (au.rt rfl 0 (by simp[nK]))
 ·rw[if_neg h0];refine aa.en func329 rfl λ_=>aab ?_;refine aaE d1 d2 d3 d4 ?_;refine aaa λK hK=>aab ?_;refine aaj (by simp[h0]<;>omega) (aad (hK _ _ ?_));have e1:i64.wrap (((dO a).length:Int)-w)=(((dO a).length-w:Nat):Int):=by rw[bF (by omega) (by omega)];omega
  have hw1:w<=(dO a).length:=by omega
  have hD:=lG oka w hw1;refine aam e1 ?_;refine aaa λK hK=>aab ?_;refine aaf ?_
  refine aao (λ(pre:List Nat)=>⟨aU [(0,nK .u32 a),(5,.c (.d (.int .i64 w))),(6,.c (.d (.int .u64 s))),(7,.c (.aD 0 0 ((dO a).length-w) 1)),(25,.c (.d (.int .i64 ((dO a).length-w:Nat)))),(26,.c (.d (.int .i64 pre.length)))],
   az (λ_=>.hole) 0 (.cells true false 322 (wK .u32 (pre++List.replicate ((dO a).length-w-pre.length) 0)))⟩) 1
   (λpre=>pre.length<=(dO a).length-w/\ok 4294967296 pre/\val 4294967296 pre=(val 4294967296 ((dO a).drop w)/2^s)%4294967296^pre.length)
   (λpre=>(dO a).length-w-pre.length) [] (Le.mk' _ (by simp[gx]) (by simp) (by simp)) ⟨by simp,cC _,by simp[Nat.mod_one]⟩ ?_
  rintro pre ⟨h1,h2,h3⟩;refine aab ?_;refine aaa λK2 hK2=>?_
  by_cases hlt:pre.length<(dO a).length-w
  ·refine aag (by simp[hlt]<;>omega) (aad (hK2 _ _ (aaa λK3 hK3=>aaf (aab ?_))));refine aaa λK4 hK4=>?_;have hi:pre.length+w<(dO a).length:=by omega
   have f1:i64.wrap ((pre.length:Int)+w)=((pre.length+w:Nat):Int):=by rw[bF (by omega) (by omega)];omega
   have f2:i64.wrap (((pre.length+w:Nat):Int)+1)=((pre.length+w+1:Nat):Int):=by rw[bF (by omega) (by omega)];omega
   have hx:(dO a)[pre.length+w]<4294967296:=oka _ (bh hi)
   have hdr:val 4294967296 ((dO a).drop w)/4294967296^pre.length=(dO a)[pre.length+w]+4294967296*val 4294967296 ((dO a).drop (pre.length+w+1)):=by
    rw[lG (CW oka w) _ (by simp;omega),aa4,Z8 w,cL hi]
   have hix:=gA (P:=prog) (T:=222) (lv:=az (λ_=>.hole) 0 (.cells true false 322 (wK .u32 (pre++List.replicate ((dO a).length-w-pre.length) 0)))) (k:=.u32) (k':=.i64) (o:=a) (i:=pre.length+w) (by simp) hi;generalize (dO a)[pre.length+w]=x at hx hdr hix;have e3:=dH (n:=(x:Int)) (by omega) (by omega);refine aac ?_;simp[f1,hix,e3,-Int.natCast_add];apply hK4;refine aaa λK5 hK5=>aaa λK6 hK6=>?_
   have fin:∀(y z:Nat) (fr:Nat->AV) (κ:Nat),y<4294967296->val 4294967296 ((dO a).drop (pre.length+w+1))=y+4294967296*z ->
    fr 0=nK .u32 a->fr 5=.c (.d (.int .i64 w))->fr 6=.c (.d (.int .u64 s))->fr 7=.c (.aD 0 0 ((dO a).length-w) 1)->fr 8=.c (.d (.int .i64 pre.length))->fr 9=.c (.d (.int .u64 ((y*4294967296+x:Nat):Int))) ->
    fr 25=.c (.d (.int .i64 ((dO a).length-w:Nat)))->fr 26=.c (.d (.int .i64 pre.length)) ->
    K5 ⟨fr,az (λ_=>.hole) 0 (.cells true false 322 (wK .u32 (pre++List.replicate ((dO a).length-w-pre.length) 0)))⟩ κ:=by
    intro y z fr κ hy hyz q0 q5 q6 q7 q8 q9 q25 q26;apply hK5;refine aaz 2 ?_
    have g1:Int.fdiv ((y*4294967296+x:Nat):Int) (2^min s 64)=(((y*4294967296+x)/2^s:Nat):Int):=by
     rw[ZS (by omega),ZM _ (Int.le_of_lt (Int.pow_pos (by decide)))];generalize y*4294967296+x=m;rw[Int.natCast_ediv];congr 1
    have g2:u32.wrap (((y*4294967296+x)/2^s:Nat):Int)=(((y*4294967296+x)/2^s%4294967296:Nat):Int):=by
     rw[qz];generalize (y*4294967296+x)/2^s=m;omega
    have hdig:=J2 (x:=x) (y:=y) (z:=z) hs (D:=val 4294967296 ((dO a).drop w)/4294967296^pre.length) (by rw[hdr,hyz]);have hv:(y*4294967296+x)/2^s%4294967296<4294967296:=Zz _ (by omega);generalize (y*4294967296+x)/2^s%4294967296=v at g2 hdig hv;have hz:(dO a).length-w-pre.length=((dO a).length-w-pre.length-1)+1:=by omega
    have g3:aj (wK .u32 (pre++List.replicate ((dO a).length-w-pre.length) 0)) pre.length [CV.d (.int .u32 (v:Int))]=wK .u32 (pre++[v]++List.replicate ((dO a).length-w-pre.length-1) 0):=by
     rw[hz,fS _ (by simp),kN];simp
    refine aac ?_;simp[q6,q7,q8,q9,IntKind.bits,g1,g2,g3,hlt,-Int.natCast_add,-Int.natCast_mul,-Int.natCast_ediv,-Int.natCast_pow]
    repeat refine ah ?_
    apply hK3;have g4:=bF (n:=(pre.length:Int)+1) (by omega) (by omega);refine aac ?_;simp[q26,g4];have g5:(dO a).length-w-(pre.length+1)=(dO a).length-w-pre.length-1:=by omega
    refine⟨pre++[v],Le.mk' _ (by simp[g5]) (by simp) (by simp[q0,q5,q6,q7,q25]),⟨by simp;omega,cA.2 ⟨h2,bJ.2 ⟨hv,cC _⟩⟩,?_⟩,by simp;omega⟩;rw[eY,Zg,ZY,Nat.mod_pow_succ,h3,acq,Zk (2^s),<-acq,hdig]
   refine aac ?_;simp[f1,f2,-Int.natCast_add];apply hK6
   by_cases hlb:pre.length+w+1<(dO a).length
   ·refine aag (by simp[hlb]<;>omega) ?_;have hy:(dO a)[pre.length+w+1]<4294967296:=oka _ (bh hlb);have hyz:=cL (B:=4294967296) hlb;have hiy:=gA (P:=prog) (T:=222) (lv:=az (λ_=>.hole) 0 (.cells true false 322 (wK .u32 (pre++List.replicate ((dO a).length-w-pre.length) 0)))) (k:=.u32) (k':=.i64) (o:=a) (i:=pre.length+w+1) (by simp) hlb;generalize (dO a)[pre.length+w+1]=y at hy hyz hiy;have p1:=dH (n:=(y:Int)) (by omega) (by omega);have p2:u64.wrap ((y:Int)*4294967296)=((y*4294967296:Nat):Int):=by rw[dH (by omega) (by omega)];omega
    have p3:Lr .u64 (x:Int) ((y*4294967296:Nat):Int)=((y*4294967296+x:Nat):Int):=by rw[C4];exact tQ hy hx
    refine aac ?_;simp[f1,f2,hiy,p1,p2,p3,IntKind.bits,-Int.natCast_add,-Int.natCast_mul];exact fin y _ _ _ hy hyz (by simp) (by simp) (by simp) (by simp) (by simp) (by simp) (by simp) (by simp)
   ·refine aaj (by simp[hlb]<;>omega) (aad ?_);simp;exact fin 0 0 _ _ (by omega) (by rw[fq (by omega)]) (by simp) (by simp) (by simp) (by simp) (by simp) (by simp) (by simp) (by simp)
  ·refine aaj (by simp[hlt]<;>omega) (aan ?_);simp;have e9:pre.length=(dO a).length-w:=by omega
   apply hK;refine aak λK hK=>?_;simp
   have hout:di pre=aK 4294967296 (val 4294967296 (dO a)/2^k):=by
    refine dZ (by decide) h2 ?_;have hl:=fu (CW oka w);rw[aaM,<-e9]at hl;rw[h3,ZI (aaT (abM _ _) hl),<-hD,acq,hks,Z2,aaV]
   rw[<-e9];simp only[aa2,List.replicate_zero,ZL];refine gB.qg 0 1 0 (by simp;rfl) (by omega) (dM _ _) (by simp) (by simp) (by simp) ?_;simp;apply hK;exact aae (au.rt rfl 1 (by simp[hout]))
def Ay{x0 cb b:Nat}(hx:x0<4294967296)(hc:cb<4294967296)(hb:b<=1):
 ∃v b':Nat,v<4294967296/\b'<=1/\v+cb+b=x0+4294967296*b'/\u32.wrap (u64.wrap (u64.wrap ((x0:Int)-cb)-b))=v/\Int.fdiv (u64.wrap (u64.wrap ((x0:Int)-cb)-b)) 9223372036854775808=b':=by
 simp only[qz,AA]
 by_cases h:cb+b<=x0
 ·refine⟨x0-cb-b,0,by omega,by omega,by omega,by omega,?_⟩;rw[ZM _ (by omega)];omega
 ·refine⟨x0+4294967296-cb-b,1,by omega,by omega,by omega,by omega,?_⟩;rw[ZM _ (by omega)];omega
theorem pY(k:IntKind)(l:List Nat):∀x∈wK k l,x.pure=true:=by
 intro x hx;simp only[wK,ZX]at hx;obtain⟨y,_,rfl⟩:=hx;rfl
def qq(w m:Nat):Nat:=if w<m then 1 else 0
def Nj{W M R bb:Nat}(hbb:bb<=1)(h:R+M=W+L*bb)(hR:R<L):bb=qq W M/\R=W+L*qq W M-M:=by
 unfold qq;have:bb=0\/bb=1:=by omega
 rcases this with rfl|rfl<;>split<;>omega
theorem Ac(G:List (List DV))(lo win hi:List Nat)(n t:Nat)(v:Option (List Nat))(hw:win.length=(dO v).length+1)(hn:win.length<=n)(okw:ok 4294967296 win)(ht:t<4294967296)(hl:(lo++win++hi).length<=1000000000000):
 aA prog G 327 [.c (.aD 0 lo.length n 1),nK .u32 v,.c (.d (.int .u64 t))] [.cells false false 322 (wK .u32 (lo++win++hi))]
  (.ret (.c (.d (.bool (decide (qq (val 4294967296 win) (t*val 4294967296 (dO v))=1))))) [.cells false false 322 (wK .u32 (lo++gq 4294967296 win.length (val 4294967296 win+4294967296^win.length*qq (val 4294967296 win) (t*val 4294967296 (dO v))-t*val 4294967296 (dO v))++hi))] []):=by
 refine aA.jR 1 (by simp) (λV v h=>iJ h) λhrv=>?_;have okv:ok 4294967296 (dO v):=λd hd=>by have:=hrv.2 d hd;simp only[qj]at this;omega
 simp only[Zg]at hl;refine aA.Yi func327 rfl λ_=>aab ?_;refine aab ?_;refine aaa λK hK=>aab ?_;refine aaf ?_
 refine aao (λ(p:List Nat×Nat×Nat)=>⟨aU [(0,.c (.aD 0 lo.length n 1)),(1,nK .u32 v),(2,.c (.d (.int .u64 t))),(7,.c (.d (.int .u64 p.2.1))),(8,.c (.d (.int .u64 p.2.2))),(13,nK .u32 v),(14,.c (.d (.int .i64 (dO v).length))),(15,.c (.d (.int .i64 p.1.length)))],
  az (λ_=>.hole) 0 (.cells false false 322 (wK .u32 (lo++(p.1++win.drop p.1.length)++hi)))⟩) 1000
  (λp=>p.1.length<=(dO v).length/\ok 4294967296 p.1/\p.2.1<4294967296/\p.2.2<=1/\val 4294967296 p.1+t*val 4294967296 ((dO v).take p.1.length)=val 4294967296 (win.take p.1.length)+4294967296^p.1.length*(p.2.1+p.2.2))
  (λp=>(dO v).length-p.1.length) ([],0,0) (Le.mk' _ (by simp) (by simp) (by simp)) ⟨by simp,cC _,by simp,by simp,by simp⟩ ?_
 rintro⟨pre,c,b⟩ ⟨h1,h2,h3,h4,h5⟩;simp only at h1 h2 h3 h4 h5;have hwl:pre.length<win.length:=by omega
 have hwd:win.drop pre.length=win[pre.length]::win.drop (pre.length+1):=Z6 hwl;have hwx:win[pre.length]<4294967296:=okw _ (bh hwl);have hwt:=bA (B:=4294967296) hwl;generalize hx0:win[pre.length]=x0 at hwd hwx hwt;generalize hB:lo++(pre++win.drop pre.length)++hi=BL;rw[hwd]at hB;have hget:BL[lo.length+pre.length]?=some x0:=by rw[<-hB];exact H7 hi
 have hBl:BL.length=lo.length+(win.length+hi.length):=by rw[<-hB];simp;omega
 refine aab ?_;refine aaa λK2 hK2=>?_
 by_cases hlt:pre.length<(dO v).length
 ·refine aag (by simp[hlt]<;>omega) (aad (hK2 _ _ (aaa λK3 hK3=>aaf (aak λK4 hK4=>?_))));simp[hlt];apply hK4;refine aaa λK4 hK4=>?_;have hx:(dO v)[pre.length]<4294967296:=okv _ (bh hlt);have hvt:=bA (B:=4294967296) hlt;generalize (dO v)[pre.length]=x at hx hvt;have htx:t*x<=4294967295*4294967295:=aa6 (by omega) (by omega);have e1:=dH (n:=(x:Int)) (by omega) (by omega)
  have e2:u64.wrap ((t:Int)*x)=((t*x:Nat):Int):=by
   rw[<-Int.natCast_mul];generalize t*x=p at htx;exact dH (by omega) (by omega)
  have e3:u64.wrap ((c:Int)+((t*x:Nat):Int))=((c+t*x:Nat):Int):=by
   generalize t*x=p at htx;rw[dH (by omega) (by omega)];omega
  refine aac ?_;simp[e1,e2,e3,-Int.natCast_add,-Int.natCast_mul];apply hK4;generalize hm:c+t*x=m at*
  have hml:m<18446744073709551616:=by rw[<-hm];generalize t*x=p at htx;omega
  have e4:u32.wrap (m:Int)=((m%4294967296:Nat):Int):=by rw[qz];omega
  have e5:=dH (n:=((m%4294967296:Nat):Int)) (by omega) (by omega);have e6:=dH (n:=(x0:Int)) (by omega) (by omega);have hcb:m%4294967296<4294967296:=Zz _ (by omega);have hdm:=ab3 m 4294967296;obtain⟨d,b',g1,g2,g3,g4,g5⟩:=Ay hwx hcb h4;have e7:Int.fdiv (m:Int) 4294967296=((m/4294967296:Nat):Int):=by rw[ZM _ (by omega)];omega
  generalize m%4294967296=mr at*
  generalize m/4294967296=mq at*
  have i1:=mB (P:=prog) (T:=322) (by simp) .u32 hget
  have i2:aj (wK .u32 BL) (lo.length+pre.length) [CV.d (.int .u32 (d:Int))]=wK .u32 (lo++((pre++[d])++win.drop (pre.length+1))++hi):=by
   rw[fS _ (by omega),<-hB,xw]
  have i3:lo.length+pre.length+1<=BL.length:=by omega
  have i4:pre.length<n:=by omega
  refine aak λK4 hK4=>?_;simp[i1,e4,e5,e6,i4,-Int.natCast_emod];apply hK4;refine aaE g4 i2 i3 i4 ?_;refine aak λK4 hK4=>?_;simp[IntKind.bits,g5];apply hK4;refine aac ?_;simp[IntKind.bits,e7,-Int.natCast_ediv];apply hK3;have e8:=bF (n:=(pre.length:Int)+1) (by omega) (by omega);refine aac ?_;simp[e8];refine⟨pre++[d],mq,b',Le.mk' _ (by simp) (by simp) (by simp),⟨by simp;omega,cA.2 ⟨h2,bJ.2 ⟨g1,cC _⟩⟩,by omega,g2,?_⟩,by simp;omega⟩;rw[Zg,ZY,eY,hvt,hwt,Zl];have j1:4294967296^pre.length*(d+mr+b)=4294967296^pre.length*(x0+4294967296*b'):=by rw[g3]
  have j2:4294967296^pre.length*(4294967296*(mq)+mr)=4294967296^pre.length*m:=congrArg (λz=>4294967296^pre.length*z) hdm;have j3:4294967296^pre.length*m=4294967296^pre.length*c+4294967296^pre.length*(t*x):=by rw[<-hm,Zc]
  have j4:t*(val 4294967296 ((dO v).take pre.length)+4294967296^pre.length*x)=t*val 4294967296 ((dO v).take pre.length)+4294967296^pre.length*(t*x):=by
   rw[Zc,Nat.mul_left_comm t]
  have j5:4294967296^pre.length*4294967296*(mq+b')=4294967296^pre.length*(4294967296*(mq))+4294967296^pre.length*(4294967296*b'):=by
   rw[Zn,Zc,Zc]
  rw[j4,j5];rw[Zc,Zc,Zc]at j1;rw[Zc]at j2 h5;omega
 ·refine aaj (by simp[hlt]<;>omega) (aan ?_);simp;have ek:pre.length=(dO v).length:=by omega
  apply hK;have hgl:win.drop (pre.length+1)=[]:=abj (by omega);obtain⟨d,b',g1,g2,g3,g4,g5⟩:=Ay hwx h3 h4;have e6:=dH (n:=(x0:Int)) (by omega) (by omega);have i1:=mB (P:=prog) (T:=322) (by simp) .u32 hget
  have i2:aj (wK .u32 BL) (lo.length+pre.length) [CV.d (.int .u32 (d:Int))]=wK .u32 (lo++(pre++[d])++hi):=by
   rw[fS _ (by omega),<-hB,xw,hgl,ZL]
  have i3:lo.length+pre.length+1<=BL.length:=by omega
  have i4:pre.length<n:=by omega
  rw[<-ek];refine aak λK hK=>?_;simp[<-ek,i1,e6,i4];apply hK;refine aak λK hK=>?_;simp[<-ek,i2,i3,i4,g4];apply hK;refine aak λK hK=>?_;simp[IntKind.bits,g5];apply hK;have hvv:val 4294967296 ((dO v).take pre.length)=val 4294967296 (dO v):=aN (by omega);have hww:val 4294967296 (win.take (pre.length+1))=val 4294967296 win:=aN (by omega);have hL:win.length=pre.length+1:=by omega
  rw[hvv]at h5
  have hfin:val 4294967296 (pre++[d])+t*val 4294967296 (dO v)=val 4294967296 win+4294967296^win.length*b':=by
   rw[hL,eY,<-hww,hwt,Zl];have j1:4294967296^pre.length*(d+c+b)=4294967296^pre.length*(x0+4294967296*b'):=by rw[g3]
   rw[Zc,Zc,Zc,<-Zn]at j1;rw[Zc]at h5;omega
  have hok:ok 4294967296 (pre++[d]):=cA.2 ⟨h2,bJ.2 ⟨g1,cC _⟩⟩;have hlt2:=fu hok;rw[Zg,ZY,<-hL]at hlt2;obtain⟨q1,q2⟩:=Nj g2 hfin hlt2;have hdig:=qd hok q2;rw[Zg,ZY,<-hL]at hdig;rw[<-hdig];have q3:(b':Int)=1↔qq (val 4294967296 win) (t*val 4294967296 (dO v))=1:=by rw[<-q1];omega
  refine aal (κ:=0) (DY.tmp (κ:=0) rfl (by simp[q3]) rfl (by simp) (by simp))
def Lc(hB:0<B)(h:ok B l)(hv:val B l=n%B^l.length):l=gq B l.length n:=by
 have h1:=qd (sQ hB l.length n) (mE l.length n);rw[oY]at h1;rw[h1];exact qd h hv
theorem Ag(G:List (List DV))(lo win hi:List Nat)(n:Nat)(v:Option (List Nat))(hw:win.length=(dO v).length+1)(hn:win.length<=n)(okw:ok 4294967296 win)(hl:(lo++win++hi).length<=1000000000000):
 aA prog G 328 [.c (.aD 0 lo.length n 1),nK .u32 v] [.cells false false 322 (wK .u32 (lo++win++hi))]
  (.ret (.tup []) [.cells false false 322 (wK .u32 (lo++gq 4294967296 win.length (val 4294967296 win+val 4294967296 (dO v))++hi))] []):=by
 refine aA.jR 1 (by simp) (λV v h=>iJ h) λhrv=>?_;have okv:ok 4294967296 (dO v):=λd hd=>by have:=hrv.2 d hd;simp only[qj]at this;omega
 simp only[Zg]at hl;refine aA.Yi func328 rfl λ_=>aab ?_;refine aaa λK hK=>aab ?_;refine aaf ?_
 refine aao (λ(p:List Nat×Nat)=>⟨aU [(0,.c (.aD 0 lo.length n 1)),(1,nK .u32 v),(4,.c (.d (.int .u64 p.2))),(7,nK .u32 v),(8,.c (.d (.int .i64 (dO v).length))),(9,.c (.d (.int .i64 p.1.length)))],
  az (λ_=>.hole) 0 (.cells false false 322 (wK .u32 (lo++(p.1++win.drop p.1.length)++hi)))⟩) 1000
  (λp=>p.1.length<=(dO v).length/\ok 4294967296 p.1/\p.2<=1/\val 4294967296 p.1+4294967296^p.1.length*p.2=val 4294967296 (win.take p.1.length)+val 4294967296 ((dO v).take p.1.length))
  (λp=>(dO v).length-p.1.length) ([],0) (Le.mk' _ (by simp) (by simp) (by simp)) ⟨by simp,cC _,by simp,by simp⟩ ?_
 rintro⟨pre,c⟩ ⟨h1,h2,h4,h5⟩;simp only at h1 h2 h4 h5;have hwl:pre.length<win.length:=by omega
 have hwd:win.drop pre.length=win[pre.length]::win.drop (pre.length+1):=Z6 hwl;have hwx:win[pre.length]<4294967296:=okw _ (bh hwl);have hwt:=bA (B:=4294967296) hwl;generalize hx0:win[pre.length]=x0 at hwd hwx hwt;generalize hB:lo++(pre++win.drop pre.length)++hi=BL;rw[hwd]at hB;have hget:BL[lo.length+pre.length]?=some x0:=by rw[<-hB];exact H7 hi
 have hBl:BL.length=lo.length+(win.length+hi.length):=by rw[<-hB];simp;omega
 have i1:=mB (P:=prog) (T:=322) (by simp) .u32 hget;have i3:lo.length+pre.length+1<=BL.length:=by omega
 have i4:pre.length<n:=by omega
 refine aab ?_;refine aaa λK2 hK2=>?_
 by_cases hlt:pre.length<(dO v).length
 ·refine aag (by simp[hlt]<;>omega) (aad (hK2 _ _ (aaa λK3 hK3=>aaf (aak λK4 hK4=>?_))));simp[hlt];apply hK4;refine aaa λK4 hK4=>?_;have hx:(dO v)[pre.length]<4294967296:=okv _ (bh hlt);have hvt:=bA (B:=4294967296) hlt;generalize (dO v)[pre.length]=x at hx hvt;have e1:=dH (n:=(x:Int)) (by omega) (by omega);have e2:=dH (n:=(x0:Int)) (by omega) (by omega);have e3:u64.wrap ((x0:Int)+x)=((x0+x:Nat):Int):=by rw[dH (by omega) (by omega)];omega
  have e4:u64.wrap ((c:Int)+((x0+x:Nat):Int))=((c+(x0+x):Nat):Int):=by rw[dH (by omega) (by omega)];omega
  refine aac ?_;simp[i1,i4,e1,e2,e3,e4,-Int.natCast_add];apply hK4;have hs:=nH 4294967296 pre (c+(x0+x));have hml:c+(x0+x)<8589934592:=by omega
  generalize hm:c+(x0+x)=m at*
  have e5:u32.wrap (m:Int)=((m%4294967296:Nat):Int):=by rw[qz];omega
  have e7:Int.fdiv (m:Int) 4294967296=((m/4294967296:Nat):Int):=by rw[ZM _ (by omega)];omega
  have hd:m%4294967296<4294967296:=Zz _ (by omega);have hq:m/4294967296<=1:=by omega
  generalize m%4294967296=d at*
  generalize m/4294967296=q at*
  have i2:aj (wK .u32 BL) (lo.length+pre.length) [CV.d (.int .u32 (d:Int))]=wK .u32 (lo++((pre++[d])++win.drop (pre.length+1))++hi):=by
   rw[fS _ (by omega),<-hB,xw]
  refine aaE e5 i2 i3 i4 ?_;refine aac ?_;simp[IntKind.bits,e7];apply hK3;have e8:=bF (n:=(pre.length:Int)+1) (by omega) (by omega);refine aac ?_;simp[e8];refine⟨pre++[d],q,Le.mk' _ (by simp) (by simp) (by simp),⟨by simp;omega,cA.2 ⟨h2,bJ.2 ⟨hd,cC _⟩⟩,hq,?_⟩,by simp;omega⟩;rw[Zg,ZY,hs,hvt,hwt,<-hm,Zc,Zc];omega
 ·refine aaj (by simp[hlt]<;>omega) (aan ?_);simp;have ek:pre.length=(dO v).length:=by omega
  apply hK;have hgl:win.drop (pre.length+1)=[]:=abj (by omega);have e1:=uH (n:=(c:Int)) (by omega) (by omega);have hs:=nH 4294967296 pre (x0+c);have e2:u32.wrap ((x0:Int)+c)=(((x0+c)%4294967296:Nat):Int):=by rw[qz];omega
  have hd:(x0+c)%4294967296<4294967296:=Zz _ (by omega);generalize (x0+c)/4294967296=q at*
  generalize (x0+c)%4294967296=d at*
  have i2:aj (wK .u32 BL) (lo.length+pre.length) [CV.d (.int .u32 (d:Int))]=wK .u32 (lo++(pre++[d])++hi):=by
   rw[fS _ (by omega),<-hB,xw,hgl,ZL]
  refine aac ?_;simp[<-ek,i1,i2,i3,i4,e1,e2];have hvv:val 4294967296 ((dO v).take pre.length)=val 4294967296 (dO v):=aN (by omega);have hww:val 4294967296 (win.take (pre.length+1))=val 4294967296 win:=aN (by omega);have hL:win.length=(pre++[d]).length:=by simp;omega
  rw[hvv]at h5;have hok:ok 4294967296 (pre++[d]):=cA.2 ⟨h2,bJ.2 ⟨hd,cC _⟩⟩;have hlt2:=fu hok
  have hval:val 4294967296 win+val 4294967296 (dO v)=val 4294967296 (pre++[d])+4294967296^(pre++[d]).length*q:=by
   rw[Zg,ZY,hs,<-hww,hwt,Zc];omega
  have hdig:pre++[d]=gq 4294967296 win.length (val 4294967296 win+val 4294967296 (dO v)):=by
   rw[hL];refine Lc (by decide) hok ?_;rw[hval,abY,ZI hlt2]
  refine DY.none (.inl rfl) rfl (by simp) ?_;rw[<-hdig];simp
def I4(G:List (List DV))(a b:Option (List Nat))(ha:can 4294967296 (dO a))(hb:can 4294967296 (dO b))(h:val 4294967296 (dO a)<val 4294967296 (dO b)):
 aa prog G 278 [nK .u32 a,nK .u32 b] (.tup [nK .u32 none,nK .u32 a]):=by
 refine aa.en func278 rfl λ_=>aab ?_;refine AW.scope ?_;refine aab ?_;refine aaa λK hK=>aaf (aak λK1 hK1=>?_)
 simp;refine ag.pure 0 0 (gF ha hb) rfl (by simp) rfl ?_;simp[jO h];apply hK1;refine aai (aab ?_);exact aae (au.t2 rfl 0 (by simp[nK]) (by simp))
theorem Jx(G:List (List DV))(a b:Option (List Nat))(ha:can 4294967296 (dO a))(hb:can 4294967296 (dO b))(h:val 4294967296 (dO b)<=val 4294967296 (dO a))(hn:(dO b).length=1)(hl:(dO a).length<=1000000000000):
 aa prog G 278 [nK .u32 a,nK .u32 b] (.tup [nK .u32 (some (aK 4294967296 (val 4294967296 (dO a)/val 4294967296 (dO b)))),nK .u32 (some (aK 4294967296 (val 4294967296 (dO a)%val 4294967296 (dO b))))]):=by
 obtain⟨x,hx⟩:∃x,dO b=[x]:=by
  match hd:dO b,hn with|[x],_=>exact⟨x,rfl⟩
 have hxv:val 4294967296 (dO b)=x:=by simp[hx]
 have hx0:x≠0:=hb.2 x (by rw[hx];rfl);have hxl:x<4294967296:=hb.1 x (by rw[hx];simp);have hlt:(0:Nat)<(dO b).length:=by omega
 have hix:=gA (P:=prog) (T:=222) (lv:=λ_=>.hole) (k:=.u32) (k':=.i64) (o:=b) (i:=0) (by simp) hlt;have hg:(dO b)[0]=x:=by simp[hx]
 simp only[hg,abK]at hix;refine aa.en func278 rfl λ_=>aab ?_;refine AW.scope ?_;refine aab ?_;refine aaa λK hK=>aaf (aaa λK1 hK1=>?_)
 have hc:¬ec (val 4294967296 (dO a)) (val 4294967296 (dO b))<0:=by unfold ec;(repeat' split)<;>omega
 refine aac ?_;simp;refine ag.pure 0 0 (gF ha hb) rfl (by simp) rfl ?_;simp only[hxv]at hc⊢;simp[hc];apply hK1;refine aaj (by simp[hc]<;>omega) (aab ?_);refine aag (by simp[hn]<;>omega) (aak λK1 hK1=>?_);simp[hix];refine ag.pure 0 0 (zR _ a x hx0 hl) (by simp[AV.pure,AV.kR];exact⟨rfl,rfl⟩) (by simp) rfl ?_;simp[-Int.natCast_emod];apply hK1;have hml:val 4294967296 (dO a)%x<x:=Zz _ (by omega);generalize hr:val 4294967296 (dO a)%x=r at*
 have e1:=dH (n:=(r:Int)) (by omega) (by omega);refine aak λK1 hK1=>?_;simp[e1];refine ag.pure 0 0 (gu _ r (by omega)) (by simp) (by simp) rfl ?_;simp;apply hK1;exact aae (au.t2 rfl 0 (by simp[hxv]) (by simp[hxv,hr]))
theorem PB{lv:Key->LB}(k:IntKind)(l:List Nat):dY lv 1 (nK k (some l))=some (l.length,wK k l):=by
 have h1:(dK k l).all (λe=>e.length==1)=true:=by simp[dK]
 have h2:(dK k l).flatten.map CV.d=wK k l:=by
  induction l with
  |nil=>rfl
  |cons x l ih=>simp only[dK,wK,Zm,aa9,aaR]at ih⊢;simp[ih]
 simp only[dY,nK,h1,if_true,h2];simp[dK]
def yG{lo wl hi:List Nat}(h:i<wl.length):(lo++wl++hi)[lo.length+i]?=wl[i]?:=by
 rw[Zo,abh (by omega),aaP,acg h]
def V9(hn:2<=n)(hl:l.length=n+1):val B l=((l[n]*B+l[n-1])*B+l[n-2])*B^(n-2)+val B (l.take (n-2)):=by
 have h1:=cq (B:=B) l (n-2) (by omega);have e1:n-2+1=n-1:=by omega
 have e2:n-1+1=n:=by omega
 rw[cL (by omega:n-2<l.length)]at h1;simp only[e1]at h1;rw[cL (by omega:n-1<l.length)]at h1;simp only[e2]at h1;rw[cL (by omega:n<l.length),fq (by omega)]at h1;rw[h1,Z7,ZO,Zk (B^(n-2)),Z8];congr 2;rw[Zh,Zk B (l[n-1]+B*l[n]),Zk B l[n],Z8 l[n-1],Z8 l[n-2]];rw[Zh]
def Xt(hn:2<=n)(hl:l.length=n):val B l=(l[n-1]*B+l[n-2])*B^(n-2)+val B (l.take (n-2)):=by
 have h1:=cq (B:=B) l (n-2) (by omega);have e1:n-2+1=n-1:=by omega
 rw[cL (by omega:n-2<l.length)]at h1;simp only[e1]at h1;rw[cL (by omega:n-1<l.length),fq (by omega)]at h1;rw[h1,Z7,ZO,Zk (B^(n-2)),Z8];congr 2;rw[Zk B,Z8]
structure Dv(dV:List Nat)(n la m U0:Nat):Prop where
 hn:2<=n
 hla:la<=1000000000000
 hm:m+n=la+1
 St:1<=m
 okV:ok 4294967296 dV
 YI:dV.length=n
 YK:2147483648<=dV.getD (n-1) 0
def Yf(dV:List Nat)(n m U0:Nat)(p:Nat×List Nat×List Nat×List Nat):Prop:=
 p.1<=m/\p.2.1.length=p.1/\p.2.2.1.length=n/\ok 4294967296 p.2.1/\ok 4294967296 p.2.2.1/\p.2.2.2.length+p.1=m/\ok 4294967296 p.2.2.2/\val 4294967296 p.2.2.1<val 4294967296 dV /\
  val 4294967296 p.2.1+4294967296^p.1*(val 4294967296 p.2.2.1+val 4294967296 dV*val 4294967296 p.2.2.2)=U0
def Ye(dV:List Nat)(n la m s:Nat)(p:Nat×List Nat×List Nat×List Nat):aE:=
 ⟨aU [(4,.c (.aD 1 0 m 1)),(6,.c (.d (.int .i64 n))),(9,.c (.d (.int .i64 s))),(10,nK .u32 (some dV)),(11,.c (.aD 0 0 (la+1) 1)),(12,.c (.d (.int .i64 ((p.1:Int)-1))))],
  az (az (λ_=>.hole) 0 (.cells true false 322 (wK .u32 (p.2.1++p.2.2.1++List.replicate (m-p.1) 0)))) 1 (.cells true false 322 (wK .u32 (List.replicate p.1 0++p.2.2.2)))⟩
theorem Rp{b:List Nat}(hb:can 4294967296 b)(hn:b.length=n)(h1:1<=n):∃t s,b[n-1]?=some t/\t<4294967296/\s<=31/\br t+s=32/\val 4294967296 b*2^s<4294967296^n/\4294967296^(n-1)*2147483648<=val 4294967296 b*2^s:=by
 have hlt:n-1<b.length:=by omega
 have ht0:b[n-1]≠0:=hb.2 _ (by rw[acj,hn,cy hlt]);have htl:b[n-1]<4294967296:=hb.1 _ (bh hlt);have hv:=cq (B:=4294967296) b (n-1) (by omega);rw[cL hlt,fq (by omega)]at hv;have hl:=fu (lS hb.1 (n-1));rw[Ze,ZS (by omega)]at hl;refine⟨b[n-1],32-br b[n-1],cy hlt,htl,?_⟩;generalize b[n-1]=t at*
 have hb1:=kF ht0;have hb2:=tE t;have hb3:1<=br t:=by simp[br,ht0]
 have hb4:br t<=32:=by
  apply ZG;intro hc;have h9:2^32<=2^(br t-1):=ZQ (by decide) (by omega);omega
 have p1:2^br t*2^(32-br t)=4294967296:=by
  rw[<-Z2];have:br t+(32-br t)=32:=by omega
  rw[this]
 have p2:2^(br t-1)*2^(32-br t)=2147483648:=by
  rw[<-Z2];have:br t-1+(32-br t)=31:=by omega
  rw[this]
 refine⟨by omega,by omega,?_,?_⟩
 ·have q1:val 4294967296 b+1<=4294967296^(n-1)*2^br t:=by
   have:4294967296^(n-1)*(t+1)<=4294967296^(n-1)*2^br t:=ZD _ hb2;rw[Zc,Z0]at this;simp only[Z7,ZO]at hv;omega
  have q2:(val 4294967296 b+1)*2^(32-br t)<=4294967296^(n-1)*2^br t*2^(32-br t):=Zq _ q1;have q3:4294967296^(n-1)*4294967296=4294967296^n:=by rw[<-Zl];congr 1;omega
  rw[Zn,p1,q3,Zh,ZT]at q2;have:=Zv (a:=2) (n:=32-br t) (by decide);omega
 ·rw[<-p2,<-Zn];refine Zq _ ?_;have:4294967296^(n-1)*2^(br t-1)<=4294967296^(n-1)*t:=ZD _ hb1;simp only[Z7,ZO]at hv;omega
def Qw(hB:0<B)(L n:Nat):gq B L (n%B^L)=gq B L n:=by
 have h:=qd (sQ hB L n) rfl;rw[oY,mE]at h;exact h.symm
def Ja(hB:0<B)(L n:Nat):gq B L (B^L+n)=gq B L n:=by
 rw[<-Qw hB,Nat.add_mod_left,Qw hB]
theorem BM{a b c:LB}:az (az (az (λ_=>LB.hole) 0 a) 1 b) 0 c=az (az (λ_=>LB.hole) 0 c) 1 b:=by
 funext k;simp only[az]
 by_cases h0:k=0
 ·subst h0;simp
 ·simp[h0]
theorem MP(a b:Option (List Nat))(ha:can 4294967296 (dO a))(hb:can 4294967296 (dO b))(h:val 4294967296 (dO b)<=val 4294967296 (dO a))(hn:2<=(dO b).length)(hl:(dO a).length<1000000000000):
 ∀G,aa prog G 278 [nK .u32 a,nK .u32 b] (.tup [nK .u32 (some (aK 4294967296 (val 4294967296 (dO a)/val 4294967296 (dO b)))),nK .u32 (if val 4294967296 (dO a)%val 4294967296 (dO b)=0 then none else some (aK 4294967296 (val 4294967296 (dO a)%val 4294967296 (dO b))))]):=by
 intro G;obtain⟨t,s,ht,htl,hs,hts,hV1,hV2⟩:=Rp hb rfl (by omega)
 have hlen:(dO b).length<=(dO a).length:=by
  apply ZG;intro hc;have:=lz (by omega) ha hb (by omega);omega
 have hb0:dO b≠[]:=λe=>by rw[e]at hn;simp at hn
 have ha0:dO a≠[]:=λe=>by rw[e]at hlen;simp at hlen;exact hb0 hlen
 obtain⟨hk,hte⟩:=List.getElem?_eq_some_iff.1 ht;have hlz:=nj G t htl;have e0:(32-(br t:Int))=(s:Int):=by omega
 rw[e0]at hlz;have hsb:=gU G b s (by omega) (by omega);have hsa:=gU G a s (by omega) (by omega);rw[if_neg hb0]at hsb;rw[if_neg ha0]at hsa;refine aa.en func278 rfl λ_=>aab ?_;refine AW.scope ?_;refine aab ?_;refine aaa λK hK=>aaf (aaa λK1 hK1=>?_)
 have hc:¬ec (val 4294967296 (dO a)) (val 4294967296 (dO b))<0:=by unfold ec;(repeat' split)<;>omega
 refine aac ?_;simp;refine ag.pure 0 0 (gF ha hb) rfl (by simp) rfl ?_;simp[hc];apply hK1;refine aaj (by simp[hc]<;>omega) (aab ?_);have hn1:¬(dO b).length=1:=by omega
 refine aaj (by simp[hn1]<;>omega) (aad (hK _ _ ?_));have e1:i64.wrap (((dO b).length:Int)-1)=(((dO b).length-1:Nat):Int):=by rw[bF (by omega) (by omega)];omega
 refine aak λK hK=>?_;simp[e1,hk,hte];refine ag.pure 0 0 hlz rfl (by simp) rfl ?_;simp;apply hK;refine aak λK hK=>?_;simp;refine ag.pure 0 0 hsb (by simp) (by simp) rfl ?_;simp;apply hK;have e2:=bF (n:=((dO a).length:Int)+1) (by omega) (by omega);refine aam e2 ?_;refine aak λK hK=>?_;simp;refine ag.pure 1 5 hsa (by simp) (by simp) (by simp) ?_;simp[iz,PB];have hA:=qM (B:=4294967296) (n:=val 4294967296 (dO a)) (by decide);rw[<-ig (by decide) ha rfl]at hA;have hU1:val 4294967296 (dO a)*2^s<4294967296^(dO a).length*2^s:=acB hA (Zv (by decide));have hs31:(2:Nat)^s<=2147483648:=ZQ (n:=2) (by decide) hs
 have hU2:val 4294967296 (dO a)*2^s<4294967296^((dO a).length+1):=by
  rw[Zl];refine ZE hU1 (ZD _ (by omega))
 have hApos:0<val 4294967296 (dO a):=iF ha ha0;have hBpos:0<val 4294967296 (dO b):=iF hb hb0;have hU0:val 4294967296 (dO a)*2^s≠0:=aaW (Z1 hApos (Zv (by decide)));have hV0:val 4294967296 (dO b)*2^s≠0:=aaW (Z1 hBpos (Zv (by decide)));have hUl:=cN (by decide) hU2;have hUp:0<(aK 4294967296 (val 4294967296 (dO a)*2^s)).length:=List.length_pos_iff.2 (λe=>hU0 ((eA (by decide)).1 e));have okU:=(bw (B:=4294967296) (by decide) (val 4294967296 (dO a)*2^s)).1;have vU:=bt (B:=4294967296) (by decide) (val 4294967296 (dO a)*2^s);have canV:=bw (B:=4294967296) (by decide) (val 4294967296 (dO b)*2^s);have vV:=bt (B:=4294967296) (by decide) (val 4294967296 (dO b)*2^s)
 have lV:(aK 4294967296 (val 4294967296 (dO b)*2^s)).length=(dO b).length:=by
  refine Nat.le_antisymm (cN (by decide) hV1) ?_;apply ZG;intro hc;have g1:=qM (B:=4294967296) (n:=val 4294967296 (dO b)*2^s) (by decide);have g2:4294967296^(aK 4294967296 (val 4294967296 (dO b)*2^s)).length<=4294967296^((dO b).length-1):=ZQ (by decide) (by omega);have g3:4294967296^((dO b).length-1)*1<=4294967296^((dO b).length-1)*2147483648:=ZD _ (by decide);omega
 have hq:val 4294967296 (dO a)/val 4294967296 (dO b)=(val 4294967296 (dO a)*2^s)/(val 4294967296 (dO b)*2^s):=(Nat.mul_div_mul_right _ _ (Zv (by decide))).symm;have hr:(val 4294967296 (dO a)*2^s)%(val 4294967296 (dO b)*2^s)=(val 4294967296 (dO a)%val 4294967296 (dO b))*2^s:=Nat.mul_mod_mul_right _ _ _;generalize hdV:aK 4294967296 (val 4294967296 (dO b)*2^s)=dV at*
 generalize hdU:aK 4294967296 (val 4294967296 (dO a)*2^s)=dU at*
 rw[ZS hUl]
 have hseg:aj (wK .u32 (List.replicate ((dO a).length+1) 0)) 0 ((wK .u32 dU).take dU.length)=wK .u32 (dU++List.replicate ((dO a).length+1-dU.length) 0):=by
  simp[aj,wK,<-abD,<-List.map_drop]
 refine⟨⟨hUp,hUl,by omega⟩,?_⟩;simp only[aa5 (by simp:(wK .u32 dU).length<=dU.length)]at hseg⊢;rw[gx,hseg];apply hK;refine aaz 1 ?_;have e3:i64.wrap (((dO a).length:Int)-(dO b).length)=(((dO a).length-(dO b).length:Nat):Int):=by rw[bF (by omega) (by omega)];omega
 have e4:i64.wrap ((((dO a).length-(dO b).length:Nat):Int)+1)=(((dO a).length-(dO b).length+1:Nat):Int):=by rw[bF (by omega) (by omega)];omega
 obtain⟨m,hm⟩:∃m,m=(dO a).length-(dO b).length+1:=⟨_,rfl⟩
 rw[<-hm]at e4;refine aap e3 e4 ?_;refine aaa λK hK=>AW.label ?_;simp;apply hK;have e5:i64.wrap ((m:Int)-1)=(m:Int)-1:=bF (by omega) (by omega);refine aaa λK hK=>aam e5 ?_;refine aaf ?_;have hlu:(dU++List.replicate ((dO a).length+1-dU.length) 0).length=(dO a).length+1:=by simp;omega
 have hok:ok 4294967296 (dU++List.replicate ((dO a).length+1-dU.length) 0):=cA.2 ⟨okU,r5 (by decide) _⟩;have hvu:val 4294967296 (dU++List.replicate ((dO a).length+1-dU.length) 0)=val 4294967296 (dO a)*2^s:=by rw[ju,p7,vU];omega
 generalize hu0:dU++List.replicate ((dO a).length+1-dU.length) 0=u0 at*
 have htd:=cq (B:=4294967296) u0 m (by omega);have hdv:=lG hok m (by omega)
 have hrV:val 4294967296 (u0.drop m)<val 4294967296 dV:=by
  rw[<-hdv,hvu,vV]
  have g1:val 4294967296 (dO a)*2^s<4294967296^m*(4294967296^((dO b).length-1)*2147483648):=by
   have:4294967296^(dO a).length*2^s<=4294967296^m*(4294967296^((dO b).length-1)*2147483648):=by
    rw[<-Zn,<-Z2];have:m+((dO b).length-1)=(dO a).length:=by omega
    rw[this];exact ZD _ hs31
   omega
  refine Nat.div_lt_of_lt_mul (ZE g1 (ZD _ hV2))
 have hI0:Yf dV (dO b).length m (val 4294967296 (dO a)*2^s) (m,u0.take m,u0.drop m,[]):=by
  refine⟨aY _,by simp;omega,by simp;omega,lS hok _,CW hok _,by simp,cC _,hrV,?_⟩;simp only[tH,Z7,ZO];rw[<-htd,hvu]
 refine aao (Ye dV (dO b).length (dO a).length m s) 2 (Yf dV (dO b).length m (val 4294967296 (dO a)*2^s)) (λp=>p.1) (m,u0.take m,u0.drop m,[]) (Le.mk' _ (by simp[gx]) (by simp) (by simp)) hI0 ?_;rintro⟨k,lo,r,qs⟩ ⟨i1,i2,i3,i4,i5,i6,i7,i8,i9⟩;simp only at i1 i2 i3 i4 i5 i6 i7 i8 i9;unfold Ye;refine aaa λK3 hK3=>aab ?_
 cases k with
 |zero=>
  refine aah (aan (hK _ _ (aaa λK hK=>?_)));have el:lo=[]:=List.length_eq_zero_iff.1 i2;subst el;simp only[tH,abw,ZT,Zw]at i9;simp only[ZO]at i6
  have hQ:(val 4294967296 (dO a)*2^s)/(val 4294967296 (dO b)*2^s)=val 4294967296 qs:=by
   rw[<-vV,<-i9,abZ _ _ (by omega),abk i8,Zw]
  have hR:(val 4294967296 (dO a)*2^s)%(val 4294967296 (dO b)*2^s)=val 4294967296 r:=by
   rw[<-vV,<-i9,abY,ZI i8]
  refine aaq mixed (by kernel_rfl) rfl ?_;simp[gL];have hlq:qs.length=m:=i6
  have hQt:di (qs.take m)=aK 4294967296 (val 4294967296 (dO a)/val 4294967296 (dO b)):=by
   rw[aa5 (by omega)];exact dZ (by decide) i7 (by rw[hq,hQ])
  have hrt:(r++List.replicate m 0).take (dO b).length=r:=by rw[<-i3];simp
  have hRt:di ((r++List.replicate m 0).take (dO b).length)=aK 4294967296 ((val 4294967296 (dO a)%val 4294967296 (dO b))*2^s):=by
   rw[hrt];exact dZ (by decide) i5 (by rw[<-hr,hR])
  refine uE.qg (l:=qs) 2 5 1 m (by omega) (by simp;rfl) (by omega) (dM _ _) (by simp) (by simp) (by simp) ?_;have hlr:(dO b).length<=(dO a).length+1:=by omega
  simp[gL]
  repeat refine ah ?_
  refine uE.qg (l:=r++List.replicate m 0) 2 5 0 (dO b).length (by simp;omega) (by simp;rfl) (by simp;omega) (dM _ _) (by simp) (by simp) (by simp) ?_;simp only[hQt,hRt];simp
  have hsh:∀G,aa prog G 329 [nK .u32 (some (aK 4294967296 ((val 4294967296 (dO a)%val 4294967296 (dO b))*2^s))),.c (.d (.int .i64 s))] (nK .u32 (if val 4294967296 (dO a)%val 4294967296 (dO b)=0 then none else some (aK 4294967296 (val 4294967296 (dO a)%val 4294967296 (dO b))))):=by
   intro G
   have hx:(aK 4294967296 ((val 4294967296 (dO a)%val 4294967296 (dO b))*2^s)).length<=1000000000000:=by
    rw[<-hRt,hrt];exact Zf (Kz r) (by omega)
   have key:=Cv G (some (aK 4294967296 ((val 4294967296 (dO a)%val 4294967296 (dO b))*2^s))) s hx (by omega);have hs0:s/32=0:=by omega
   simp only[aX,hs0]at key;rw[bt (by decide),Nat.mul_div_cancel _ (Zv (by decide))]at key
   by_cases hz:val 4294967296 (dO a)%val 4294967296 (dO b)=0
   ·rw[hz]at key⊢;simpa using key
   ·rw[if_neg hz];rw[if_neg]at key
    ·exact key
    ·intro hc;have h9:=List.length_eq_zero_iff.1 (Nat.le_zero.1 hc);have:=(eA (by decide)).1 h9;have h8:=Z1 (abx hz) (Zv (a:=2) (n:=s) (by decide));omega
  refine ag.pure 2 5 (hsh _) (by simp) (by simp) (by simp) ?_;simp;refine⟨by kernel_rfl,?_⟩;apply hK;exact aae (au.t2 rfl 5 (by simp) (by simp))
 |succ j=>
  refine aai (aad (hK3 _ _ ?_));rcases abu lo with rfl|⟨lo',x,rfl⟩
  ·simp at i2
  rw[abv]at*
  have hlo:lo'.length=j:=by simp at i2;exact i2
  obtain⟨oklo,hx1⟩:=cA.1 i4;have hx:x<4294967296:=(bJ.1 hx1).1;have e6:((j+1:Nat):Int)-1=j:=by omega
  simp only[e6];have hwl:(x::r).length=(dO b).length+1:=by simp[i3]
  have okw:ok 4294967296 (x::r):=bJ.2 ⟨hx,i5⟩;have hWv:val 4294967296 (x::r)=x+4294967296*val 4294967296 r:=rfl
  have hWV:val 4294967296 (x::r)<4294967296*val 4294967296 dV:=by
   have:4294967296*(val 4294967296 r+1)<=4294967296*val 4294967296 dV:=ZD _ i8;rw[Zc]at this;omega
  have hEW:=V9 (B:=4294967296) hn hwl;have hEV:=Xt (B:=4294967296) hn lV;have Tl:=fu (lS okw ((dO b).length-2));rw[Ze,ZS (by omega)]at Tl;have okV:=canV.1;have SN:=fu (lS okV ((dO b).length-2));rw[Ze,ZS (by omega)]at SN
  have hv1':val 4294967296 dV/4294967296^((dO b).length-1)=dV[(dO b).length-1]:=by
   rw[lG okV _ (by omega),cL (by omega:(dO b).length-1<dV.length),fq (l:=dV) (i:=(dO b).length-1+1) (by omega)];rfl
  have E5:2147483648<=dV[(dO b).length-1]:=by
   rw[<-hv1',abJ (Zv (by decide)),vV,Zk];exact hV2
  generalize hBL:lo'++[x]++(r++List.replicate (m-(j+1)) 0)=BL;have hBL':lo'++(x::r)++List.replicate (m-(j+1)) 0=BL:=by rw[<-hBL];simp
  have hBLl:BL.length=(dO a).length+1:=by rw[<-hBL'];simp;omega
  have hb0:BL[j+(dO b).length]?=some (x::r)[(dO b).length]:=by
   rw[<-hBL',<-hlo,yG (by omega),cy (by omega)]
  have hb1:BL[j+(dO b).length-1]?=some (x::r)[(dO b).length-1]:=by
   have:j+(dO b).length-1=lo'.length+((dO b).length-1):=by omega
   rw[<-hBL',this,yG (by omega),cy (by omega)]
  have hb2:BL[j+(dO b).length-2]?=some (x::r)[(dO b).length-2]:=by
   have:j+(dO b).length-2=lo'.length+((dO b).length-2):=by omega
   rw[<-hBL',this,yG (by omega),cy (by omega)]
  have ha0l:(x::r)[(dO b).length]<4294967296:=okw _ (bh (by omega));have ha1l:(x::r)[(dO b).length-1]<4294967296:=okw _ (bh (by omega));have ha2l:(x::r)[(dO b).length-2]<4294967296:=okw _ (bh (by omega));have hv1l:dV[(dO b).length-1]<4294967296:=okV _ (bh (by omega));have hv2l:dV[(dO b).length-2]<4294967296:=okV _ (bh (by omega));have hxv1:(dO b).length-1<(dO (some dV)).length:=by simp;omega
  have hxv2:(dO b).length-2<(dO (some dV)).length:=by simp;omega
  have gv1:∀lv,aq prog 222 lv (nK .u32 (some dV)) (.c (.d (.int .i64 (((dO b).length-1:Nat):Int))))=some (.c (.d (.ptr [DV.int .u32 (dV[(dO b).length-1]:Int)])),[],[],True):=λlv=>gA (by simp) hxv1
  have gv2:∀lv,aq prog 222 lv (nK .u32 (some dV)) (.c (.d (.int .i64 (((dO b).length-2:Nat):Int))))=some (.c (.d (.ptr [DV.int .u32 (dV[(dO b).length-2]:Int)])),[],[],True):=λlv=>gA (by simp) hxv2
  have hEst:P8 4294967296 (4294967296^((dO b).length-2)) (val 4294967296 dV) (val 4294967296 (x::r)) dV[(dO b).length-1] dV[(dO b).length-2] (val 4294967296 (dV.take ((dO b).length-2))) ((x::r)[(dO b).length]*4294967296+(x::r)[(dO b).length-1]) (x::r)[(dO b).length-2] (val 4294967296 ((x::r).take ((dO b).length-2))):=
   ⟨hEV,hEW,SN,Tl,hv2l,ha2l,hWV,by omega,by omega⟩
  generalize (x::r)[(dO b).length]=a0 at*
  generalize (x::r)[(dO b).length-1]=a1 at*
  generalize (x::r)[(dO b).length-2]=a2 at*
  generalize dV[(dO b).length-1]=v1 at*
  generalize dV[(dO b).length-2]=v2 at*
  have l0:=mB (P:=prog) (T:=322) (by simp) .u32 hb0;have l1:=mB (P:=prog) (T:=322) (by simp) .u32 hb1;have l2:=mB (P:=prog) (T:=322) (by simp) .u32 hb2;have f1:i64.wrap ((j:Int)+(dO b).length)=((j+(dO b).length:Nat):Int):=by rw[bF (by omega) (by omega)];omega
  have f2:i64.wrap (((j+(dO b).length:Nat):Int)-1)=((j+(dO b).length-1:Nat):Int):=by rw[bF (by omega) (by omega)];omega
  have f3:i64.wrap (((j+(dO b).length:Nat):Int)-2)=((j+(dO b).length-2:Nat):Int):=by rw[bF (by omega) (by omega)];omega
  have f4:=dH (n:=(a0:Int)) (by omega) (by omega);have f5:=dH (n:=(a1:Int)) (by omega) (by omega);have f6:=dH (n:=(a2:Int)) (by omega) (by omega);have f7:=dH (n:=(v1:Int)) (by omega) (by omega);have f8:=dH (n:=(v2:Int)) (by omega) (by omega);have f9:u64.wrap ((a0:Int)*4294967296)=((a0*4294967296:Nat):Int):=by rw[dH (by omega) (by omega)];omega
  obtain⟨top,htp⟩:∃t,t=a0*4294967296+a1:=⟨_,rfl⟩
  have f10:Lr .u64 ((a0*4294967296:Nat):Int) (a1:Int)=(top:Int):=by rw[htp];exact tQ ha0l ha1l
  rw[<-htp]at hEst;have htop:=hEst.RA;refine aaa λK5 hK5=>aaf (aaa λK6 hK6=>?_)
  refine aav mixed (by kernel_rfl) rfl rfl ?_;simp[f1,f2,l0,l1,f4,f5,f9,f10,IntKind.bits,-Int.natCast_add,-Int.natCast_mul]
  repeat refine ah ?_
  apply hK6;have htop64:top<18446744073709551616:=by omega
  have f11:Int.tdiv (top:Int) v1=((top/v1:Nat):Int):=by rw[ab4 (aaU top),<-Int.natCast_ediv]
  have f12:Int.tmod (top:Int) v1=((top%v1:Nat):Int):=by rw[ab5 (aaU top),<-Int.natCast_emod]
  have hdm:=ab3 top v1;have hml:top%v1<v1:=Zz _ (by omega);have hq0:val 4294967296 (x::r)/val 4294967296 dV*val 4294967296 dV<=val 4294967296 (x::r):=abL _ _;have hVp:0<val 4294967296 dV:=hEst.V0
  have hq1:val 4294967296 (x::r)<(val 4294967296 (x::r)/val 4294967296 dV+1)*val 4294967296 dV:=by
   rw[Zk];exact Nat.lt_mul_div_succ _ hVp
  have hqB:val 4294967296 (x::r)/val 4294967296 dV<4294967296:=by rw[abb hVp];exact hWV
  have hqf:=hEst.first hq0
  have hg0:top/v1<=4294967297:=by
   apply Nat.lt_succ_iff.1;rw[abb (by omega)];omega
  obtain⟨qt,hqt⟩:∃qt,qt=val 4294967296 (x::r)/val 4294967296 dV:=⟨_,rfl⟩
  rw[<-hqt]at hq0 hq1 hqB hqf;obtain⟨g0,hg0'⟩:∃g,g=top/v1:=⟨_,rfl⟩
  obtain⟨o0,ho0'⟩:∃o,o=top%v1:=⟨_,rfl⟩
  rw[<-hg0']at f11 hdm hqf hg0;rw[<-ho0']at f12 hdm hml;have f13:=dH (n:=(g0:Int)) (by omega) (by omega);have hv10:¬v1=0:=by omega
  have f14:i64.wrap (((dO b).length:Int)-1)=(((dO b).length-1:Nat):Int):=e1;refine aaa λK6 hK6=>?_;refine aav mixed (by kernel_rfl) rfl rfl ?_;simp[f14,gv1,f7,f11,f12,f13,hv10];apply hK6
  have close:∀(fr:Nat->AV) (κ:Nat),fr 4=.c (.aD 1 0 m 1)->fr 6=.c (.d (.int .i64 (dO b).length))->fr 9=.c (.d (.int .i64 s))->fr 10=nK .u32 (some dV)->fr 11=.c (.aD 0 0 ((dO a).length+1) 1)->fr 12=.c (.d (.int .i64 j)) ->
   K5 ⟨fr,az (az (λ_=>.hole) 0 (.cells true false 322 (wK .u32 (lo'++(gq 4294967296 (dO b).length (val 4294967296 (x::r)%val 4294967296 dV)++List.replicate (m-j) 0))))) 1 (.cells true false 322 (wK .u32 (List.replicate j 0++(qt::qs))))⟩ κ:=by
   intro fr κ q4 q6 q9 q10 q11 q12;apply hK5;have g1:=bF (n:=(j:Int)-1) (by omega) (by omega);refine aac ?_;simp[q12,g1];have hml2:val 4294967296 (x::r)%val 4294967296 dV<val 4294967296 dV:=Zz _ hVp;have hVn:val 4294967296 dV<4294967296^(dO b).length:=by rw[vV];exact hV1
   refine⟨j,lo',gq 4294967296 (dO b).length (val 4294967296 (x::r)%val 4294967296 dV),qt::qs,Le.mk' _ (by simp) (by simp) (by simp[q4,q6,q9,q10,q11]),⟨by omega,hlo,oY _ _ _,oklo,sQ (by decide) _ _,by simp only[ZA];omega,bJ.2 ⟨hqB,i7⟩,?_,?_⟩,by omega⟩
   ·simp only[mE];rw[ZI (Nat.lt_trans hml2 hVn)];exact hml2
   ·simp only[mE];rw[bT 4294967296 qt qs,ZI (Nat.lt_trans hml2 hVn),<-i9,ju,hlo,Zl];have hdm2:=Nat.mod_add_div (val 4294967296 (x::r)) (val 4294967296 dV);rw[<-hqt]at hdm2
    have h1:val 4294967296 (x::r)%val 4294967296 dV+val 4294967296 dV*(qt+4294967296*val 4294967296 qs)=x+4294967296*(val 4294967296 r+val 4294967296 dV*val 4294967296 qs):=by
     rw[Zc,<-aaH,hdm2,hWv,Zc,Nat.mul_left_comm,aaH]
    rw[h1,bT,tH,Z7,ZO,Zc,Zn,aaH]
  refine aaa λK6 hK6=>aaf ?_
  have fin:∀(g:Nat) (fr:Nat->AV) (κ:Nat),g<4294967296->qt<=g->g<=qt+1->fr 4=.c (.aD 1 0 m 1)->fr 6=.c (.d (.int .i64 (dO b).length))->fr 9=.c (.d (.int .i64 s))->fr 10=nK .u32 (some dV)->fr 11=.c (.aD 0 0 ((dO a).length+1) 1)->fr 12=.c (.d (.int .i64 j))->fr 14=.c (.d (.int .u64 g)) ->
   K6 ⟨fr,az (az (λ_=>.hole) 0 (.cells true false 322 (wK .u32 BL))) 1 (.cells true false 322 (wK .u32 (List.replicate (j+1) 0++qs)))⟩ κ:=by
   intro g fr κ hg1 hg2 hg3 q4 q6 q9 q10 q11 q12 q14;apply hK6;refine aaz 2 ?_;have hVn:val 4294967296 dV<4294967296^(dO b).length:=by rw[vV];exact hV1
   have hmlt:val 4294967296 (x::r)%val 4294967296 dV<4294967296^(dO b).length:=Nat.lt_trans (Zz _ hVp) hVn;have hsn:gq 4294967296 ((dO b).length+1) (val 4294967296 (x::r)%val 4294967296 dV)=gq 4294967296 (dO b).length (val 4294967296 (x::r)%val 4294967296 dV)++[0]:=xZ hmlt;have hmj1:m-j=(m-(j+1))+1:=by rw[Nat.sub_succ];exact(Nat.succ_pred_eq_of_pos (Nat.sub_pos_of_lt i1)).symm
   have hmj:List.replicate (m-j) (0:Nat)=0::List.replicate (m-(j+1)) 0:=by
    rw[hmj1];exact abP
   have hmodq:val 4294967296 (x::r)%val 4294967296 dV=val 4294967296 (x::r)-qt*val 4294967296 dV:=by
    rw[hqt,Zk];exact Nat.mod_def _ _
   have hLq:List.replicate (j+1) (0:Nat)++qs=List.replicate j 0++(0::qs):=by
    rw[List.replicate_succ',Zo];rfl
   refine aaa λK7 hK7=>aam q14 ?_
   by_cases hgz:g=0
   ·refine aag (by simp[hgz]<;>omega) (aan ?_);simp;have hqz:qt=0:=by omega
    have e9:gq 4294967296 ((dO b).length+1) (val 4294967296 (x::r))=x::r:=by rw[<-hwl];exact Ph okw
    have e8:val 4294967296 (x::r)%val 4294967296 dV=val 4294967296 (x::r):=by rw[hmodq,hqz];simp
    have e6:gq 4294967296 (dO b).length (val 4294967296 (x::r)%val 4294967296 dV)++[0]=x::r:=by rw[<-hsn,e8,e9]
    have e5:∀(A B:List Nat),A++(0::B)=(A++[0])++B:=λA B=>by simp
    have e7:lo'++(gq 4294967296 (dO b).length (val 4294967296 (x::r)%val 4294967296 dV)++List.replicate (m-j) 0)=BL:=by
     rw[hmj,e5,e6,<-hBL',Zo]
    have hcl:∀(fr':Nat->AV) (κ':Nat),fr' 4=.c (.aD 1 0 m 1)->fr' 6=.c (.d (.int .i64 (dO b).length))->fr' 9=.c (.d (.int .i64 s))->fr' 10=nK .u32 (some dV)->fr' 11=.c (.aD 0 0 ((dO a).length+1) 1)->fr' 12=.c (.d (.int .i64 j)) ->
     K5 ⟨fr',az (az (λ_=>.hole) 0 (.cells true false 322 (wK .u32 BL))) 1 (.cells true false 322 (wK .u32 (List.replicate (j+1) 0++qs)))⟩ κ':=by
     intro fr' κ' z1 z2 z3 z4 z5 z6;have hcl:=close fr' κ' z1 z2 z3 z4 z5 z6;rwa[e7,hqz,<-hLq]at hcl
    exact hcl _ _ (by simp[q4]) (by simp[q6]) (by simp[q9]) (by simp[q10]) (by simp[q11]) (by simp[q12])
   ·refine aaj (by simp[hgz]<;>omega) (aad (hK7 _ _ (aaa λK7 hK7=>aaa λK8 hK8=>?_)))
    have store:∀(fr':Nat->AV) (κ':Nat),fr' 4=.c (.aD 1 0 m 1)->fr' 6=.c (.d (.int .i64 (dO b).length))->fr' 9=.c (.d (.int .i64 s))->fr' 10=nK .u32 (some dV)->fr' 11=.c (.aD 0 0 ((dO a).length+1) 1)->fr' 12=.c (.d (.int .i64 j))->fr' 14=.c (.d (.int .u64 qt)) ->
     K7 ⟨fr',az (az (λ_=>.hole) 0 (.cells true false 322 (wK .u32 (lo'++(gq 4294967296 ((dO b).length+1) (val 4294967296 (x::r)%val 4294967296 dV)++List.replicate (m-(j+1)) 0))))) 1 (.cells true false 322 (wK .u32 (List.replicate (j+1) 0++qs)))⟩ κ':=by
     intro fr' κ' z1 z2 z3 z4 z5 z6 z7;apply hK7;have y1:u32.wrap (qt:Int)=(qt:Int):=uH (by omega) (by omega)
     have y2:aj (wK .u32 (List.replicate (j+1) 0++qs)) j [CV.d (.int .u32 (qt:Int))]=wK .u32 (List.replicate j 0++(qt::qs)):=by
      rw[fS _ (by simp;omega),pJ]
     have y3:lo'++(gq 4294967296 (dO b).length (val 4294967296 (x::r)%val 4294967296 dV)++List.replicate (m-j) 0)=lo'++(gq 4294967296 ((dO b).length+1) (val 4294967296 (x::r)%val 4294967296 dV)++List.replicate (m-(j+1)) 0):=by
      rw[hmj,hsn];simp only[Zo,abF,aaS]
     refine aac ?_;simp[z1,z6,z7,y1,y2,-bT,-List.append_assoc];refine⟨by omega,?_⟩;have hcl:=close (κ:=κ'+1) (fr:=az (az (az (az (az fr' 156 (.c (.aD 1 0 m 1))) 157 (.c (.d (.int .i64 j)))) 158 (.c (.d (.int .u64 qt)))) 159 (.c (.d (.int .u32 qt)))) 160 (.c (.ptr 1 j))) (by simp[z1]) (by simp[z2]) (by simp[z3]) (by simp[z4]) (by simp[z5]) (by simp[z6]);rwa[y3]at hcl
    have hwin:(x::r).length=(dO (some dV)).length+1:=by rw[hwl];simp[lV]
    have hT:=λ(G:List (List DV))=>Ac G lo' (x::r) (List.replicate (m-(j+1)) 0) ((dO a).length+1-j) g (some dV) hwin (by rw[hwl];omega) okw hg1 (by rw[hBL',hBLl];omega)
    simp only[hBL',hlo,hwl,aX]at hT
    have hWB:val 4294967296 (x::r)<4294967296^((dO b).length+1):=by
     have:=fu okw;rwa[hwl]at this
    by_cases too:val 4294967296 (x::r)<g*val 4294967296 dV
    ·have hb1:qq (val 4294967296 (x::r)) (g*val 4294967296 dV)=1:=by unfold qq;rw[if_pos too]
     have hgq:g=qt+1:=by
      rcases abe qt g with hc|hc
      ·exact Nat.le_antisymm hg3 hc
      ·exact absurd too (Nat.not_lt.2 (Zf (Zq _ hc) hq0))
     simp only[hb1,Z0,eq_self,decide_true]at hT;obtain⟨R,hR⟩:∃R,R=gq 4294967296 ((dO b).length+1) (val 4294967296 (x::r)+4294967296^((dO b).length+1)-g*val 4294967296 dV):=⟨_,rfl⟩
     simp only[<-hR]at hT;have hRl:R.length=(dO b).length+1:=by rw[hR,oY]
     have hRo:ok 4294967296 R:=by rw[hR];exact sQ (by decide) _ _
     have hgV:g*val 4294967296 dV=qt*val 4294967296 dV+val 4294967296 dV:=by rw[hgq,Zh,ZT]
     have hRv:val 4294967296 R+val 4294967296 dV=4294967296^((dO b).length+1)+val 4294967296 (x::r)%val 4294967296 dV:=by
      rw[hR,mE,hmodq]
      have hVE:val 4294967296 dV<=4294967296^((dO b).length+1):=by
       rw[Zl];exact Zf (aaX hVn) (acr _ (by decide))
      have key:∀(W E gv qv V:Nat),W<gv->gv=qv+V->qv<=W->V<=E->W+E-gv<E/\(W+E-gv)+V=E+(W-qv):=by intros;omega
      obtain⟨k1,k2⟩:=key _ _ _ _ _ too hgV hq0 hVE;rw[ZI k1];exact k2
     have hRd:gq 4294967296 ((dO b).length+1) (val 4294967296 R+val 4294967296 dV)=gq 4294967296 ((dO b).length+1) (val 4294967296 (x::r)%val 4294967296 dV):=by
      rw[hRv,Ja (by decide)]
     have hwin':R.length=(dO (some dV)).length+1:=by rw[hRl];simp[lV]
     have hll:(lo'++R++List.replicate (m-(j+1)) 0).length<=1000000000000:=by
      simp only[Zg,aaY,hlo,hRl];omega
     have hGv:=λ(G:List (List DV))=>Ag G lo' R (List.replicate (m-(j+1)) 0) ((dO a).length+1-j) (some dV) hwin' (by rw[hRl];omega) hRo hll
     simp only[hlo,hRl,aX,hRd,Zo]at hGv;simp only[Zo]at hT;refine aac ?_;simp[q11,q12,q10,q14,-bT];refine⟨by omega,?_⟩
     refine gB.LX 3 9 0 (by simp;rfl) (pY _ _) (pY _ _) (hT _) rfl rfl (by
      intro i h h'
      match i,h with
      |0,_=>exact .inr (.inl ⟨_,_,_,rfl,rfl⟩)
      |1,_=>exact .inl ⟨by simp,rfl⟩
      |2,_=>exact .inl ⟨rfl,rfl⟩) (by simp) (by decide) ?_
     simp[-bT,BM];apply hK8;refine aai (aaa λK8 hK8=>?_);have y5:u64.wrap ((g:Int)-1)=(qt:Int):=by rw[dH (by omega) (by omega)];omega
     refine aac ?_;simp[q14,y5,-bT];apply hK8;refine aac ?_;simp[q11,q12,q10,-bT];refine⟨by omega,?_⟩
     refine gB.LX 4 9 0 (own:=true) (T:=322) (cs:=wK .u32 (lo'++(R++List.replicate (m-(j+1)) 0))) (by simp) (pY _ _) (pY _ _) (hGv _) rfl rfl (by
      intro i h h'
      match i,h with
      |0,_=>exact .inr (.inl ⟨_,_,_,rfl,rfl⟩)
      |1,_=>exact .inl ⟨by simp,rfl⟩) (by simp) (by decide) ?_
     simp[-bT,BM];exact store _ _ (by simp[q4]) (by simp[q6]) (by simp[q9]) (by simp[q10]) (by simp[q11]) (by simp[q12]) (by simp)
    ·have hb1:qq (val 4294967296 (x::r)) (g*val 4294967296 dV)=0:=by unfold qq;rw[if_neg too]
     have hgq:g=qt:=by
      rcases abe qt g with hc|hc
      ·have:(qt+1)*val 4294967296 dV<=g*val 4294967296 dV:=Zq _ hc;omega
      ·exact Nat.le_antisymm hc hg2
     have hWm:val 4294967296 (x::r)+4294967296^((dO b).length+1)*0-g*val 4294967296 dV=val 4294967296 (x::r)%val 4294967296 dV:=by
      rw[hmodq,hgq,Z7,ZO]
     simp only[hb1,hWm,Nat.zero_ne_one,decide_false,Zo]at hT;refine aac ?_;simp[q11,q12,q10,q14,-bT];refine⟨by omega,?_⟩
     refine gB.LX 3 9 0 (by simp;rfl) (pY _ _) (pY _ _) (hT _) rfl rfl (by
      intro i h h'
      match i,h with
      |0,_=>exact .inr (.inl ⟨_,_,_,rfl,rfl⟩)
      |1,_=>exact .inl ⟨by simp,rfl⟩
      |2,_=>exact .inl ⟨rfl,rfl⟩) (by simp) (by decide) ?_
     simp[-bT,BM];apply hK8;refine aah (aad ?_);simp[-bT];exact store _ _ (by simp[q4]) (by simp[q6]) (by simp[q9]) (by simp[q10]) (by simp[q11]) (by simp[q12]) (by simp[q14,hgq])
  refine aao (λ(p:Nat×Nat)=>⟨aU [(4,.c (.aD 1 0 m 1)),(6,.c (.d (.int .i64 (dO b).length))),(9,.c (.d (.int .i64 s))),(10,nK .u32 (some dV)),(11,.c (.aD 0 0 ((dO a).length+1) 1)),(12,.c (.d (.int .i64 j))),(14,.c (.d (.int .u64 p.1))),(15,.c (.d (.int .u64 p.2)))],
   az (az (λ_=>.hole) 0 (.cells true false 322 (wK .u32 BL))) 1 (.cells true false 322 (wK .u32 (List.replicate (j+1) 0++qs)))⟩) 2
   (λp=>p.1*v1+p.2=top/\qt<=p.1/\p.1<=4294967297/\p.2<4294967296) (λp=>p.1) (g0,o0) (Le.mk' _ rfl (by simp) (by simp)) ⟨by rw[Zk];exact hdm,hqf,hg0,by omega⟩ ?_
  rintro⟨g,o⟩ ⟨w1,w2,w3,w4⟩;simp only at w1 w2 w3 w4;refine aaa λK7 hK7=>aaa λK8 hK8=>?_
  have dec:∀(fr:Nat->AV) (κ:Nat),qt<g->fr 4=.c (.aD 1 0 m 1)->fr 6=.c (.d (.int .i64 (dO b).length))->fr 9=.c (.d (.int .i64 s))->fr 10=nK .u32 (some dV)->fr 11=.c (.aD 0 0 ((dO a).length+1) 1)->fr 12=.c (.d (.int .i64 j))->fr 14=.c (.d (.int .u64 g))->fr 15=.c (.d (.int .u64 o)) ->
   K7 ⟨fr,az (az (λ_=>.hole) 0 (.cells true false 322 (wK .u32 BL))) 1 (.cells true false 322 (wK .u32 (List.replicate (j+1) 0++qs)))⟩ κ:=by
   intro fr κ hg q4 q6 q9 q10 q11 q12 q14 q15;apply hK7;refine aaz 2 ?_;refine aaf ?_;have g1:u64.wrap ((g:Int)-1)=((g-1:Nat):Int):=by rw[dH (by omega) (by omega)];omega
   have g2:u64.wrap ((o:Int)+v1)=((o+v1:Nat):Int):=by rw[dH (by omega) (by omega)];omega
   refine aap q14 g1 ?_;refine aak λK9 hK9=>?_;simp[q15,q10,q6,f14,gv1,f7,g2,-Int.natCast_add];apply hK9;refine aaa λK9 hK9=>?_
   have w1':(g-1)*v1+(o+v1)=top:=by
    rw[<-w1];obtain⟨g',rfl⟩:∃g',g=g'+1:=⟨g-1,by omega⟩
    rw[ab6,Zh,ZT];omega
   by_cases ho:o+v1<4294967296
   ·have g3:Int.fdiv ((o+v1:Nat):Int) 4294967296=0:=by rw[ZM _ (by omega)];omega
    refine aac ?_;simp[IntKind.bits,g3,-Int.natCast_add];apply hK9;refine aah (aad ?_);simp;refine⟨g-1,o+v1,Le.mk' _ rfl (by simp) (by simp[q4,q6,q9,q10,q11,q12]),⟨w1',by omega,by omega,ho⟩,by omega⟩
   ·have g3:Int.fdiv ((o+v1:Nat):Int) 4294967296=1:=by rw[ZM _ (by omega)];omega
    refine aac ?_;simp[IntKind.bits,g3,-Int.natCast_add];apply hK9;refine aai (aan ?_);simp
    have hgB:g-1<4294967296:=by
     apply ZG;intro hc;have:4294967296*v1<=(g-1)*v1:=Zq _ (by omega);rw[Zc]at htop;omega
    have hnear:=hEst.near hq1 w1' hgB (by
     have h1:(g-1)*v2<=4294967296*4294967296:=aa6 (by omega) (by omega);have h2:4294967296*4294967296<=(o+v1)*4294967296:=Zq _ (by omega);omega)
    exact fin (g-1) _ _ hgB (by omega) hnear (by simp[q4]) (by simp[q6]) (by simp[q9]) (by simp[q10]) (by simp[q11]) (by simp[q12]) (by simp)
  by_cases hgB:4294967296<=g
  ·have g1:Int.fdiv (g:Int) 4294967296=1:=by rw[ZM _ (by omega)];omega
   refine aav mixed (by kernel_rfl) rfl rfl ?_;simp[IntKind.bits,g1];apply hK8;refine aai (aad ?_);simp;exact dec _ _ (by omega) (by simp) (by simp) (by simp) (by simp) (by simp) (by simp) (by simp) (by simp)
  ·have g1:Int.fdiv (g:Int) 4294967296=0:=by rw[ZM _ (by omega)];omega
   have hgv:g*v2<=4294967295*4294967295:=aa6 (by omega) (by omega)
   have g2:u64.wrap ((g:Int)*v2)=((g*v2:Nat):Int):=by
    rw[<-Int.natCast_mul];generalize g*v2=p at hgv;exact dH (by omega) (by omega)
   have g3:u64.wrap ((o:Int)*4294967296)=((o*4294967296:Nat):Int):=by rw[dH (by omega) (by omega)];omega
   have g4:=tQ w4 ha2l;have g5:i64.wrap (((dO b).length:Int)-2)=(((dO b).length-2:Nat):Int):=by rw[bF (by omega) (by omega)];omega
   have hgo:∀{P Q:Nat},((P:Nat):Int)<((Q:Nat):Int)↔P<Q:=by intro P Q;omega
   refine aav mixed (by kernel_rfl) rfl rfl ?_;simp[IntKind.bits,g1,g5,gv2,f8,g2,g3,f1,f3,l2,f6,g4,-Int.natCast_add,-Int.natCast_mul]
   repeat refine ah ?_
   apply hK8
   by_cases ht:o*4294967296+a2<g*v2
   ·refine aag (by simp[ht]<;>omega) (aad ?_);simp;exact dec _ _ (hEst.over hq0 w1 ht) (by simp) (by simp) (by simp) (by simp) (by simp) (by simp) (by simp) (by simp)
   ·refine aaj (by simp[ht]<;>omega) (aan ?_);simp;exact fin g _ _ (by omega) w2 (hEst.near hq1 w1 (by omega) (by omega)) (by simp) (by simp) (by simp) (by simp) (by simp) (by simp) (by simp)
def wP(a b:Option (List Nat)):Option (List Nat):=if val 4294967296 (dO a)<val 4294967296 (dO b)then none else some (aK 4294967296 (val 4294967296 (dO a)/val 4294967296 (dO b)))
def l6(a b:Option (List Nat)):Option (List Nat):=
 if val 4294967296 (dO a)<val 4294967296 (dO b)then a
 else if (dO b).length=1 then some (aK 4294967296 (val 4294967296 (dO a)%val 4294967296 (dO b)))
 else if val 4294967296 (dO a)%val 4294967296 (dO b)=0 then none else some (aK 4294967296 (val 4294967296 (dO a)%val 4294967296 (dO b)))
def RD:dO (wP a b)=aK 4294967296 (val 4294967296 (dO a)/val 4294967296 (dO b)):=by
 unfold wP;split
 ·rename_i h;rw[abk h];rfl
 ·rfl
def GC(ha:can 4294967296 (dO a)):dO (l6 a b)=aK 4294967296 (val 4294967296 (dO a)%val 4294967296 (dO b)):=by
 unfold l6;split
 ·rename_i h;rw[ZI h];exact ig (by decide) ha rfl
 ·split
  ·rfl
  ·split
   ·rename_i h;rw[h];rfl
   ·rfl
def nL(G:List (List DV))(a b:Option (List Nat))(ha:can 4294967296 (dO a))(hb:can 4294967296 (dO b))(h0:dO b≠[])(hl:(dO a).length<1000000000000):
 aa prog G 278 [nK .u32 a,nK .u32 b] (.tup [nK .u32 (wP a b),nK .u32 (l6 a b)]):=by
 by_cases h:val 4294967296 (dO a)<val 4294967296 (dO b)
 ·have:=I4 G a b ha hb h;simpa only[wP,l6,if_pos h]using this
 ·by_cases hn:(dO b).length=1
  ·have:=Jx G a b ha hb (abo h) hn (aaX hl);simpa only[wP,l6,if_neg h,if_pos hn]using this
  ·have h1:0<(dO b).length:=List.length_pos_iff.2 h0;have:=MP a b ha hb (abo h) (by omega) hl G;simp only[wP,l6,if_neg h,if_neg hn];split
   ·rename_i hz;rwa[if_pos hz]at this
   ·rename_i hz;rwa[if_neg hz]at this
def jw(a b:Option (List Nat)):Nat->Option (List Nat)
 |0=>a
 |n+1=>if dO b=[]then a else jw b (l6 a b) n
def zz(h:dO b=[])(n:Nat):jw a b n=a:=by
 cases n<;>simp[jw,h]
def uv(o o':Option (List Nat)):(AV.tup [nK .u32 o,nK .u32 o']).pure=true:=by
 cases o<;>cases o'<;>rfl
def c9{m:Nat}(hB:2<=B)(h:m<=n):(aK B m).length<=(aK B n).length:=
 cN hB (aaT h (qM hB))
theorem qc:∀(n:Nat) (a b:Option (List Nat)),can 4294967296 (dO a)->can 4294967296 (dO b)->val 4294967296 (dO b)<=n->jw a b n=jw a b (val 4294967296 (dO b))/\dO (jw a b n)=aK 4294967296 (Nat.gcd (val 4294967296 (dO a)) (val 4294967296 (dO b)))
 |0,a,b,ha,hb,h=>by
  have h0:val 4294967296 (dO b)=0:=by omega
  rw[h0];exact⟨rfl,by rw[Nat.gcd_zero_right];exact ig (by decide) ha rfl⟩
 |n+1,a,b,ha,hb,h=>by
  by_cases he:dO b=[]
  ·rw[zz he,zz he];refine⟨rfl,?_⟩;rw[he];simp only[tH,Nat.gcd_zero_right];exact ig (by decide) ha rfl
  ·have hv0:0<val 4294967296 (dO b):=iF hb he;have hR:=GC (b:=b) ha;have hRc:can 4294967296 (dO (l6 a b)):=by rw[hR];exact bw (by decide) _
   have hlt:val 4294967296 (dO (l6 a b))<val 4294967296 (dO b):=by rw[hR,bt (by decide)];exact Zz _ hv0
   obtain⟨k,hk⟩:∃k,val 4294967296 (dO b)=k+1:=⟨val 4294967296 (dO b)-1,by omega⟩
   have r1:=qc n b (l6 a b) hb hRc (by omega);have r2:=qc k b (l6 a b) hb hRc (by omega);have e1:jw a b (n+1)=jw b (l6 a b) n:=by simp only[jw,if_neg he]
   have e2:jw a b (val 4294967296 (dO b))=jw b (l6 a b) k:=by rw[hk];simp only[jw,if_neg he]
   refine⟨by rw[e1,e2,r1.1,r2.1],?_⟩;rw[e1,r1.2,hR,bt (by decide),aby (val 4294967296 (dO b)),<-Nat.gcd_rec,aby]
 termination_by n a b=>val 4294967296 (dO b)
theorem I6(ha:can 4294967296 (dO a))(hb:can 4294967296 (dO b))(he:dO b≠[]):jw b (l6 a b) (val 4294967296 (dO (l6 a b)))=jw a b (val 4294967296 (dO b)):=by
 have hv0:0<val 4294967296 (dO b):=iF hb he;have hR:=GC (b:=b) ha;have hRc:can 4294967296 (dO (l6 a b)):=by rw[hR];exact bw (by decide) _
 have hlt:val 4294967296 (dO (l6 a b))<val 4294967296 (dO b):=by rw[hR,bt (by decide)];exact Zz _ hv0
 obtain⟨k,hk⟩:∃k,val 4294967296 (dO b)=k+1:=⟨val 4294967296 (dO b)-1,by omega⟩
 have e2:jw a b (val 4294967296 (dO b))=jw b (l6 a b) k:=by rw[hk];simp only[jw,if_neg he]
 rw[e2,(qc k b (l6 a b) hb hRc (by omega)).1]
def yd(ha:can 4294967296 (dO a))(hb:can 4294967296 (dO b)):dO (jw a b (val 4294967296 (dO b)))=aK 4294967296 (Nat.gcd (val 4294967296 (dO a)) (val 4294967296 (dO b))):=
 (qc _ a b ha hb (aY _)).2
theorem tn(G:List (List DV))(a b:Option (List Nat))(ha:can 4294967296 (dO a))(hb:can 4294967296 (dO b))(hl:(dO a).length<1000000000000)(hl':(dO b).length<1000000000000):
 aa prog G 229 [nK .u32 a,nK .u32 b] (nK .u32 (jw a b (val 4294967296 (dO b)))):=by
 refine aa.en func229 rfl λ_=>aab ?_;refine aaa λK hK=>aaf ?_
 refine aao (λ(p:Option (List Nat)×Option (List Nat))=>⟨aU [(0,nK .u32 p.1),(1,nK .u32 p.2)],λ_=>.hole⟩) 0
  (λp=>can 4294967296 (dO p.1)/\can 4294967296 (dO p.2)/\(dO p.1).length<1000000000000/\(dO p.2).length<1000000000000/\jw p.1 p.2 (val 4294967296 (dO p.2))=jw a b (val 4294967296 (dO b)))
  (λp=>val 4294967296 (dO p.2)) (a,b) (Le.mk' _ rfl (by intro k own es h;cases h) (by simp)) ⟨ha,hb,hl,hl',rfl⟩ ?_
 rintro⟨x,y⟩ ⟨i1,i2,i3,i4,i5⟩;simp only at i1 i2 i3 i4 i5;refine aaa λK3 hK3=>aab ?_
 by_cases hy:dO y=[]
 ·have hy':¬(0:Int)<((dO y).length:Int):=by rw[hy];simp
  refine aaj (by simp[hy']<;>omega) (aan (hK _ _ ?_));rw[zz hy]at i5;refine aab ?_;exact aae (au.rt rfl 4 (by simp[i5]))
 ·have hy1:0<(dO y).length:=List.length_pos_iff.2 hy;have hy':(0:Int)<((dO y).length:Int):=by omega
  refine aag (by simp[hy']<;>omega) (aad (hK3 _ _ (aaf (aak λK5 hK5=>?_))));simp;refine ag.pure 0 0 (nL _ _ _ i1 i2 hy i3) (uv _ _) (by simp) rfl ?_;simp;apply hK5;refine aac ?_;simp;have hv0:0<val 4294967296 (dO y):=iF i2 hy;have hR:=GC (b:=y) i1;have hlt:val 4294967296 (dO (l6 x y))<val 4294967296 (dO y):=by rw[hR,bt (by decide)];exact Zz _ hv0
  refine⟨y,l6 x y,Le.mk' _ rfl (by intro k own es h;cases h) (by simp),⟨i2,by rw[hR];exact bw (by decide) _,i4,?_,?_⟩,hlt⟩
  ·rw[hR];refine aaT (c9 (by decide) (aaX (Zz _ hv0))) ?_;rw[<-ig (by decide) i2 rfl];exact i4
  ·rw[I6 i1 i2 hy];exact i5
noncomputable def ym:Code:=match Tryz.f226.body with|some (.seq _ (.seq _ (.seq (.seq _ (.block _ (.rangeFunc _ _ _ b))) _)))=>b|_=>.skip
noncomputable def Bk:Code:=match Tryz.f226.body with|some (.seq _ (.seq _ (.seq (.seq _ (.block _ (.rangeFunc _ _ b _))) _)))=>b|_=>.skip
def kG(u:List UInt8)(d:DV):Key->LB:=az (az (λ_=>.hole) 0 (.cells false false 9 [.d (.str u)])) 1 (.cells false false 222 [.d d])
def Kr(u:List UInt8)(d:DV):∀k,kG u d k=.hole\/∃T cs,kG u d k=.cells false false T cs:=by
 intro k;unfold kG az
 by_cases h1:k=1
 ·simp[h1]
 ·by_cases h0:k=0<;>simp[h0,h1]
theorem PJ(u:List UInt8)(d d':DV):az (kG u d) 1 (.cells false false 222 [.d d'])=kG u d':=by
 funext k;unfold kG az
 by_cases h1:k=1<;>simp[h1]
def JO(G:List (List DV))(v sz:Nat)(hv:v<4294967296)(hz:sz<4294967296)(o:Option (List Nat))(dv:DV)(hdv:(.c (.d dv):AV)=nK .u32 o)(hl:(dO o).length<=100000000000)(L:Nat)(hL:L<=100000000000)(hval:val 4294967296 (dO o)<4294967296^L)(u:List UInt8)(r:Option Nat)(fr:Nat->AV)
 (f3:fr 3=.c (.ptr 1 0)) (f4:fr 4=.c (.d (.int .u32 v))) (f5:fr 5=.c (.d (.int .u32 sz))) :
 ∀c:Ctx,c.P=prog->c.G=G->c.n=20->AW c r ym ⟨fr,kG u dv⟩ 0 (λx s _=>x=.normal/\s.lv=kG u (.sl (dK .u32 (aK 4294967296 (val 4294967296 (dO o)*sz+v))))):=by
 rintro⟨_,Gc,w0,F0,W0,_,iV,β0⟩ rfl hG rfl;have hG:Gc=G:=hG;subst hG;have g1:kG u dv 1=.cells false false 222 [.d dv]:=by simp[kG]
 have g5:kG u dv 5=.hole:=by simp[kG,az]
 have w1:u64.wrap (sz:Int)=sz:=dH (by omega) (by omega);have w2:u64.wrap (v:Int)=v:=dH (by omega) (by omega);have hp:(AV.c (.d dv)).pure=true:=by rw[hdv];cases o<;>rfl
 have b1:(aK 4294967296 sz).length<=1:=cN (by decide) (by omega);have b2:(aK 4294967296 v).length<=1:=cN (by decide) (by omega)
 have b3:(aK 4294967296 (val 4294967296 (dO o)*sz)).length<=L+1:=cN (by decide) (by
  rw[Zl];exact aaT (ZD _ (aaX hz)) (acB hval (by decide)))
 have m1:aa prog Gc 238 [.c (.d dv),nK .u32 (some (aK 4294967296 sz))] (nK .u32 (some (aK 4294967296 (val 4294967296 (dO o)*sz)))):=by
  have:=gJ Gc o (some (aK 4294967296 sz)) (by omega) (by simp;omega);rw[<-hdv]at this;simpa[bt]using this
 have m2:aa prog Gc 280 [nK .u32 (some (aK 4294967296 (val 4294967296 (dO o)*sz))),nK .u32 (some (aK 4294967296 v))] (nK .u32 (some (aK 4294967296 (val 4294967296 (dO o)*sz+v)))):=by
  have:=td Gc (some (aK 4294967296 (val 4294967296 (dO o)*sz))) (some (aK 4294967296 v)) (by simp;omega) (by simp;omega);simpa[bt]using this
 refine aaf ?_;refine aaq mixed (by kernel_rfl) rfl ?_;simp[f3,f4,f5,g1,w1,w2];refine ag.pure 0 5 (gu _ sz (by omega)) (by simp) (by simp) g5 ?_;simp;refine ag.pure 0 5 m1 (by simp) (by simp[hp]) g5 ?_;simp[f4,w2];refine ag.pure 0 5 (gu _ v (by omega)) (by simp) (by simp) g5 ?_;simp;refine ag.pure 0 5 m2 (by simp) (by simp) g5 ?_;generalize aK 4294967296 (val 4294967296 (dO o)*sz+v)=ds at*
 have e1:nK .u32 (some ds)=.c (.d (.sl (dK .u32 ds))):=rfl;simp[f3,g1,e1,aj];refine⟨by kernel_rfl,?_⟩;exact PJ u dv (.sl (dK .u32 ds))
end Go.Am
namespace Go.Proofs
open Go.Shelf
def Tryz.Dx:Go.Shelf.Ren:=⟨λ|217=>255|266=>301|n=>n,λ|9=>9|5=>5|3=>3|n=>n,λ|n=>n⟩
def Tryz.OK:Go.Proofs.Lays.n217 prog Tryz.Dx:={
 mixed:=by kernel_rfl
 f217:=func255.trans (congrArg some (by kernel_rfl))
 f266:=func301.trans (congrArg some (by kernel_rfl))
 t3:=Tryz.underlying3
 a3:=Tryz.isAgg3
 z3:=Tryz.sizeOf3
 v3:=Tryz.zeroValue3
 t5:=Tryz.underlying5
 a5:=Tryz.isAgg5
 z5:=Tryz.sizeOf5
 v5:=Tryz.zeroValue5
 t9:=Tryz.underlying9
 a9:=Tryz.isAgg9
 z9:=Tryz.sizeOf9
 v9:=Tryz.zeroValue9 }
def Tryz.EP:Go.Shelf.Ren:=⟨λ|219=>253|217=>255|225=>298|224=>299|267=>300|266=>301|314=>341|n=>n,λ|9=>9|3=>3|4=>4|5=>5|46=>324|146=>371|51=>322|n=>n,λ|1=>4|n=>n⟩
def Tryz.Px:Go.Proofs.Lays.n219 prog Tryz.EP:={
 mixed:=by kernel_rfl
 f217:=func255.trans (congrArg some (by kernel_rfl))
 f219:=func253.trans (congrArg some (by kernel_rfl))
 f224:=func299.trans (congrArg some (by kernel_rfl))
 f225:=func298.trans (congrArg some (by kernel_rfl))
 f266:=func301.trans (congrArg some (by kernel_rfl))
 f267:=func300.trans (congrArg some (by kernel_rfl))
 f314:=func341.trans (congrArg some (by kernel_rfl))
 t3:=Tryz.underlying3
 a3:=Tryz.isAgg3
 z3:=Tryz.sizeOf3
 v3:=Tryz.zeroValue3
 t4:=Tryz.underlying4
 a4:=Tryz.isAgg4
 z4:=Tryz.sizeOf4
 v4:=Tryz.zeroValue4
 t5:=Tryz.underlying5
 a5:=Tryz.isAgg5
 z5:=Tryz.sizeOf5
 v5:=Tryz.zeroValue5
 t9:=Tryz.underlying9
 a9:=Tryz.isAgg9
 z9:=Tryz.sizeOf9
 v9:=Tryz.zeroValue9
 t46:=Tryz.underlying324
 a46:=Tryz.isAgg324
 z46:=Tryz.sizeOf324
 v46:=Tryz.zeroValue324
 t51:=Tryz.underlying322
 a51:=Tryz.isAgg322
 z51:=Tryz.sizeOf322
 v51:=Tryz.zeroValue322
 t146:=Tryz.underlying371
 a146:=Tryz.isAgg371
 z146:=Tryz.sizeOf371
 v146:=Tryz.zeroValue371
 g1:=by kernel_rfl }
def Tryz.Dj:Go.Shelf.Ren:=⟨λ|138=>175|195=>250|218=>252|143=>176|219=>253|217=>255|225=>298|224=>299|267=>300|266=>301|314=>341|n=>n,λ|9=>9|3=>3|4=>4|5=>5|0=>0|46=>324|146=>371|51=>322|n=>n,λ|1=>4|n=>n⟩
def Tryz.Pe:Go.Proofs.Lays.n138 prog Tryz.Dj:={
 mixed:=by kernel_rfl
 f138:=func175.trans (congrArg some (by kernel_rfl))
 f143:=func176.trans (congrArg some (by kernel_rfl))
 f195:=func250.trans (congrArg some (by kernel_rfl))
 f217:=func255.trans (congrArg some (by kernel_rfl))
 f218:=func252.trans (congrArg some (by kernel_rfl))
 f219:=func253.trans (congrArg some (by kernel_rfl))
 f224:=func299.trans (congrArg some (by kernel_rfl))
 f225:=func298.trans (congrArg some (by kernel_rfl))
 f266:=func301.trans (congrArg some (by kernel_rfl))
 f267:=func300.trans (congrArg some (by kernel_rfl))
 f314:=func341.trans (congrArg some (by kernel_rfl))
 t0:=Tryz.underlying0
 a0:=Tryz.isAgg0
 z0:=Tryz.sizeOf0
 v0:=Tryz.zeroValue0
 t3:=Tryz.underlying3
 a3:=Tryz.isAgg3
 z3:=Tryz.sizeOf3
 v3:=Tryz.zeroValue3
 t4:=Tryz.underlying4
 a4:=Tryz.isAgg4
 z4:=Tryz.sizeOf4
 v4:=Tryz.zeroValue4
 t5:=Tryz.underlying5
 a5:=Tryz.isAgg5
 z5:=Tryz.sizeOf5
 v5:=Tryz.zeroValue5
 t9:=Tryz.underlying9
 a9:=Tryz.isAgg9
 z9:=Tryz.sizeOf9
 v9:=Tryz.zeroValue9
 t46:=Tryz.underlying324
 a46:=Tryz.isAgg324
 z46:=Tryz.sizeOf324
 v46:=Tryz.zeroValue324
 t51:=Tryz.underlying322
 a51:=Tryz.isAgg322
 z51:=Tryz.sizeOf322
 v51:=Tryz.zeroValue322
 t146:=Tryz.underlying371
 a146:=Tryz.isAgg371
 z146:=Tryz.sizeOf371
 v146:=Tryz.zeroValue371
 g1:=by kernel_rfl }
open Go.RowKit Go.Lib in
def Tryz.stringslite_IndexByte(s:ByteArray)(c:Int)(w:World):
 Calls prog 255 #[.string s,.int .u8 c] w λe w'=>e=.returned (.int .i64 (Lib.indexByte s.data.toList c.toNat.toUInt8))/\w'=w:=Any.stringslite_IndexByte Tryz.OK s c w
open Go.RowKit Go.Lib in
def Tryz.stringslite_Index(s sub:ByteArray)(m:Int)(w:World)(hs:s.size<4294967281)(hm:w.cell? ⟨4,0,none⟩=some (.int .i64 m)):
 Calls prog 253 #[.string s,.string sub] w λe w'=>e=.returned (.int .i64 (Lib.index s.data.toList sub.data.toList))/\w'=w:=Any.stringslite_Index Tryz.Px s sub m w hs hm
open Go.RowKit Go.Lib in
def Tryz.strings_Count_one(s:ByteArray)(c:UInt8)(w:World):
 Calls prog 175 #[.string s,.string ⟨#[c]⟩] w λe w'=>e=.returned (.int .i64 (Lib.countByte s.data.toList c))/\w'=w:=Any.strings_Count_one Tryz.Pe s c w
end Go.Proofs
namespace Go.Am
open Go.Proofs Go.Lib
variable {x:AV}{off T n:Nat}{us:List AV}{V:Vw}{P:Program}{G:List (List DV)}{lv:Key->LB}{vs:Array Value}{w:World}
def NN(T off len:Nat):Bool:=(Nat.beq T 140&&(Nat.beq off 0&&Nat.ble 2 len)) ||(Nat.beq T 142&&(Nat.beq off 8&&Nat.ble 10 len))
def HV{len:Nat}(h:NN T off len=true):(T=140/\off=0/\2<=len)\/(T=142/\off=8/\10<=len):=by
 simp only[NN,ZK,cn]at h;rcases h with⟨h1,h2,h3⟩|⟨h1,h2,h3⟩
 ·exact .inl ⟨Zr h1,Zr h2,Zu h3⟩
 ·exact .inr ⟨Zr h1,Zr h2,Zu h3⟩
def Qj:(prog.info? 140).map (·.size)=some 2:=by kernel_rfl
def R5:prog.cellsOf 140=2:=by kernel_rfl
def OX:prog.cellsOf 142=10:=by kernel_rfl
def Rf:∃d,prog.depth=d+1:=⟨prog.depth-1,by kernel_rfl⟩
def XR:rowAt prog (sameLayout prog prog.depth · 140) prog.depth 140 1 0 1=true:=by kernel_rfl
def Tn:rowAt prog (sameLayout prog prog.depth · 140) prog.depth 142 1 8 1=true:=by kernel_rfl
def yt{p:Program}{fits:TypeId->Bool}{d:Nat}{e:TypeId}{c c':Nat}(h:rowAt p fits d e c off n=true)(hc:c<=c'):rowAt p fits d e c' off n=true:=by
 cases d with
 |zero=>simp[rowAt]at h
 |succ d=>
  unfold rowAt at h⊢;simp only at h⊢;split at h
  ·cases h
  ·rename_i h0
   rw[if_neg h0];rw[ZK]at h⊢;rcases h with h|h
   ·left;simp only[cn,decide_eq_true_eq]at h⊢;exact⟨⟨h.1.1,by omega⟩,h.2⟩
   ·right;rw[cn]at h⊢;refine⟨?_,h.2⟩;have:=h.1;simp only[decide_eq_true_eq]at this⊢;omega
def Uy(h:NN T off n=true):liesAt prog prog.depth T (n/prog.cellsOf T) off 140 1=true:=by
 obtain⟨d,hd⟩:=Rf
 have key:∀T off c,rowAt prog (sameLayout prog prog.depth · 140) prog.depth T c off 1=true->liesAt prog prog.depth T c off 140 1=true:=by
  intro T off c h;rw[hd]at h⊢;unfold liesAt;rw[hd,h];simp
 rcases HV h with⟨rfl,rfl,h3⟩|⟨rfl,rfl,h3⟩
 ·rw[R5];exact key _ _ _ (yt XR (by omega))
 ·rw[OX];exact key _ _ _ (yt Tn (by omega))
def PX(b off:Nat)(w:World)(h0:w.cell? ⟨b,off,none⟩=some (.pointer (some ⟨b,off,none⟩))):
 Calls prog 215 #[.pointer (some ⟨b,off,none⟩)] w λe w'=>e=.returned (.tuple #[])/\w'=w:=by
 obtain⟨j,hj,_⟩:=Option.map_eq_some_iff.1 Qj
 go_enter func215,Tryz.ntmps215
 go_wp2
 rw[Lib.run_neq_ptr_same w _ Tryz.underlying137 hj]
 go_wp2
 go_end0
 exact⟨rfl,rfl⟩
def Lt(b off n:Nat)(T:TypeId)(w:World)(h0:w.cell? ⟨b,off,none⟩=some (.pointer none))(hn:NN T off n=true)(hsh:w.shape? b=some (T,n))(hfz:w.frozen? ⟨b,off,none⟩=false):
 Calls prog 215 #[.pointer (some ⟨b,off,none⟩)] w λe w'=>e=.returned (.tuple #[])/\w'=w.setCell ⟨b,off,none⟩ (.pointer (some ⟨b,off,none⟩)):=by
 obtain⟨j,hj,hjs⟩:=Option.map_eq_some_iff.1 Qj;have hlt:off<n:=by rcases HV hn with⟨_,h1,h2⟩|⟨_,h1,h2⟩<;>omega
 go_enter func215,Tryz.ntmps215
 go_wp2
 rw[Lib.run_to_unsafe w ⟨b,off,none⟩ Tryz.underlying137 Tryz.underlying311 hj (by rw[hjs];decide) hsh hlt];simp only[Result.andThen];rw[Oper.upon_value]
 go_wp2
 rw[run_callFunc_extern func271 (by kernel_rfl) (by kernel_rfl) (by kernel_rfl) (e:=Extern.AbiNoEscape.same) (by kernel_rfl)];rw[Lib.run_noEscape];simp only[Result.andThen];rw[Oper.upon_value]
 go_wp2
 rw[Lib.run_from_unsafe w ⟨b,off,none⟩ Tryz.underlying311 Tryz.underlying137 hj hsh (Uy hn)];simp only[Result.andThen];rw[Oper.upon_value]
 go_wp2
 go_end0
 exact⟨rfl,rfl⟩
def b9.of_same{f:FuncId}(hx:x.flat=true)
 (h:∀(F:Nat->Prop) (β:Key->Nat) (w:World) (vs:Array Value),cJ (cQ P G w F β lv) F β lv w->vs.size=us.length->(∀i (h:i<us.length) (h':i<vs.size),(Vw.mk F β lv w).av vs[i] us[i]) ->
  ∃v,(Vw.mk F β lv w).av v x/\Calls P f vs w λe w'=>e=.returned v/\w'=w):b9 P G f us lv (.ret x lv):=by
 intro F β w vs hS hl hv;obtain⟨v,h1,h2⟩:=h F β w vs hS hl hv;refine h2.mono λe w' he=>?_;obtain⟨rfl,rfl⟩:=he;exact⟨v,F,β,rfl,hS,h1⟩
def args1(hl:vs.size=[x].length)(hv:∀i (h:i < [x].length) (h':i<vs.size),V.av vs[i] [x][i]):∃u,vs=#[u]/\V.av u x:=by
 have h1:vs.size=1:=hl;refine⟨vs[0],?_,hv 0 (by simp) (by omega)⟩;apply Array.ext
 ·simpa using h1
 ·intro i p q;have:i=0:=by omega
  subst this;rfl
def args2{y:AV}(hl:vs.size=[x,y].length)(hv:∀i (h:i < [x,y].length) (h':i<vs.size),V.av vs[i] [x,y][i]):∃u v,vs=#[u,v]/\V.av u x/\V.av v y:=by
 have h1:vs.size=2:=hl;refine⟨vs[0],vs[1],?_,hv 0 (by simp) (by omega),hv 1 (by simp) (by omega)⟩;apply Array.ext
 ·simpa using h1
 ·intro i p q;have:i=0\/i=1:=by omega
  rcases this with rfl|rfl<;>rfl
def yR:List UInt8->List UInt8->Bool
 |[],_=>true
 |a::l,b::m=>Nat.beq a.toNat b.toNat&&yR l m
 |_::_,[]=>false
def Ff(a b:UInt8):Nat.beq a.toNat b.toNat=(a==b):=by
 rw[Bool.eq_iff_iff];constructor
 ·intro h;have:=Zr h;simpa using UInt8.toNat_inj.1 this
 ·intro h;have:a=b:=by simpa using h
  rw[this];exact Nat.beq_refl _
def zI:∀(l m:List UInt8),yR l m=l.isPrefixOf m
 |[],m=>by simp[yR]
 |a::l,b::m=>by simp only[yR,List.isPrefixOf,Ff,zI l m]
 |a::l,[]=>by simp[yR]
def Bu(t:List UInt8):List UInt8->Nat->Option Nat
 |[],i=>bif yR t []then some i else none
 |a::l,i=>bif yR t (a::l)then some i else Bu t l (Nat.succ i)
def Cg:Option Nat->Int
 |some i=>Int.ofNat i
 |none=>Int.negSucc 0
def Ib(t:List UInt8):∀(s:List UInt8) (i:Nat),Cg (Bu t s i)=if Lib.index s t = -1 then -1 else Lib.index s t+i
 |[],i=>by
  simp only[Bu,zI,Lib.index]
  cases t with
  |nil=>simp[Cg]
  |cons a t=>simp[Cg]
 |a::l,i=>by
  have ih:=Ib t l (Nat.succ i);have e:Lib.index (a::l) t=if t.isPrefixOf (a::l)then 0 else(if Lib.index l t == -1 then -1 else Lib.index l t+1):=by simp only[Lib.index]
  simp only[Bu,zI]
  cases hp:t.isPrefixOf (a::l)with
  |true=>
   have e2:Lib.index (a::l) t=0:=by rw[e,if_pos hp]
   rw[e2];simp[Cg]
  |false=>
   have e2:Lib.index (a::l) t=if Lib.index l t == -1 then -1 else Lib.index l t+1:=by rw[e,if_neg (by simp[hp])]
   rw[e2];simp only[cond_false];rw[ih]
   by_cases h:Lib.index l t = -1
   ·simp[h]
   ·have hge:=index_ge l t;have h2:¬(Lib.index l t+1 = -1):=by omega
    have h3:(Lib.index l t == -1)=false:=by simpa using h
    rw[h3,if_neg h];simp only[Zj,if_false];rw[if_neg h2];omega
def m6(s t:List UInt8):Lib.index s t=Cg (Bu t s 0):=by
 rw[Ib];split
 ·assumption
 ·simp
def index_one(s:List UInt8)(c:UInt8):Lib.indexByte s c=Lib.index s [c]:=by
 induction s with
 |nil=>simp[Lib.indexByte,Lib.index]
 |cons a s ih=>
  simp only[Lib.indexByte,Lib.index,ih]
  have:[c].isPrefixOf (a::s)=(a==c):=by
   simp only[List.isPrefixOf,Bool.and_true];exact BEq.comm
  rw[this]
def Co:List AV->Option AV
 |[.c (.d (.str s)),.c (.d (.str t))]=>bif Nat.blt s.length 4294967281 then some (.c (.d (.int .i64 (Cg (Bu t s 0)))))else none
 |_=>none
def xu:List AV->Option AV
 |[.c (.d (.str s)),.c (.d (.int .u8 (.ofNat n)))]=>bif Nat.blt s.length 4294967281 then some (.c (.d (.int .i64 (Cg (Bu [UInt8.ofNat n] s 0)))))else none
 |_=>none
def BB(c:Nat):List UInt8->Nat
 |[]=>0
 |a::l=>bif Nat.beq a.toNat c then Nat.succ (BB c l)else BB c l
def Bt(c:UInt8):∀l:List UInt8,BB c.toNat l=Lib.countByte l c
 |[]=>rfl
 |a::l=>by
  have ih:=Bt c l;unfold Lib.countByte at*
  simp only[BB,Ff,List.count_cons]
  cases(a==c)<;>simp[ih]
def CD:List AV->Option AV
 |[.c (.d (.str s)),.c (.d (.str [t]))]=>bif Nat.blt s.length 4294967281 then some (.c (.d (.int .i64 (.ofNat (BB t.toNat s)))))else none
 |_=>none
def CS{n:Int}(h:-9223372036854775808<=n/\n<=9223372036854775807):V.av (.int .i64 n) (.c (.d (.int .i64 n))):=
 Vw.kg _ _ _ (cM (by simpa[Bl,qj]using h))
def Bp(s t:List UInt8)(h:s.length<4294967281):-9223372036854775808<=Lib.index s t/\Lib.index s t<=9223372036854775807:=by
 have h1:=index_ge s t
 have h2:Lib.index s t<=s.length:=by
  clear h h1
  induction s with
  |nil=>simp only[Lib.index];split<;>simp
  |cons a s ih=>
   simp only[Lib.index];split
   ·simp;omega
   ·split<;>simp<;>omega
 omega
theorem IS{F:Nat->Prop}{β:Key->Nat}{g:Nat}{k:IntKind}{n:Int}(hS:cJ (cQ P G w F β lv) F β lv w)(hg:G[g]?=some [.int k n]):w.cell? ⟨g,0,none⟩=some (.int k n):=by
 have:=hS.o9 g _ hg
 cases this with
 |ptr b off vs cs hm ho hr=>
  have h1:=hm 0 (by simp);have h2:=hr 0 (by simp);simp only[ZJ]at h2;have h3:=h1.2;generalize vs 0=u at h2 h3
  cases h2
  exact h3
theorem IM(m:Int)(h:Co us=some x)(lv:Key->LB):b9 prog (GG m) 253 us lv (.ret x lv):=by
 unfold Co at h;split at h
 ·rename_i s t
  cases hb:Nat.blt s.length 4294967281 with
  |false=>rw[hb]at h;cases h
  |true=>
   rw[hb]at h;simp only[cond_true,ai]at h;subst h;have hs:s.length<4294967281:=Zu hb;refine b9.of_same (by rfl) λF β w vs hS hl hv=>?_;obtain⟨u,v,rfl,hu,hv⟩:=args2 hl hv;have:=Tryz.stringslite_Index ⟨s.toArray⟩ ⟨t.toArray⟩ m w (by rw[c8];exact hs) (IS hS rfl);refine⟨.int .i64 (Cg (Bu t s 0)),?_,?_⟩
   ·rw[<-m6];exact CS (Bp s t hs)
   ·rw[Vw.jq hu,Vw.jq hv];simpa[m6]using this
 ·cases h
theorem FO(m:Int)(h:xu us=some x)(lv:Key->LB):b9 prog (GG m) 255 us lv (.ret x lv):=by
 unfold xu at h;split at h
 ·rename_i s n
  cases hb:Nat.blt s.length 4294967281 with
  |false=>rw[hb]at h;cases h
  |true=>
   rw[hb]at h;simp only[cond_true,ai]at h;subst h;have hs:s.length<4294967281:=Zu hb;refine b9.of_same (by rfl) λF β w vs hS hl hv=>?_;obtain⟨u,v,rfl,hu,hv⟩:=args2 hl hv;have:=Tryz.stringslite_IndexByte ⟨s.toArray⟩ n w;refine⟨.int .i64 (Cg (Bu [UInt8.ofNat n] s 0)),?_,?_⟩
   ·rw[<-m6];exact CS (Bp s _ hs)
   ·rw[Vw.jq hu,Vw.fJ hv];simpa[<-m6,index_one]using this
 ·cases h
theorem IV(m:Int)(h:CD us=some x)(lv:Key->LB):b9 prog (GG m) 175 us lv (.ret x lv):=by
 unfold CD at h;split at h
 ·rename_i s t
  cases hb:Nat.blt s.length 4294967281 with
  |false=>rw[hb]at h;cases h
  |true=>
   rw[hb]at h;simp only[cond_true,ai]at h;subst h;have hs:s.length<4294967281:=Zu hb;refine b9.of_same (by rfl) λF β w vs hS hl hv=>?_;obtain⟨u,v,rfl,hu,hv⟩:=args2 hl hv;have:=Tryz.strings_Count_one ⟨s.toArray⟩ t w;have hle:BB t.toNat s<=s.length:=by rw[Bt];exact List.count_le_length
   refine⟨.int .i64 (.ofNat (BB t.toNat s)),?_,?_⟩
   ·exact CS ⟨by show _<=((BB t.toNat s:Nat):Int);omega,by show((BB t.toNat s:Nat):Int)<=_;omega⟩
   ·rw[Vw.jq hu,Vw.jq hv];simpa[Bt]using this
 ·cases h
def vE{b:Nat}{arr:Array Value}{T:TypeId}{v:Value}{fr:Nat×Nat}(hb:w.heap[b]?=some (.cells arr T fr))(off:Nat):
 w.setCell ⟨b,off,none⟩ v=w.setRow b (arr.setIfInBounds off v):=by
 unfold World.setCell World.setRow
 have:(w.heap.modify b λ
  |.cells c elem frozen=>.cells (c.setIfInBounds off v) elem frozen
  |o=>o)=w.heap.modify b λ
  |.cells _ elem frozen=>.cells (arr.setIfInBounds off v) elem frozen
  |o=>o:=by
  apply Array.ext
  ·simp
  ·intro i p q;simp only[Array.getElem_modify];split
   ·rename_i hi
    subst hi;obtain⟨h1,h2⟩:=Array.getElem?_eq_some_iff.1 hb;rw[h2]
   ·rfl
 simp only[Option.isSome_none,Zj,if_false];exact congrArg (λh=>({ w with heap:=h }:World)) this
def Mw{m:Nat}(h:NN T off n=true)(hm:n<=m):NN T off m=true:=by
 have key:∀k,n<=m->Nat.ble k n=true->Nat.ble k m=true:=λk h1 h2=>Nat.ble_eq_true_of_le (Zf (Zu h2) h1)
 simp only[NN,ZK,cn]at h⊢;rcases h with⟨h1,h2,h3⟩|⟨h1,h2,h3⟩
 ·exact .inl ⟨h1,h2,key _ hm h3⟩
 ·exact .inr ⟨h1,h2,key _ hm h3⟩
def Ir{α:Type}{cs r:List α}{x:α}(h:cs.drop off=x::r):∃hlt:off<cs.length,cs[off]=x:=by
 have hlt:off<cs.length:=by
  apply ZG;intro hc;rw[abj (by omega)]at h;cases h
 rw[Z6 hlt]at h;simp only[ZB]at h;exact⟨hlt,h.1⟩
theorem Jy(m:Int)(lv:Key->LB)(k off T:Nat)(cs r:List CV)(hk:lv k=.cells false false T cs)(hc:cs.drop off=.ptr k off::r):
 b9 prog (GG m) 215 [.c (.ptr k off)] lv (.ret (.tup []) lv):=by
 intro F β w vs hS hl hv;obtain⟨u,rfl,hu⟩:=args1 hl hv
 have hu1:u=.pointer (some ⟨β k,off,none⟩):=by
  obtain⟨h1,_⟩:=hu;simpa only[Vw.dh,hk]using h1
 subst hu1;have hb:=hS.bQ k;unfold Vw.bQ at hb;simp only[hk]at hb;obtain⟨arr,b1,b2,b3,_⟩:=hb;obtain⟨hlt,hx⟩:=Ir hc;have hpos:off<arr.size:=by omega
 have h0:=b3 off hlt hpos;rw[hx]at h0;obtain⟨h0,_⟩:=h0;simp only[Vw.dh,hk]at h0
 have hcell:w.cell? ⟨β k,off,none⟩=some (.pointer (some ⟨β k,off,none⟩)):=by
  rw[cell_of_heap b1];simp[hpos,h0]
 refine(PX _ _ w hcell).mono λe w' he=>?_;obtain⟨rfl,rfl⟩:=he;exact⟨_,F,β,rfl,hS,⟨#[],rfl,rfl,λi h=>absurd h (by simp)⟩⟩
theorem Fy(m:Int)(lv:Key->LB)(k off T:Nat)(cs r:List CV)(hok:NN T off cs.length=true)(hk:lv k=.cells false false T cs)(hc:cs.drop off=.d .nilp::r):
 b9 prog (GG m) 215 [.c (.ptr k off)] lv (.ret (.tup []) (az lv k (.cells false false T (aj cs off [.ptr k off])))):=by
 intro F β w vs hS hl hv;obtain⟨u,rfl,hu⟩:=args1 hl hv
 have hu1:u=.pointer (some ⟨β k,off,none⟩):=by
  obtain⟨h1,_⟩:=hu;simpa only[Vw.dh,hk]using h1
 subst hu1;have hb:=hS.bQ k;unfold Vw.bQ at hb;simp only[hk]at hb;obtain⟨arr,b1,b2,b3,_⟩:=hb;obtain⟨hlt,hx⟩:=Ir hc;have hpos:off<arr.size:=by omega
 have h0:=b3 off hlt hpos;rw[hx]at h0
 have h0':arr[off]=.pointer none:=by
  obtain⟨h0,_⟩:=h0;have h0:Rd _ arr[off] .nilp:=h0;generalize arr[off]=v at h0
  cases h0;rfl
 have hcell:w.cell? ⟨β k,off,none⟩=some (.pointer none):=by
  rw[cell_of_heap b1];simp[hpos,h0']
 refine(Lt _ off arr.size T w hcell (Mw hok b2) (by simp[World.shape?,b1]) (frozen_of_heap b1 off)).mono λe w' he=>?_;obtain⟨rfl,rfl⟩:=he;have hset:=vE (v:=.pointer (some ⟨β k,off,none⟩)) b1 off;have hle:off+[CV.ptr k off].length<=cs.length:=by simp;omega
 have hS2:=hS.setRow (arr:=arr.setIfInBounds off (.pointer (some ⟨β k,off,none⟩))) (cs':=aj cs off [.ptr k off]) hk b1 (by simp) (by rw[aS _ _ _ hle];simpa using b2) (by
  intro i p q;rw[Array.getElem_setIfInBounds (by simpa using q),dw _ _ _ hle i p]
  by_cases hi:off=i
  ·subst hi;rw[if_pos rfl,dif_pos ⟨aY _,by simp⟩];simp only[aa2,ZJ];refine⟨?_,rfl⟩;simp only[Vw.dh,hk]
  ·rw[if_neg hi,dif_neg (by simp;omega)];exact b3 i _ _)
 rw[hset];exact⟨_,F,β,rfl,hS2,⟨#[],rfl,rfl,λi h=>absurd h (by simp)⟩⟩
end Go.Am
namespace Go.Am
open Go.Proofs Go.Lib Go.RowKit
def FF(p:Addr)(w:World):
 CallsD prog 110 #[.pointer (some p)] .returning w λe u' w'=>e=.returned (.tuple #[])/\u'=.returning/\w'=w:=by
 refine callsD_of_wpS func110 rfl λc₀ cs hu=>?_;apply wpS_seq;apply wpS_region;simp[wpOpsS,go_sem,recoverD,hu,Tryz.ntmps110,Exit.thenS];refine wpS_of_wp ?_
 go_wp2
 cases c₀
 simp_all [bodyPostS,results,Tryz.results110]
def I9(b:Nat)(n m:Int)(w:World)(hc:w.cell? ⟨b,0,none⟩=some (.int .i64 m))(hz:w.frozen? ⟨b,0,none⟩=false):
 CallsD prog 110 #[.pointer (some ⟨b,0,none⟩)] (.panicking [{ v:=.iface 179 (.agg #[.int .i64 n]),recovered:=false }]) w λe u' w'=>e=.returned (.tuple #[])/\u'=.panicking [{ v:=.iface 179 (.agg #[.int .i64 n]),recovered:=true }]/\w'=(w.setCell ⟨b,0,none⟩ (.int .i64 n)).alloc (.cells #[.int .i64 n] 179):=by
 have ha:∀(d:Value) (w:World),(Instr.typeAssert (.iface 179 d) 20 179 true).run prog w=.ok (.tuple #[d,.bool true]) w:=by
  intro d w;simp[Instr.typeAssert,run_underlying Tryz.underlying179]
 have hlt:b<w.heap.size:=by
  rcases abe b w.heap.size with h'|h'
  ·exact h'
  ·simp[World.cell?,abT h']at hc
 have hcA:(w.alloc (.cells #[.int .i64 n] 179)).cell? ⟨b,0,none⟩=some (.int .i64 m):=by rw[World.cell?_alloc_lt _ _ ⟨b,0,none⟩ hlt];exact hc
 have hzA:(w.alloc (.cells #[.int .i64 n] 179)).frozen? ⟨b,0,none⟩=false:=by
  unfold World.frozen? at hz⊢;rw[heap_alloc,if_neg (by simp;omega)];exact hz
 refine callsD_of_wpS func110 rfl λc₀ cs hu=>?_;apply wpS_seq;apply wpS_region;simp[wpOpsS,go_sem,recoverD,hu,Tryz.ntmps110,Exit.thenS];refine wpS_of_wp ?_
 go_wp2
 cases c₀
 simp_all [bodyPostS,results,Tryz.results110]
def GV(t:FuncId)(fs cs:Array Value)(w:World)(Q:World->Prop)(hf:aJ prog t=true)
 (h:Calls prog t (fs++cs) (w.alloc (.cells #[.int .i64 0] 31)) λe w2=>(∃v,e=.returned v)/\Q w2/\w2.cell? ⟨w.heap.size,0,none⟩=some (.int .i64 0)/\w2.frozen? ⟨w.heap.size,0,none⟩=false) :
 Calls prog 59 #[.func (.func t) fs cs] w λe w'=>∃w2,Q w2/\w2.cell? ⟨w.heap.size,0,none⟩=some (.int .i64 0)/\e=.returned (.int .i64 0)/\w'=w2.setCell ⟨w.heap.size,0,none⟩ (.int .i64 0):=by
 have hmf:∀(fn:Fn) (first cap:Array Value) (w:World),(Instr.makeFunc fn first cap).run prog w=.ok (.func fn first cap) w:=λ_ _ _ _=>rfl
 have hcall:∀(args:Array Value) (w:World),(callFunc t args).run prog w=.ok (.enter t args) w:=λargs w=>ji hf args w
 go_enter_defers func59,Tryz.ntmps59
 go_wp2
 refine h.mono ?_;rintro e w2 ⟨⟨v,rfl⟩,hQ,hc,hz⟩;simp only
 go_wp2
 refine leaves_cons (f:=110) (args:=#[.pointer (some ⟨w.heap.size,0,none⟩)]) (by simp) (by simp[go_sem]) ?_;refine(FF ⟨w.heap.size,0,none⟩ _).mono ?_;rintro e u' w'' ⟨rfl,rfl,rfl⟩;simp[Leaves,settle,results,Tryz.results59,go_sem,hc];exact⟨w2,hQ,hc,rfl⟩
def Gr(t:FuncId)(fs cs:Array Value)(w:World)(Q:World->Prop)(n:Int)(hf:aJ prog t=true)
 (h:Calls prog t (fs++cs) (w.alloc (.cells #[.int .i64 0] 31)) λe w2=>e=.panicked [{ v:=.iface 179 (.agg #[.int .i64 n]),recovered:=false }]/\Q w2/\w2.cell? ⟨w.heap.size,0,none⟩=some (.int .i64 0)/\w2.frozen? ⟨w.heap.size,0,none⟩=false) :
 Calls prog 59 #[.func (.func t) fs cs] w λe w'=>∃w2,Q w2/\w2.cell? ⟨w.heap.size,0,none⟩=some (.int .i64 0)/\e=.returned (.int .i64 n)/\w'=(w2.setCell ⟨w.heap.size,0,none⟩ (.int .i64 n)).alloc (.cells #[.int .i64 n] 179):=by
 have hmf:∀(fn:Fn) (first cap:Array Value) (w:World),(Instr.makeFunc fn first cap).run prog w=.ok (.func fn first cap) w:=λ_ _ _ _=>rfl
 have hcall:∀(args:Array Value) (w:World),(callFunc t args).run prog w=.ok (.enter t args) w:=λargs w=>ji hf args w
 go_enter_defers func59,Tryz.ntmps59
 go_wp2
 refine h.mono ?_;rintro e w2 ⟨rfl,hQ,hc,hz⟩;simp only;refine leaves_cons (f:=110) (args:=#[.pointer (some ⟨w.heap.size,0,none⟩)]) (by simp) (by simp[go_sem]) ?_;refine(I9 w.heap.size n 0 _ hc hz).mono ?_;rintro e u' w'' ⟨rfl,rfl,rfl⟩
 have hlt:w.heap.size<w2.heap.size:=by
  rcases abe w.heap.size w2.heap.size with h'|h'
  ·exact h'
  ·simp[World.cell?,abT h']at hc
 have hc2:((w2.setCell ⟨w.heap.size,0,none⟩ (.int .i64 n)).alloc (.cells #[.int .i64 n] 179)).cell? ⟨w.heap.size,0,none⟩=some (.int .i64 n):=by
  rw[World.cell?_alloc_lt _ _ ⟨w.heap.size,0,none⟩ (by simpa[World.setCell]using hlt)];exact World.cell?_setCell_same _ _ _ hc
 simp[Leaves,settle,results,Tryz.results59,go_sem,hc2];exact⟨w2,hQ,hc,rfl⟩
end Go.Am
namespace Go.Am
open Go.Proofs Go.Lib
variable {F:Nat->Prop}{β:Key->Nat}{w:World}{c:Ctx}{s:aE}{a:Act}
def aF.Yr{w':World}(h:aF c F β s a w)(B:Nat->Prop)
 (hs:∀b,¬B b->b<w.heap.size->w'.heap[b]?=w.heap[b]?) (hF:∀b,B b->¬F b) (hL:∀k,(s.lv k).live=true->¬B (β k)) (hW:∀b,B b->c.w0.heap.size<=b)
 (hsz:w.heap.size<=w'.heap.size) (ha:∀b,cD w b<=cD w' b) (hoo:w'.os=w.os/\w'.output=w.output:=by exact⟨rfl,rfl⟩):aF c F β s a w':=by
 have hm:∀b,F b->w'.heap[b]?=w.heap[b]?:=λb hb=>hs b (λhB=>hF b hB hb) (h.mo b hb).1
 have:=h.step (hoo:=hoo) (F':=F) (β':=β) (lv':=s.lv) (w':=w') (λ_ h=>h) hm (λk=>LB.bE _) (λ_ _ _=>rfl) ha ?_ h.inj (λb hb=>.inl hb) hsz ?_
 ·exact this
 ·intro k hK;have hb:=h.bQ k
  have key:(s.lv k).live=true->(Vw.mk F β s.lv w').bQ c k:=λhl=>
   Vw.bL hb hK rfl rfl (hs _ (hL k hl) (h.fZ hl)) (λ_ h=>h)
  cases e:s.lv k with
  |cells own fz T cs=>
   cases fz with
   |false=>exact key (by rw[e];rfl)
   |true=>
    refine Vw.bL hb hK rfl rfl (hm _ ?_) (λ_ h=>h);unfold Vw.bQ at hb;simp only[e]at hb;obtain⟨x,h1,h2,h3,h4,h5⟩:=hb;simpa using h4
  |map own es=>exact key (by rw[e];rfl)
  |hole=>unfold Vw.bQ;simp only[e]
  |dead=>unfold Vw.bQ;simp only[e]
  |nils=>unfold Vw.bQ;simp only[e]
 ·intro b hb hW0;exact hs b (λhB=>by have:=hW b hB;omega) (ZE hb h.ge)
def aF.ue(h:aF c F β s a w)(o:Obj):aF c F β s a (w.alloc o):=
 h.Yr (λ_=>False) (λb _ hb=>by rw[heap_alloc,if_neg (by omega)]) (λ_ h=>h.elim) (λ_ _ h=>h.elim) (λ_ h=>h.elim) (by simp) (jj w o)
def aF.Lz(h:aF c F β s a w){b:Nat}{arr:Array Value}{T:TypeId}{fr:Nat×Nat}(hb:w.heap[b]?=some (.cells arr T fr))(v:Value)
 (hF:¬F b) (hL:∀k,(s.lv k).live=true->β k≠b) (hW:c.w0.heap.size<=b):aF c F β s a (w.setCell ⟨b,0,none⟩ v):=by
 rw[vE hb];refine h.Yr (λx=>x=b) (λx hx _=>setRow_other _ _ _ _ hx) (λx hx=>hx▸hF) (λk hk=>hL k hk) (λx hx=>hx▸hW) (by simp) (λx=>?_);rw[gQ w b arr _ T fr hb (by simp)];exact aY _
def AY{P:Program}{G:List (List DV)}{t:FuncId}{us:List AV}{lv:Key->LB}{o:Ny}(ho:cP lv)(hc:b9 P G t us lv o){vs:Array Value}
 (hS:cJ (cQ P G w F β lv) F β lv w) (hl:vs.size=us.length) (hv:∀i (h:i<us.length) (h':i<vs.size),(Vw.mk F β lv w).av vs[i] us[i]) (ob:Obj) :
 Calls P t vs (w.alloc ob) λe w2=>w2.heap[w.heap.size]?=some ob/\match o with
  |.ret _ lv'=>(∃v,e=.returned v)/\∃F' β',cJ (cQ P G w F β lv) F' β' lv' w2/\¬F' w.heap.size/\∀k,(lv' k).live=true->β' k≠w.heap.size
  |.tr d lv'=>∃v,e=.panicked [{ v:=v,recovered:=false }]/\∃F' β',cJ (cQ P G w F β lv) F' β' lv' w2/\¬F' w.heap.size/\(∀k,(lv' k).live=true->β' k≠w.heap.size)/\Rd (me w2 F') v d:=by
 have h1:=aF.ue hS ob;have h2:cJ (cQ P G (w.alloc ob) F β lv) F β lv (w.alloc ob):=h1.vj ho
 have Sb:∀i (h:i<us.length) (h':i<vs.size),(Vw.mk F β lv (w.alloc ob)).av vs[i] us[i]:=λi p q=>
  (Vw.jk (V:=Vw.mk F β lv w) (V':=Vw.mk F β lv (w.alloc ob)) (λ_ h=>h) (λb hb=>by
   have:=(hS.mo b hb).1;show(w.alloc ob).heap[b]?=_;rw[heap_alloc,if_neg (by omega)]) (λk=>LB.bE _) (λ_ _ _=>rfl) (jj w ob)).av (hv i p q)
 have key:∀F' β' lv' w2,cJ (cQ P G (w.alloc ob) F β lv) F' β' lv' w2->w2.heap[w.heap.size]?=some ob/\cJ (cQ P G w F β lv) F' β' lv' w2/\¬F' w.heap.size/\∀k,(lv' k).live=true->β' k≠w.heap.size:=by
  intro F' β' lv' w2 hX;have hsz:(w.alloc ob).heap.size=w.heap.size+1:=by show(w.heap.push ob).size=_;exact Array.size_push _
  refine⟨?_,?_,?_,?_⟩
  ·have:=hX.old w.heap.size (by show w.heap.size<(w.alloc ob).heap.size;omega) (by
    rintro⟨k,hk,he⟩;have:=hS.fZ (k:=k) hk;omega)
   rw[this];show(w.alloc ob).heap[w.heap.size]?=_;rw[heap_alloc,if_pos rfl]
  ·exact h1.AG hX
  ·intro hb;rcases(hX.mo _ hb).2 with h3|h3
   ·have:=(hS.mo _ h3).1;omega
   ·have:(w.alloc ob).heap.size<=w.heap.size:=h3;omega
  ·intro k hk he;rcases hX.eX (k:=k) hk with h3|⟨j,hj,hj2⟩
   ·have:(w.alloc ob).heap.size<=β' k:=h3;omega
   ·have:=hS.fZ (k:=j) hj;omega
 refine(hc F β (w.alloc ob) vs h2 hl Sb).mono λe w2 he=>?_
 cases o with
 |ret x lv'=>
  obtain⟨v,F',β',rfl,hX,_⟩:=he;obtain⟨k1,k2,k3,k4⟩:=key _ _ _ _ hX;exact⟨k1,⟨v,rfl⟩,F',β',k2,k3,k4⟩
 |tr d lv'=>
  obtain⟨v,F',β',rfl,hX,hr⟩:=he;obtain⟨k1,k2,k3,k4⟩:=key _ _ _ _ hX;exact⟨k1,v,rfl,F',β',k2,k3,k4,hr⟩
theorem G3(m:Int)(v:AV)(t:FuncId)(fs cs:List AV)(lv lv':Key->LB)(x:AV)(ht:cx v=some (t,fs,cs))(hf:aJ prog t=true)(ho:cP lv)(hc:b9 prog (GG m) t (fs++cs) lv (.ret x lv')):
 b9 prog (GG m) 59 [v] lv (.ret (.c (.d (.int .i64 0))) lv'):=by
 intro F β w vs hS hl hv;obtain⟨u,rfl,hu⟩:=args1 hl hv;obtain⟨fs',cs',h1,h2,h3,h4,h5⟩:=lI hu ht;subst h1;have hv':=pR (V:=Vw.mk F β lv w) (args':=#[]) h2 (show(#[]:Array Value).size=([]:List AV).length from rfl) h3 h4 (λi p q=>absurd p (by simp)) h5;simp only[ZL,Array.append_empty]at hv';have hcall:=AY ho hc hS hv'.1 hv'.2 (.cells #[.int .i64 0] 31)
 have:=GV t fs' cs' w (λw2=>∃F' β',cJ (cQ prog (GG m) w F β lv) F' β' lv' w2/\¬F' w.heap.size/\(∀k,(lv' k).live=true->β' k≠w.heap.size)/\w2.heap[w.heap.size]?=some (.cells #[.int .i64 0] 31)) hf
  (hcall.mono λe w2 he=>⟨he.2.1,(let ⟨F',β',k2,k3,k4⟩:=he.2.2;⟨F',β',k2,k3,k4,he.1⟩),by simp[World.cell?,he.1],by simp[World.frozen?,he.1]⟩)
 refine this.mono λe w' he=>?_;obtain⟨w2,⟨F',β',k2,k3,k4,k5⟩,_,rfl,rfl⟩:=he;exact⟨_,F',β',rfl,aF.Lz k2 k5 _ k3 k4 (aY _),Vw.kg _ _ _ (by decide)⟩
theorem F7(m:Int)(v:AV)(t:FuncId)(fs cs:List AV)(lv lv':Key->LB)(n:Int)(ht:cx v=some (t,fs,cs))(hf:aJ prog t=true)(ho:cP lv)(hc:b9 prog (GG m) t (fs++cs) lv (.tr (.iface 179 (.agg [.int .i64 n])) lv')):
 b9 prog (GG m) 59 [v] lv (.ret (.c (.d (.int .i64 n))) lv'):=by
 intro F β w vs hS hl hv;obtain⟨u,rfl,hu⟩:=args1 hl hv;obtain⟨fs',cs',h1,h2,h3,h4,h5⟩:=lI hu ht;subst h1;have hv':=pR (V:=Vw.mk F β lv w) (args':=#[]) h2 (show(#[]:Array Value).size=([]:List AV).length from rfl) h3 h4 (λi p q=>absurd p (by simp)) h5;simp only[ZL,Array.append_empty]at hv';have hcall:=AY ho hc hS hv'.1 hv'.2 (.cells #[.int .i64 0] 31)
 have hval:∀(M:Mem) (v:Value),Rd M v (.iface 179 (.agg [.int .i64 n]))->v=.iface 179 (.agg #[.int .i64 n])/\i64.wrap n=n:=by
  intro M v h
  cases h with
  |iface _ u _ hu=>
   cases hu with
   |agg arr _ hl _ hr=>
    have h0:=hr 0 (by simp);have hl1:arr.size=1:=hl;simp only[ZJ]at h0
    have:arr=#[arr[0]]:=by
     apply Array.ext
     ·simpa using hl1
     ·intro i p q;have:i=0:=by simp at q;omega
      subst this;rfl
    generalize arr[0]=z at h0 this
    cases h0 with
    |int _ _ hw=>exact⟨by rw[this],hw⟩
 have:=Gr t fs' cs' w (λw2=>i64.wrap n=n/\∃F' β',cJ (cQ prog (GG m) w F β lv) F' β' lv' w2/\¬F' w.heap.size/\(∀k,(lv' k).live=true->β' k≠w.heap.size)/\w2.heap[w.heap.size]?=some (.cells #[.int .i64 0] 31)) n hf
  (hcall.mono λe w2 he=>by
   obtain⟨he1,v,rfl,F',β',k2,k3,k4,hr⟩:=he;obtain⟨rfl,hw⟩:=hval _ _ hr;exact⟨rfl,⟨hw,F',β',k2,k3,k4,he1⟩,by simp[World.cell?,he1],by simp[World.frozen?,he1]⟩)
 refine this.mono λe w' he=>?_;obtain⟨w2,⟨hw,F',β',k2,k3,k4,k5⟩,_,rfl,rfl⟩:=he;exact⟨_,F',β',rfl,aF.ue (aF.Lz k2 k5 _ k3 k4 (aY _)) _,Vw.kg _ _ _ hw⟩
end Go.Am
namespace Go.Am
variable {l n κ:Nat}{P:Program}{G:List (List DV)}{fr:Nat->AV}{lv iV lv':Key->LB}{F0 F:Nat->Prop}{β0 β:Key->Nat}{w w0:World}{o:Obj}{s:aE}{a:Act}{rec:Loop}
section
variable {c:Ctx}{r:Option Nat}{F:Nat->Prop}{β:Key->Nat}{s:aE}{a:Act}{w w':World}
def AW.fresh{code:Code}{Q:Ex->aE->Nat->Prop}(h:aF c F β ⟨fr,lv⟩ a w)(ho:cP lv)
 (hA:∀c':Ctx,c'.P=c.P->c'.G=c.G->c'.n=c.n->c'.iV=lv->AW c' r code ⟨fr,lv⟩ κ Q) :
 code.wpIn (qb r) 0 c.P (λe a' w'=>∃x s' κ' F' β',Q x s' κ'/\aF c F' β' s' a' w'/\Dr x e F' w'/\w.heap.size<=w'.heap.size/\(∀b,F' b->F b\/w.heap.size<=b)/\(∀k,(s'.lv k).live=true->w.heap.size<=β' k\/∃j,(lv j).live=true/\β j=β' k) /\
  ∀b,b<w.heap.size->(∀k,(lv k).live=true->β k≠b)->w'.heap[b]?=w.heap[b]?) a w:=by
 let c':Ctx:={ cQ c.P c.G w F β lv with n:=c.n }
 have h1:aF c' F β ⟨fr,lv⟩ a w:=cJ.with (c:=c') (h.vj ho) h.size h.defers h.fr;refine wpIn_mono (hA c' rfl rfl rfl rfl F β a w h1) ?_;rintro e a' w' ⟨x,s',κ',F',β',hQ,h2,hx⟩;have hx0:cJ (cQ c.P c.G w F β lv) F' β' s'.lv w':=aF.xe (c:=c') h2;have h3:aF c F' β' ⟨fr,s'.lv⟩ a w':=h.AG hx0;have h4:aF c F' β' s' a' w':=cJ.with (c:=c) (aF.xe h3) h2.size h2.defers h2.fr;refine⟨x,s',κ',F',β',hQ,h4,hx,h2.ge,λb hb=>(h2.mo b hb).2,λk hk=>h2.eX hk,λb hb hn=>?_⟩;exact h2.old b hb (λ⟨k,hk,he⟩=>hn k hk he)
theorem aF.W5(h:aF c F β s a w)(B:Nat->Prop)
 (hs:∀b,¬B b->b<w.heap.size->w'.heap[b]?=w.heap[b]?) (hF:∀b,B b->¬F b) (hL:∀k,(s.lv k).live=true->¬B (β k)) (hW:∀b,B b->c.w0.heap.size<=b\/c.W0 b)
 (hsz:w.heap.size<=w'.heap.size) (ha:∀b,cD w b<=cD w' b) (hoo:w'.os=w.os/\w'.output=w.output:=by exact⟨rfl,rfl⟩):aF c F β s a w':=by
 have hm:∀b,F b->w'.heap[b]?=w.heap[b]?:=λb hb=>hs b (λhB=>hF b hB hb) (h.mo b hb).1
 have:=h.step (hoo:=hoo) (F':=F) (β':=β) (lv':=s.lv) (w':=w') (λ_ h=>h) hm (λk=>LB.bE _) (λ_ _ _=>rfl) ha ?_ h.inj (λb hb=>.inl hb) hsz ?_
 ·exact this
 ·intro k hK;have hb:=h.bQ k
  have key:(s.lv k).live=true->(Vw.mk F β s.lv w').bQ c k:=λhl=>
   Vw.bL hb hK rfl rfl (hs _ (hL k hl) (h.fZ hl)) (λ_ h=>h)
  cases e:s.lv k with
  |cells own fz T cs=>
   cases fz with
   |false=>exact key (by rw[e];rfl)
   |true=>
    refine Vw.bL hb hK rfl rfl (hm _ ?_) (λ_ h=>h);unfold Vw.bQ at hb;simp only[e]at hb;obtain⟨x,h1,h2,h3,h4,h5⟩:=hb;simpa using h4
  |map own es=>exact key (by rw[e];rfl)
  |hole=>unfold Vw.bQ;simp only[e]
  |dead=>unfold Vw.bQ;simp only[e]
  |nils=>unfold Vw.bQ;simp only[e]
 ·intro b hb hW0;exact hs b (λhB=>(hW b hB).elim (λh1=>by omega) hW0) (ZE hb h.ge)
def aF.BS(h:aF c F β s a w)(o':Obj)(hl:w.heap[l]?=some o)(hc:∀x y z,o≠.cells x y z)(hF:¬F l)(hL:∀k,(s.lv k).live=true->β k≠l)(hW:c.w0.heap.size<=l\/c.W0 l):aF c F β s a (w.putObj l o'):=by
 refine h.W5 (λx=>x=l) (λx hx _=>acs hx) (λx hx=>hx▸hF) (λk hk=>hL k hk) (λx hx=>hx▸hW) (by simp) (λb=>?_)
 by_cases e:b=l
 ·subst e;unfold cD;rw[hl]
  cases o with
  |cells x y z=>exact absurd rfl (hc x y z)
  |_=>exact Zi _
 ·unfold cD;rw[acs e];exact aY _
end
def Oa(P:Program)(G:List (List DV))(w:World)(F:Nat->Prop)(β:Key->Nat)(lv:Key->LB)(n l:Nat):Ctx:=
 ⟨P,G,w,F,λb=>(∃k,(lv k).live=true/\β k=b)\/b=l,n,lv,β⟩
def aF.YY(l:Nat)(h:aF { cQ P G w0 F0 β0 iV with n:=n } F β s a w):
 aF (Oa P G w0 F0 β0 iV n l) F β s a w:=by
 refine⟨λk=>Vw.Hu ?_ (h.bQ k),h.inj,h.fr,h.size,h.defers,h.mo,h.F0,λb hb hW=>h.old b hb (λhx=>hW (.inl hx)),h.ge,h.o9,h.keep,h.GX,h.CX⟩;intro o ho;unfold eN at ho ⊢
 cases o with
 |true=>exact ho
 |false=>exact ho.imp id .inl
def aF.YJ(h:aF (Oa P G w0 F0 β0 iV n l) F β s a w)
 (hl0:w0.heap[l]?=some o) (hl:w.heap[l]?=some o) (hc:∀x y z,o≠.cells x y z) (hm:∀x y,o≠.map x y):cJ (cQ P G w0 F0 β0 iV) F β s.lv w:=by
 refine⟨λk=>?_,h.inj,λ_=>trivial,rfl,rfl,h.mo,h.F0,λb hb hW=>?_,h.ge,h.o9,h.keep,h.GX,h.CX⟩
 ·have hb:=h.bQ k
  have key:∀ow,eN (Oa P G w0 F0 β0 iV n l) ow (β k)->β k≠l->eN { cQ P G w0 F0 β0 iV with n:=0 } ow (β k):=by
   intro ow ho hne;unfold eN at ho ⊢
   cases ow with
   |true=>exact ho
   |false=>
    rcases ho with h1|h1|h1
    ·exact .inl h1
    ·exact .inr h1
    ·exact absurd h1 hne
  unfold Vw.bQ at hb ⊢
  cases e:s.lv k with
  |cells own fz T cs=>
   simp only[e]at hb⊢;obtain⟨arr,b1,b2,b3,b4,b5⟩:=hb;exact⟨arr,b1,b2,b3,b4,key _ b5 (λhe=>by rw[he,hl]at b1;simp only[ai]at b1;exact hc _ _ _ b1)⟩
  |map own es=>
   simp only[e]at hb⊢;obtain⟨x,y,b1,b2,b3,b4,b5⟩:=hb;exact⟨x,y,b1,b2,b3,b4,key _ b5 (λhe=>by rw[he,hl]at b1;simp only[ai]at b1;exact hm _ _ b1)⟩
  |hole=>simp only[e]
  |dead=>simp only[e]
  |nils=>simp only[e]
 ·by_cases e:b=l
  ·subst e;show w.heap[b]?=w0.heap[b]?;rw[hl,hl0]
  ·refine h.old b hb ?_;rintro(h1|h1)
   ·exact hW h1
   ·exact e h1
def tO.yield{w1:World}{ops:Array Oper}{o:Oper}{cl:Call}{fo:Operand}{xs:List AV}(hd:∀d,o.dst=some d->d<n)
 (hg:o.guard=none) (ho:o.op=.call cl) (hcal:cl.callee=.value fo) (hfo:(aE.mk fr lv).val G fo=.c (.d (.func (.yield l) [] [])))
 (hxs:cl.args.toList.map ((aE.mk fr lv).val G)=xs) (hps:rec.params.size=xs.length) (hl:w1.heap[l]?=some (.loop rec)) (hnl:∀k,(iV k).live=true->β0 k≠l) (hok:cP lv)
 (hround:∀(F:Nat->Prop) (β:Key->Nat) (w:World) (vs:Array Value),cJ (cQ P G w1 F0 β0 iV) F β lv w->cJ (cQ P G w F β lv) F β lv w->w.heap[l]?=some (.loop rec)->vs.size=xs.length->(∀i (h:i<xs.length) (h':i<vs.size),(Vw.mk F β lv w).av vs[i] xs[i]) ->
  RoundIn (qb none) 0 P l rec.fn ((rec.params.zip vs).foldl (λtmps (t,a)=>tmps.setIfInBounds t a) rec.tmps) rec.assign rec.body w λe w'=>e=.returned (.bool true)/\∃F' β',cJ (cQ P G w F β lv) F' β' lv' w') :
 tO { cQ P G w1 F0 β0 iV with n:=n } none ops o ⟨fr,lv⟩ (aE.put ⟨fr,lv'⟩ o.dst (.c (.d (.bool true)))):=by
 intro F β a w K Q hs hK;have hw:Region.wanted o (yielded ops a.tmps)=true:=by unfold Region.wanted;rw[hg]
 rw[if_pos hw];have hS:cJ (cQ P G w1 F0 β0 iV) F β lv w:=aF.xe hs
 have hlw:w.heap[l]?=some (.loop rec):=by
  rw[<-hl];have hlt:=(Array.getElem?_eq_some_iff.1 hl).1;exact hs.old l hlt (λ⟨k,hk,he⟩=>hnl k hk he)
 have hv0:=hs.val fo
 have E5:a.eval fo=.func (.yield l) #[] #[]:=by
  have h1:(Vw.mk F β lv w).av (a.eval fo) (.c (.d (.func (.yield l) [] []))):=hfo▸hv0;obtain⟨h1,_⟩:=h1;generalize a.eval fo=u at h1
  cases h1 with
  |func _ fs cs _ _ hf hc _ _=>
   have e1:fs=#[]:=Array.size_eq_zero_iff.1 (by simpa using hf);have e2:cs=#[]:=Array.size_eq_zero_iff.1 (by simpa using hc);rw[e1,e2]
 have hsz:(cl.args.map a.eval).size=xs.length:=by rw[<-hxs];simp
 have hav:∀i (h:i<xs.length) (h':i<(cl.args.map a.eval).size),(Vw.mk F β lv w).av (cl.args.map a.eval)[i] xs[i]:=by
  intro i p q;subst hxs;simp only[abQ,Za,ZR];exact hs.val _
 have hr:(execOp a.eval o).run P w=.ok (.round l rec.fn ((rec.params.zip (cl.args.map a.eval)).foldl (λtmps (t,a)=>tmps.setIfInBounds t a) rec.tmps) rec.assign rec.body) w:=by
  simp only[execOp,ho,resolve,hcal,E5,Deferred.ofValue,bG,ZF,gE,invoke];have:=run_yield (P:=P) (args:=cl.args.map a.eval) hlw (by rw[hsz,hps]);simpa using this
 refine⟨λ_ _=>trivial,?_⟩;rw[Oper.semAt_eq _ _ _ (λc h=>by rw[ho]at h;cases h)];show o.uponIn (qb none) 0 P a K Q ((execOp a.eval o).run P w);rw[hr,Oper.uponIn_round];refine⟨λh=>by simp[qb,Fence.wide]at h,?_⟩;refine(hround F β w _ hS (hs.vj hok) hlw hsz hav).mono λe w' he=>?_;obtain⟨rfl,F',β',hX⟩:=he;exact hK F' β' _ _ (aF.BJ (hs.AG hX) hd (Vw.nG _ _))
def EM{tmps:Array Value}{fr2:Nat->AV}(hS:cJ (cQ P G w F β lv) F β lv w)(hok:cP lv)
 (hlw:w.heap[l]?=some (.loop rec)) (hst:rec.state=.ready) (hpe:rec.pending=none) (hn:tmps.size=n) (hfr:∀t,(Vw.mk F β lv w).av (tmps.getD t undef) (fr t)) (hFl:¬F l)
 (h1:∀c:Ctx,c.P=P->c.G=G->c.n=n->c.iV=lv->AW c (some l) rec.assign ⟨fr,lv⟩ κ (λx s _=>x=.normal/\s=⟨fr2,lv⟩))
 (h2:∀c:Ctx,c.P=P->c.G=G->c.n=n->c.iV=lv->AW c (some l) rec.body ⟨fr2,lv⟩ κ (λx s _=>x=.normal/\s.lv=lv')) :
 RoundIn (qb none) 0 P l rec.fn tmps rec.assign rec.body w λe w'=>e=.returned (.bool true)/\∃F' β',cJ (cQ P G w F β lv) F' β' lv' w':=by
 have hlt:l<w.heap.size:=(Array.getElem?_eq_some_iff.1 hlw).1
 have hnot:∀(F:Nat->Prop) (β:Key->Nat) (lv:Key->LB) (c:Ctx) (s:aE) (a:Act) (w:World) (r:Loop),aF c F β s a w->w.heap[l]?=some (.loop r)->∀k,(s.lv k).live=true->β k≠l:=by
  intro F β lv c s a w r h hl k hk he;have hb:=h.bQ k;unfold Vw.bQ at hb
  cases e:s.lv k with
  |cells own fz T cs=>simp only[e]at hb;obtain⟨arr,b1,_⟩:=hb;rw[he,hl]at b1;cases b1
  |map own es=>simp only[e]at hb;obtain⟨x,y,b1,_⟩:=hb;rw[he,hl]at b1;cases b1
  |hole=>rw[e]at hk;cases hk
  |dead=>rw[e]at hk;cases hk
  |nils=>rw[e]at hk;cases hk
 have s0:aF (Oa P G w F β lv n l) F β ⟨fr,lv⟩ ⟨tmps,[]⟩ w:=aF.YY l (cJ.enter hS (a:=⟨tmps,[]⟩) hn rfl hfr);refine roundIn_of_wpIn trivial ?_;show rec.assign.wpIn (qb (some l)) 0 P _ _ w;refine wpIn_mono (AW.fresh (r:=some l) s0 hok (h1 ·)) ?_;rintro e a1 w1 ⟨x,s1,κ1,F1,β1,⟨rfl,rfl⟩,s1',hx,z1,z2,z2b,z3⟩
 cases hx
 have hl1:w1.heap[l]?=some (.loop rec):=by rw[z3 l hlt (hnot F β lv _ _ _ w rec s0 hlw)];exact hlw
 refine⟨_,run_beginRound hl1 hst,?_⟩
 have hF1:¬F1 l:=λh=>by
  rcases z2 l h with h|h
  ·exact hFl h
  ·omega
 have s2:=s1'.BS (.loop { rec with state:=.busy }) hl1 (λ_ _ _ h=>by cases h) hF1 (hnot _ _ lv _ _ _ _ _ s1' hl1) (.inr (.inr rfl));have hl2:(w1.putObj l (.loop { rec with state:=.busy })).heap[l]?=some (.loop { rec with state:=.busy }):=World.putObj_heap_same (by omega);show rec.body.wpIn (qb (some l)) 0 P _ _ _;refine wpIn_mono (AW.fresh (r:=some l) s2 hok (h2 ·)) ?_;rintro e a3 w3 ⟨x,s3,κ3,F3,β3,⟨rfl,hlv⟩,s3',hx,y1,y2,y2b,y3⟩
 cases hx
 have hl3:w3.heap[l]?=some (.loop { rec with state:=.busy }):=by rw[y3 l (by simp;omega) (hnot _ _ lv _ _ _ _ _ s2 hl2)];exact hl2
 have hF3:¬F3 l:=λh=>by
  rcases y2 l h with h|h
  ·exact hF1 h
  ·simp at h;omega
 have hrec:({ { rec with state:=.busy } with state:=.ready,pending:=none }:Loop)=rec:=by
  cases rec;simp only at hst hpe;subst hst;subst hpe;rfl
 have s4:=s3'.BS (.loop rec) hl3 (λ_ _ _ h=>by cases h) hF3 (hnot _ _ lv _ _ _ _ _ s3' hl3) (.inr (.inr rfl));have hl4:(w3.putObj l (.loop rec)).heap[l]?=some (.loop rec):=World.putObj_heap_same (Array.getElem?_eq_some_iff.1 hl3).1;have hS4:=s4.YJ hlw hl4 (λ_ _ _ h=>by cases h) (λ_ _ h=>by cases h);refine⟨.bool true,w3.putObj l (.loop rec),?_,rfl,F3,β3,hlv▸hS4⟩;have:=run_endRound (P:=P) none hl3;simp only[Option.isNone_none,if_true]at this;rw[this];rw[hrec]
end Go.Am
namespace Go.Am
open Go.Am.Ty Go.Proofs N
def aP:List UInt8->Nat->Nat
 |[],n=>n
 |c::l,n=>aP l (10*n+(c.toNat-48))
def wk(l:List UInt8):Prop:=∀c∈l,48<=c.toNat/\c.toNat<=57
def kS:∀(a b:List UInt8) (n:Nat),aP (a++b) n=aP b (aP a n)
 |[],b,n=>rfl
 |c::a,b,n=>by simp[aP,kS a b]
def fB:∀(l:List UInt8) (n:Nat),aP l n=n*10^l.length+aP l 0
 |[],n=>by simp[aP]
 |c::l,n=>by
  simp only[aP,ZA,Zl];rw[fB l (10*n+_),fB l (10*0+_)];simp only[Z7,Zw,Zh,Zn];rw[show 10*(n*10^l.length)=n*(10^l.length*10) by rw[Zk 10,Zn]];omega
def nT:∀{l:List UInt8},wk l->aP l 0<10^l.length
 |[],_=>by simp[aP]
 |c::l,h=>by
  have h1:=h c (aaJ ..);have ih:=nT (l:=l) (λx hx=>h x (aaI _ hx));simp only[aP,ZA,Zl];rw[fB];have h2:(10*0+(c.toNat-48))*10^l.length<=9*10^l.length:=Zq _ (by omega);omega
def tO.plain{c:Ctx}{r:Option Nat}{ops:Array Oper}{o:Oper}{s:aE}{κ:Key}{x:AV}{vc:Prop}(hd:∀d,o.dst=some d->d<c.n)(hg:o.guard=none)
 (h:bK c.P o.op (o.op.operands.toList.map (s.val c.G)) s.lv κ=some (x,[],[],vc)) (hvc:vc) {s1:aE}(h1:s1=s.put o.dst x):tO c r ops o s s1:=by
 subst h1;exact tO.RJ (cX.plain hd (by unfold eB;rw[hg]) h hvc)
def oO(st:Bool)(n:Nat):Option (List Nat):=if st then some (aK 4294967296 n)else none
def nD:Option (List Nat)->DV
 |none=>.nilsl
 |some l=>.sl (dK .u32 l)
def QA(o:Option (List Nat)):(AV.c (.d (nD o)))=nK .u32 o:=by cases o<;>rfl
@[simp]def TT(u:List UInt8)(d:DV):kG u d 0=.cells false false 9 [.d (.str u)]:=by simp[kG,az]
@[simp]def Qf(u:List UInt8)(d:DV):kG u d 1=.cells false false 222 [.d d]:=by simp[kG,az]
@[simp]def UD(u u':List UInt8)(d:DV):az (kG u d) 0 (.cells false false 9 [.d (.str u')])=kG u' d:=by
 funext k;unfold kG az
 by_cases h0:k=0
 ·subst h0;simp
 ·simp[h0]
def qe(u:List UInt8)(d:DV):gY (kG u d):=by
 intro k own es h;rcases Kr u d k with h1|⟨T,cs,h1⟩<;>rw[h1]at h<;>cases h
def Kx(G:List (List DV))(v sz:Nat)(lv:Key->LB)(r:Option Nat)(fr:Nat->AV)(f8:fr 8=.c (.d (.int .u32 v)))(f9:fr 9=.c (.d (.int .u32 sz))):
 ∀c:Ctx,c.P=prog->c.G=G->c.n=20->AW c r Bk ⟨fr,lv⟩ 0 (λx s _=>x=.normal/\s=⟨az (az fr 4 (.c (.d (.int .u32 v)))) 5 (.c (.d (.int .u32 sz))),lv⟩):=by
 rintro⟨_,Gc,w0,F0,W0,_,iV,β0⟩ rfl rfl rfl;unfold Bk;refine aam f8 ?_;refine aac ?_;simp[f9]
noncomputable def GK:Code:=match Tryz.f330.body with|some b=>b|_=>.skip
def Oi(c:Ctx)(Y:AV):Prop:=
 ∀(u:List UInt8) (n:Nat) (st:Bool) (v sz L:Nat) (fr:Nat->AV) (ops:Array Oper) (o:Oper) (cl:Call),v<4294967296->sz<4294967296->(st=false->n=0)->L<=10000000000->n<4294967296^L ->
  o.dst=some 32->o.guard=none->o.op=.call cl->cl.callee=.value (.tmp 29)->cl.args=#[.tmp 30,.tmp 31]->fr 29=Y->fr 30=.c (.d (.int .u32 v))->fr 31=.c (.d (.int .u32 sz)) ->
  tO c none ops o ⟨fr,kG u (nD (oO st n))⟩ (aE.put ⟨fr,kG u (nD (oO true (n*sz+v)))⟩ (some 32) (.c (.d (.bool true))))
def pw(j:Nat):Nat:=10^j
def Pu(j:Nat):pw (j+1)=10*pw j:=by unfold pw;rw[Zl,Zk]
def Pg:pw 0=1:=rfl
def WH{j:Nat}(h:j<=9):pw j<=1000000000:=by
 unfold pw;have:=ZQ (n:=10) (by decide) h;simpa using this
def GJ{u:List UInt8}{j:Nat}{ch:UInt8}{rest:List UInt8}(h:u.drop j=ch::rest):u.take (j+1)=u.take j++[ch]/\u.drop (j+1)=rest/\j<u.length:=by
 have hlt:j<u.length:=by
  apply ZG;intro hc;rw[abj (by omega)]at h;cases h
 have e:u.drop j=u[j]::u.drop (j+1):=Z6 hlt;rw[e]at h;simp only[ZB]at h;refine⟨?_,h.2,hlt⟩;rw[abr,cy hlt,h.1];rfl
def Pk(G:List (List DV))(s0:List UInt8)(hD:wk s0)(hlen:s0.length<=1000000000)(Y:AV)(hY:Y.bC=true):
 ∀c:Ctx,c.P=prog->c.G=G->c.n=34->Oi c Y->AW c none GK ⟨λt=>[Y,.c (.ptr 0 0)].getD t .undef,kG s0 .nilsl⟩ 0 (λx s _=>x=.normal/\s.lv=kG [] (nD (oO (!s0.isEmpty) (aP s0 0)))):=by
 rintro⟨_,Gc,w0,F0,W0,_,iV,β0⟩ rfl rfl rfl hy;unfold GK;refine aaf ?_
 refine aao (λ(p:List UInt8×Nat×Bool×Nat)=>⟨aU [(0,Y),(1,.c (.ptr 0 0))],kG p.1 (nD (oO p.2.2.1 p.2.1))⟩) 0
  (λp=>wk p.1/\p.2.2.2+p.1.length<=1000000000/\p.2.1<4294967296^p.2.2.2/\aP p.1 p.2.1=aP s0 0/\(p.2.2.1=false->p.2.1=0/\p.1=s0)/\(p.2.2.1=true->s0≠[]))
  (λp=>p.1.length) (s0,0,false,0) (Le.mk' _ (by simp[oO,nD]) (qe _ _) (by simp[hY])) (by simp;exact⟨hD,hlen⟩) ?_
 rintro⟨u,n,st,L⟩ ⟨h1,h2,h3,h4,h5,h6⟩;simp only at h1 h2 h3 h4 h5 h6;refine aaa λK hK=>aab ?_
 by_cases hu:u=[]
 ·subst hu;refine aah (aan ?_);simp;have e1:n=aP s0 0:=h4
  have e2:st = !s0.isEmpty:=by
   cases st with
   |true=>have:=h6 rfl;cases s0<;>simp_all
   |false=>have:=(h5 rfl).2;simp[<-this]
  rw[<-e1,<-e2]
 have hu0:0<u.length:=List.length_pos_iff.2 hu
 have hs0:s0≠[]:=by
  cases st with
  |true=>exact h6 rfl
  |false=>rw[<-(h5 rfl).2];exact hu
 refine aag (by simp[hu0]<;>omega) (aad (hK _ _ (aaf (aab ?_))));refine aaa λK hK=>?_
 have fin:∀(j:Nat) (fr:Nat->AV) (κ:Nat),0<j->j<=9->j<=u.length->fr 0=Y->fr 1=.c (.ptr 0 0)->fr 3=.c (.d (.int .u32 (aP (u.take j) 0)))->fr 4=.c (.d (.int .u32 (pw j)))->K ⟨fr,kG (u.drop j) (nD (oO st n))⟩ κ:=by
  intro j fr κ hj0 hj9 hju f0 f1 f3 f4
  have hvj:aP (u.take j) 0<pw j:=by
   unfold pw;have:=nT (l:=u.take j) (λc hc=>h1 c (aa8 hc))
   rwa[Ze,ZS hju]at this
  have hpj:=WH hj9
  have hdec:aP (u.drop j) (n*pw j+aP (u.take j) 0)=aP s0 0:=by
   rw[<-h4]
   conv=>rhs;rw[<-abp j u]
   rw[kS,fB (u.take j) n,Ze,ZS hju];rfl
  have hbig:n*pw j+aP (u.take j) 0<4294967296^(L+1):=by
   rw[Zl];have g1:n*pw j+aP (u.take j) 0<(n+1)*pw j:=by rw[Zh];omega
   exact ZE g1 (aa6 (by omega) (by omega))
  generalize aP (u.take j) 0=v at*
  generalize hpw:pw j=q at*
  apply hK;refine aaa λK2 hK2=>?_;have hd:∀t:Nat,t<34->∀d,some t=some d->d<34:=λt ht d h=>by cases h;exact ht
  refine AW.N4 (s':=⟨az (az (az (az (az fr 29 Y) 30 (.c (.d (.int .u32 v)))) 31 (.c (.d (.int .u32 q)))) 32 (.c (.d (.bool true)))) 33 (.c (.d (.bool false))),kG (u.drop j) (nD (oO true (n*q+v)))⟩) ?_ ?_
  ·refine⟨⟨az fr 29 Y,kG (u.drop j) (nD (oO st n))⟩,?_,⟨az (az fr 29 Y) 30 (.c (.d (.int .u32 v))),kG (u.drop j) (nD (oO st n))⟩,?_,⟨az (az (az fr 29 Y) 30 (.c (.d (.int .u32 v)))) 31 (.c (.d (.int .u32 q))),kG (u.drop j) (nD (oO st n))⟩,?_,
    ⟨az (az (az (az fr 29 Y) 30 (.c (.d (.int .u32 v)))) 31 (.c (.d (.int .u32 q)))) 32 (.c (.d (.bool true))),kG (u.drop j) (nD (oO true (n*q+v)))⟩,?_,⟨az (az (az (az (az fr 29 Y) 30 (.c (.d (.int .u32 v)))) 31 (.c (.d (.int .u32 q)))) 32 (.c (.d (.bool true)))) 33 (.c (.d (.bool false))),kG (u.drop j) (nD (oO true (n*q+v)))⟩,?_,rfl⟩
   ·exact tO.plain (κ:=0) (x:=fr 0) (hd 29 (by decide)) rfl rfl trivial (by rw[f0];rfl)
   ·exact tO.plain (κ:=0) (x:=fr 3) (hd 30 (by decide)) rfl rfl trivial (by rw[f3];rfl)
   ·exact tO.plain (κ:=0) (x:=fr 4) (hd 31 (by decide)) rfl rfl trivial (by rw[f4];rfl)
   ·exact hy (u.drop j) n st v q L _ _ _ _ (by omega) (by omega) (λh=>(h5 h).1) (by omega) h3 rfl rfl rfl rfl rfl (by simp) (by simp) (by simp)
   ·exact tO.plain (κ:=0) (x:=.c (.d (.bool false))) (hd 33 (by decide)) rfl rfl trivial rfl
  ·simp only[qp];apply hK2;refine aah (aad ?_);simp only[vh,qp];refine⟨(u.drop j,n*q+v,true,L+1),Le.mk' _ rfl (qe _ _) (by simp[hY,f0,f1]),⟨λc hc=>h1 c (aa1 hc),by simp;omega,hbig,hdec,(by intro h;cases h),(λ_=>hs0)⟩,by simp;omega⟩
 refine aab ?_;refine aaf ?_
 refine aao (λ(j:Nat)=>⟨aU [(0,Y),(1,.c (.ptr 0 0)),(3,.c (.d (.int .u32 (aP (u.take j) 0)))),(4,.c (.d (.int .u32 (pw j:Int)))),(5,.c (.d (.int .i64 j)))],kG (u.drop j) (nD (oO st n))⟩) 0
  (λj=>j<=9/\j<=u.length) (λj=>9-j) 0 (Le.mk' _ (by simp) (qe _ _) (by simp[hY,aP,Pg])) (by simp) ?_
 rintro j ⟨hj,hju⟩
 have hvj:aP (u.take j) 0<pw j:=by
  unfold pw;have:=nT (l:=u.take j) (λc hc=>h1 c (aa8 hc))
  rwa[Ze,ZS hju]at this
 have hpj:=WH hj;refine aaa λK2 hK2=>aaa λK3 hK3=>?_
 by_cases hj9:j<9
 ·have hj9':(j:Int)<9:=by omega
  by_cases hje:j=u.length
  ·subst hje;refine aau hj9 hj9' (hK3 _ _ ?_);refine aah (aan ?_);simp;have:=fin u.length;simp at this;refine this _ _ hu0 hj (by simp) (by simp) (by simp) (by simp)
  ·have hlt:j<u.length:=by omega
   obtain⟨ch,rest,hcr⟩:∃ch rest,u.drop j=ch::rest:=⟨u[j],u.drop (j+1),Z6 hlt⟩
   obtain⟨t1,t2,_⟩:=GJ hcr;have hch:48<=ch.toNat/\ch.toNat<=57:=h1 ch (aa1 (by rw[hcr];exact aaJ ..));have hlt':0<u.length-j:=by omega
   refine aay hj9 hj9' hlt hlt' (hK3 _ _ ?_);refine aag (by simp[hlt,hlt']<;>omega) (aad (hK2 _ _ (aaa λK2 hK2=>aaf (aaa λK3 hK3=>?_))));have hpj':=WH (j:=j+1) (by omega);have hps:=Pu j;obtain⟨x,hx⟩:∃x,ch.toNat-48=x:=⟨_,rfl⟩
   obtain⟨v,hv⟩:∃v,aP (u.take j) 0=v:=⟨_,rfl⟩
   obtain⟨v',hv'⟩:∃v',aP (u.take (j+1)) 0=v':=⟨_,rfl⟩
   obtain⟨q',hq'⟩:∃q',pw (j+1)=q':=⟨_,rfl⟩
   have hvv:v'=10*v+x:=by rw[<-hv',t1,kS,hv,<-hx];rfl
   rw[hq']at hps hpj';rw[hv]at hvj
   have w1:u8.wrap ((ch.toNat:Int)-48)=(x:Int):=by
    rw[cM ⟨by simp only[Bl];omega,by simp only[qj];omega⟩];omega
   have w2:u32.wrap (x:Int)=(x:Int):=uH (by omega) (by omega);have w3:u32.wrap (10*(v:Int))=10*(v:Int):=uH (by omega) (by omega);have w4:u32.wrap (10*(v:Int)+(x:Int))=(v':Int):=by rw[uH (by omega) (by omega)];omega
   have w5:u32.wrap (10*(pw j:Int))=(q':Int):=by rw[uH (by omega) (by omega)];omega
   have w6:i64.wrap ((j:Int)+1)=((j+1:Nat):Int):=by rw[cM ⟨by simp only[Bl];omega,by simp only[qj];omega⟩];omega
   refine aac ?_;simp[hcr,hv,w1,w2,w3,w4,w5];apply hK3;refine aau hcr @aj.eq_1 (hK2 _ _ ?_);refine aaz 0 ?_;refine aac ?_;simp[w6];refine⟨j+1,Le.mk' _ (by simp[t2]) (qe _ _) (by simp[hY,hv',hq']),?_,?_⟩
   ·omega
   ·omega
 ·have hj':j=9:=by omega
  subst hj';refine aaD (hK3 _ _ ?_);refine aah (aan ?_);simp;refine fin 9 _ _ (by omega) (by omega) hju (by simp) (by simp) (by simp) (by simp)
end Go.Am
namespace Go.Am
open Go.Proofs Go.Am.Ty N
variable {P:Program}{G:List (List DV)}{lv:Key->LB}{F:Nat->Prop}{β:Key->Nat}{w:World}
def JN:Tryz.f330.body=some GK:=rfl
def Gi(s:ByteArray)(w:World):Calls prog 279 #[.string s] w λe w'=>e=.returned (.func (.func 330) #[] #[.pointer (some ⟨w.heap.size,0,none⟩)])/\w'=w.alloc (.cells #[.string s] 9):=by
 have hmf:∀(fn:Fn) (first cap:Array Value) (w:World),(Instr.makeFunc fn first cap).run prog w=.ok (.func fn first cap) w:=λ_ _ _ _=>rfl
 go_enter func279,Tryz.ntmps279
 go_wp2
 go_ret
 exact⟨rfl,rfl⟩
def RW(s:ByteArray)(w:World):World:=(w.alloc (.cells #[.slice none 0 0] 222)).alloc (.cells #[.string s] 9)
def N9(s:ByteArray)(w:World):Array Value:=#[.string s,undef,.slice none 0 0,.pointer (some ⟨w.heap.size,0,none⟩),undef,undef,.string s,.func (.func 330) #[] #[.pointer (some ⟨w.heap.size+1,0,none⟩)],undef,undef,undef,undef,undef,undef,undef,undef,undef,undef,undef,undef]
def NH(s:ByteArray)(w:World)(R:Ending->World->Prop)
 (h:(Code.rangeFunc (.tmp 7) #[8,9] Bk ym).wpIn Fence.wide 0 prog (λe a' W=>e=.normal/\∃D v,a'={ tmps:=N9 s w,defers:=[{ target:=.collected D,args:=#[] }] }/\W.heap[D]?=some (.deferred (some []))/\W.cell? ⟨w.heap.size,0,none⟩=some v/\R (.returned v) (W.putObj D (.deferred none))) ⟨N9 s w,[]⟩ (RW s w)) :
 Calls prog 226 #[.string s] w R:=by
 refine(callsIn_wide (n:=0)).1 ?_;refine callsIn_of_wp_marks func226 rfl trivial ?_ rfl;simp only[Tryz.ntmps226,abS,ZA,aaG,Nat.reduceAdd,Nat.reduceSub,Array.replicate_succ,Array.replicate_zero,List.push_toArray,List.append_toArray,aaS,abF]
 gi_wp2
 refine⟨trivial,rfl,((callsIn_wide (n:=0)).2 (Gi s _)).mono ?_⟩;rintro e w' ⟨rfl,rfl⟩
 gi_wp2
 refine wpIn_mono (show(Code.rangeFunc (.tmp 7) #[8,9] Bk ym).wpIn Fence.wide 0 prog _ _ _ from h) ?_;rintro e a' W ⟨rfl,D,v,rfl,hD,hc,hR⟩;simp only[Exit.inBlock,Exit.then]
 apply_assumption
 unfold N9
 gi_wp2
 refine⟨by simp,.inl ⟨_,_,rfl,run_takeDeferred hD,?_⟩⟩;exact⟨_,results_tmp rfl _ _ _,by simpa using hR⟩
def Kh{f:FuncId}{fn:Func}{code:Code}{args:List AV}{lv':Key->LB}{κ:Nat}(hf:P.funcs[f]?=some fn)(hb:fn.body=some code)(hl:args.length<=fn.ntmps)(hres:fn.results=#[]){vs:Array Value}(hS:cJ (cQ P G w F β lv) F β lv w)(hvl:vs.size=args.length)(hv:∀i (h:i<args.length) (h':i<vs.size),(Vw.mk F β lv w).av vs[i] args[i])
 (h:AW { cQ P G w F β lv with n:=fn.ntmps } none code ⟨λt=>args.getD t .undef,lv⟩ κ (λx s _=>x=.normal/\s.lv=lv')) :
 Calls P f vs w λe w'=>(∃v,e=.returned v)/\∃F' β',cJ (cQ P G w F β lv) F' β' lv' w':=by
 refine calls_of_wp hf hb ?_
 let a:Act:={ tmps:=vs++Array.replicate (fn.ntmps-vs.size) undef,defers:=[] }
 have hst:aF { cQ P G w F β lv with n:=fn.ntmps } F β ⟨λt=>args.getD t .undef,lv⟩ a w:=by
  refine cJ.with (c:={ cQ P G w F β lv with n:=fn.ntmps }) hS ?_ rfl (λt=>?_)
  ·show(vs++Array.replicate (fn.ntmps-vs.size) undef).size=fn.ntmps;simp;omega
  ·show(Vw.mk F β lv w).av ((vs++Array.replicate (fn.ntmps-vs.size) undef).getD t undef) (args.getD t .undef)
   by_cases ht:t<args.length
   ·have h1:args.getD t .undef=args[t]:=cY ht
    have h2:(vs++Array.replicate (fn.ntmps-vs.size) undef).getD t undef=vs[t]'(by omega):=by
     rw[ZZ,acy (by omega),Z9 (by omega)];rfl
    rw[h1,h2];exact hv t ht (by omega)
   ·have h1:args.getD t .undef=.undef:=cS ht
    have h2:(vs++Array.replicate (fn.ntmps-vs.size) undef).getD t undef=undef:=by
     rw[ZZ,acz (by omega),abt];split<;>rfl
    rw[h1,h2];rfl
 have hw:=(wpIn_wide (n:=0)).1 (h F β a w hst);refine wp_mono hw λe a' w' hp=>?_;obtain⟨e',s',κ',F',β',⟨rfl,hq⟩,hs',he⟩:=hp
 cases he
 exact⟨hs'.defers,.tuple #[],by simp[results,hres],⟨_,rfl⟩,F',β',hq▸hs'.xe⟩
def vq(u:List UInt8)(d:DV):cP (kG u d):=by
 intro k;rcases Kr u d k with h|⟨T,cs,h⟩<;>rw[h]<;>rfl
def MF(s:List UInt8)(d:DV):az (az (az (az (λ_=>LB.hole) 1 (.cells true false 222 [.d d])) 1 (.cells false false 222 [.d d])) 0 (.cells true false 9 [.d (.str s)])) 0 (.cells false false 9 [.d (.str s)])=kG s d:=by
 funext k;unfold kG az
 by_cases h0:k=0
 ·subst h0;simp
 ·by_cases h1:k=1<;>simp[h0,h1]
def Kn{s:List UInt8}(hlv:lv=λ_=>.hole)(hS:cJ (cQ P G w F β lv) F β lv w)(hs:s.length<=9223372036854775807):
 ∃β2:Key->Nat,cJ (cQ P G w F β lv) F β2 (kG s .nilsl) (RW ⟨s.toArray⟩ w)/\β2 1=w.heap.size/\β2 0=w.heap.size+1:=by
 subst hlv
 have h1:=aF.alloc (κ:=1) hS rfl (arr:=#[.slice none 0 0]) 222 (cs:=[.d .nilsl]) (by simp) (λi p q=>by
  have:i=0:=by simp at p;omega
  subst this;exact⟨.nilsl,rfl⟩)
 have h2:=h1.nX (k:=1) (T:=222) (cs:=[.d .nilsl]) false (by simp only[aC])
 have h3:=aF.alloc (κ:=0) h2 (by simp[az]) (arr:=#[.string ⟨s.toArray⟩]) 9 (cs:=[.d (.str s)]) (by simp) (λi p q=>by
  have:i=0:=by simp at p;omega
  subst this;refine⟨?_,rfl⟩;have:=Rd.str (M:=(Vw.mk F (az β 1 w.heap.size) (az (az (λ_=>LB.hole) 1 (.cells true false 222 [.d .nilsl])) 1 (.cells false false 222 [.d .nilsl])) (w.alloc (.cells #[.slice none 0 0] 222))).mem) ⟨s.toArray⟩ (by simpa using hs);simpa using this)
 have h4:=h3.nX (k:=0) (T:=9) (cs:=[.d (.str s)]) false (by simp only[aC]);refine⟨az (az β 1 w.heap.size) 0 (w.alloc (.cells #[.slice none 0 0] 222)).heap.size,?_,?_,?_⟩
 ·have:=h4.xe;rw[<-MF s .nilsl];exact this
 ·simp[az]
 ·simp[az]
theorem qI(G:List (List DV))(s:List UInt8)(hD:wk s)(hlen:s.length<=1000000000):aa prog G 226 [.c (.d (.str s))] (nK .u32 (oO (!s.isEmpty) (aP s 0))):=by
 intro F β w vs hS hl hv;have hlv:bq [] []=λ_=>LB.hole:=gW
 obtain⟨u,rfl,hu⟩:=args1 hl hv;rw[Vw.jq hu];obtain⟨β2,hS2,e1,e0⟩:=Kn hlv hS (s:=s) (by omega);refine NH _ w _ ?_;refine wpIn_rangeFunc ?_;intro fn hfn;obtain⟨rec,hrec⟩:∃rec:Loop,rec={ state:=.ready,pending:=none,fn,tmps:=N9 ⟨s.toArray⟩ w,params:=#[8,9],assign:=Bk,body:=ym,defers:=(RW ⟨s.toArray⟩ w).heap.size }:=⟨_,rfl⟩
 have hsz:(RW ⟨s.toArray⟩ w).heap.size=w.heap.size+2:=by simp[RW]
 obtain⟨w1,hw1⟩:∃w1,((RW ⟨s.toArray⟩ w).alloc (.deferred (some []))).alloc (.loop rec)=w1:=⟨_,rfl⟩
 have hD1:w1.heap[w.heap.size+2]?=some (.deferred (some [])):=by
  rw[<-hw1,heap_alloc,if_neg (by simp[hsz]),heap_alloc,if_pos hsz.symm]
 have hL1:w1.heap[w.heap.size+3]?=some (.loop rec):=by
  rw[<-hw1,heap_alloc,if_pos (by simp[hsz])]
 have hw1s:w1.heap.size=w.heap.size+4:=by rw[<-hw1];simp[hsz]
 have hS3:cJ (cQ prog G w F β (bq [] [])) F β2 (kG s .nilsl) w1:=by
  rw[<-hw1];exact(hS2.ue _).ue _
 have hS4:cJ (cQ prog G w1 F β2 (kG s .nilsl)) F β2 (kG s .nilsl) w1:=aF.vj hS3 (vq _ _);have hFw:∀b,F b->b<w.heap.size:=λb hb=>(hS.mo b hb).1
 have hnot:∀b,w.heap.size+2<=b->∀k,(kG s .nilsl k).live=true->β2 k≠b:=by
  intro b hb k hk he
  by_cases h1:k=1
  ·subst h1;omega
  ·by_cases h0:k=0
   ·subst h0;omega
   ·rw[show kG s .nilsl k=.hole by unfold kG az;simp[h0,h1]]at hk;cases hk
 refine⟨w.heap.size+3,[{ target:=.collected (w.heap.size+2),args:=#[] }],w1,{ target:=.fn (.func 330) #[.pointer (some ⟨w.heap.size+1,0,none⟩)],args:=#[.func (.yield (w.heap.size+3)) #[] #[]] },w1,330,
  #[.func (.yield (w.heap.size+3)) #[] #[]]++#[.pointer (some ⟨w.heap.size+1,0,none⟩)],w1,?_,?_,λ_ _=>trivial,?_,(λh=>by simp[Fence.wide]at h),?_⟩
 ·have:=run_enterLoop_outer (P:=prog) (w:=RW ⟨s.toArray⟩ w) fn (N9 ⟨s.toArray⟩ w) #[8,9] Bk ym;rwa[<-hrec,hw1,hsz]at this
 ·have hg:(Act.eval ⟨N9 ⟨s.toArray⟩ w,[]⟩ (.tmp 7))=.func (.func 330) #[] #[.pointer (some ⟨w.heap.size+1,0,none⟩)]:=rfl;simp only[resolve,hg];simp[go_sem]
 ·have:=ji (P:=prog) (f:=330) (by kernel_rfl) (#[.func (.yield (w.heap.size+3)) #[] #[]]++#[.pointer (some ⟨w.heap.size+1,0,none⟩)]) w1;simpa[invoke,go_sem]using this
 ·refine(callsIn_wide (n:=0)).2 ?_
  let Y:AV:=.c (.d (.func (.yield (w.heap.size+3)) [] []))
  have hit:=Kh (κ:=0) (lv':=kG [] (nD (oO (!s.isEmpty) (aP s 0)))) (args:=[Y,.c (.ptr 0 0)]) (vs:=#[.func (.yield (w.heap.size+3)) #[] #[]]++#[.pointer (some ⟨w.heap.size+1,0,none⟩)]) func330 JN (by rw[Tryz.ntmps330];simp) rfl hS4 rfl (λi p q=>by
   have:i=0\/i=1:=by simp at p;omega
   rcases this with rfl|rfl
   ·exact⟨.func _ _ _ _ _ rfl rfl (λi h=>absurd h (ZH i)) (λi h=>absurd h (ZH i)),rfl⟩
   ·refine⟨?_,rfl⟩;simp only[Vw.dh,TT,e0];rfl) (Pk G s hD hlen Y rfl _ rfl rfl rfl ?_)
  ·refine hit.mono λe w3 he=>?_;obtain⟨⟨v,rfl⟩,F3,β3,hX⟩:=he;have hold:∀b,w.heap.size+2<=b->b<w1.heap.size->w3.heap[b]?=w1.heap[b]?:=λb h1 h2=>hX.old b h2 (λ⟨k,hk,he⟩=>hnot b h1 k hk he)
   have hL3:w3.heap[w.heap.size+3]?=some (.loop rec):=(hold _ (by omega) (by omega)).trans hL1;have hD3:w3.heap[w.heap.size+2]?=some (.deferred (some [])):=(hold _ (by omega) (by omega)).trans hD1
   have hF3:∀b,w.heap.size+2<=b->b<w1.heap.size->¬F3 b:=by
    intro b h1 h2 hb;rcases(hX.mo _ hb).2 with h|h
    ·have:=hFw _ h;omega
    ·have:w1.heap.size<=b:=h;omega
   have hlv3:∀b,w.heap.size+2<=b->b<w1.heap.size->∀k,(kG [] (nD (oO (!s.isEmpty) (aP s 0))) k).live=true->β3 k≠b:=by
    intro b h1 h2 k hk he;rcases hX.eX (k:=k) hk with h|⟨j,hj,hj2⟩
    ·have:w1.heap.size<=β3 k:=h;omega
    ·exact hnot b h1 j hj (hj2.trans he)
   have hc1:β3 1=w.heap.size:=by
    have h0:kG s DV.nilsl 1≠.hole:=by simp
    rcases hX.keep 1 h0 with h|⟨h,_⟩
    ·simp at h
    ·rw[h];exact e1
   have q1:aF { cQ prog G w F β (bq [] [])with n:=0 } F3 β3 ⟨λ_=>.junk,kG [] (nD (oO (!s.isEmpty) (aP s 0)))⟩ ⟨#[],[]⟩ w3:=hS3.AG hX;have q2:=q1.BS (.loop { rec with state:=.exhausted }) hL3 (λ_ _ _ h=>by cases h) (hF3 _ (by omega) (by omega)) (hlv3 _ (by omega) (by omega)) (.inl (by show w.heap.size<=_;omega));have hD4:(w3.putObj (w.heap.size+3) (.loop { rec with state:=.exhausted })).heap[w.heap.size+2]?=some (.deferred (some [])):=(acs (by omega)).trans hD3;have q3:=q2.BS (.deferred none) hD4 (λ_ _ _ h=>by cases h) (hF3 _ (by omega) (by omega)) (hlv3 _ (by omega) (by omega)) (.inl (by show w.heap.size<=_;omega));have hb:=q2.bQ 1;unfold Vw.bQ at hb;simp only[Qf]at hb;obtain⟨arr,b1,b2,b3,_⟩:=hb;have hpos:0<arr.size:=by simp at b2;omega
   have h0:=b3 0 (by simp) hpos;simp only[ZJ]at h0;refine⟨none,w3.putObj (w.heap.size+3) (.loop { rec with state:=.exhausted }),?_,rfl,w.heap.size+2,arr[0],rfl,hD4,?_,arr[0],F3,β3,rfl,?_,?_⟩
   ·have:=run_endLoop (P:=prog) hL3 (by rw[hrec];simp);rw[this,hrec]
   ·rw[hc1]at b1;simp only[World.cell?];rw[b1];simp[hpos]
   ·refine⟨λk=>?_,λk k' h=>?_,λ_=>trivial,rfl,rfl,q3.mo,q3.F0,q3.old,q3.ge,q3.o9,λk h=>?_,q3.GX,q3.CX⟩
    ·unfold Vw.bQ;simp only[hlv]
    ·rw[hlv]at h;cases h
    ·exact absurd (by rw[hlv];rfl) h
   ·have hR:∀x,(Vw.mk F3 β3 (kG [] (nD (oO (!s.isEmpty) (aP s 0)))) (w3.putObj (w.heap.size+3) (.loop { rec with state:=.exhausted }))).cv arr[0] (.d x)->(Vw.mk F3 β3 (bq [] []) ((w3.putObj (w.heap.size+3) (.loop { rec with state:=.exhausted })).putObj (w.heap.size+2) (.deferred none))).av arr[0] (.c (.d x)):=by
     rintro x ⟨g1,g2⟩;refine⟨Rd.mono (gG (λ_ h=>h) (λb hb=>?_)) g1,g2⟩;refine acs (λe=>?_);subst e;exact hF3 _ (by omega) (by omega) hb
    rw[<-QA];exact hR _ h0
  ·intro u n st v sz L fr ops o cl hv hz hst hL hn hdst hg ho hcal hargs f29 f30 f31;rw[<-hdst];refine tO.yield (xs:=[.c (.d (.int .u32 v)),.c (.d (.int .u32 sz))]) (λd hd=>?_) hg ho hcal f29 (by rw[hargs];simp[aE.val,f30,f31]) (by rw[hrec];rfl) hL1 (λk hk=>hnot _ (by omega) k hk) (vq _ _) ?_
   ·rw[hdst]at hd;cases hd;rw[Tryz.ntmps330];decide
   intro F' β' w' vs' hX hXe hl' hvs hav;obtain⟨x,y,rfl,hx,hy⟩:=args2 hvs hav;have ht:(rec.params.zip #[x,y]).foldl (λtmps (t,a)=>tmps.setIfInBounds t a) rec.tmps=((N9 ⟨s.toArray⟩ w).setIfInBounds 8 x).setIfInBounds 9 y:=by rw[hrec];simp only[List.zip_toArray,List.zip_cons_cons,List.zip_nil_right,List.foldl_toArray,abC,List.foldl_nil]
   rw[ht]
   have hb1:β' 1=w.heap.size:=by
    have h0:kG s DV.nilsl 1≠.hole:=by simp
    rcases hX.keep 1 h0 with h|⟨h,_⟩
    ·simp at h
    ·rw[h];exact e1
   have hFl:¬F' (w.heap.size+3):=by
    intro hb;rcases(hX.mo _ hb).2 with h|h
    ·have:=hFw _ h;omega
    ·have:w1.heap.size<=w.heap.size+3:=h;omega
   let fr0:Nat->AV:=λt=>if t=3 then .c (.ptr 1 0)else if t=8 then .c (.d (.int .u32 v))else if t=9 then .c (.d (.int .u32 sz))else .junk
   have hval:val 4294967296 (dO (oO st n))=n:=by
    cases st with
    |false=>have:=hst rfl;subst this;rfl
    |true=>exact bt (by decide) n
   have hlenO:(dO (oO st n)).length<=L:=by
    cases st with
    |false=>simp[oO,dO]
    |true=>exact cN (by decide) hn
   refine EM (n:=20) (κ:=0) (fr:=fr0) (fr2:=az (az fr0 4 (.c (.d (.int .u32 v)))) 5 (.c (.d (.int .u32 sz)))) hXe (vq _ _) hl' (by rw[hrec]) (by rw[hrec]) (by simp[N9]) (λt=>?_) hFl ?_ ?_
   ·show(Vw.mk F' β' _ w').av _ (if t=3 then .c (.ptr 1 0)else if t=8 then .c (.d (.int .u32 v))else if t=9 then .c (.d (.int .u32 sz))else .junk)
    by_cases h3:t=3
    ·subst h3;simp only[if_true];have:(((N9 ⟨s.toArray⟩ w).setIfInBounds 8 x).setIfInBounds 9 y).getD 3 undef=.pointer (some ⟨w.heap.size,0,none⟩):=rfl;rw[this];refine⟨?_,rfl⟩;simp only[Vw.dh,Qf,hb1]
    ·by_cases h8:t=8
     ·subst h8;exact hx
     ·by_cases h9:t=9
      ·subst h9;exact hy
      ·simp only[h3,h8,h9,if_false];trivial
   ·intro c hP hG hn' _;rw[hrec];exact Kx G v sz _ _ fr0 rfl rfl c hP hG hn'
   ·intro c hP hG hn' _;rw[hrec];have:=JO G v sz hv hz (oO st n) (nD (oO st n)) (QA _) (by omega) L (by omega) (by rw[hval];exact hn) u (some (w.heap.size+3)) (az (az fr0 4 (.c (.d (.int .u32 v)))) 5 (.c (.d (.int .u32 sz)))) (by simp[az,fr0]) (by simp[az]) (by simp[az]) c hP hG hn';rwa[hval]at this
end Go.Am
namespace Go.Am
open Go.Proofs N
variable {x:AV}{V V':Vw}{v:Value}{us:List AV}
def vR(hm:∀a v,V.mem a v->V'.mem a v){x:CV}(hx:x.pure=true)(h:V.cv v x):V'.cv v x:=by
 cases x with
 |d x=>exact⟨Rd.mono hm h.1,h.2⟩
 |junk=>exact h
 |_=>cases hx
def m8(hm:∀a v,V.mem a v->V'.mem a v)(hx:x.kR=true)(h:V.n8 v x):V'.n8 v x:=by
 cases x with
 |c x=>exact vR hm hx h
 |agg cs=>
  obtain⟨arr,h1,h2,h3⟩:=h;refine⟨arr,h1,h2,λi p q=>vR hm ?_ (h3 i p q)⟩;simp only[AV.kR,Zb]at hx;exact hx _ (bh p)
 |tup l=>exact h.elim
 |undef=>exact h
 |junk=>trivial
def v8(hm:∀a v,V.mem a v->V'.mem a v)(hx:x.pure=true)(h:V.av v x):V'.av v x:=by
 cases x with
 |tup l=>
  obtain⟨arr,h1,h2,h3⟩:=h;refine⟨arr,h1,h2,λi p q=>m8 hm ?_ (h3 i p q)⟩;simp only[AV.pure,Zb]at hx;exact hx _ (bh p)
 |c x=>
  have hx':(AV.c x).kR=true:=hx;exact m8 (x:=.c x) hm hx' h
 |agg cs=>
  have hx':(AV.agg cs).kR=true:=hx;exact m8 (x:=.agg cs) hm hx' h
 |undef=>exact h
 |junk=>trivial
theorem b9.ve{P:Program}{G:List (List DV)}{f:FuncId}{lv:Key->LB}(hus:∀u∈us,u.pure=true)(hx:x.pure=true)(h:aa P G f us x):b9 P G f us lv (.ret x lv):=by
 intro F β w vs hS hl hv;have hlv:bq [] []=λ_=>LB.hole:=gW
 have hS0:cJ (cQ P G w F β (bq [] [])) F β (bq [] []) w:=by
  rw[hlv];exact⟨λk=>trivial,λk k' h=>(by cases h),λ_=>trivial,rfl,rfl,λb hb=>⟨(hS.mo b hb).1,.inl hb⟩,λ_ hb=>hb,λ_ _ _=>rfl,aY _,hS.o9,λk hk=>absurd rfl hk,λ_=>aY _,⟨rfl,rfl⟩⟩
 refine(h F β w vs hS0 hl (λi p q=>v8 (V:=Vw.mk F β lv w) (V':=Vw.mk F β (bq [] []) w) (λ_ _ h=>h) (hus _ (bh p)) (hv i p q))).mono λe w' he=>?_;obtain⟨v,F',β',rfl,hX,hav⟩:=he
 have hold:∀b,b<w.heap.size->w'.heap[b]?=w.heap[b]?:=λb hb=>hX.old b hb (by
  rintro⟨k,hk,_⟩;rw[hlv]at hk;cases hk)
 have hFl:∀b,F' b->F b\/w.heap.size<=b:=λb hb=>(hX.mo b hb).2
 refine⟨v,F',β,rfl,?_,v8 (V:=Vw.mk F' β' (bq [] []) w') (V':=Vw.mk F' β lv w') (λ_ _ h=>h) hx hav⟩;refine aF.step (hoo:=hX.CX) (c:={ cQ P G w F β lv with n:=0 }) (s:=⟨λ_=>.junk,lv⟩) hS hX.F0 (λb hb=>hold b (hS.mo b hb).1) (λk=>LB.bE _) (λ_ _ _=>rfl) hX.GX ?_ hS.inj (λb hb=>(hFl b hb).imp id λh=>⟨(hX.mo b hb).1,h⟩) hX.ge (λb hb _=>hold b hb);intro k hK;have hb:=hS.bQ k
 have key:(lv k).live=true->(Vw.mk F' β lv w').bQ { cQ P G w F β lv with n:=0 } k:=λhl=>
  Vw.bL hb hK rfl rfl (hold _ (hS.fZ hl)) (λ_ hf=>by
   rcases hFl _ hf with h|h
   ·exact h
   ·have:=hS.fZ (k:=k) hl;exact absurd h (by show ¬w.heap.size<=β k;omega))
 cases e:lv k with
 |cells own fz T cs=>
  cases fz with
  |false=>exact key (by rw[e];rfl)
  |true=>
   unfold Vw.bQ at hb⊢;simp only[e]at hb⊢;obtain⟨arr,b1,b2,b3,b4,b5⟩:=hb;simp only[if_true]at b4⊢;exact⟨arr,by rw[hold _ (hS.mo _ b4).1];exact b1,b2,λi p q=>hK.cv (b3 i p q),hX.F0 _ b4,b5⟩
 |map own es=>exact key (by rw[e];rfl)
 |hole=>unfold Vw.bQ;simp only[e]
 |dead=>unfold Vw.bQ;simp only[e]
 |nils=>unfold Vw.bQ;simp only[e]
noncomputable def Ar(f:Nat)(x:Spec)(t:Tb Spec):Tb Spec:=t.set .body x (pathOf f)
def mF(f j:Nat)(x:Spec)(t:Tb Spec):(Ar f x t).get .body (pathOf j)=if j=f then x else t.get .body (pathOf j):=by
 have:Decidable (pathOf j=pathOf f):=Classical.propDecidable _;unfold Ar;rw[Tb.lU]
 by_cases e:j=f
 ·subst e;simp
 ·rw[if_neg e,if_neg (λh=>e (ry h))]
def Mp:List UInt8->Bool
 |[]=>true
 |c::l=>(Nat.ble 48 c.toNat&&Nat.ble c.toNat 57)&&Mp l
def C1:∀{l:List UInt8},Mp l=true->wk l
 |[],_=>λc hc=>by cases hc
 |c::l,h=>by
  simp only[Mp,cn]at h;intro d hd;rcases List.mem_cons.1 hd with rfl|hd
  ·exact⟨Zu h.1.1,Zu h.1.2⟩
  ·exact C1 h.2 d hd
def HO:List AV->Option AV
 |[.c (.d (.str s))]=>bif Mp s&&Nat.ble s.length 1000000000 then some (nK .u32 (oO (!s.isEmpty) (aP s 0)))else none
 |_=>none
def Ms(m:Int)(h:HO us=some x)(lv:Key->LB):b9 prog (GG m) 226 us lv (.ret x lv):=by
 unfold HO at h;split at h
 ·rename_i s
  cases hb:Mp s&&Nat.ble s.length 1000000000 with
  |false=>rw[hb]at h;cases h
  |true=>
   rw[hb]at h;simp only[cond_true,ai]at h;subst h;simp only[cn]at hb;exact b9.ve (λu hu=>by simp at hu;subst hu;rfl) (by simp) (qI (GG m) s (C1 hb.1) (Zu hb.2))
 ·cases h
noncomputable def Tc:Tb Spec:=Ar 59 .caught (Ar 215 (.self NN) (Ar 253 (.pure Co) (Ar 255 (.pure xu) (Ar 175 (.pure CD) (Ar 226 (.pure HO) .leaf)))))
def tS(f:Nat):Tc.get .body (pathOf f)=if f=59 then .caught else if f=215 then .self NN else if f=253 then .pure Co else if f=255 then .pure xu else if f=175 then .pure CD else if f=226 then .pure HO else .body:=by
 unfold Tc;simp only[mF,Tb.eH]
theorem L5(m:Int):zu prog (GG m) Tc 179 where
 pure:=by
  intro f g us x h hg lv ho;rw[tS]at h;split at h
  ·cases h
  split at h
  ·cases h
  split at h
  ·rename_i e;subst e;cases h;exact IM m hg lv
  split at h
  ·rename_i e;subst e;cases h;exact FO m hg lv
  split at h
  ·rename_i e;subst e;cases h;exact IV m hg lv
  split at h
  ·rename_i e;subst e;cases h;exact Ms m hg lv
  ·cases h
 xD:=by
  intro f h v t fs cs lv lv' x ht hf ho hc;rw[tS]at h;split at h
  ·rename_i e;subst e;exact G3 m v t fs cs lv lv' x ht hf ho hc
  ·repeat (split at h;· cases h)
   cases h
 xC:=by
  intro f h v t fs cs lv lv' n ht hf ho hc;rw[tS]at h;split at h
  ·rename_i e;subst e;exact F7 m v t fs cs lv lv' n ht hf ho hc
  ·repeat (split at h;· cases h)
   cases h
 Ho:=by
  intro f g h lv k off T cs r ho hok hk hc;rw[tS]at h;split at h
  ·cases h
  split at h
  ·rename_i e;subst e;cases h;exact Fy m lv k off T cs r hok hk hc
  ·repeat (split at h;· cases h)
   cases h
 HZ:=by
  intro f g h lv k off T cs r ho hok hk hc;rw[tS]at h;split at h
  ·cases h
  split at h
  ·rename_i e;subst e;cases h;exact Jy m lv k off T cs r hk hc
  ·repeat (split at h;· cases h)
   cases h
def CK(m:Int)(n:Nat):ld prog (GG m) (Sl prog (GG m) Tc 179 n):=Gx mixed (L5 m) n
end Go.Am
namespace Go.Am
open Go.Proofs
variable {ks:List Key}{x y X':AV}{lv lv':Key->LB}{v:Value}{P:Program}{G:List (List DV)}{f:FuncId}{us:List AV}
def fF(lv:Key->LB):AV->Option (AV×List Key)
 |.tup l=>(kA lv l).map λp=>(.tup p.1,p.2)
 |x=>eP lv x
def AP(h:fF lv x=some (y,ks)):∀k∈ks,∃own fz T cs,lv k=.cells own fz T cs:=by
 cases x with
 |tup l=>
  simp only[fF,Zx]at h;obtain⟨⟨ys,ks'⟩,h1,h2⟩:=h;simp only[fy]at h2;obtain⟨rfl,rfl⟩:=h2;exact rF h1
 |c x=>exact uC (x:=.c x) h
 |agg x=>exact uC (x:=.agg x) h
 |undef=>cases h
 |junk=>cases h
def Lv{V:Vw}(h:eP lv x=some (y,ks))(hv:V.av v y):V.n8 v y:=by
 cases x with
 |c x=>
  simp only[eP,Zx]at h;obtain⟨p,_,h2⟩:=h;simp only[fy]at h2;obtain⟨rfl,rfl⟩:=h2;exact hv
 |agg cs=>
  simp only[eP,Zx]at h;obtain⟨p,_,h2⟩:=h;simp only[fy]at h2;obtain⟨rfl,rfl⟩:=h2;exact hv
 |_=>cases h
def cJ.fF{c:Ctx}{F Fz:Nat->Prop}{β:Key->Nat}{s:aE}{w:World}(h:cJ c F β s.lv w)(hF:∀b,F b->Fz b){β':Key->Nat}(ht:Am.fF s.lv x=some (y,ks))
 (hk:∀k∈ks,Fz (β k)) (hv:(Vw.mk F β s.lv w).av v x):(Vw.mk Fz β' lv' w).av v y:=by
 cases x with
 |tup l=>
  simp only[Am.fF,Zx]at ht;obtain⟨⟨ys,ks'⟩,h1,h2⟩:=ht;simp only[fy]at h2;obtain⟨rfl,rfl⟩:=h2;obtain⟨g1,g2⟩:=uX h1;obtain⟨arr,a1,a2,a3⟩:=hv;refine⟨arr,a1,by omega,λi p q=>?_⟩;obtain⟨k,h3,h4⟩:=g2 i p (by omega)
  have hx:(Vw.mk F β s.lv w).av arr[i] (l[i]'(by omega)):=by
   have:=a3 i (by omega) q;generalize l[i]'(by omega)=z at this h3
   cases z with
   |tup l=>cases h3
   |_=>exact this
  exact Lv h3 (h.eP hF h3 (λk' hk'=>hk k' (h4 k' hk')) hx)
 |c x=>exact h.eP (x:=.c x) hF ht hk hv
 |agg cs=>exact h.eP (x:=.agg cs) hF ht hk hv
 |undef=>cases ht
 |junk=>cases ht
theorem aa.yf{X:AV}(h:b9 P G f us (λ_=>.hole) (.ret X lv'))(hd:fF lv' X=some (X',ks)):aa P G f us X':=by
 intro F β w vs hS hl hv;have hlv:bq [] []=λ_=>LB.hole:=gW
 rw[hlv]at hS hv;refine(h F β w vs hS hl hv).mono λe w' he=>?_;obtain⟨v,F',β',rfl,hX,hav⟩:=he;have hFz:∀b,F' b->(F' b\/∃k∈ks,b=β' k):=λb hb=>.inl hb
 refine⟨v,λb=>F' b\/∃k∈ks,b=β' k,β',rfl,?_,?_⟩
 ·rw[hlv];refine⟨λk=>trivial,λk k' h=>(by cases h),λ_=>trivial,rfl,rfl,λb hb=>?_,λb hb=>.inl (hX.F0 b hb),λb hb hW=>hX.old b hb (by rintro⟨k,hk,_⟩;cases hk),hX.ge,λg cs hg=>Rd.mono (gG hFz (λ_ _=>rfl)) (hX.o9 g cs hg),λk hk=>absurd rfl hk,hX.GX,hX.CX⟩;rcases hb with hb|⟨k,hk,rfl⟩
  ·exact hX.mo b hb
  ·obtain⟨own,fz,T,cs',e⟩:=AP hd k hk;have hlt:β' k<w'.heap.size:=aF.s6 hX e
   cases fz with
   |false=>
    refine⟨hlt,?_⟩;rcases hX.eX (k:=k) (by show(lv' k).live=true;rw[e];rfl)with h1|⟨j,hj,_⟩
    ·exact .inr h1
    ·cases hj
   |true=>
    have hb:=hX.bQ k;unfold Vw.bQ at hb;simp only[e]at hb;obtain⟨arr,b1,b2,b3,b4,b5⟩:=hb;simp only[if_true]at b4;exact hX.mo _ b4
 ·exact cJ.fF (s:=⟨λ_=>.junk,lv'⟩) hX hFz hd (λk hk=>.inr ⟨k,hk,rfl⟩) hav
noncomputable def Hj:Gg:=λx lv nx lg=>.done x lv nx []
noncomputable def XQ(r:cW):Option AV:=
 cW.rec (motive:=λ_=>Option AV) (λ_ _=>none) (λx lv _ _=>(fF (aZ lv) x).map (·.1)) (λ_ _ _ _=>none) r
theorem aa.Fi{ev:eG}(hc:ld P G ev)(h:XQ (ev f us .leaf 0 [] Hj .tr)=some X'):aa P G f us X':=by
 have h0:cP (aZ .leaf):=λk=>by simp[aZ,Tb.eH,LB.okB]
 have e0:aZ .leaf=λ_=>LB.hole:=by funext k;simp[aZ,Tb.eH]
 generalize hr:ev f us .leaf 0 [] Hj .tr=r at h
 cases r with
 |bad n o=>cases h
 |tr d lv nx lg=>cases h
 |done X LV nx lg=>
  rcases hc f us .leaf 0 [] Hj .tr _ hr (λn o h=>by cases h) h0 with⟨x,lv',nx',l,q1,q2,_⟩|⟨d,lv',nx',l,q1,_⟩
  ·simp only[Hj,cW.done.injEq]at q1;obtain⟨rfl,rfl,_,_⟩:=q1;rw[e0]at q2;have h1:(fF (aZ lv') x).map (·.1)=some X':=h;obtain⟨⟨y,ks⟩,h2,h3⟩:=Option.map_eq_some_iff.1 h1;simp only at h3;subst h3;exact aa.yf q2 h2
  ·cases q1
end Go.Am
namespace Go.Am
variable {fn:Func}{x:AV}{P:Program}{G:List (List DV)}{f:FuncId}{code:Code}{args:List AV}
def bO(c:Ctx)(fn:Func)(x:AV):Ex->aE->Nat->Prop
 |.normal,s,_|.ret,s,_=>cO c.P s fn.results.toList=some x
 |_,_,_=>False
def jU(c:Ctx)(fn:Func)(x:AV):Ex->aE->Nat->Prop
 |.normal,s,_|.ret,s,_=>∃X ks,cO c.P s fn.results.toList=some X/\fF s.lv X=some (x,ks)
 |_,_,_=>False
def aa.FJ(hf:P.funcs[f]?=some fn)(hb:fn.body=some code)(hl:args.length<=fn.ntmps)
 (h:∀c:Ctx,c.P=P->c.G=G->c.n=fn.ntmps->c.iV=(λ_=>.hole)->AW c none code ⟨λt=>args.getD t .undef,λ_=>.hole⟩ 0 (jU c fn x)):aa P G f args x:=by
 intro F β w vs hS hvl hv;have hlv:bq [] []=λ_=>LB.hole:=gW
 rw[hlv]at hS hv;refine yu hf hb hl hS hvl hv (h _ rfl rfl rfl rfl) (λe s κ hq=>by cases e<;>first|exact .inl rfl|exact .inr rfl|exact hq.elim) λe s' κ F' β' a' w' hq hX0=>?_;obtain⟨X,ks,h0,hd⟩:∃X ks,cO P s' fn.results.toList=some X/\fF s'.lv X=some (x,ks):=by cases e<;>first|exact hq|exact hq.elim
 obtain⟨v,h4,hav⟩:=r9 hX0 h0;have hX:cJ (cQ P G w F β (λ_=>.hole)) F' β' s'.lv w':=hX0.xe;have hFz:∀b,F' b->(F' b\/∃k∈ks,b=β' k):=λb hb=>.inl hb
 refine⟨hX0.defers,v,h4,v,λb=>F' b\/∃k∈ks,b=β' k,β',rfl,?_,?_⟩
 ·rw[hlv];refine⟨λk=>trivial,λk k' h=>(by cases h),λ_=>trivial,rfl,rfl,λb hb=>?_,λb hb=>.inl (hX.F0 b hb),λb hb hW=>hX.old b hb (by rintro⟨k,hk,_⟩;cases hk),hX.ge,λg cs hg=>Rd.mono (gG hFz (λ_ _=>rfl)) (hX.o9 g cs hg),λk hk=>absurd rfl hk,hX.GX,hX.CX⟩;rcases hb with hb|⟨k,hk,rfl⟩
  ·exact hX.mo b hb
  ·obtain⟨own,fz,T,cs',e⟩:=AP hd k hk;have hlt:β' k<w'.heap.size:=aF.s6 hX e
   cases fz with
   |false=>
    refine⟨hlt,?_⟩;rcases hX.eX (k:=k) (by show(s'.lv k).live=true;rw[e];rfl)with h1|⟨j,hj,_⟩
    ·exact .inr h1
    ·cases hj
   |true=>
    have hb:=hX.bQ k;unfold Vw.bQ at hb;simp only[e]at hb;obtain⟨arr,b1,b2,b3,b4,b5⟩:=hb;simp only[if_true]at b4;exact hX.mo _ b4
 ·rw[hlv];exact cJ.fF (s:=⟨λ_=>.junk,s'.lv⟩) hX hFz hd (λk hk=>.inr ⟨k,hk,rfl⟩) hav
def bO.d{c:Ctx}{e:Ex}{s:aE}{κ:Nat}(hx:fF s.lv x=some (x,[]))(h:bO c fn x e s κ):jU c fn x e s κ:=by
 cases e<;>first|exact⟨x,[],h,hx⟩|exact h.elim
def aa.QO(hf:P.funcs[f]?=some fn)(hb:fn.body=some code)(hl:args.length<=fn.ntmps)
 (hx:∀lv,fF lv x=some (x,[]))
 (h:∀c:Ctx,c.P=P->c.G=G->c.n=fn.ntmps->AW c none code ⟨λt=>args.getD t .undef,λ_=>.hole⟩ 0 (bO c fn x)):aa P G f args x:=
 aa.FJ hf hb hl λc h1 h2 h3 _=>(h c h1 h2 h3).mono λe s κ hq=>bO.d (hx _) hq
def aa.enc(hf:P.funcs[f]?=some fn)(hb:fn.body=some code)(hx:∀lv,fF lv x=some (x,[]))
 (h:∀z:Ev,AW ⟨P,G,z.w,z.F,z.W,fn.ntmps,z.q,z.b⟩ none code ⟨λt=>args.getD t .undef,λ_=>.hole⟩ 0 (bO ⟨P,G,z.w,z.F,z.W,fn.ntmps,z.q,z.b⟩ fn x)) (hl:Nat.ble args.length fn.ntmps=true:=by kernel_rfl):aa P G f args x:=
 aa.QO hf hb (Zu hl) hx λ⟨_,_,w,F,W,_,q,b⟩ h1 h2 h3=>by cases h1;cases h2;cases h3;exact h ⟨w,F,W,q,b⟩
end Go.Am
namespace Go.Am
open Go.Am.Ty Go.Proofs N
variable {c:Ctx}{fn:Func}{x:AV}{t k off κ:Nat}{T U:TypeId}{own fz:Bool}{cs:List CV}{s:aE}
def nC:Option (List Nat)->CV
 |none=>.d .nilsl
 |some l=>.d (.sl (dK .u32 l))
def lX(o:Option (List Nat)):nK .u32 o=.c (nC o):=by cases o<;>rfl
@[simp]def gb(lv:Key->LB)(b:Bool)(p q:Option (List Nat)):fF lv (.agg [.d (.bool b),nC p,nC q])=some (.agg [.d (.bool b),nC p,nC q],[]):=by
 cases p<;>cases q<;>rfl
@[simp]def VE(o:Option (List Nat)):(nC o).pure=true:=by cases o<;>rfl
@[simp]def Tg(o:Option (List Nat)):(AV.c (nC o)).bC=true:=by cases o<;>rfl
@[simp]def UP(o:Option (List Nat)):(AV.c (nC o)).pure=true:=by cases o<;>rfl
def bO.cell(hr:fn.results=#[.cell t T])(ht:s.fr t=.c (.ptr k off))(hk:s.lv k=.cells own fz U cs)
 (hx:eW c.P T (cs.drop off)=some x):bO c fn x .ret s κ:=by
 show cO c.P s fn.results.toList=some x;rw[hr];simp[cO,iT,j8,ht,hk,hx]
def bO.jQ{y:AV}{u:Nat}(hr:fn.results=#[.cell t T,.tmp u])(ht:s.fr t=.c (.ptr k off))(hk:s.lv k=.cells own fz U cs)
 (hx:eW c.P T (cs.drop off)=some x) (hy:s.fr u=y) (hn:x.cH=true) (hm:y.cH=true):bO c fn (.tup [x,y]) .ret s κ:=by
 show cO c.P s fn.results.toList=some _;rw[hr];simp[cO,iT,j8,ht,hk,hx,hy,hn,hm]
attribute [local irreducible] bO
def Hv:ia prog 224 [] []=some (.agg [.d (.bool false),.d .nilsl,.d .nilsl],[],[],True):=by kernel_rfl
def GD(b p q:CV):ia prog 224 [0,1,2] [.c b,.c p,.c q]=some (.agg [b,p,q],[],[],True):=by kernel_rfl
def bU(b p q:CV):eW prog 224 [b,p,q]=some (.agg [b,p,q]):=by kernel_rfl
abbrev qn(neg:Bool)(p q:Option (List Nat)):AV:=.agg [.d (.bool neg),nC p,nC q]
def gO(p q:Option (List Nat)):Option (List Nat):=jw p q (val 4294967296 (dO q))
def mP(p q:Option (List Nat)):Option (List Nat):=if val 4294967296 (dO q)=1 then p else if val 4294967296 (dO (gO p q))=1 then p else wP p (gO p q)
def Qi(p q:Option (List Nat)):Option (List Nat):=if val 4294967296 (dO q)=1 then q else if val 4294967296 (dO (gO p q))=1 then q else wP q (gO p q)
def mQ(p q:Option (List Nat)):Option (List Nat):=if val 4294967296 (dO (Qi p q))=1 then none else Qi p q
def kq(neg:Bool)(p q:Option (List Nat)):AV:=if dO p=[]then qn false none none else qn neg (mP p q) (mQ p q)
def GL(lv:Key->LB)(neg:Bool)(p q:Option (List Nat)):fF lv (kq neg p q)=some (kq neg p q,[]):=by
 unfold kq;split<;>exact gb ..
theorem qw(G:List (List DV))(neg:Bool)(p q:Option (List Nat))(hp:can 4294967296 (dO p))(hq:can 4294967296 (dO q))(hq0:dO q≠[])(hl:(dO p).length<1000000000000)(hl':(dO q).length<1000000000000):
 aa prog G 225 [.c (.d (.bool neg)),nK .u32 p,nK .u32 q] (kq neg p q):=by
 have hgd:=yd hp hq;have hgc:can 4294967296 (dO (gO p q)):=by unfold gO;rw[hgd];exact bw (by decide) _
 have hqv:0<val 4294967296 (dO q):=iF hq hq0
 have hg0:dO (gO p q)≠[]:=by
  unfold gO;rw[hgd];intro h;have:=(eA (by decide)).1 h;have:=Nat.gcd_pos_of_pos_right (val 4294967296 (dO p)) hqv;omega
 refine aa.enc func225 rfl (λlv=>GL lv _ _ _) λ_=>aab ?_;refine aaa λK hK=>aab ?_
 by_cases hpe:dO p=[]
 ·refine aag (by simp[hpe]<;>omega) (aam Hv ?_);refine aal ?_;refine bO.cell (T:=224) (t:=6) (k:=0) (off:=0) (own:=true) (fz:=false) (U:=224) (cs:=[.d (.bool false),.d .nilsl,.d .nilsl]) rfl ?_ ?_ ?_
  ·simp
  ·simp[aj]
  ·rw[Y9,bU];simp[kq,hpe,nC]
 refine aaj (by simp[hpe]<;>omega) (aad (hK _ _ (aaa λK hK=>?_)))
 have rest:∀(fr:Nat->AV) (κ:Nat) (p' q':Option (List Nat)),fr 0=.c (.d (.bool neg))->fr 1=nK .u32 p'->fr 2=nK .u32 q'->fr 6=.c (.ptr 0 0)->can 4294967296 (dO q')->mP p q=p'->Qi p q=q' ->
  K ⟨fr,az (λ_=>.hole) 0 (.cells true false 224 [.d (.bool false),.d .nilsl,.d .nilsl])⟩ κ:=by
  intro fr κ p' q' z0 z1 z2 z6 hc e1 e2;apply hK;refine aaa λK1 hK1=>aak λK2 hK2=>?_;simp[z2];refine ag.pure κ 9 (kE _ _ hc) rfl (by simp) (by simp) ?_;simp;apply hK2
  by_cases h1:val 4294967296 (dO q')=1
  ·refine aag (by simp[h1]<;>omega) (aaD (hK1 _ _ ?_));refine AW.f5 z0 z1 z6 @lX @GD ?_;refine aal ?_;refine bO.cell (T:=224) (t:=6) (k:=0) (off:=0) (own:=true) (fz:=false) (U:=224) (cs:=[.d (.bool neg),nC p',.d .nilsl]) rfl ?_ ?_ ?_
   ·simp[z6]
   ·simp[aj]
   ·rw[Y9,bU];simp[kq,hpe,e1,mQ,e2,h1,nC]
  ·refine aaj (by simp[h1]<;>omega) (aad (hK1 _ _ (AW.f6 z0 z1 z2 z6 @lX @GD ?_)));refine aal ?_;refine bO.cell (T:=224) (t:=6) (k:=0) (off:=0) (own:=true) (fz:=false) (U:=224) (cs:=[.d (.bool neg),nC p',nC q']) rfl ?_ ?_ ?_
   ·simp[z6]
   ·simp[aj]
   ·rw[Y9,bU];simp[kq,hpe,e1,mQ,e2,h1]
 refine aak λK1 hK1=>?_;simp;refine ag.pure 1 9 (kE _ _ hq) rfl (by simp) (by simp) ?_;simp;apply hK1
 by_cases h1:val 4294967296 (dO q)=1
 ·refine aaj (by simp[h1]<;>omega) (aad ?_);simp;exact rest _ _ p q (by simp) (by simp) (by simp) (by simp) hq (by simp[mP,h1]) (by simp[Qi,h1])
 refine aag (by simp[h1]<;>omega) (aak λK1 hK1=>?_);simp;refine ag.pure 1 9 (tn _ _ _ hp hq hl hl') (by simp) (by simp) (by simp) ?_;simp;apply hK1;refine aak λK1 hK1=>?_;simp;refine ag.pure 1 9 (kE _ (jw p q (val 4294967296 (dO q))) hgc) rfl (by simp) (by simp) ?_;simp;apply hK1
 by_cases h2:val 4294967296 (dO (gO p q))=1
 ·have h2':val 4294967296 (dO (jw p q (val 4294967296 (dO q))))=1:=h2;refine aaj (by simp[h2']<;>omega) (aad ?_);simp;exact rest _ _ p q (by simp) (by simp) (by simp) (by simp) hq (by simp[mP,h2]) (by simp[Qi,h2])
 have h2':¬val 4294967296 (dO (jw p q (val 4294967296 (dO q))))=1:=h2;refine aag (by simp[h2']<;>omega) (aak λK1 hK1=>?_);simp;refine ag.pure 1 9 (nL _ _ (jw p q (val 4294967296 (dO q))) hp hgc hg0 hl) (uv _ _) (by simp) (by simp) ?_;simp;apply hK1;refine aac ?_;simp;refine ag.pure 1 9 (nL _ _ (jw p q (val 4294967296 (dO q))) hq hgc hg0 hl') (uv _ _) (by simp) (by simp) ?_;simp;exact rest _ _ (wP p (gO p q)) (wP q (gO p q)) (by simp) (by simp;rfl) (by simp;rfl) (by simp) (by rw[RD];exact bw (by decide) _) (by simp[mP,h1,h2]) (by simp[Qi,h1,h2])
end Go.Am
namespace Go.Am
open Go.Am.Ty Go.Proofs N
variable {a L n b m:Nat}{x:Rat}{q p:Option (List Nat)}{k:Int}{neg neg':Bool}
def Qs(q:Option (List Nat)):aI prog .eql 222 (.c (nC q)) (.c (.d .nilsl))=some (.c (.d (.bool q.isNone)),[],[],True):=by
 cases q with
 |none=>kernel_rfl
 |some l=>exact(show ∀es,aI prog .eql 222 (.c (.d (.sl es))) (.c (.d .nilsl))=some (.c (.d (.bool false)),[],[],True) from λes=>by kernel_rfl) _
def WE(lv:Key->LB)(o:Option (List Nat)):eJ prog 222 lv (.c (nC o))=some (.c (.d (.int .i64 (dO o).length)),[],[],True):=by
 rw[<-lX];exact nO gL
@[simp]def Tq(neg:Bool)(p q:Option (List Nat)):(AV.agg [.d (.bool neg),nC p,nC q]).pure=true:=by cases p<;>cases q<;>rfl
def uh(neg:Bool)(p:Option (List Nat)):Int:=if dO p=[]then 0 else if neg then -1 else 1
def fG:Option (List Nat)->Option (List Nat)
 |none=>some (aK 4294967296 1)
 |some l=>some l
def lJ(G:List (List DV))(neg:Bool)(p q:Option (List Nat)):aa prog G 231 [qn neg p q] (.c (.d (.int .i64 (uh neg p)))):=by
 refine aa.en func231 rfl λ_=>aab ?_;refine aaa λK hK=>aaf (aam @WE ?_)
 by_cases hp:dO p=[]
 ·refine aag (by simp[hp]<;>omega) (aab ?_);exact aae (au.rt rfl 2 (by simp[uh,hp]))
 ·refine aaj (by simp[hp]<;>omega) (aab ?_)
  cases neg with
  |true=>
   refine aai (aab ?_);exact aae (au.rt rfl 2 (by simp[uh,hp]))
  |false=>
   refine aah (aad (hK _ _ (aab ?_)));exact aae (au.rt rfl 2 (by simp[uh,hp]))
def dP(G:List (List DV))(neg:Bool)(p q:Option (List Nat)):aa prog G 239 [qn neg p q] (.c (nC (fG q))):=by
 have hof:=gu G 1 (by decide);simp only[lX]at hof;refine aa.en func239 rfl λ_=>aab ?_;refine aaa λK hK=>aak λK1 hK1=>?_;simp[Qs];apply hK1
 cases q with
 |none=>
  refine aai (aak λK1 hK1=>?_);simp;refine ag.pure 1 9 hof (by simp) (by simp) (by simp) ?_;simp;apply hK1;exact aae (au.rt rfl 2 (by simp[fG]))
 |some l=>
  refine aah (aad (hK _ _ (aab ?_)));exact aae (au.rt rfl 2 (by simp[fG]))
def CN(G:List (List DV))(neg:Bool)(p q:Option (List Nat)):aa prog G 235 [qn neg p q] (.c (.d (.bool q.isNone))):=by
 refine aa.en func235 rfl λ_=>aab ?_;refine aak λK hK=>?_;simp[Qs];apply hK;exact aae (au.rt rfl 2 (by simp))
theorem G4(G:List (List DV))(neg:Bool)(p q:Option (List Nat)):aa prog G 236 [qn neg p q] (qn false p q):=by
 refine aa.enc func236 rfl (λlv=>gb lv _ _ _) λ_=>aab ?_;refine aam @GD ?_;refine aal ?_;refine bO.cell (T:=224) (t:=2) (k:=1) (off:=0) (own:=true) (fz:=false) (U:=224) (cs:=[.d (.bool false),nC p,nC q]) rfl ?_ ?_ ?_
 ·simp
 ·simp[aj]
 ·rw[Y9,bU]
def Rq(neg:Bool)(p q:Option (List Nat))(neg':Bool)(p' q':Option (List Nat)):Int:=
 if uh neg p=uh neg' p' then uh neg p*ec (val 4294967296 (dO p)*val 4294967296 (dO (fG q'))) (val 4294967296 (dO p')*val 4294967296 (dO (fG q)))
 else if uh neg p<uh neg' p' then -1 else 1
def EV(a b:Nat):-1<=ec a b/\ec a b<=1:=by unfold ec;(repeat' split)<;>omega
def QE(neg:Bool)(p:Option (List Nat))(a b:Nat):i64.wrap (uh neg p*ec a b)=uh neg p*ec a b:=by
 have h1:=EV a b;have h2:uh neg p=0\/uh neg p=1\/uh neg p = -1:=by unfold uh;split<;>(try split)<;>simp
 rcases h2 with h|h|h<;>rw[h]<;>exact bF (by omega) (by omega)
theorem sN(h:(dO q).length<=n)(hn:1<=n):(dO (fG q)).length<=n:=by
 cases q with
 |none=>exact Zf (cN (m:=1) (by decide) (by decide)) hn
 |some l=>exact h
theorem Fp(G:List (List DV))(neg neg':Bool)(p q p' q':Option (List Nat))(h1:(dO p).length<=100000000000)(h2:(dO q).length<=100000000000)(h3:(dO p').length<=100000000000)(h4:(dO q').length<=100000000000):
 aa prog G 161 [qn neg p q,qn neg' p' q'] (.c (.d (.int .i64 (Rq neg p q neg' p' q')))):=by
 have b1:=sN h2 (by decide);have b2:=sN h4 (by decide);have m1:=gJ G p (fG q') (by omega) (by omega);have m2:=gJ G p' (fG q) (by omega) (by omega);have m3:=gF (G:=G) (a:=some (aK 4294967296 (val 4294967296 (dO p)*val 4294967296 (dO (fG q'))))) (b:=some (aK 4294967296 (val 4294967296 (dO p')*val 4294967296 (dO (fG q))))) (bw (by decide) _) (bw (by decide) _);simp only[aX,bt (by decide:2<=4294967296)]at m3;simp only[lX]at m1 m2 m3;refine aa.en func161 rfl λ_=>aab ?_;refine aaa λK hK=>?_;refine aaq mixed (by kernel_rfl) rfl ?_;simp;refine ag.pure 2 9 (lJ _ neg p q) (by simp) (by simp) rfl ?_;simp;refine ag.pure 2 9 (lJ _ neg' p' q') (by simp) (by simp) rfl ?_;simp;refine⟨by kernel_rfl,?_⟩;apply hK;refine aaa λK hK=>aab ?_
 by_cases hs:uh neg p=uh neg' p'
 ·refine aaj (by simp[hs]<;>omega) (aad (hK _ _ (aaa λK hK=>?_)));refine aaq mixed (by kernel_rfl) rfl ?_;simp[hs];refine ag.pure 2 9 (dP _ neg' p' q') (by simp) (by simp) rfl ?_;simp;refine ag.pure 2 9 m1 (by simp) (by simp) rfl ?_;simp;refine ag.pure 2 9 (dP _ neg p q) (by simp) (by simp) rfl ?_;simp;refine ag.pure 2 9 m2 (by simp) (by simp) rfl ?_;simp;refine ag.pure 2 9 m3 (by simp) (by simp) rfl ?_;simp[QE];refine⟨by kernel_rfl,?_⟩;apply hK;exact aae (au.rt rfl 4 (by simp[Rq,hs]))
 ·refine aag (by simp[hs]<;>omega) (aaa λK1 hK1=>aab ?_)
  by_cases hlt:uh neg p<uh neg' p'
  ·refine aag (by simp[hlt]<;>omega) (aab ?_);exact aae (au.rt rfl 4 (by simp[Rq,hs,hlt]))
  ·refine aaj (by simp[hlt]<;>omega) (aad (hK1 _ _ (aab ?_)));exact aae (au.rt rfl 4 (by simp[Rq,hs,hlt]))
def cV(n:Nat):Option (List Nat):=if n=0 then none else some (aK 4294967296 n)
def eF(n:Nat):Option (List Nat):=if n=1 then none else some (aK 4294967296 n)
abbrev gk(x:Rat):AV:=qn (decide (x.num<0)) (cV x.num.natAbs) (eF x.den)
def dX(neg:Bool)(a:Nat):Int:=if neg then -(a:Int)else a
def mb(n:Nat):dO (cV n)=(aK 4294967296 n):=by
 unfold cV;split
 ·rename_i h;subst h;rfl
 ·rfl
def Cz(n:Nat):fG (eF n)=some (aK 4294967296 n):=by
 unfold eF;split
 ·rename_i h;subst h;rfl
 ·rfl
def eD(n:Nat):val 4294967296 (aK 4294967296 n)=n:=bt (by decide) n
def gI(n:Nat):can 4294967296 (aK 4294967296 n):=bw (by decide) n
def pn(n:Nat):(val 4294967296 (dO (cV n)))=n:=by rw[mb,eD]
def uG(n:Nat):(val 4294967296 (dO (fG (eF n))))=n:=by rw[Cz,aX,eD]
def o8(n:Nat):can 4294967296 (dO (cV n)):=by rw[mb];exact gI n
def Fh(n:Nat):can 4294967296 (dO (fG (eF n))):=by rw[Cz];exact gI n
def mc(h:n≠0):(aK 4294967296 n)≠[]:=λe=>h ((eA (by decide)).1 e)
def xU{o:Option (List Nat)}(hc:can 4294967296 (dO o))(h:dO o≠[]):o=some (aK 4294967296 (val 4294967296 (dO o))):=by
 cases o with
 |none=>exact absurd rfl h
 |some l=>exact congrArg some (ig (by decide) hc rfl)
def jc(neg:Bool)(hb:b≠0):(mkRat (dX neg a) b).num=dX neg (a/Nat.gcd a b)/\(mkRat (dX neg a) b).den=b/Nat.gcd a b:=by
 have h1:(dX neg a).natAbs=a:=by unfold dX;split<;>omega
 rw[Rat.num_mkRat,Rat.den_mkRat,if_neg hb,if_neg hb,h1,aby b a];refine⟨?_,rfl⟩
 cases neg with
 |false=>rfl
 |true=>
  show -(a:Int)/((Nat.gcd a b:Nat):Int) = -((a/Nat.gcd a b:Nat):Int)
  rw[Int.neg_ediv_of_dvd (Int.ofNat_dvd.2 (ab7 a b))];rfl
def s5(neg:Bool)(a:Nat):(dX neg a).natAbs=a:=by unfold dX;split<;>omega
def Hg(neg:Bool)(h:a≠0):decide (dX neg a<0)=neg:=by
 cases neg<;>simp[dX]<;>omega
def Ti(hp:can 4294967296 (dO p))(hq:can 4294967296 (dO q))(h0:dO p≠[]):mP p q=cV ((val 4294967296 (dO p))/Nat.gcd (val 4294967296 (dO p)) (val 4294967296 (dO q))):=by
 have ha:0<(val 4294967296 (dO p)):=iF hp h0;have ep:=xU hp h0;have hgv:(val 4294967296 (dO (gO p q)))=Nat.gcd (val 4294967296 (dO p)) (val 4294967296 (dO q)):=by unfold gO;rw[yd hp hq,eD]
 have hgp:0<Nat.gcd (val 4294967296 (dO p)) (val 4294967296 (dO q)):=abN _ ha;have hle:Nat.gcd (val 4294967296 (dO p)) (val 4294967296 (dO q))<=(val 4294967296 (dO p)):=Nat.le_of_dvd ha (ab7 _ _);have hag:(val 4294967296 (dO p))/Nat.gcd (val 4294967296 (dO p)) (val 4294967296 (dO q))≠0:=aaW (Nat.div_pos hle hgp);unfold cV;rw[if_neg hag];unfold mP;split
 ·rename_i h;rw[h,abO,aaZ];exact ep
 ·split
  ·rename_i h;rw[hgv]at h;rw[h,aaZ];exact ep
  ·unfold wP;rw[hgv,if_neg (Nat.not_lt.2 hle)]
def Ut(hp:can 4294967296 (dO p))(hq:can 4294967296 (dO q))(h0:dO q≠[]):mQ p q=eF ((val 4294967296 (dO q))/Nat.gcd (val 4294967296 (dO p)) (val 4294967296 (dO q))):=by
 have hb:0<(val 4294967296 (dO q)):=iF hq h0;have eq:=xU hq h0;have hgv:(val 4294967296 (dO (gO p q)))=Nat.gcd (val 4294967296 (dO p)) (val 4294967296 (dO q)):=by unfold gO;rw[yd hp hq,eD]
 have hle:Nat.gcd (val 4294967296 (dO p)) (val 4294967296 (dO q))<=(val 4294967296 (dO q)):=Nat.le_of_dvd hb (Nat.gcd_dvd_right _ _)
 have e:Qi p q=some (aK 4294967296 ((val 4294967296 (dO q))/Nat.gcd (val 4294967296 (dO p)) (val 4294967296 (dO q)))):=by
  unfold Qi;split
  ·rename_i h;rw[h,abO,aaZ,<-h];exact eq
  ·split
   ·rename_i h;rw[hgv]at h;rw[h,aaZ];exact eq
   ·unfold wP;rw[hgv,if_neg (Nat.not_lt.2 hle)]
 unfold mQ eF;rw[e,aX,eD]
theorem A4(neg:Bool)(hp:can 4294967296 (dO p))(hq:can 4294967296 (dO q))(hq0:dO q≠[]):kq neg p q=gk (mkRat (dX neg (val 4294967296 (dO p))) (val 4294967296 (dO q))):=by
 have hb:(val 4294967296 (dO q))≠0:=aaW (iF hq hq0);unfold kq
 by_cases h0:dO p=[]
 ·have e:dX neg (val 4294967296 (dO p))=0:=by rw[h0,tH];cases neg<;>rfl
  rw[if_pos h0,e,ab8];rfl
 ·have ha:0<(val 4294967296 (dO p)):=iF hp h0;have hgp:0<Nat.gcd (val 4294967296 (dO p)) (val 4294967296 (dO q)):=abN _ ha;have hle:Nat.gcd (val 4294967296 (dO p)) (val 4294967296 (dO q))<=(val 4294967296 (dO p)):=Nat.le_of_dvd ha (ab7 _ _);have hag:(val 4294967296 (dO p))/Nat.gcd (val 4294967296 (dO p)) (val 4294967296 (dO q))≠0:=aaW (Nat.div_pos hle hgp);obtain⟨n1,n2⟩:=jc neg (a:=(val 4294967296 (dO p))) hb;rw[if_neg h0,Ti hp hq h0,Ut hp hq hq0];show qn neg _ _=qn (decide (_<0)) (cV _) (eF _);rw[n1,n2,s5,Hg neg hag]
def vg(x:Rat):dX (decide (x.num<0)) x.num.natAbs=x.num:=by
 unfold dX
 by_cases h:x.num<0
 ·rw[decide_eq_true h,if_pos rfl];omega
 ·rw[decide_eq_false h,if_neg (by decide)];omega
def nl(n:Nat):Nat:=(aK 4294967296 n).length
def DW(h:n<4294967296^m):nl n<=m:=cN (by decide) h
def yC(n:Nat):n<4294967296^nl n:=qM (by decide)
def lY(h:m<=n):nl m<=nl n:=c9 (by decide) h
def gC(a b:Nat):nl (a*b)<=nl a+nl b:=by
 refine DW ?_;rw[Z2];exact Nat.mul_lt_mul'' (yC a) (yC b)
def Gt(a b:Nat):nl (a+b)<=max (nl a) (nl b)+1:=by
 refine DW ?_;have h1:a<4294967296^max (nl a) (nl b):=ZE (yC a) (ZQ (by decide) (by omega));have h2:b<4294967296^max (nl a) (nl b):=ZE (yC b) (ZQ (by decide) (by omega));rw[Zl];generalize 4294967296^max (nl a) (nl b)=z at*
 omega
def P9(m:Nat):(2:Nat)^(32*m)=4294967296^m:=by rw[aaV]
def o7(k:Nat):nl (2^k)<=k/32+1:=by
 refine DW ?_;rw[<-P9];exact Nat.pow_lt_pow_right (by decide) (by omega)
def rJ:nl 1=1:=by unfold nl;rw[I0 (by decide) (by decide) (by decide)];rfl
def RY(h:a<10^L):nl a<=(L+8)/9:=by
 refine DW (ZE h ?_);have h1:(10:Nat)^L<=10^(9*((L+8)/9)):=ZQ (by decide) (by omega);rw[aaV]at h1;exact Zf h1 (abz (by decide) _)
def xo(h:n≠0):br n<=32*nl n:=by
 have h1:=yC n;rw[<-P9]at h1;have h2:=kF h;have h3:br n-1<32*nl n:=(ack (by decide)).1 (aaT h2 h1);omega
def j6(x:Rat)(L:Nat):Prop:=nl x.num.natAbs<=L/\nl x.den<=L
def bY{M:Nat}(h:j6 x L)(hm:L<=M):j6 x M:=⟨Zf h.1 hm,Zf h.2 hm⟩
def oH(neg:Bool)(hb:b≠0)(h1:nl a<=L)(h2:nl b<=L):j6 (mkRat (dX neg a) b) L:=by
 obtain⟨n1,n2⟩:=jc neg (a:=a) hb;unfold j6;rw[n1,n2,s5];exact⟨Zf (lY (abM _ _)) h1,Zf (lY (abM _ _)) h2⟩
def xy(h:j6 x L):j6 (-x) L:=by
 unfold j6 at*;rw[Rat.neg_num,Rat.neg_den,Int.natAbs_neg];exact h
def aM(x:Rat)(k:Int):Rat:=if k<0 then mkRat x.num (x.den*2^(-k).toNat)else mkRat (x.num*2^k.toNat) x.den
def rQ(x:Rat)(k:Nat):x.den*2^k≠0:=aaW (Z1 x.den_pos (Zv (by decide)))
def iO(h:k<0):aM x k=mkRat (dX (decide (x.num<0)) x.num.natAbs) (x.den*2^(-k).toNat):=by rw[vg];unfold aM;rw[if_pos h]
def sL(neg:Bool)(a b:Nat):dX neg a*(b:Int)=dX neg (a*b):=by
 unfold dX;cases neg
 ·simp
 ·simp[Int.neg_mul]
def iM(h:¬k<0):aM x k=mkRat (dX (decide (x.num<0)) (x.num.natAbs*2^k.toNat)) x.den:=by
 unfold aM;rw[if_neg h,<-sL,vg];congr 2
def jF(h:j6 x L)(k:Int):j6 (aM x k) (L+k.natAbs/32+1):=by
 by_cases hk:k<0
 ·rw[iO hk];refine oH _ (rQ _ _) (by have:=h.1;omega) ?_;have h1:=gC x.den (2^(-k).toNat);have h2:=o7 (-k).toNat;have h3:(-k).toNat=k.natAbs:=by omega
  have:=h.2;rw[h3]at h1 h2⊢;omega
 ·rw[iM hk];refine oH _ x.den_nz ?_ (by have:=h.2;omega);have h1:=gC x.num.natAbs (2^k.toNat);have h2:=o7 k.toNat;have h3:k.toNat=k.natAbs:=by omega
  have:=h.1;rw[h3]at h1 h2⊢;omega
def Gh(x y:Rat):x+y=mkRat (dX (decide (x.num<0)) (x.num.natAbs*y.den)+dX (decide (y.num<0)) (y.num.natAbs*x.den)) (x.den*y.den):=by
 rw[Rat.add_def',<-sL,<-sL,vg,vg]
def BW(neg:Bool)(a b:Nat):dX neg a+dX neg b=dX neg (a+b):=by unfold dX;cases neg<;>simp<;>omega
def F9(h:neg≠neg')(hab:a<b):dX neg a+dX neg' b=dX neg' (b-a):=by
 unfold dX;cases neg<;>cases neg'<;>simp_all<;>omega
def FH(h:neg≠neg')(hab:¬a<b):dX neg a+dX neg' b=dX neg (a-b):=by
 unfold dX;cases neg<;>cases neg'<;>simp_all<;>omega
def Pw{y:Rat}(hx:j6 x L)(hy:j6 y L):j6 (x+y) (2*L+1):=by
 have hd:x.den*y.den≠0:=aaW (Z1 x.den_pos y.den_pos);have e1:=gC x.num.natAbs y.den;have e2:=gC y.num.natAbs x.den;have e3:=gC x.den y.den;obtain⟨a1,a2⟩:=hx;obtain⟨b1,b2⟩:=hy;rw[Gh]
 by_cases h:decide (x.num<0)=decide (y.num<0)
 ·rw[h,BW];refine oH _ hd ?_ (by omega);have:=Gt (x.num.natAbs*y.den) (y.num.natAbs*x.den);omega
 ·by_cases hab:x.num.natAbs*y.den<y.num.natAbs*x.den
  ·rw[F9 h hab];refine oH _ hd ?_ (by omega);have:=lY (Nat.sub_le (y.num.natAbs*x.den) (x.num.natAbs*y.den));omega
  ·rw[FH h hab];refine oH _ hd ?_ (by omega);have:=lY (Nat.sub_le (x.num.natAbs*y.den) (y.num.natAbs*x.den));omega
def iS(x y:Rat):Int:=if x<y then -1 else if y<x then 1 else 0
end Go.Am
