/- Helpers: an abstract machine for Go functions, and walks of functions of the program. -/
import Derived.Test.YtanjfmmjpnjkbaaGreatDoorSn07
import Derived.Shelf.Strings.Search1
import Derived.Shelf.Strings.Search2
import Derived.Shelf.Strings.Search3
import Derived.Shelf.Strings.Cut
import Derived.Shelf.Strings.Count
import Derived.Test.YtanjfmmjpnjkbaaGreatDoorProg
import Derived.Lib.Builder
import Derived.TacticsIn
import Derived.TacticsInMore
import Derived.RegionIn
import Derived.OwnWalkIn
import Derived.WalkKit
import Derived.RangeFuncOwn

set_option linter.all false
set_option maxHeartbeats 8000000
set_option maxRecDepth 100000
namespace Go.Am
variable {B n x c y i L k s:Nat}{a b:Option (List Nat)}{l:List Nat}
abbrev afG:=@Int.natCast_mul
abbrev aev:=@Int.tdiv_eq_ediv_of_nonneg
abbrev agV:=@Int.natCast_nonneg
abbrev aep:=@Int.tmod_eq_emod_of_nonneg
abbrev agD:=@Int.natCast_zero
abbrev agj:=@Nat.add_sub_cancel
abbrev afp:=@Nat.pow_mul
abbrev afb:=@Nat.mul_zero
abbrev afY:=@Nat.div_div_eq_div_mul
abbrev afq:=@Nat.div_le_self
abbrev afZ:=@List.flatten_cons
abbrev af0:=@Nat.mul_div_cancel
abbrev afr:=@Nat.le_of_lt
abbrev af1:=@Nat.gcd_comm
abbrev agW:=@World.putObj_heap_other
abbrev agE:=@Nat.gcd_dvd_left
abbrev agk:=@Nat.gcd_pos_of_pos_left
abbrev agl:=@Nat.le_of_dvd
abbrev agF:=@Nat.gcd_one_right
abbrev afH:=@Nat.div_one
abbrev af2:=@Nat.pow_le_pow_left
abbrev afI:=@Nat.sub_le
open Go.Am.Ty Go.Proofs N
theorem mixed:Tryz.prog.follows .mixedOrders=true:=by kernel_rfl
theorem fT{G:List (List DV)}(ha:can 4294967296 (dO a))(hb:can 4294967296 (dO b)):aa Tryz.prog G 40 [nK .u32 a,nK .u32 b] (.c (.d (.int .i64 (eC (val 4294967296 (dO a)) (val 4294967296 (dO b)))))):=by
 refine aI.lJ 0 (by simp) (λV v h=>iH h) λhra=>?_;refine aI.lJ 1 (by simp) (λV v h=>iH h) λhrb=>?_;refine aa.en Tryz.func40 rfl λ_=>aah ?_;refine aaa λK hK=>aah ?_
 by_cases hl:(dO a).length=(dO b).length
 ·refine abd (by simp_all) (aav (hK _ _ (aaa λK hK=>aaF λK1 hK1=>?_)));simp;have e1:=bB (n:=((dO a).length:Int)-1) (by omega) (by omega);simp only[e1];apply hK1;refine aaE ?_;refine abr (λ(k:Nat)=>⟨aU [(0,nK .u32 a),(1,nK .u32 b),(5,.c (.d (.int .i64 ((k:Int)-1))))],λ_=>.hole⟩) 0 (λk=>k<=(dO a).length/\(dO a).drop k=(dO b).drop k) (λk=>k) (dO a).length (Le.mk' _ rfl bu (by simp)) ⟨bh _,by grind⟩ ?_;rintro k ⟨h1,h2⟩;refine aaa λK3 hK3=>aah ?_
  cases k with
  |zero=>
   refine aba (abn (hK _ _ (aah ?_)));simp only[aeu]at h2;exact abe (aN.rt rfl 0 (by simp[qu (congrArg (val 4294967296) h2)]))
  |succ k=>
   have h3:k<(dO b).length:=by omega
   have h4:k<(dO a).length:=by omega
   have e2:((k+1:Nat):Int)-1=k:=by omega
   simp only[e2];refine abl (aav (hK3 _ _ (aaa λK5 hK5=>aaE (aaa λK6 hK6=>?_))));refine acX mixed (by kernel_rfl) rfl rfl ?_;simp[h3,h4];apply hK6
   by_cases hd:(dO a)[k]=(dO b)[k]
   ·refine abd (by simp_all) (aav (hK5 _ _ (aar ?_)));simp;have e3:=bB (n:=(k:Int)-1) (by omega) (by omega);simp[e3];refine⟨k,Le.mk' _ (by simp) (by simp) (by simp),⟨by omega,?_⟩,by omega⟩;rw[adT h4,adT h3,hd,h2]
   ·refine aaX (by simp<;>omega) (aaa λK6 hK6=>aaa λK7 hK7=>?_);refine acX mixed (by kernel_rfl) rfl rfl ?_;simp[h3,h4];apply hK7
    by_cases hlt:(dO a)[k]<(dO b)[k]
    ·refine aaX (by simp_all) (aah ?_);have:=pR ha.1 h4 h3 h2 hlt;exact abe (aN.rt rfl 0 (by simp[kH this]))
    ·refine abd (by simp_all) (aav (hK6 _ _ (aah ?_)));have:=pR hb.1 h3 h4 h2.symm (by omega);exact abe (aN.rt rfl 0 (by simp[mh this]))
 ·refine aaX (by simp<;>omega) (aaa λK2 hK2=>aah ?_)
  by_cases hlt:(dO a).length<(dO b).length
  ·refine aaX (by simp_all) (aah ?_);exact abe (aN.rt rfl 0 (by simp[kH (lH (by omega) ha hb hlt)]))
  ·refine abd (by simp_all) (aav (hK2 _ _ (aah ?_)));exact abe (aN.rt rfl 0 (by simp[mh (lH (by omega) hb ha (by omega))]))
abbrev G7:=nK .u32
theorem dQ(G:List (List DV))(l:List Nat):aa Tryz.prog G 81 [G7 (some l)] (G7 (some (dg l))):=by
 refine aa.mw Tryz.func81 rfl (by simp) ?_;rintro⟨_,_,w0,F0,W0,_,iN,β0⟩ rfl rfl rfl;refine aaa λK hK=>?_;refine acB rfl ?_;simp;apply hK;clear hK K;refine aaa λK hK=>?_;refine acB rfl ?_;simp[Qf];refine ag.pure 0 0 (AH _ l) rfl (by simp[G7]) rfl ?_;simp;apply hK;clear hK K;exact aaH (aN.tmp rfl 0 (by simp;rfl) rfl rfl rfl)
theorem kI(G:List (List DV))(a b:Option (List Nat))(ha:(dO a).length<=1000000000000)(hb:(dO b).length<=1000000000000):
 aa Tryz.prog G 39 [G7 a,G7 b] (G7 (some (aG 4294967296 (val 4294967296 (dO a)+val 4294967296 (dO b))))):=by
 refine aI.lJ 0 (by simp) (λV v h=>iH h) λhra=>?_;refine aI.lJ 1 (by simp) (λV v h=>iH h) λhrb=>?_;refine aa.mw Tryz.func39 rfl (by simp) ?_;rintro⟨_,_,w0,F0,W0,_,iN,β0⟩ rfl rfl rfl;refine aaa λK hK=>?_;refine acB rfl ?_;simp;apply hK;clear hK K;refine aaa λK hK=>?_;refine aaa λK2 hK2=>?_;refine acB rfl ?_;simp[qy kY];apply hK2;clear hK2 K2
 have main:∀(a' b':Option (List Nat)) (fr:Nat->AV) (κ:Nat),fr 0=G7 a'->fr 1=G7 b'->(dO b').length<=(dO a').length->(dO a').length<=1000000000000 ->
  ok 4294967296 (dO a')->ok 4294967296 (dO b')->val 4294967296 (dO a')+val 4294967296 (dO b')=val 4294967296 (dO a)+val 4294967296 (dO b)->K ⟨fr,λ_=>.hole⟩ κ:=by
  intro a' b' fr κ f0 f1 hle hla oka okb hv;apply hK;clear hK;refine aaa λK hK=>?_;refine acB rfl ?_;have e1:=bB (n:=((dO a').length:Int)+1) (by omega) (by omega);simp[f0,qy kY,e1,kY,H8,HA,FK];refine⟨by omega,?_⟩;apply hK;clear hK K;refine acO 1 ?_;generalize hκ:κ=κ0;refine aaa λK hK=>?_;refine acB rfl ?_;simp;apply hK;clear hK K;refine aaa λK hK=>aaa λK1 hK1=>?_;refine acB rfl ?_;simp[f0,qy kY];apply hK1;clear hK1 K1;refine aaE ?_
  refine abr (λ(p:List Nat×Nat)=>⟨aU [(0,G7 a'),(1,G7 b'),(5,.c (.aH κ0 0 ((dO a').length+1) 1)),(6,.c (.d (.int .u64 p.2))),(20,G7 a'),(21,.c (.d (.int .i64 (dO a').length))),(22,.c (.d (.int .i64 p.1.length)))],
   az (λ_=>.hole) κ0 (.cells true false 138 (wK .u32 (p.1++List.replicate ((dO a').length+1-p.1.length) 0)))⟩) (κ0+1)
   (λp=>p.1.length<=(dO a').length/\ok 4294967296 p.1/\p.2<=1/\val 4294967296 p.1+4294967296^p.1.length*p.2=val 4294967296 ((dO a').take p.1.length)+val 4294967296 ((dO b').take p.1.length))
   (λp=>(dO a').length-p.1.length) ([],0) (Le.mk' _ (by simp[gI]) (by simp) (by simp[f0,f1])) (by simp[cJ]) ?_
  rintro⟨pre,c⟩ ⟨h1,h2,h3,h4⟩;simp only at h1 h2 h3 h4;refine aaa λK3 hK3=>?_;refine acB rfl ?_;simp;apply hK3;clear hK3 K3;refine aaa λK2 hK2=>?_
  by_cases hlt:pre.length<(dO a').length
  ·refine adi (b:=true) (by simp[hlt]) (aav ?_);simp;apply hK2;have hz:(dO a').length+1-pre.length=((dO a').length-pre.length)+1:=by omega
   refine aaa λK3 hK3=>aaE ?_;refine aaa λK4 hK4=>?_;refine acB rfl ?_;simp[Qc kY hlt,tv];apply hK4;clear hK4 K4;refine aaa λK4 hK4=>?_;refine acB rfl ?_;simp[tF,uJ];have hx:(dO a')[pre.length]<4294967296:=oka _ (aT hlt);generalize hxe:(dO a')[pre.length]=x at hx;have e3:=dj (n:=(x:Int)) (by omega) (by omega);have e4:=dj (n:=(c:Int)+x) (by omega) (by omega);simp only[e3,e4];apply hK4;clear hK4 K4;refine aaa λK5 hK5=>aaa λK6 hK6=>?_
   have fin:∀(y:Nat) (fr:Nat->AV) (κ:Nat),y<4294967296->val 4294967296 ((dO b').take (pre.length+1))=val 4294967296 ((dO b').take pre.length)+4294967296^pre.length*y ->
    fr 0=G7 a'->fr 1=G7 b'->fr 5=.c (.aH κ0 0 ((dO a').length+1) 1)->fr 6=.c (.d (.int .u64 ((c:Int)+x+y)))->fr 7=.c (.d (.int .i64 pre.length)) ->
    fr 20=G7 a'->fr 21=.c (.d (.int .i64 (dO a').length))->fr 22=.c (.d (.int .i64 pre.length)) ->
    K5 ⟨fr,az (λ_=>.hole) κ0 (.cells true false 138 (wK .u32 (pre++List.replicate ((dO a').length+1-pre.length) 0)))⟩ κ:=by
    intro y fr κ hy hbv q0 q1 q5 q6 q7 q20 q21 q22;apply hK5;refine acO (κ0+2) ?_;refine aaa λK5 hK5=>?_;refine acB rfl ?_;have e5:IntKind.u32.wrap ((c:Int)+x+y)=((c+x+y)%4294967296:Nat):=by rw[rK];omega
    have e6:ai (wK .u32 (pre++List.replicate ((dO a').length+1-pre.length) 0)) pre.length [CV.d (.int .u32 (((c+x+y)%4294967296:Nat):Int))]=wK .u32 (pre++[(c+x+y)%4294967296]++List.replicate ((dO a').length-pre.length) 0):=by
     rw[hz,gw _ (by simp),kN]
    have e7:(pre.length:Int)<((dO a').length:Int)+1:=by omega
    simp[q5,q6,q7,kY,tF,uJ,e5,e6,Bm,Ja,-Int.natCast_emod,-Int.natCast_add];refine⟨by omega,by omega,?_⟩;apply hK5;clear hK5 K5;refine acB rfl ?_;have e8:(((c:Int)+x+y)/4294967296)=(((c+x+y)/4294967296:Nat):Int):=by omega
    have e8':Int.fdiv ((c:Int)+x+y) 4294967296=(((c+x+y)/4294967296:Nat):Int):=by rw[aeO _ (by omega)];exact e8
    simp[q6,IntKind.bits,e8',-Int.natCast_ediv,-Int.natCast_add];apply hK3;refine acB rfl ?_;have e9:=bB (n:=(pre.length:Int)+1) (by omega) (by omega);simp[q22,e9];have e10:(dO a').length-pre.length=(dO a').length+1-(pre.length+1):=by omega
    refine⟨pre++[(c+x+y)%4294967296],(c+x+y)/4294967296,Le.mk' _ (by simp) (by simp) (by simp[q0,q1,q5,q20,q21]),⟨by simp;omega,?_,by omega,?_⟩,by simp;omega⟩
    ·exact cH.2 ⟨h2,bD.2 ⟨by omega,cJ _⟩⟩
    ·have:=nV 4294967296 pre (c+x+y);rw[ad6,aeU,this,bA hlt,hxe,hbv,aey,aey];omega
   refine acB rfl ?_;simp[qy kY];apply hK6;clear hK6 K6
   by_cases hlb:pre.length<(dO b').length
   ·refine adi (b:=true) (by simp[hlb]) ?_;refine acB rfl ?_;have hy:(dO b')[pre.length]<4294967296:=okb _ (aT hlb);have e5:=dj (n:=((dO b')[pre.length]:Int)) (by omega) (by omega);have e6:=dj (n:=(c:Int)+x+(dO b')[pre.length]) (by omega) (by omega);simp[Qc kY hlb,tv,tF,uJ,e5,e6];exact fin _ _ _ hy (bA hlb) (by simp) (by simp) (by simp) (by simp) (by simp) (by simp) (by simp) (by simp)
   ·refine adi (b:=false) (by simp[hlb]) (aav ?_);simp;exact fin 0 _ _ (by omega) (by rw[aP (by omega),aP (by omega)];rfl) (by simp) (by simp) (by simp) (by simp) (by simp) (by simp) (by simp) (by simp)
  ·refine adi (b:=false) (by simp[hlt]) (abn ?_);simp;have e2:pre.length=(dO a').length:=by omega
   apply hK;refine aaa λK hK=>?_;refine acB rfl ?_;have e3:=bN (n:=(c:Int)) (by omega) (by omega)
   have e4:ai (wK .u32 (pre++[0])) pre.length [CV.d (.int .u32 (c:Int))]=wK .u32 (pre++[c]):=by
    rw[gw _ (by simp)];simp
   simp only[<-e2];simp[qy kY,<-e2,kY,tF,uJ,e3,e4,Bm,Ja];refine⟨by omega,?_⟩;apply hK;clear hK K;refine aaa λK hK=>?_;refine acB rfl ?_;simp[TD];have hl:pre.length+1=(pre++[c]).length:=by simp
   rw[hl]
   have hout:dg (pre++[c])=aG 4294967296 (val 4294967296 (dO a)+val 4294967296 (dO b)):=by
    refine ei (by decide) (cH.2 ⟨h2,bD.2 ⟨by omega,cJ _⟩⟩) ?_;rw[fB,h4,aP (by omega),aP (by omega),hv]
   refine gH.qG 0 (κ0+1) κ0 (by simp;rfl) (by simp;omega) (dQ _ _) (by simp) (by simp) (by simp) ?_;simp;apply hK;clear hK K;exact aaH (aN.tmp rfl (κ0+1) (by simp[hout]) (by simp) (by simp) (by simp))
 have oka:ok 4294967296 (dO a):=λd hd=>by have:=hra.2 d hd;simp only[og]at this;omega
 have okb:ok 4294967296 (dO b):=λd hd=>by have:=hrb.2 d hd;simp only[og]at this;omega
 by_cases hlt:(dO a).length<(dO b).length
 ·refine adi (b:=true) (by simp[hlt]) ?_;refine acB rfl ?_;simp;exact main b a _ _ (by simp) (by simp) (by omega) hb okb oka (by omega)
 ·refine adi (b:=false) (by simp[hlt]) (aav ?_);simp;exact main a b _ _ (by simp) (by simp) (by omega) ha oka okb rfl
theorem Ot(hx:x<4294967296)(hc:c<=1)(hy:y<4294967296):
 ∃v b:Nat,v<4294967296/\b<=1/\v+c+y=x+4294967296*b/\IntKind.u32.wrap (IntKind.u64.wrap (IntKind.u64.wrap ((x:Int)-c)-y))=v/\Int.fdiv (IntKind.u64.wrap (IntKind.u64.wrap ((x:Int)-c)-y)) 9223372036854775808=b:=by
 simp only[rK,AT]
 by_cases h:c+y<=x
 ·refine⟨x-c-y,0,by omega,by omega,by omega,by omega,?_⟩
  grind
 ·refine⟨x+4294967296-c-y,1,by omega,by omega,by omega,by omega,?_⟩
  grind
theorem L5(hx:x<4294967296)(hc:c<=1):IntKind.u64.wrap (IntKind.u64.wrap ((x:Int)-c)-(0:Nat))=IntKind.u64.wrap ((x:Int)-c):=by
 simp only[AT];omega
theorem nN(G:List (List DV))(a b:Option (List Nat))(ha:(dO a).length<=1000000000000)(hv:val 4294967296 (dO b)<=val 4294967296 (dO a)):
 aa Tryz.prog G 41 [nK .u32 a,nK .u32 b] (nK .u32 (some (aG 4294967296 (val 4294967296 (dO a)-val 4294967296 (dO b))))):=by
 refine aI.lJ 0 (by simp) (λV v h=>iH h) λhra=>?_;refine aI.lJ 1 (by simp) (λV v h=>iH h) λhrb=>?_;have oka:ok 4294967296 (dO a):=λd hd=>by have:=hra.2 d hd;simp only[og]at this;omega
 have okb:ok 4294967296 (dO b):=λd hd=>by have:=hrb.2 d hd;simp only[og]at this;omega
 refine aa.en Tryz.func41 rfl λ_=>aah ?_;refine aaF λK hK=>?_;simp
 repeat refine aj ?_
 apply hK;refine aah ?_;refine aaa λK hK=>aah ?_;refine aaE ?_
 refine abr (λ(p:List Nat×Nat)=>⟨aU [(0,nK .u32 a),(1,nK .u32 b),(5,.c (.aH 0 0 (dO a).length 1)),(6,.c (.d (.int .u64 p.2))),(13,nK .u32 a),(14,.c (.d (.int .i64 (dO a).length))),(15,.c (.d (.int .i64 p.1.length)))],
  az (λ_=>.hole) 0 (.cells true false 138 (wK .u32 (p.1++List.replicate ((dO a).length-p.1.length) 0)))⟩) 1
  (λp=>p.1.length<=(dO a).length/\ok 4294967296 p.1/\p.2<=1/\val 4294967296 p.1+val 4294967296 ((dO b).take p.1.length)=val 4294967296 ((dO a).take p.1.length)+4294967296^p.1.length*p.2)
  (λp=>(dO a).length-p.1.length) ([],0) (Le.mk' _ (by simp[gI]) (by simp) (by simp)) (by simp[cJ]) ?_
 rintro⟨pre,c⟩ ⟨h1,h2,h3,h4⟩;simp only at h1 h2 h3 h4;refine aah ?_;refine aaa λK2 hK2=>?_
 by_cases hlt:pre.length<(dO a).length
 ·refine aaX (by simp_all) (aav (hK2 _ _ ?_));have hz:(dO a).length-pre.length=((dO a).length-pre.length-1)+1:=by omega
  refine aaa λK3 hK3=>aaE (aaF λK4 hK4=>?_)
  simp[hlt];apply hK4;refine aaF λK4 hK4=>?_;simp;have hx:(dO a)[pre.length]<4294967296:=oka _ (aT hlt);generalize hxe:(dO a)[pre.length]=x at hx;have e3:=dj (n:=(x:Int)) (by omega) (by omega);simp only[e3];apply hK4;refine aaa λK5 hK5=>aaa λK6 hK6=>?_
  have fin:∀(y:Nat) (fr:Nat->AV) (κ:Nat),y<4294967296->val 4294967296 ((dO b).take (pre.length+1))=val 4294967296 ((dO b).take pre.length)+4294967296^pre.length*y ->
   fr 0=nK .u32 a->fr 1=nK .u32 b->fr 5=.c (.aH 0 0 (dO a).length 1)->fr 9=.c (.d (.int .u64 (IntKind.u64.wrap (IntKind.u64.wrap ((x:Int)-c)-y))))->fr 7=.c (.d (.int .i64 pre.length)) ->
   fr 13=nK .u32 a->fr 14=.c (.d (.int .i64 (dO a).length))->fr 15=.c (.d (.int .i64 pre.length)) ->
   K5 ⟨fr,az (λ_=>.hole) 0 (.cells true false 138 (wK .u32 (pre++List.replicate ((dO a).length-pre.length) 0)))⟩ κ:=by
   intro y fr κ hy hbv q0 q1 q5 q9 q7 q13 q14 q15;obtain⟨v,bb,g1,g2,g3,g4,g5⟩:=Ot hx h3 hy;apply hK5;refine acO 2 ?_
   have e6:ai (wK .u32 (pre++List.replicate ((dO a).length-pre.length) 0)) pre.length [CV.d (.int .u32 (v:Int))]=wK .u32 (pre++[v]++List.replicate ((dO a).length-pre.length-1) 0):=by
    rw[hz,gw _ (by simp),kN];simp
   have e7:(pre.length:Int)<((dO a).length:Int):=by omega
   refine aaF λK7 hK7=>?_;simp[q5,q9,q7,g4,e6,e7]
   repeat refine aj ?_
   apply hK7;refine aar ?_;simp[q9,IntKind.bits,g5];apply hK3;have e9:=bB (n:=(pre.length:Int)+1) (by omega) (by omega);refine aar ?_;simp[q15,e9];have e10:(dO a).length-pre.length-1=(dO a).length-(pre.length+1):=by omega
   refine⟨pre++[v],bb,Le.mk' _ (by simp[e10]) (by simp) (by simp[q0,q1,q5,q13,q14]),⟨by simp;omega,cH.2 ⟨h2,bD.2 ⟨g1,cJ _⟩⟩,g2,?_⟩,by simp;omega⟩;rw[ad6,aeU,fB,bA hlt,hxe,hbv,adR];have g6:4294967296^pre.length*(v+c+y)=4294967296^pre.length*(x+4294967296*bb):=by rw[g3]
   rw[aey,aey,aey,<-ad5]at g6;omega
  refine adl (hK6 _ _ ?_)
  by_cases hlb:pre.length<(dO b).length
  ·refine aaX (by simp[hlb]<;>omega) ?_;have hy:(dO b)[pre.length]<4294967296:=okb _ (aT hlb);have e5:=dj (n:=((dO b)[pre.length]:Int)) (by omega) (by omega);refine aar ?_;simp[hlb,e5];exact fin _ _ _ hy (bA hlb) (by simp) (by simp) (by simp) (by simp) (by simp) (by simp) (by simp) (by simp)
  ·refine abd (by simp[hlb]<;>omega) (aav ?_);simp;exact fin 0 _ _ (by omega) (by rw[aP (by omega),aP (by omega)];rfl) (by simp) (by simp) (by simp) (by rw[L5 hx h3];simp) (by simp) (by simp) (by simp) (by simp)
 ·refine abd (by simp_all) (abn ?_);simp;have e2:pre.length=(dO a).length:=by omega
  apply hK;refine aaF λK hK=>?_;simp
  have hlb:val 4294967296 ((dO b).take pre.length)=val 4294967296 (dO b):=by
   by_cases hb:(dO b).length<=pre.length
   ·exact aP hb
   ·have g1:=cA (B:=4294967296) (dO b) pre.length (by omega);have g2:=fL oka;rw[<-e2]at g2
    have g3:val 4294967296 ((dO b).drop pre.length)=0:=by
     apply aeL;intro hne;have:4294967296^pre.length*1<=4294967296^pre.length*val 4294967296 ((dO b).drop pre.length):=ad9 _ (by omega);omega
    grind
  have hva:val 4294967296 ((dO a).take pre.length)=val 4294967296 (dO a):=aP (by omega)
  have hc:c=0:=by
   apply aeL;intro hne;have:c=1:=by omega
   subst this;have:=fL h2;rw[hlb,hva]at h4;omega
  subst hc
  have hout:dg pre=aG 4294967296 (val 4294967296 (dO a)-val 4294967296 (dO b)):=by
   refine ei (by decide) h2 ?_;rw[hlb,hva]at h4;omega
  rw[<-e2];simp only[afk,List.replicate_zero,aei];refine gH.qG 0 1 0 (by simp;rfl) (by omega) (dQ _ _) (by simp) (by simp) (by simp) ?_;simp;apply hK;exact abe (aN.rt rfl 1 (by simp[hout]))
theorem EL{j T V o L':Nat}(h1:L+B^(i+j)*c=T+B^i*(x*V))(h2:L'+B^(i+j)*o=L+B^(i+j)*((c+(x*y+o))%B)):
 L'+B^(i+j+1)*((c+(x*y+o))/B)=T+B^i*(x*(V+B^j*y)):=by
 have h3:=pH B (i+j) (c+(x*y+o))
 grind
theorem cB(G:List (List DV))(a b:Option (List Nat))(ha:(dO a).length<=1000000000000)(hb:(dO b).length<=1000000000000):
 aa Tryz.prog G 36 [nK .u32 a,nK .u32 b] (nK .u32 (some (aG 4294967296 (val 4294967296 (dO a)*val 4294967296 (dO b))))):=by
 refine aI.lJ 0 (by simp) (λV v h=>iH h) λhra=>?_;refine aI.lJ 1 (by simp) (λV v h=>iH h) λhrb=>?_;have oka:ok 4294967296 (dO a):=λd hd=>by have:=hra.2 d hd;simp only[og]at this;omega
 have okb:ok 4294967296 (dO b):=λd hd=>by have:=hrb.2 d hd;simp only[og]at this;omega
 refine aa.en Tryz.func36 rfl λ_=>aah ?_;refine aaa λK hK=>?_;have e0:IntKind.i64.wrap (((dO a).length:Int)+(dO b).length)=(((dO a).length+(dO b).length:Nat):Int):=by rw[bB (by omega) (by omega)];omega
 refine aar ?_;simp[e0,-Int.natCast_add]
 repeat refine aj ?_
 apply hK;refine aaa λK hK=>aah ?_;refine aaE ?_
 refine abr (λ(p:Nat×List Nat)=>⟨aU [(0,nK .u32 a),(1,nK .u32 b),(5,.c (.aH 0 0 ((dO a).length+(dO b).length) 1)),(17,nK .u32 a),(18,.c (.d (.int .i64 (dO a).length))),(19,.c (.d (.int .i64 p.1)))],
  az (λ_=>.hole) 0 (.cells true false 138 (wK .u32 (p.2++List.replicate ((dO a).length-p.1) 0)))⟩) 1
  (λp=>p.1<=(dO a).length/\p.2.length=p.1+(dO b).length/\ok 4294967296 p.2/\val 4294967296 p.2=val 4294967296 ((dO a).take p.1)*val 4294967296 (dO b))
  (λp=>(dO a).length-p.1) (0,List.replicate (dO b).length 0) (Le.mk' _ (by simp[gI,afP]) (by simp) (by simp)) ⟨by simp,by simp,tW (by omega) _,by simp[qk]⟩ ?_
 rintro⟨i,lo⟩ ⟨h1,h2,h3,h4⟩;simp only at h1 h2 h3 h4;refine aah ?_;refine aaa λK2 hK2=>?_
 by_cases hlt:i<(dO a).length
 ·refine aaX (by simp_all) (aav (hK2 _ _ (aaa λK3 hK3=>aaE (aaF λK4 hK4=>?_))));simp[hlt];apply hK4;refine aaF λK4 hK4=>?_;simp;have hx:(dO a)[i]<4294967296:=oka _ (aT hlt);generalize hxe:(dO a)[i]=x at hx;apply hK4;refine aaa λK4 hK4=>aaF λK5 hK5=>?_;simp;apply hK5;refine aaE ?_
  refine abr (λ(p:Nat×List Nat×Nat)=>⟨aU [(0,nK .u32 a),(1,nK .u32 b),(5,.c (.aH 0 0 ((dO a).length+(dO b).length) 1)),(17,nK .u32 a),(18,.c (.d (.int .i64 (dO a).length))),(19,.c (.d (.int .i64 i))),
   (6,.c (.d (.int .i64 i))),(7,.c (.d (.int .u32 x))),(8,.c (.d (.int .u64 p.2.2))),(24,nK .u32 b),(25,.c (.d (.int .i64 (dO b).length))),(26,.c (.d (.int .i64 p.1)))],
   az (λ_=>.hole) 0 (.cells true false 138 (wK .u32 (p.2.1++List.replicate ((dO a).length-i) 0)))⟩) 2
   (λp=>p.1<=(dO b).length/\p.2.1.length=i+(dO b).length/\ok 4294967296 p.2.1/\p.2.2<4294967296/\val 4294967296 p.2.1+4294967296^(i+p.1)*p.2.2=val 4294967296 ((dO a).take i)*val 4294967296 (dO b)+4294967296^i*(x*val 4294967296 ((dO b).take p.1)))
   (λp=>(dO b).length-p.1) (0,lo,0) (Le.mk' _ (by simp) (by simp) (by simp)) ⟨by simp,h2,h3,by simp,by simp[h4]⟩ ?_
  rintro⟨j,lo2,c⟩ ⟨g1,g2,g3,g4,g5⟩;simp only at g1 g2 g3 g4 g5;refine aah ?_;refine aaa λK7 hK7=>?_
  by_cases hlj:j<(dO b).length
  ·refine aaX (by simp[hlj]<;>omega) (aav (hK7 _ _ (aaa λK8 hK8=>aaE (aaF λK9 hK9=>?_))));simp[hlj];apply hK9;refine aaa λK9 hK9=>?_;have hy:(dO b)[j]<4294967296:=okb _ (aT hlj);have hij:i+j<lo2.length:=by omega
   have hij2:i+j<(lo2++List.replicate ((dO a).length-i) 0).length:=by simp;omega
   have hij3:i+j<lo2.length+((dO a).length-i):=by omega
   have ho:lo2[i+j]<4294967296:=g3 _ (aT hij);have ho2:(lo2++List.replicate ((dO a).length-i) 0)[i+j]=lo2[i+j]:=ae5 hij;have hb2:val 4294967296 ((dO b).take (j+1))=val 4294967296 ((dO b).take j)+4294967296^j*(dO b)[j]:=bA hlj;have hset:=xP (B:=4294967296) hij;generalize (dO b)[j]=y at hy hb2;generalize lo2[i+j]=o at ho ho2 hset;have hxy:x*y<=4294967295*4294967295:=aeK (by omega) (by omega);have e1:IntKind.i64.wrap ((i:Int)+j)=((i+j:Nat):Int):=by rw[bB (by omega) (by omega)];omega
   have e2:=dj (n:=(x:Int)) (by omega) (by omega);have e3:=dj (n:=(y:Int)) (by omega) (by omega)
   have e4:IntKind.u64.wrap ((x:Int)*y)=((x*y:Nat):Int):=by
    rw[<-afG];generalize x*y=p at hxy;exact dj (by omega) (by omega)
   have e5:=dj (n:=(o:Int)) (by omega) (by omega)
   have e6:IntKind.u64.wrap (((x*y:Nat):Int)+o)=((x*y+o:Nat):Int):=by
    generalize x*y=p at hxy;rw[dj (by omega) (by omega)];omega
   have e7:IntKind.u64.wrap ((c:Int)+((x*y+o:Nat):Int))=((c+(x*y+o):Nat):Int):=by
    generalize x*y=p at hxy;rw[dj (by omega) (by omega)];omega
   refine aar ?_;simp[e1,e2,e3,e4,e5,e6,e7,hij3,ho2,-Int.natCast_add,-Int.natCast_mul]
   repeat refine aj ?_
   apply hK9;have hbd:c+(x*y+o)<18446744073709551616:=by generalize x*y=p at hxy;omega
   generalize hm:c+(x*y+o)=m at hbd;have f1:IntKind.u32.wrap (m:Int)=((m%4294967296:Nat):Int):=by rw[rK];omega
   have f2:ai (wK .u32 (lo2++List.replicate ((dO a).length-i) 0)) (i+j) [CV.d (.int .u32 ((m%4294967296:Nat):Int))]=wK .u32 (lo2.set (i+j) (m%4294967296)++List.replicate ((dO a).length-i) 0):=by
    rw[gw _ hij2,agQ _ _ hij]
   have f3:Int.fdiv (m:Int) 4294967296=((m/4294967296:Nat):Int):=by rw[aeO _ (by omega)];omega
   have f4:(i+j:Int)<(dO a).length+(dO b).length:=by omega
   refine aaF λK9 hK9=>?_;simp[e1,f1,f2,-Int.natCast_add,-Int.natCast_emod]
   repeat refine aj ?_
   apply hK9;refine aar ?_;simp[IntKind.bits,f3,-Int.natCast_ediv];apply hK8;have f5:=bB (n:=(j:Int)+1) (by omega) (by omega);refine aar ?_;simp[f5];refine⟨j+1,lo2.set (i+j) (m%4294967296),m/4294967296,Le.mk' _ (by simp) (by simp) (by simp),⟨by omega,by simp[g2],GS g3 _ (adZ _ (by omega)),?_,?_⟩,by omega⟩
   ·omega
   ·rw[hb2,<-hm,<-afl i j 1];exact EL g5 (by grind)
  ·refine abd (by simp[hlj]<;>omega) (abn (hK4 _ _ ?_));have ej:j=(dO b).length:=by omega
   subst ej;rw[aP (bh _)]at g5;have e1:IntKind.i64.wrap ((i:Int)+(dO b).length)=((i+(dO b).length:Nat):Int):=by rw[bB (by omega) (by omega)];omega
   have e2:=bN (n:=(c:Int)) (by omega) (by omega);have hz:(dO a).length-i=((dO a).length-i-1)+1:=by omega
   have f2:ai (wK .u32 (lo2++List.replicate ((dO a).length-i) 0)) (i+(dO b).length) [CV.d (.int .u32 (c:Int))]=wK .u32 (lo2++[c]++List.replicate ((dO a).length-i-1) 0):=by
    rw[gw _ (by simp;omega),hz,<-g2,kN];simp
   have f6:i+(dO b).length<lo2.length+((dO a).length-i):=by omega
   refine aar ?_;simp[e1,e2,f2,-Int.natCast_add]
   repeat refine aj ?_
   apply hK3;have f5:=bB (n:=(i:Int)+1) (by omega) (by omega);refine aar ?_;simp[f5];have f7:(dO a).length-(i+1)=(dO a).length-i-1:=by omega
   refine⟨i+1,lo2++[c],Le.mk' _ (by simp[f7]) (by simp) (by simp),⟨by omega,by simp;omega,cH.2 ⟨g3,bD.2 ⟨g4,cJ _⟩⟩,?_⟩,by omega⟩;rw[fB,g2,g5,bA hlt,hxe,ad7,ad5]
 ·refine abd (by simp_all) (abn (hK _ _ ?_));have e2:i=(dO a).length:=by omega
  subst e2;refine aaF λK hK=>?_;simp;rw[<-h2]
  have hout:dg lo=aG 4294967296 (val 4294967296 (dO a)*val 4294967296 (dO b)):=by
   refine ei (by decide) h3 ?_;rw[h4,aP (bh _)]
  refine gH.qG 0 1 0 (by simp;rfl) (by omega) (dQ _ _) (by simp) (by simp) (by simp) ?_;simp;apply hK;exact abe (aN.rt rfl 1 (by simp[hout]))
theorem lG(G:List (List DV))(a:Option (List Nat))(b:Nat)(hb:b≠0)(ha:(dO a).length<=1000000000000):
 aa Tryz.prog G 84 [nK .u32 a,.c (.d (.int .u32 b))] (.tup [nK .u32 (some (aG 4294967296 (val 4294967296 (dO a)/b))),.c (.d (.int .u32 ((val 4294967296 (dO a)%b:Nat):Int)))]):=by
 refine aI.lJ 0 (by simp) (λV v h=>iH h) λhra=>?_;refine aI.lJ 1 (by simp) (λV v h=>Vw.tQ h) λhrb=>?_;have oka:ok 4294967296 (dO a):=λd hd=>by have:=hra.2 d hd;simp only[og]at this;omega
 rw[oG]at hrb;simp only[wG,og]at hrb;refine aa.en Tryz.func84 rfl λ_=>aah ?_;refine aah ?_;refine aah ?_;refine aaa λK hK=>aaa λK1 hK1=>?_;have e1:=bB (n:=((dO a).length:Int)-1) (by omega) (by omega);refine acK e1 (hK1 _ _ ?_);refine aaE ?_
 refine abr (λ(p:Nat×List Nat×Nat)=>⟨aU [(0,nK .u32 a),(1,.c (.d (.int .u32 b))),(4,.c (.aH 0 0 (dO a).length 1)),(6,.c (.d (.int .u64 p.2.2))),(7,.c (.d (.int .i64 ((p.1:Int)-1))))],
  az (λ_=>.hole) 0 (.cells true false 138 (wK .u32 (List.replicate p.1 0++p.2.1)))⟩) 1
  (λp=>p.1+p.2.1.length=(dO a).length/\ok 4294967296 p.2.1/\p.2.2<b/\val 4294967296 ((dO a).drop p.1)=val 4294967296 p.2.1*b+p.2.2)
  (λp=>p.1) ((dO a).length,[],0) (Le.mk' _ (by simp[gI]) (by simp) (by simp)) (by simp[cJ];omega) ?_
 rintro⟨k,qs,r⟩ ⟨h1,h2,h3,h4⟩;simp only at h1 h2 h3 h4;refine aaa λK3 hK3=>aah ?_
 cases k with
 |zero=>
  refine aba (abn (hK _ _ (aaF λK hK=>?_)));simp;have e2:(dO a).length=qs.length:=by omega
  have e3:=bN (n:=(r:Int)) (by omega) (by omega);rw[e2];simp only[aeu]at *
  have hq:val 4294967296 (dO a)/b=val 4294967296 qs:=by
   rw[h4,afP,Nat.add_mul_div_right _ _ (by omega),aeY h3];omega
  have hr:val 4294967296 (dO a)%b=r:=by
   rw[h4,afP,Nat.add_mul_mod_self_right,aem h3]
  have hout:dg qs=aG 4294967296 (val 4294967296 (dO a)/b):=ei (by decide) h2 hq.symm;refine gH.qG 0 1 0 (by simp;rfl) (by omega) (dQ _ _) (by simp) (by simp) (by simp) ?_;simp[e3];apply hK;exact abe (aN.t2 rfl 1 (by simp[hout]) (by simp[hr]))
 |succ k=>
  have hk:k<(dO a).length:=by omega
  have e2:((k+1:Nat):Int)-1=k:=by omega
  simp only[e2];refine abl (aav (hK3 _ _ (aaa λK5 hK5=>aaE (aaa λK6 hK6=>?_))));have hx:(dO a)[k]<4294967296:=oka _ (aT hk);have hd:val 4294967296 ((dO a).drop k)=(dO a)[k]+4294967296*val 4294967296 ((dO a).drop (k+1)):=cR hk;generalize hxe:(dO a)[k]=x at hx hd;have f1:IntKind.u64.wrap ((r:Int)*4294967296)=((r*4294967296:Nat):Int):=by rw[dj (by omega) (by omega)];omega
  have f2:=dj (n:=(x:Int)) (by omega) (by omega);have f3:=ur (m:=r) (y:=x) (by omega) hx;refine aar ?_;simp[hk,hxe,f1,f2,f3,IntKind.bits,-Int.natCast_add,-Int.natCast_mul];apply hK6
  have hb1:r*4294967296+x<b*4294967296:=by
   have:(r+1)*4294967296<=b*4294967296:=adJ _ h3;omega
  generalize hm:r*4294967296+x=m at hb1;have g1:=dj (n:=(b:Int)) (by omega) (by omega);have g2:m/b<4294967296:=by rw[afD (by omega),aea];exact hb1
  have hdm:=afy m b;have hml:m%b<b:=adZ _ (by omega);have g3:Int.tdiv (m:Int) b=((m/b:Nat):Int):=by rw[aev (agV m),<-Int.natCast_ediv]
  have g8:Int.tmod (m:Int) b=((m%b:Nat):Int):=by rw[aep (agV m),<-Int.natCast_emod]
  generalize m/b=q at g2 g3 hdm;generalize m%b=r' at g8 hdm hml;have g3':=dj (n:=(q:Int)) (by omega) (by omega);have g4:=bN (n:=(q:Int)) (by omega) (by omega)
  have g5:ai (wK .u32 (List.replicate (k+1) 0++qs)) k [CV.d (.int .u32 (q:Int))]=wK .u32 (List.replicate k 0++(q::qs)):=by
   rw[gw _ (by simp;omega),pU]
  have g6:¬((b:Int)=0):=by omega
  have g7:(k:Int)<(dO a).length:=by omega
  refine AW.f7 g1 g3 g3' g4 g5 hb hk ?_;refine aar ?_;simp[g1,g8,hb];apply hK5;have g9:=bB (n:=(k:Int)-1) (by omega) (by omega);refine aar ?_;simp[g9];refine⟨k,q::qs,r',Le.mk' _ (by simp) (by simp) (by simp),⟨by simp;omega,bD.2 ⟨g2,h2⟩,hml,?_⟩,by omega⟩;rw[hd,h4,bP]
  grind
theorem dX(G:List (List DV))(n:Nat)(hn:n<18446744073709551616):aa Tryz.prog G 78 [.c (.d (.int .u64 n))] (nK .u32 (some (aG 4294967296 n))):=by
 refine aa.en Tryz.func78 rfl λ_=>aah ?_;refine aaa λK hK=>?_;have e1:IntKind.u32.wrap (n:Int)=((n%4294967296:Nat):Int):=by rw[rK];omega
 have e2:Int.fdiv (n:Int) 4294967296=((n/4294967296:Nat):Int):=by rw[aeO _ (by omega)];omega
 have e3:IntKind.u32.wrap ((n/4294967296:Nat):Int)=((n/4294967296:Nat):Int):=bN (by omega) (by omega);have hok:ok 4294967296 [n%4294967296,n/4294967296]:=bD.2 ⟨by omega,bD.2 ⟨by omega,cJ _⟩⟩;have hout:dg [n%4294967296,n/4294967296]=aG 4294967296 n:=ei (by decide) hok (by simp;omega);generalize hq:n/4294967296=q at *
 generalize hr:n%4294967296=r at *
 refine aar ?_;simp[IntKind.bits,e1,e2,e3,ak,kE,ai,ja];refine gH.qG (l:=[r,q]) 0 1 0 (by simp[wK];rfl) (by simp) (dQ _ _) (by simp) (by simp) (by simp) ?_;simp;apply hK;exact abe (aN.rt rfl 1 (by simp[hout]))
theorem jw(G:List (List DV))(a:Option (List Nat))(ha:can 4294967296 (dO a)):aa Tryz.prog G 79 [nK .u32 a] (.c (.d (.bool (decide (val 4294967296 (dO a)=1))))):=by
 refine aa.en Tryz.func79 rfl λ_=>aah ?_;refine aaa λK hK=>?_
 have h0:(dO a).length=1↔∃x,dO a=[x]:=by
  constructor
  ·intro h;match hd:dO a,h with|[x],_=>exact⟨x,rfl⟩
  ·grind
 by_cases hl:(dO a).length=1
 ·obtain⟨x,hx⟩:=h0.1 hl;have h1:0<(dO a).length:=by omega
  have h2:(dO a)[0]=x:=by simp[hx]
  have h3:val 4294967296 (dO a)=x:=by simp[hx]
  have h4:=gL (P:=Tryz.prog) (T:=25) (lv:=λ_=>.hole) (k:=.u32) (k':=.i64) (o:=a) (i:=0) (by simp) h1;simp only[agD,h2]at h4;refine acT hl h4 (hK _ _ ?_);have h5:(x:Int)=1↔x=1:=by omega
  exact abe (aN.rt rfl 0 (by simp_all))
 ·have h3:¬val 4294967296 (dO a)=1:=by
   intro h;have:=gK (by decide:2<=4294967296) ha h;rw[this]at hl;exact hl rfl
  have h4:¬((dO a).length:Int)=1:=by omega
  refine acT hl h4 (hK _ _ ?_);exact abe (aN.rt rfl 0 (by simp[h3]))
def bF(n:Nat):Nat:=if n=0 then 0 else Nat.log2 n+1
theorem S4(h1:2^k<=n)(h2:n<2^(k+1)):bF n=k+1:=by
 have h0:n≠0:=by have:=aeb (a:=2) (n:=k) (by decide);omega
 have:=(Nat.log2_eq_iff h0).2 ⟨h1,h2⟩;simp[bF,h0,this]
theorem Ce(n:Nat):n<2^bF n:=by
 unfold bF;split
 ·simp[*]
 ·exact Nat.lt_log2_self
theorem jX(h:n≠0):2^(bF n-1)<=n:=by
 simp only[bF,h,if_false,agj];exact Nat.log2_self_le h
theorem kV(h:2^k<=n):bF n=bF (n/2^k)+k:=by
 have hk:=aeb (a:=2) (n:=k) (by decide);have h0:n/2^k≠0:=by have:=Nat.div_pos h hk;omega
 have h1:=jX h0;have h2:=Ce (n/2^k);have h3:0<bF (n/2^k):=by simp[bF,h0]
 have h4:2^(bF (n/2^k)-1)*2^k<=n:=Ju (adJ _ h1) (afF n _);have h5:n<2^bF (n/2^k)*2^k:=by rw[<-afD hk];exact h2
 rw[<-afa]at h4 h5;have h6:=S4 h4 (by grind);omega
theorem ZG(f:List UInt8)(hf:(List.range 256).all (λi=>(f[i]?.getD 0).toNat == bF i)=true)(x:Nat)(hx:x<256):(f[x]?.getD 0).toNat=bF x:=by
 grind
theorem rG(G:List (List DV))(n:Nat)(hn:n<4294967296):aa Tryz.prog G 178 [.c (.d (.int .u32 n))] (.c (.d (.int .i64 (bF n)))):=by
 refine aa.en Tryz.func178 rfl λ_=>aah ?_;refine aaa λK hK=>aah ?_
 have step2:∀(x m:Nat) (fr:Nat->AV) (κ:Nat),x<65536->m<=16->bF n=m+bF x->fr 0=.c (.d (.int .u32 x))->fr 2=.c (.d (.int .i64 m))->K ⟨fr,λ_=>.hole⟩ κ:=by
  intro x m fr κ hx hm hb f0 f2;apply hK;refine aaa λK hK=>abf f0 ?_
  have step3:∀(x m:Nat) (fr:Nat->AV) (κ:Nat),x<256->m<=24->bF n=m+bF x->fr 0=.c (.d (.int .u32 x))->fr 2=.c (.d (.int .i64 m))->K ⟨fr,λ_=>.hole⟩ κ:=by
   intro x m fr κ hx hm hb f0 f2;apply hK;refine aaa λK hK=>?_;have e1:IntKind.u8.wrap (x:Int)=x:=cj ⟨by simp only[wG];omega,by simp only[og];omega⟩
   have hbl:bF x<=8:=by
    by_cases h0:x=0
    ·subst h0;decide
    ·have:=jX h0;apply aeL;intro hc;have h9:2^8<=2^(bF x-1):=ael (by decide) (by omega);omega
   refine aar ?_;simp[f0,f2,e1];rw[ZG (x:=x) (hx:=hx)]
   ·have e2:=bB (n:=(bF x:Int)) (by omega) (by omega);have e3:=bB (n:=(m:Int)+bF x) (by omega) (by omega);rw[e2,e3]
    repeat refine aj ?_
    apply hK;exact abe (aN.rt rfl 0 (by simp[hb]))
   ·kernel_rfl
  by_cases h:256<=x
  ·refine aaX (by simp<;>omega) ?_;have e1:Int.fdiv (x:Int) 256=((x/256:Nat):Int):=by rw[aeO _ (by omega)];omega
   have e2:=bB (n:=(m:Int)+8) (by omega) (by omega);refine aaF λK1 hK1=>?_;simp[f0,IntKind.bits,e1,-Int.natCast_ediv];apply hK1;refine aar ?_;simp[f2,e2];refine step3 (x/256) (m+8) _ _ (by omega) (by omega) ?_ (by simp) (by simp);have:=kV (n:=x) (k:=8) (by omega)
   grind
  ·refine abd (by simp<;>omega) (aav ?_);simp;exact step3 x m _ _ (by omega) (by omega) hb (by simp[f0]) (by simp[f2])
 by_cases h:65536<=n
 ·refine aaX (by simp<;>omega) ?_;have e1:Int.fdiv (n:Int) 65536=((n/65536:Nat):Int):=by rw[aeO _ (by omega)];omega
  refine aaF λK1 hK1=>?_;simp[IntKind.bits,e1,-Int.natCast_ediv];apply hK1;refine aar ?_;simp;refine step2 (n/65536) 16 _ _ (by omega) (by omega) ?_ (by simp) (by simp);have:=kV (n:=n) (k:=16) (by omega)
  grind
 ·refine abd (by simp<;>omega) (aav ?_);simp;exact step2 n 0 _ _ (by omega) (by omega) (by simp) (by simp) (by simp)
theorem n6(G:List (List DV))(n:Nat)(hn:n<4294967296):aa Tryz.prog G 132 [.c (.d (.int .u32 n))] (.c (.d (.int .i64 (32-(bF n:Int))))):=by
 have hbl:bF n<=32:=by
  by_cases h0:n=0
  ·subst h0;decide
  ·have:=jX h0;apply aeL;intro hc;have h9:2^32<=2^(bF n-1):=ael (by decide) (by omega);omega
 refine aa.en Tryz.func132 rfl λ_=>aah ?_;refine aaF λK hK=>?_;simp;refine ag.pure 0 0 (rG _ n hn) rfl (by simp) rfl ?_;have e2:=bB (n:=32-(bF n:Int)) (by omega) (by omega);simp[e2];apply hK;exact abe (aN.rt rfl 0 (by simp))
theorem mH(G:List (List DV))(a:Option (List Nat))(ha:can 4294967296 (dO a))(hl:(dO a).length<=1000000000000):aa Tryz.prog G 245 [nK .u32 a] (.c (.d (.int .i64 (bF (val 4294967296 (dO a)))))):=by
 refine aa.en Tryz.func245 rfl λ_=>aah ?_;refine aah ?_;refine aaa λK hK=>aah ?_
 by_cases h0:dO a=[]
 ·refine aaX (by simp_all) (aah ?_);exact abe (aN.rt rfl 0 (by simp[h0,bF]))
 ·refine abd (by simp_all) (aav (hK _ _ (aaa λK hK=>?_)));have h0':0<(dO a).length:=List.length_pos_iff.2 h0;have hk:(dO a).length-1<(dO a).length:=by omega
  have e1:IntKind.i64.wrap (((dO a).length:Int)-1)=(((dO a).length-1:Nat):Int):=by rw[bB (by omega) (by omega)];omega
  have e2:=bB (n:=32*(((dO a).length-1:Nat):Int)) (by omega) (by omega);have hx:(dO a)[(dO a).length-1]<4294967296:=ha.1 _ (aT hk);have hx0:(dO a)[(dO a).length-1]≠0:=ha.2 _ (by grind);have hv:=cA (B:=4294967296) (dO a) ((dO a).length-1) (by omega);rw[cR hk,fJ (l:=dO a) (i:=(dO a).length-1+1) (by omega)]at hv;have hlt:=fL (lT ha.1 ((dO a).length-1));rw[aej,aeM (by omega)]at hlt;generalize (dO a).length-1=k at *
  generalize hxe:(dO a)[k]=x at *
  have hbl:bF x<=32:=by
   have:=jX hx0;apply aeL;intro hc;have h9:2^32<=2^(bF x-1):=ael (by decide) (by omega);omega
  have hb:bF (val 4294967296 (dO a))=32*k+bF x:=by
   have hP:(4294967296:Nat)^k=2^(32*k):=by rw[afp]
   rw[hP]at hv hlt
   have h1:val 4294967296 (dO a)/2^(32*k)=x:=by
    rw[hv,afb,aeI,agA _ _ (aeb (by decide)),aeY hlt,aeC]
   have h2:=kV (n:=val 4294967296 (dO a)) (k:=32*k) (by
    have:2^(32*k)*1<=2^(32*k)*(x+4294967296*0):=ad9 _ (by omega);omega)
   rw[h1]at h2;omega
  refine aar ?_;simp[e1,e2,hk,hxe];refine ag.pure 0 0 (rG _ x hx) rfl (by simp) rfl ?_;have e3:=bB (n:=32*(k:Int)+bF x) (by omega) (by omega);simp[e3];apply hK;exact abe (aN.rt rfl 0 (by simp[hb]))
theorem NC(hx:x<4294967296)(hs:s<32):∃y h:Nat,(x*2^s)%4294967296=y*2^s/\(x*2^s)/4294967296=h/\y*2^s+2^s<=4294967296/\h<2^s/\x*2^s<18446744073709551616:=by
 have hP:(2:Nat)^(32-s)*2^s=4294967296:=by rw[<-afa,Nat.sub_add_cancel (by omega)]
 have h0:0<2^s:=aeb (by decide);have h1:0<2^(32-s):=aeb (by decide);refine⟨x%2^(32-s),_,?_,rfl,?_,?_,?_⟩
 ·rw[<-hP,Nat.mul_mod_mul_right]
 ·have:=adZ x h1
  calc x%2^(32-s)*2^s+2^s=(x%2^(32-s)+1)*2^s:=by grind
   _<=2^(32-s)*2^s:=adJ _ this
   _=4294967296:=hP
 ·rw[afD (by decide),aea]
  simp_all
 ·have h2:2^s<4294967296:=Nat.pow_lt_pow_right (by decide) hs |> λh=>h
  calc x*2^s<=4294967295*2^s:=adJ _ (by omega)
   _<=4294967295*4294967295:=ad9 _ (by omega)
   _<_:=by decide
theorem fO(G:List (List DV))(a:Option (List Nat))(k:Nat)(ha:(dO a).length<=1000000000000)(hk:k<=1000000000000):
 aa Tryz.prog G 83 [nK .u32 a,.c (.d (.int .i64 k))] (if dO a=[]then nK .u32 none else nK .u32 (some (aG 4294967296 (val 4294967296 (dO a)*2^k)))):=by
 refine aI.lJ 0 (by simp) (λV v h=>iH h) λhra=>?_;have oka:ok 4294967296 (dO a):=λd hd=>by have:=hra.2 d hd;simp only[og]at this;omega
 by_cases h0:dO a=[]
 ·rw[if_pos h0];refine aa.en Tryz.func83 rfl λ_=>aah ?_;refine aaa λK hK=>aah ?_;refine aaX (by simp_all) (aah ?_);exact abe (aN.rt rfl 0 (by simp[nK]))
 ·rw[if_neg h0];refine aa.en Tryz.func83 rfl λ_=>aah ?_;refine aaa λK hK=>aah ?_;refine abd (by simp_all) (aav (hK _ _ (aaa λK hK=>?_)));have d1:Int.tdiv (k:Int) 32=((k/32:Nat):Int):=by rw[aev (by omega)];omega
  have d2:Int.tmod (k:Int) 32=((k%32:Nat):Int):=by rw[aep (by omega)];omega
  have hks:k=32*(k/32)+k%32:=by omega
  have hs:k%32<32:=by omega
  have hw:k/32<=1000000000000:=by omega
  have d3:=bB (n:=((k/32:Nat):Int)) (by omega) (by omega);have d4:=dj (n:=((k%32:Nat):Int)) (by omega) (by omega);generalize k/32=w at *
  generalize k%32=s at *
  refine adH d1 d2 d3 d4 (hK _ _ ?_);have e1:IntKind.i64.wrap (((dO a).length:Int)+w)=(((dO a).length+w:Nat):Int):=by rw[bB (by omega) (by omega)];omega
  have e2:IntKind.i64.wrap ((((dO a).length+w:Nat):Int)+1)=(((dO a).length+w+1:Nat):Int):=by rw[bB (by omega) (by omega)];omega
  refine aaF λK hK=>?_;simp[e1,e2,-Int.natCast_add]
  repeat refine aj ?_
  apply hK;refine aaa λK hK=>aah ?_;refine aaE ?_
  refine abr (λ(p:Nat×List Nat)=>⟨aU [(0,nK .u32 a),(5,.c (.d (.int .i64 w))),(6,.c (.d (.int .u64 s))),(7,.c (.aH 0 0 ((dO a).length+w+1) 1)),(25,nK .u32 a),(26,.c (.d (.int .i64 (dO a).length))),(27,.c (.d (.int .i64 p.1)))],
   az (λ_=>.hole) 0 (.cells true false 138 (wK .u32 (p.2++List.replicate ((dO a).length-p.1) 0)))⟩) 1
   (λp=>p.1<=(dO a).length/\p.2.length=p.1+w+1/\ok 4294967296 p.2/\p.2.getD (p.1+w) 0<2^s/\val 4294967296 p.2=4294967296^w*(val 4294967296 ((dO a).take p.1)*2^s))
   (λp=>(dO a).length-p.1) (0,List.replicate (w+1) 0) (Le.mk' _ (by simp[gI,show(dO a).length+w+1=w+1+(dO a).length by omega]) (by simp) (by simp)) ⟨by simp,by simp,tW (by omega) _,by grind,by simp[qk]⟩ ?_
  rintro⟨i,lo⟩ ⟨h1,h2,h3,h4,h5⟩;simp only at h1 h2 h3 h4 h5;refine aah ?_;refine aaa λK2 hK2=>?_
  by_cases hlt:i<(dO a).length
  ·refine aaX (by simp_all) (aav (hK2 _ _ (aaa λK3 hK3=>aaE (aaF λK4 hK4=>?_))));simp[hlt];apply hK4;refine aaa λK4 hK4=>?_;have hx:(dO a)[i]<4294967296:=oka _ (aT hlt);have hbt:val 4294967296 ((dO a).take (i+1))=val 4294967296 ((dO a).take i)+4294967296^i*(dO a)[i]:=bA hlt;generalize (dO a)[i]=x at hx hbt;obtain⟨y,hh,g1,g2,g3,g4,g5⟩:=NC hx hs;have e3:=dj (n:=(x:Int)) (by omega) (by omega)
   have e4:IntKind.u64.wrap ((x:Int)*2^min s 64)=((x*2^s:Nat):Int):=by
    rw[aeM (by omega),show((x:Int)*2^s)=((x*2^s:Nat):Int) by rfl];generalize x*2^s=z at g5;exact dj (by omega) (by omega)
   refine aar ?_;simp[e3,IntKind.bits,e4,-Int.natCast_mul,-Int.natCast_pow];apply hK4;have hij:i+w<lo.length:=by omega
   have hij2:i+w<(lo++List.replicate ((dO a).length-i) 0).length:=by simp;omega
   have hij3:i+w<lo.length+((dO a).length-i):=by omega
   have ht:lo[i+w]<2^s:=by rw[adS,fy hij]at h4;exact h4
   have ho2:(lo++List.replicate ((dO a).length-i) 0)[i+w]=lo[i+w]:=ae5 hij;have hset:=xP (B:=4294967296) hij;generalize lo[i+w]=t at ht ho2 hset;have f1:IntKind.i64.wrap ((i:Int)+w)=((i+w:Nat):Int):=by rw[bB (by omega) (by omega)];omega
   have f2:IntKind.u32.wrap ((x*2^s:Nat):Int)=((y*2^s:Nat):Int):=by rw[<-g1,rK];generalize x*2^s=z;omega
   have f3:Qa .u32 (t:Int) ((y*2^s:Nat):Int)=((y*2^s+t:Nat):Int):=Ns ht (by omega);have f8:y*2^s+t<4294967296:=by omega
   have f4:ai (wK .u32 (lo++List.replicate ((dO a).length-i) 0)) (i+w) [CV.d (.int .u32 ((y*2^s+t:Nat):Int))]=wK .u32 (lo.set (i+w) (y*2^s+t)++List.replicate ((dO a).length-i) 0):=by
    rw[gw _ hij2,agQ _ _ hij]
   have f5:i+w<(dO a).length+w+1:=by omega
   refine aaF λK4 hK4=>?_;simp[f1,f2,f3,f4,f5,hij3,ho2,-Int.natCast_mul,-Int.natCast_pow,-Int.natCast_add]
   repeat refine aj ?_
   apply hK4;have f6:Int.fdiv ((x*2^s:Nat):Int) 4294967296=(hh:Int):=by rw[aeO _ (by omega),<-g2];generalize x*2^s=z;omega
   have f7:IntKind.i64.wrap (((i+w:Nat):Int)+1)=((i+w+1:Nat):Int):=by rw[bB (by omega) (by omega)];omega
   have hs32:(2:Nat)^s<4294967296:=Nat.pow_lt_pow_right (by decide) hs |> λh=>h
   have f9:=bN (n:=(hh:Int)) (by omega) (by omega);have hz:(dO a).length-i=((dO a).length-i-1)+1:=by omega
   have f10:ai (wK .u32 (lo.set (i+w) (y*2^s+t)++List.replicate ((dO a).length-i) 0)) (i+w+1) [CV.d (.int .u32 (hh:Int))]=wK .u32 (lo.set (i+w) (y*2^s+t)++[hh]++List.replicate ((dO a).length-i-1) 0):=by
    rw[gw _ (by simp;omega),hz];have:i+w+1=(lo.set (i+w) (y*2^s+t)).length:=by simp;omega
    rw[this,kN];simp
   have f11:i+w+1<lo.length+((dO a).length-i):=by omega
   refine aar ?_;simp[f1,f6,f7,f9,f10,IntKind.bits,-Int.natCast_mul,-Int.natCast_pow,-Int.natCast_add]
   repeat refine aj ?_
   apply hK3;have f12:=bB (n:=(i:Int)+1) (by omega) (by omega);refine aar ?_;simp[f12];have f13:(dO a).length-(i+1)=(dO a).length-i-1:=by omega
   refine⟨i+1,lo.set (i+w) (y*2^s+t)++[hh],Le.mk' _ (by simp[f13]) (by simp) (by simp),⟨by omega,by simp;omega,cH.2 ⟨GS h3 _ f8,bD.2 ⟨by omega,cJ _⟩⟩,?_,?_⟩,by omega⟩
   ·grind
   ·rw[fB,List.length_set,h2,hbt];have p1:=hset (y*2^s+t);have p2:=pH 4294967296 (i+w) (x*2^s)
    grind
  ·refine abd (by simp_all) (abn ?_);simp;have e9:i=(dO a).length:=by omega
   subst e9;apply hK;refine aaF λK hK=>?_;simp;rw[<-h2]
   have hout:dg lo=aG 4294967296 (val 4294967296 (dO a)*2^k):=by
    refine ei (by decide) h3 ?_;rw[h5,aP (bh _),hks,afa,afp];generalize 2^s=S;generalize val 4294967296 (dO a)=V;have:(2:Nat)^32=4294967296:=by decide
    rw[this];generalize 4294967296^w=W
    grind
   refine gH.qG 0 1 0 (by simp;rfl) (by omega) (dQ _ _) (by simp) (by simp) (by simp) ?_;simp;apply hK;exact abe (aN.rt rfl 1 (by simp[hout]))
theorem l6(h:ok B l)(i:Nat)(hi:i<=l.length):val B l/B^i=val B (l.drop i):=by
 have h1:=cA (B:=B) l i hi;have h2:=fL (lT h i);rw[aej,aeM hi]at h2;have hp:0<B^i:=by omega
 rw[h1,agA _ _ hp,aeY h2,aeC]
theorem L9{D z:Nat}(hs:s<32)(hD:D=x+4294967296*(y+4294967296*z)):D/2^s%4294967296=(y*4294967296+x)/2^s%4294967296:=by
 have hP:(2:Nat)^(32-s)*2^s=4294967296:=by rw[<-afa,Nat.sub_add_cancel (by omega)]
 have h0:0<2^s:=aeb (by decide)
 have e:D=(y*4294967296+x)+2^s*(4294967296*(2^(32-s)*z)):=by
  have aux:∀S T B:Nat,T*S=B->S*(B*(T*z))=B*(B*z):=by
   intro S T B h
   calc S*(B*(T*z))=(T*S)*(B*z):=by ac_rfl
    _=_:=by rw[h]
  have this:=aux (2^s) (2^(32-s)) 4294967296 hP;rw[this,hD];omega
 rw[e,agA _ _ h0,agy]
theorem BM(G:List (List DV))(a:Option (List Nat))(k:Nat)(ha:(dO a).length<=1000000000000)(hk:k<=1000000000000):
 aa Tryz.prog G 135 [nK .u32 a,.c (.d (.int .i64 k))] (if (dO a).length<=k/32 then nK .u32 none else nK .u32 (some (aG 4294967296 (val 4294967296 (dO a)/2^k)))):=by
 refine aI.lJ 0 (by simp) (λV v h=>iH h) λhra=>?_;have oka:ok 4294967296 (dO a):=λd hd=>by have:=hra.2 d hd;simp only[og]at this;omega
 have d1:Int.tdiv (k:Int) 32=((k/32:Nat):Int):=by rw[aev (by omega)];omega
 have d2:Int.tmod (k:Int) 32=((k%32:Nat):Int):=by rw[aep (by omega)];omega
 have hks:k=32*(k/32)+k%32:=by omega
 have hs:k%32<32:=by omega
 have hw:k/32<=1000000000000:=by omega
 have d3:=bB (n:=((k/32:Nat):Int)) (by omega) (by omega);have d4:=dj (n:=((k%32:Nat):Int)) (by omega) (by omega);generalize k/32=w at *
 generalize k%32=s at *
 by_cases h0:(dO a).length<=w
 ·rw[if_pos h0];refine aa.en Tryz.func135 rfl λ_=>aah ?_;refine adw d1 d2 d3 d4 ?_;refine aaa λK hK=>aah ?_;refine aaX (by simp_all) (aah ?_);exact abe (aN.rt rfl 0 (by simp[nK]))
 ·rw[if_neg h0];refine aa.en Tryz.func135 rfl λ_=>aah ?_;refine adw d1 d2 d3 d4 ?_;refine aaa λK hK=>aah ?_;refine abd (by simp_all) (aav (hK _ _ ?_));have e1:IntKind.i64.wrap (((dO a).length:Int)-w)=(((dO a).length-w:Nat):Int):=by rw[bB (by omega) (by omega)];omega
  have hw1:w<=(dO a).length:=by omega
  have hD:=l6 oka w hw1;refine abf e1 ?_;refine aaa λK hK=>aah ?_;refine aaE ?_
  refine abr (λ(pre:List Nat)=>⟨aU [(0,nK .u32 a),(5,.c (.d (.int .i64 w))),(6,.c (.d (.int .u64 s))),(7,.c (.aH 0 0 ((dO a).length-w) 1)),(25,.c (.d (.int .i64 ((dO a).length-w:Nat)))),(26,.c (.d (.int .i64 pre.length)))],
   az (λ_=>.hole) 0 (.cells true false 138 (wK .u32 (pre++List.replicate ((dO a).length-w-pre.length) 0)))⟩) 1
   (λpre=>pre.length<=(dO a).length-w/\ok 4294967296 pre/\val 4294967296 pre=(val 4294967296 ((dO a).drop w)/2^s)%4294967296^pre.length)
   (λpre=>(dO a).length-w-pre.length) [] (Le.mk' _ (by simp[gI]) (by simp) (by simp)) ⟨by simp,cJ _,by simp[Nat.mod_one]⟩ ?_
  rintro pre ⟨h1,h2,h3⟩;refine aah ?_;refine aaa λK2 hK2=>?_
  by_cases hlt:pre.length<(dO a).length-w
  ·refine aaX (by simp_all) (aav (hK2 _ _ (aaa λK3 hK3=>aaE (aah ?_))));refine aaa λK4 hK4=>?_;have hi:pre.length+w<(dO a).length:=by omega
   have f1:IntKind.i64.wrap ((pre.length:Int)+w)=((pre.length+w:Nat):Int):=by rw[bB (by omega) (by omega)];omega
   have f2:IntKind.i64.wrap (((pre.length+w:Nat):Int)+1)=((pre.length+w+1:Nat):Int):=by rw[bB (by omega) (by omega)];omega
   have hx:(dO a)[pre.length+w]<4294967296:=oka _ (aT hi)
   have hdr:val 4294967296 ((dO a).drop w)/4294967296^pre.length=(dO a)[pre.length+w]+4294967296*val 4294967296 ((dO a).drop (pre.length+w+1)):=by
    rw[l6 (CZ oka w) _ (by simp;omega),afB,afP w,cR hi]
   have hix:=gL (P:=Tryz.prog) (T:=25) (lv:=az (λ_=>.hole) 0 (.cells true false 138 (wK .u32 (pre++List.replicate ((dO a).length-w-pre.length) 0)))) (k:=.u32) (k':=.i64) (o:=a) (i:=pre.length+w) (by simp) hi;generalize (dO a)[pre.length+w]=x at hx hdr hix;have e3:=dj (n:=(x:Int)) (by omega) (by omega);refine aar ?_;simp[f1,hix,e3,-Int.natCast_add];apply hK4;refine aaa λK5 hK5=>aaa λK6 hK6=>?_
   have fin:∀(y z:Nat) (fr:Nat->AV) (κ:Nat),y<4294967296->val 4294967296 ((dO a).drop (pre.length+w+1))=y+4294967296*z ->
    fr 0=nK .u32 a->fr 5=.c (.d (.int .i64 w))->fr 6=.c (.d (.int .u64 s))->fr 7=.c (.aH 0 0 ((dO a).length-w) 1)->fr 8=.c (.d (.int .i64 pre.length))->fr 9=.c (.d (.int .u64 ((y*4294967296+x:Nat):Int))) ->
    fr 25=.c (.d (.int .i64 ((dO a).length-w:Nat)))->fr 26=.c (.d (.int .i64 pre.length)) ->
    K5 ⟨fr,az (λ_=>.hole) 0 (.cells true false 138 (wK .u32 (pre++List.replicate ((dO a).length-w-pre.length) 0)))⟩ κ:=by
    intro y z fr κ hy hyz q0 q5 q6 q7 q8 q9 q25 q26;apply hK5;refine acO 2 ?_
    have g1:Int.fdiv ((y*4294967296+x:Nat):Int) (2^min s 64)=(((y*4294967296+x)/2^s:Nat):Int):=by
     rw[aeM (by omega),aeO _ (Int.le_of_lt (Int.pow_pos (by decide)))];generalize y*4294967296+x=m;rw[Int.natCast_ediv];congr 1
    have g2:IntKind.u32.wrap (((y*4294967296+x)/2^s:Nat):Int)=(((y*4294967296+x)/2^s%4294967296:Nat):Int):=by
     rw[rK];generalize (y*4294967296+x)/2^s=m;omega
    have hdig:=L9 (x:=x) (y:=y) (z:=z) hs (D:=val 4294967296 ((dO a).drop w)/4294967296^pre.length) (by omega);have hv:(y*4294967296+x)/2^s%4294967296<4294967296:=adZ _ (by omega);generalize (y*4294967296+x)/2^s%4294967296=v at g2 hdig hv;have hz:(dO a).length-w-pre.length=((dO a).length-w-pre.length-1)+1:=by omega
    have g3:ai (wK .u32 (pre++List.replicate ((dO a).length-w-pre.length) 0)) pre.length [CV.d (.int .u32 (v:Int))]=wK .u32 (pre++[v]++List.replicate ((dO a).length-w-pre.length-1) 0):=by
     rw[hz,gw _ (by simp),kN];simp
    refine aar ?_;simp[q6,q7,q8,q9,IntKind.bits,g1,g2,g3,hlt,-Int.natCast_add,-Int.natCast_mul,-Int.natCast_ediv,-Int.natCast_pow]
    repeat refine aj ?_
    apply hK3;have g4:=bB (n:=(pre.length:Int)+1) (by omega) (by omega);refine aar ?_;simp[q26,g4];have g5:(dO a).length-w-(pre.length+1)=(dO a).length-w-pre.length-1:=by omega
    refine⟨pre++[v],Le.mk' _ (by simp[g5]) (by simp) (by simp[q0,q5,q6,q7,q25]),⟨by simp;omega,cH.2 ⟨h2,bD.2 ⟨hv,cJ _⟩⟩,?_⟩,by simp;omega⟩;rw[fB,ad6,aeU,Nat.mod_pow_succ,h3,afY,aea (2^s),<-afY,hdig]
   refine aar ?_;simp[f1,f2,-Int.natCast_add];apply hK6
   by_cases hlb:pre.length+w+1<(dO a).length
   ·refine aaX (by simp[hlb]<;>omega) ?_;have hy:(dO a)[pre.length+w+1]<4294967296:=oka _ (aT hlb);have hyz:=cR (B:=4294967296) hlb;have hiy:=gL (P:=Tryz.prog) (T:=25) (lv:=az (λ_=>.hole) 0 (.cells true false 138 (wK .u32 (pre++List.replicate ((dO a).length-w-pre.length) 0)))) (k:=.u32) (k':=.i64) (o:=a) (i:=pre.length+w+1) (by simp) hlb;generalize (dO a)[pre.length+w+1]=y at hy hyz hiy;have p1:=dj (n:=(y:Int)) (by omega) (by omega);have p2:IntKind.u64.wrap ((y:Int)*4294967296)=((y*4294967296:Nat):Int):=by rw[dj (by omega) (by omega)];omega
    have p3:Qa .u64 (x:Int) ((y*4294967296:Nat):Int)=((y*4294967296+x:Nat):Int):=by rw[Ej];exact ur hy hx
    refine aar ?_;simp[f1,f2,hiy,p1,p2,p3,IntKind.bits,-Int.natCast_add,-Int.natCast_mul];exact fin y _ _ _ hy hyz (by simp) (by simp) (by simp) (by simp) (by simp) (by simp) (by simp) (by simp)
   ·refine abd (by simp[hlb]<;>omega) (aav ?_);simp;exact fin 0 0 _ _ (by omega) (by rw[fJ (by omega)]) (by simp) (by simp) (by simp) (by simp) (by simp) (by simp) (by simp) (by simp)
  ·refine abd (by simp_all) (abn ?_);simp;have e9:pre.length=(dO a).length-w:=by omega
   apply hK;refine aaF λK hK=>?_;simp
   have hout:dg pre=aG 4294967296 (val 4294967296 (dO a)/2^k):=by
    refine ei (by decide) h2 ?_;have hl:=fL (CZ oka w);rw[afm,<-e9]at hl;rw[h3,aem (ae9 (afq _ _) hl),<-hD,afY,hks,afa,afp]
   rw[<-e9];simp only[afk,List.replicate_zero,aei];refine gH.qG 0 1 0 (by simp;rfl) (by omega) (dQ _ _) (by simp) (by simp) (by simp) ?_;simp;apply hK;exact abe (aN.rt rfl 1 (by simp[hout]))
theorem AU{x0 cb b:Nat}(hx:x0<4294967296)(hc:cb<4294967296)(hb:b<=1):
 ∃v b':Nat,v<4294967296/\b'<=1/\v+cb+b=x0+4294967296*b'/\IntKind.u32.wrap (IntKind.u64.wrap (IntKind.u64.wrap ((x0:Int)-cb)-b))=v/\Int.fdiv (IntKind.u64.wrap (IntKind.u64.wrap ((x0:Int)-cb)-b)) 9223372036854775808=b':=by
 simp only[rK,AT]
 by_cases h:cb+b<=x0
 ·refine⟨x0-cb-b,0,by omega,by omega,by omega,by omega,?_⟩
  grind
 ·refine⟨x0+4294967296-cb-b,1,by omega,by omega,by omega,by omega,?_⟩
  grind
theorem qb(k:IntKind)(l:List Nat):∀x∈wK k l,x.pure=true:=by
 intro x hx;simp only[wK,ae7]at hx;obtain⟨y,_,rfl⟩:=hx;rfl
def rI(w m:Nat):Nat:=if w<m then 1 else 0
theorem P0{W M R bb:Nat}(hbb:bb<=1)(h:R+M=W+L*bb)(hR:R<L):bb=rI W M/\R=W+L*rI W M-M:=by
 unfold rI;have:bb=0\/bb=1:=by omega
 grind
theorem Ar(G:List (List DV))(lo win hi:List Nat)(n t:Nat)(v:Option (List Nat))(hw:win.length=(dO v).length+1)(hn:win.length<=n)(okw:ok 4294967296 win)(ht:t<4294967296)(hl:(lo++win++hi).length<=1000000000000):
 aI Tryz.prog G 133 [.c (.aH 0 lo.length n 1),nK .u32 v,.c (.d (.int .u64 t))] [.cells false false 138 (wK .u32 (lo++win++hi))]
  (.ret (.c (.d (.bool (decide (rI (val 4294967296 win) (t*val 4294967296 (dO v))=1))))) [.cells false false 138 (wK .u32 (lo++gQ 4294967296 win.length (val 4294967296 win+4294967296^win.length*rI (val 4294967296 win) (t*val 4294967296 (dO v))-t*val 4294967296 (dO v))++hi))] []):=by
 refine aI.lJ 1 (by simp) (λV v h=>iH h) λhrv=>?_;have okv:ok 4294967296 (dO v):=λd hd=>by have:=hrv.2 d hd;simp only[og]at this;omega
 simp only[ad6]at hl;refine aI.Rv Tryz.func133 rfl λ_=>aah ?_;refine aah ?_;refine aaa λK hK=>aah ?_;refine aaE ?_
 refine abr (λ(p:List Nat×Nat×Nat)=>⟨aU [(0,.c (.aH 0 lo.length n 1)),(1,nK .u32 v),(2,.c (.d (.int .u64 t))),(7,.c (.d (.int .u64 p.2.1))),(8,.c (.d (.int .u64 p.2.2))),(13,nK .u32 v),(14,.c (.d (.int .i64 (dO v).length))),(15,.c (.d (.int .i64 p.1.length)))],
  az (λ_=>.hole) 0 (.cells false false 138 (wK .u32 (lo++(p.1++win.drop p.1.length)++hi)))⟩) 1000
  (λp=>p.1.length<=(dO v).length/\ok 4294967296 p.1/\p.2.1<4294967296/\p.2.2<=1/\val 4294967296 p.1+t*val 4294967296 ((dO v).take p.1.length)=val 4294967296 (win.take p.1.length)+4294967296^p.1.length*(p.2.1+p.2.2))
  (λp=>(dO v).length-p.1.length) ([],0,0) (Le.mk' _ (by simp) (by simp) (by simp)) ⟨by simp,cJ _,by simp,by simp,by simp⟩ ?_
 rintro⟨pre,c,b⟩ ⟨h1,h2,h3,h4,h5⟩;simp only at h1 h2 h3 h4 h5;have hwl:pre.length<win.length:=by omega
 have hwd:win.drop pre.length=win[pre.length]::win.drop (pre.length+1):=adT hwl;have hwx:win[pre.length]<4294967296:=okw _ (aT hwl);have hwt:=bA (B:=4294967296) hwl;generalize hx0:win[pre.length]=x0 at hwd hwx hwt;generalize hB:lo++(pre++win.drop pre.length)++hi=BL;rw[hwd]at hB;have hget:BL[lo.length+pre.length]?=some x0:=by rw[<-hB];exact Kl hi
 have hBl:BL.length=lo.length+(win.length+hi.length):=by rw[<-hB];simp;omega
 refine aah ?_;refine aaa λK2 hK2=>?_
 by_cases hlt:pre.length<(dO v).length
 ·refine aaX (by simp_all) (aav (hK2 _ _ (aaa λK3 hK3=>aaE (aaF λK4 hK4=>?_))));simp[hlt];apply hK4;refine aaa λK4 hK4=>?_;have hx:(dO v)[pre.length]<4294967296:=okv _ (aT hlt);have hvt:=bA (B:=4294967296) hlt;generalize (dO v)[pre.length]=x at hx hvt;have htx:t*x<=4294967295*4294967295:=aeK (by omega) (by omega);have e1:=dj (n:=(x:Int)) (by omega) (by omega)
  have e2:IntKind.u64.wrap ((t:Int)*x)=((t*x:Nat):Int):=by
   rw[<-afG];generalize t*x=p at htx;exact dj (by omega) (by omega)
  have e3:IntKind.u64.wrap ((c:Int)+((t*x:Nat):Int))=((c+t*x:Nat):Int):=by
   generalize t*x=p at htx;rw[dj (by omega) (by omega)];omega
  refine aar ?_;simp[e1,e2,e3,-Int.natCast_add,-Int.natCast_mul];apply hK4;generalize hm:c+t*x=m at *
  have hml:m<18446744073709551616:=by rw[<-hm];generalize t*x=p at htx;omega
  have e4:IntKind.u32.wrap (m:Int)=((m%4294967296:Nat):Int):=by rw[rK];omega
  have e5:=dj (n:=((m%4294967296:Nat):Int)) (by omega) (by omega);have e6:=dj (n:=(x0:Int)) (by omega) (by omega);have hcb:m%4294967296<4294967296:=adZ _ (by omega);have hdm:=afy m 4294967296;obtain⟨d,b',g1,g2,g3,g4,g5⟩:=AU hwx hcb h4;have e7:Int.fdiv (m:Int) 4294967296=((m/4294967296:Nat):Int):=by rw[aeO _ (by omega)];omega
  generalize m%4294967296=mr at *
  generalize m/4294967296=mq at *
  have i1:=m5 (P:=Tryz.prog) (T:=138) (by simp) .u32 hget
  have i2:ai (wK .u32 BL) (lo.length+pre.length) [CV.d (.int .u32 (d:Int))]=wK .u32 (lo++((pre++[d])++win.drop (pre.length+1))++hi):=by
   rw[gw _ (by omega),<-hB,xo]
  have i3:lo.length+pre.length+1<=BL.length:=by omega
  have i4:pre.length<n:=by omega
  refine aaF λK4 hK4=>?_;simp[i1,e4,e5,e6,i4,-Int.natCast_emod];apply hK4;refine adw g4 i2 i3 i4 ?_;refine aaF λK4 hK4=>?_;simp[IntKind.bits,g5];apply hK4;refine aar ?_;simp[IntKind.bits,e7,-Int.natCast_ediv];apply hK3;have e8:=bB (n:=(pre.length:Int)+1) (by omega) (by omega);refine aar ?_;simp[e8];refine⟨pre++[d],mq,b',Le.mk' _ (by simp) (by simp) (by simp),⟨by simp;omega,cH.2 ⟨h2,bD.2 ⟨g1,cJ _⟩⟩,by omega,g2,?_⟩,by simp;omega⟩;rw[ad6,aeU,fB,hvt,hwt,adR]
  grind
 ·refine abd (by simp_all) (abn ?_);simp;have ek:pre.length=(dO v).length:=by omega
  apply hK;have hgl:win.drop (pre.length+1)=[]:=aeH (by omega);obtain⟨d,b',g1,g2,g3,g4,g5⟩:=AU hwx h3 h4;have e6:=dj (n:=(x0:Int)) (by omega) (by omega);have i1:=m5 (P:=Tryz.prog) (T:=138) (by simp) .u32 hget
  have i2:ai (wK .u32 BL) (lo.length+pre.length) [CV.d (.int .u32 (d:Int))]=wK .u32 (lo++(pre++[d])++hi):=by
   rw[gw _ (by omega),<-hB,xo,hgl,aei]
  have i3:lo.length+pre.length+1<=BL.length:=by omega
  have i4:pre.length<n:=by omega
  rw[<-ek];refine aaF λK hK=>?_;simp[<-ek,i1,e6,i4];apply hK;refine aaF λK hK=>?_;simp[<-ek,i2,i3,i4,g4];apply hK;refine aaF λK hK=>?_;simp[IntKind.bits,g5];apply hK;have hvv:val 4294967296 ((dO v).take pre.length)=val 4294967296 (dO v):=aP (by omega);have hww:val 4294967296 (win.take (pre.length+1))=val 4294967296 win:=aP (by omega);have hL:win.length=pre.length+1:=by omega
  rw[hvv]at h5
  have hfin:val 4294967296 (pre++[d])+t*val 4294967296 (dO v)=val 4294967296 win+4294967296^win.length*b':=by
   rw[hL,fB,<-hww,hwt,adR];have j1:4294967296^pre.length*(d+c+b)=4294967296^pre.length*(x0+4294967296*b'):=by rw[g3]
   rw[aey,aey,aey,<-ad5]at j1;rw[aey]at h5;omega
  have hok:ok 4294967296 (pre++[d]):=cH.2 ⟨h2,bD.2 ⟨g1,cJ _⟩⟩;have hlt2:=fL hok;rw[ad6,aeU,<-hL]at hlt2;obtain⟨q1,q2⟩:=P0 g2 hfin hlt2;have hdig:=qn hok q2;rw[ad6,aeU,<-hL]at hdig;rw[<-hdig];have q3:(b':Int)=1↔rI (val 4294967296 win) (t*val 4294967296 (dO v))=1:=by rw[<-q1];omega
  refine aaH (κ:=0) (sV.tmp (κ:=0) rfl (by simp[q3]) rfl (by simp) (by simp))
theorem Pp(hB:0<B)(h:ok B l)(hv:val B l=n%B^l.length):l=gQ B l.length n:=by
 have h1:=qn (uo hB l.length n) (nr l.length n);rw[oV]at h1;rw[h1];exact qn h hv
theorem AG(G:List (List DV))(lo win hi:List Nat)(n:Nat)(v:Option (List Nat))(hw:win.length=(dO v).length+1)(hn:win.length<=n)(okw:ok 4294967296 win)(hl:(lo++win++hi).length<=1000000000000):
 aI Tryz.prog G 134 [.c (.aH 0 lo.length n 1),nK .u32 v] [.cells false false 138 (wK .u32 (lo++win++hi))]
  (.ret (.tup []) [.cells false false 138 (wK .u32 (lo++gQ 4294967296 win.length (val 4294967296 win+val 4294967296 (dO v))++hi))] []):=by
 refine aI.lJ 1 (by simp) (λV v h=>iH h) λhrv=>?_;have okv:ok 4294967296 (dO v):=λd hd=>by have:=hrv.2 d hd;simp only[og]at this;omega
 simp only[ad6]at hl;refine aI.Rv Tryz.func134 rfl λ_=>aah ?_;refine aaa λK hK=>aah ?_;refine aaE ?_
 refine abr (λ(p:List Nat×Nat)=>⟨aU [(0,.c (.aH 0 lo.length n 1)),(1,nK .u32 v),(4,.c (.d (.int .u64 p.2))),(7,nK .u32 v),(8,.c (.d (.int .i64 (dO v).length))),(9,.c (.d (.int .i64 p.1.length)))],
  az (λ_=>.hole) 0 (.cells false false 138 (wK .u32 (lo++(p.1++win.drop p.1.length)++hi)))⟩) 1000
  (λp=>p.1.length<=(dO v).length/\ok 4294967296 p.1/\p.2<=1/\val 4294967296 p.1+4294967296^p.1.length*p.2=val 4294967296 (win.take p.1.length)+val 4294967296 ((dO v).take p.1.length))
  (λp=>(dO v).length-p.1.length) ([],0) (Le.mk' _ (by simp) (by simp) (by simp)) ⟨by simp,cJ _,by simp,by simp⟩ ?_
 rintro⟨pre,c⟩ ⟨h1,h2,h4,h5⟩;simp only at h1 h2 h4 h5;have hwl:pre.length<win.length:=by omega
 have hwd:win.drop pre.length=win[pre.length]::win.drop (pre.length+1):=adT hwl;have hwx:win[pre.length]<4294967296:=okw _ (aT hwl);have hwt:=bA (B:=4294967296) hwl;generalize hx0:win[pre.length]=x0 at hwd hwx hwt;generalize hB:lo++(pre++win.drop pre.length)++hi=BL;rw[hwd]at hB;have hget:BL[lo.length+pre.length]?=some x0:=by rw[<-hB];exact Kl hi
 have hBl:BL.length=lo.length+(win.length+hi.length):=by rw[<-hB];simp;omega
 have i1:=m5 (P:=Tryz.prog) (T:=138) (by simp) .u32 hget;have i3:lo.length+pre.length+1<=BL.length:=by omega
 have i4:pre.length<n:=by omega
 refine aah ?_;refine aaa λK2 hK2=>?_
 by_cases hlt:pre.length<(dO v).length
 ·refine aaX (by simp_all) (aav (hK2 _ _ (aaa λK3 hK3=>aaE (aaF λK4 hK4=>?_))));simp[hlt];apply hK4;refine aaa λK4 hK4=>?_;have hx:(dO v)[pre.length]<4294967296:=okv _ (aT hlt);have hvt:=bA (B:=4294967296) hlt;generalize (dO v)[pre.length]=x at hx hvt;have e1:=dj (n:=(x:Int)) (by omega) (by omega);have e2:=dj (n:=(x0:Int)) (by omega) (by omega);have e3:IntKind.u64.wrap ((x0:Int)+x)=((x0+x:Nat):Int):=by rw[dj (by omega) (by omega)];omega
  have e4:IntKind.u64.wrap ((c:Int)+((x0+x:Nat):Int))=((c+(x0+x):Nat):Int):=by rw[dj (by omega) (by omega)];omega
  refine aar ?_;simp[i1,i4,e1,e2,e3,e4,-Int.natCast_add];apply hK4;have hs:=nV 4294967296 pre (c+(x0+x));have hml:c+(x0+x)<8589934592:=by omega
  generalize hm:c+(x0+x)=m at *
  have e5:IntKind.u32.wrap (m:Int)=((m%4294967296:Nat):Int):=by rw[rK];omega
  have e7:Int.fdiv (m:Int) 4294967296=((m/4294967296:Nat):Int):=by rw[aeO _ (by omega)];omega
  have hd:m%4294967296<4294967296:=adZ _ (by omega);have hq:m/4294967296<=1:=by omega
  generalize m%4294967296=d at *
  generalize m/4294967296=q at *
  have i2:ai (wK .u32 BL) (lo.length+pre.length) [CV.d (.int .u32 (d:Int))]=wK .u32 (lo++((pre++[d])++win.drop (pre.length+1))++hi):=by
   rw[gw _ (by omega),<-hB,xo]
  refine adw e5 i2 i3 i4 ?_;refine aar ?_;simp[IntKind.bits,e7];apply hK3;have e8:=bB (n:=(pre.length:Int)+1) (by omega) (by omega);refine aar ?_;simp[e8];refine⟨pre++[d],q,Le.mk' _ (by simp) (by simp) (by simp),⟨by simp;omega,cH.2 ⟨h2,bD.2 ⟨hd,cJ _⟩⟩,hq,?_⟩,by simp;omega⟩;rw[ad6,aeU,hs,hvt,hwt,<-hm,aey,aey];omega
 ·refine abd (by simp_all) (abn ?_);simp;have ek:pre.length=(dO v).length:=by omega
  apply hK;have hgl:win.drop (pre.length+1)=[]:=aeH (by omega);have e1:=bN (n:=(c:Int)) (by omega) (by omega);have hs:=nV 4294967296 pre (x0+c);have e2:IntKind.u32.wrap ((x0:Int)+c)=(((x0+c)%4294967296:Nat):Int):=by rw[rK];omega
  have hd:(x0+c)%4294967296<4294967296:=adZ _ (by omega);generalize (x0+c)/4294967296=q at *
  generalize (x0+c)%4294967296=d at *
  have i2:ai (wK .u32 BL) (lo.length+pre.length) [CV.d (.int .u32 (d:Int))]=wK .u32 (lo++(pre++[d])++hi):=by
   rw[gw _ (by omega),<-hB,xo,hgl,aei]
  refine aar ?_;simp[<-ek,i1,i2,i3,i4,e1,e2];have hvv:val 4294967296 ((dO v).take pre.length)=val 4294967296 (dO v):=aP (by omega);have hww:val 4294967296 (win.take (pre.length+1))=val 4294967296 win:=aP (by omega);have hL:win.length=(pre++[d]).length:=by simp;omega
  rw[hvv]at h5;have hok:ok 4294967296 (pre++[d]):=cH.2 ⟨h2,bD.2 ⟨hd,cJ _⟩⟩;have hlt2:=fL hok
  have hval:val 4294967296 win+val 4294967296 (dO v)=val 4294967296 (pre++[d])+4294967296^(pre++[d]).length*q:=by
   rw[ad6,aeU,hs,<-hww,hwt,aey];omega
  have hdig:pre++[d]=gQ 4294967296 win.length (val 4294967296 win+val 4294967296 (dO v)):=by
   rw[hL];refine Pp (by decide) hok ?_;rw[hval,agy,aem hlt2]
  refine sV.none (.inl rfl) rfl (by simp) ?_
  grind
theorem Lc(G:List (List DV))(a b:Option (List Nat))(ha:can 4294967296 (dO a))(hb:can 4294967296 (dO b))(h:val 4294967296 (dO a)<val 4294967296 (dO b)):
 aa Tryz.prog G 82 [nK .u32 a,nK .u32 b] (.tup [nK .u32 none,nK .u32 a]):=by
 refine aa.en Tryz.func82 rfl λ_=>aah ?_;refine AW.scope ?_;refine aah ?_;refine aaa λK hK=>aaE (aaF λK1 hK1=>?_)
 simp;refine ag.pure 0 0 (fT ha hb) rfl (by simp) rfl ?_;simp[kH h];apply hK1;refine abl (aah ?_);exact abe (aN.t2 rfl 0 (by simp[nK]) (by simp))
theorem Lg(G:List (List DV))(a b:Option (List Nat))(ha:can 4294967296 (dO a))(hb:can 4294967296 (dO b))(h:val 4294967296 (dO b)<=val 4294967296 (dO a))(hn:(dO b).length=1)(hl:(dO a).length<=1000000000000):
 aa Tryz.prog G 82 [nK .u32 a,nK .u32 b] (.tup [nK .u32 (some (aG 4294967296 (val 4294967296 (dO a)/val 4294967296 (dO b)))),nK .u32 (some (aG 4294967296 (val 4294967296 (dO a)%val 4294967296 (dO b))))]):=by
 obtain⟨x,hx⟩:∃x,dO b=[x]:=by
  match hd:dO b,hn with|[x],_=>exact⟨x,rfl⟩
 have hxv:val 4294967296 (dO b)=x:=by simp[hx]
 have hx0:x≠0:=hb.2 x (by grind);have hxl:x<4294967296:=hb.1 x (by grind);have hlt:(0:Nat)<(dO b).length:=by omega
 have hix:=gL (P:=Tryz.prog) (T:=25) (lv:=λ_=>.hole) (k:=.u32) (k':=.i64) (o:=b) (i:=0) (by simp) hlt;have hg:(dO b)[0]=x:=by simp[hx]
 simp only[hg,agD]at hix;refine aa.en Tryz.func82 rfl λ_=>aah ?_;refine AW.scope ?_;refine aah ?_;refine aaa λK hK=>aaE (aaa λK1 hK1=>?_)
 have hc:¬eC (val 4294967296 (dO a)) (val 4294967296 (dO b))<0:=by unfold eC;(repeat' split)<;>omega
 refine aar ?_;simp;refine ag.pure 0 0 (fT ha hb) rfl (by simp) rfl ?_;simp only[hxv]at hc ⊢;simp[hc];apply hK1;refine abd (by rfl) (aah ?_);refine aaX (by simp_all) (aaF λK1 hK1=>?_);simp[hix];refine ag.pure 0 0 (lG _ a x hx0 hl) (by simp[AV.pure,AV.kX];exact⟨rfl,rfl⟩) (by simp) rfl ?_;simp[-Int.natCast_emod];apply hK1;have hml:val 4294967296 (dO a)%x<x:=adZ _ (by omega);generalize hr:val 4294967296 (dO a)%x=r at *
 have e1:=dj (n:=(r:Int)) (by omega) (by omega);refine aaF λK1 hK1=>?_;simp[e1];refine ag.pure 0 0 (dX _ r (by omega)) (by simp) (by simp) rfl ?_;simp;apply hK1;exact abe (aN.t2 rfl 0 (by simp[hxv]) (by simp_all))
theorem Tv{lv:Key->LB}(k:IntKind)(l:List Nat):fc lv 1 (nK k (some l))=some (l.length,wK k l):=by
 have h1:(dK k l).all (λe=>e.length == 1)=true:=by simp[dK]
 have h2:(dK k l).flatten.map CV.d=wK k l:=by
  induction l with
  |nil=>rfl
  |cons x l ih=>simp only[dK,wK,adK,afZ,aeR]at ih ⊢;simp[ih]
 simp only[fc,nK,h1,if_true,h2];simp[dK]
theorem yq{lo wl hi:List Nat}(h:i<wl.length):(lo++wl++hi)[lo.length+i]?=wl[i]?:=by
 grind
theorem acE(hn:2<=n)(hl:l.length=n+1):val B l=((l[n]*B+l[n-1])*B+l[n-2])*B^(n-2)+val B (l.take (n-2)):=by
 have h1:=cA (B:=B) l (n-2) (by omega);have e1:n-2+1=n-1:=by omega
 have e2:n-1+1=n:=by omega
 rw[cR (by omega:n-2<l.length)]at h1;simp only[e1]at h1;rw[cR (by omega:n-1<l.length)]at h1;simp only[e2]at h1;rw[cR (by omega:n<l.length),fJ (by omega)]at h1
 grind
theorem ada(hn:2<=n)(hl:l.length=n):val B l=(l[n-1]*B+l[n-2])*B^(n-2)+val B (l.take (n-2)):=by
 have h1:=cA (B:=B) l (n-2) (by omega);have e1:n-2+1=n-1:=by omega
 rw[cR (by omega:n-2<l.length)]at h1;simp only[e1]at h1;rw[cR (by omega:n-1<l.length),fJ (by omega)]at h1
 grind
structure Dv(dV:List Nat)(n la m U0:Nat):Prop where
 hn:2<=n
 hla:la<=1000000000000
 hm:m+n=la+1
 Xl:1<=m
 okV:ok 4294967296 dV
 aet:dV.length=n
 aeq:2147483648<=dV.getD (n-1) 0
def dvI(dV:List Nat)(n m U0:Nat)(p:Nat×List Nat×List Nat×List Nat):Prop:=
 p.1<=m/\p.2.1.length=p.1/\p.2.2.1.length=n/\ok 4294967296 p.2.1/\ok 4294967296 p.2.2.1/\p.2.2.2.length+p.1=m/\ok 4294967296 p.2.2.2/\val 4294967296 p.2.2.1<val 4294967296 dV /\
  val 4294967296 p.2.1+4294967296^p.1*(val 4294967296 p.2.2.1+val 4294967296 dV*val 4294967296 p.2.2.2)=U0
def dvS(dV:List Nat)(n la m s:Nat)(p:Nat×List Nat×List Nat×List Nat):aB:=
 ⟨aU [(4,.c (.aH 1 0 m 1)),(6,.c (.d (.int .i64 n))),(9,.c (.d (.int .i64 s))),(10,nK .u32 (some dV)),(11,.c (.aH 0 0 (la+1) 1)),(12,.c (.d (.int .i64 ((p.1:Int)-1))))],
  az (az (λ_=>.hole) 0 (.cells true false 138 (wK .u32 (p.2.1++p.2.2.1++List.replicate (m-p.1) 0)))) 1 (.cells true false 138 (wK .u32 (List.replicate p.1 0++p.2.2.2)))⟩
theorem VY{b:List Nat}(hb:can 4294967296 b)(hn:b.length=n)(h1:1<=n):∃t s,b[n-1]?=some t/\t<4294967296/\s<=31/\bF t+s=32/\val 4294967296 b*2^s<4294967296^n/\4294967296^(n-1)*2147483648<=val 4294967296 b*2^s:=by
 have hlt:n-1<b.length:=by omega
 have ht0:b[n-1]≠0:=hb.2 _ (by grind);have htl:b[n-1]<4294967296:=hb.1 _ (aT hlt);have hv:=cA (B:=4294967296) b (n-1) (by omega);rw[cR hlt,fJ (by omega)]at hv;have hl:=fL (lT hb.1 (n-1));rw[aej,aeM (by omega)]at hl;refine⟨b[n-1],32-bF b[n-1],fy hlt,htl,?_⟩;generalize b[n-1]=t at *
 have hb1:=jX ht0;have hb2:=Ce t;have hb3:1<=bF t:=by simp[bF,ht0]
 have hb4:bF t<=32:=by
  apply aeL;intro hc;have h9:2^32<=2^(bF t-1):=ael (by decide) (by omega);omega
 have p1:2^bF t*2^(32-bF t)=4294967296:=by
  rw[<-afa];have:bF t+(32-bF t)=32:=by omega
  rw[this]
 have p2:2^(bF t-1)*2^(32-bF t)=2147483648:=by
  rw[<-afa];have:bF t-1+(32-bF t)=31:=by omega
  rw[this]
 refine⟨by omega,by omega,?_,?_⟩
 ·have q1:val 4294967296 b+1<=4294967296^(n-1)*2^bF t:=by
   have:4294967296^(n-1)*(t+1)<=4294967296^(n-1)*2^bF t:=ad9 _ hb2;rw[aey,afC]at this;simp only[afb,aeI]at hv;omega
  have q2:(val 4294967296 b+1)*2^(32-bF t)<=4294967296^(n-1)*2^bF t*2^(32-bF t):=adJ _ q1;have q3:4294967296^(n-1)*4294967296=4294967296^n:=by rw[<-adR];congr 1;omega
  rw[ad5,p1,q3,ad7,aeS]at q2
  grind
 ·rw[<-p2,<-ad5];refine adJ _ ?_;have:4294967296^(n-1)*2^(bF t-1)<=4294967296^(n-1)*t:=ad9 _ hb1
  grind
theorem UG(hB:0<B)(L n:Nat):gQ B L (n%B^L)=gQ B L n:=by
 have h:=qn (uo hB L n) rfl;rw[oV,nr]at h
 grind
theorem LZ(hB:0<B)(L n:Nat):gQ B L (B^L+n)=gQ B L n:=by
 rw[<-UG hB,Nat.add_mod_left,UG hB]
theorem BW{a b c:LB}:az (az (az (λ_=>LB.hole) 0 a) 1 b) 0 c=az (az (λ_=>LB.hole) 0 c) 1 b:=by
 funext k;simp only[az]
 grind
theorem Pj(a b:Option (List Nat))(ha:can 4294967296 (dO a))(hb:can 4294967296 (dO b))(h:val 4294967296 (dO b)<=val 4294967296 (dO a))(hn:2<=(dO b).length)(hl:(dO a).length<1000000000000):
 ∀G,aa Tryz.prog G 82 [nK .u32 a,nK .u32 b] (.tup [nK .u32 (some (aG 4294967296 (val 4294967296 (dO a)/val 4294967296 (dO b)))),nK .u32 (if val 4294967296 (dO a)%val 4294967296 (dO b)=0 then none else some (aG 4294967296 (val 4294967296 (dO a)%val 4294967296 (dO b))))]):=by
 intro G;obtain⟨t,s,ht,htl,hs,hts,hV1,hV2⟩:=VY hb rfl (by omega)
 have hlen:(dO b).length<=(dO a).length:=by
  apply aeL;intro hc;have:=lH (by omega) ha hb (by omega);omega
 have hb0:dO b≠[]:=λe=>by grind
 have ha0:dO a≠[]:=λe=>by grind
 obtain⟨hk,hte⟩:=List.getElem?_eq_some_iff.1 ht;have hlz:=n6 G t htl;have e0:(32-(bF t:Int))=(s:Int):=by omega
 rw[e0]at hlz;have hsb:=fO G b s (by omega) (by omega);have hsa:=fO G a s (by omega) (by omega);rw[if_neg hb0]at hsb;rw[if_neg ha0]at hsa;refine aa.en Tryz.func82 rfl λ_=>aah ?_;refine AW.scope ?_;refine aah ?_;refine aaa λK hK=>aaE (aaa λK1 hK1=>?_)
 have hc:¬eC (val 4294967296 (dO a)) (val 4294967296 (dO b))<0:=by unfold eC;(repeat' split)<;>omega
 refine aar ?_;simp;refine ag.pure 0 0 (fT ha hb) rfl (by simp) rfl ?_;simp[hc];apply hK1;refine abd (by rfl) (aah ?_);have hn1:¬(dO b).length=1:=by omega
 refine abd (by simp<;>omega) (aav (hK _ _ ?_));have e1:IntKind.i64.wrap (((dO b).length:Int)-1)=(((dO b).length-1:Nat):Int):=by rw[bB (by omega) (by omega)];omega
 refine aaF λK hK=>?_;simp[e1,hk,hte];refine ag.pure 0 0 hlz rfl (by simp) rfl ?_;simp;apply hK;refine aaF λK hK=>?_;simp;refine ag.pure 0 0 hsb (by simp) (by simp) rfl ?_;simp;apply hK;have e2:=bB (n:=((dO a).length:Int)+1) (by omega) (by omega);refine abf e2 ?_;refine aaF λK hK=>?_;simp;refine ag.pure 1 5 hsa (by simp) (by simp) (by simp) ?_;simp[iw,Tv];have hA:=nU (B:=4294967296) (n:=val 4294967296 (dO a)) (by decide);rw[<-gK (by decide) ha rfl]at hA;have hU1:val 4294967296 (dO a)*2^s<4294967296^(dO a).length*2^s:=Nat.mul_lt_mul_of_pos_right hA (aeb (by decide));have hs31:(2:Nat)^s<=2147483648:=ael (n:=2) (by decide) hs
 have hU2:val 4294967296 (dO a)*2^s<4294967296^((dO a).length+1):=by
  rw[adR];refine aeB hU1 (ad9 _ (by omega))
 have hApos:0<val 4294967296 (dO a):=iC ha ha0;have hBpos:0<val 4294967296 (dO b):=iC hb hb0;have hU0:val 4294967296 (dO a)*2^s≠0:=aeE (aeh hApos (aeb (by decide)));have hV0:val 4294967296 (dO b)*2^s≠0:=aeE (aeh hBpos (aeb (by decide)));have hUl:=bS (by decide) hU2;have hUp:0<(aG 4294967296 (val 4294967296 (dO a)*2^s)).length:=List.length_pos_iff.2 (λe=>hU0 ((cL (by decide)).1 e));have okU:=(bx (B:=4294967296) (by decide) (val 4294967296 (dO a)*2^s)).1;have vU:=bn (B:=4294967296) (by decide) (val 4294967296 (dO a)*2^s);have canV:=bx (B:=4294967296) (by decide) (val 4294967296 (dO b)*2^s);have vV:=bn (B:=4294967296) (by decide) (val 4294967296 (dO b)*2^s)
 have lV:(aG 4294967296 (val 4294967296 (dO b)*2^s)).length=(dO b).length:=by
  refine Nat.le_antisymm (bS (by decide) hV1) ?_;apply aeL;intro hc;have g1:=nU (B:=4294967296) (n:=val 4294967296 (dO b)*2^s) (by decide);have g2:4294967296^(aG 4294967296 (val 4294967296 (dO b)*2^s)).length<=4294967296^((dO b).length-1):=ael (by decide) (by omega);have g3:4294967296^((dO b).length-1)*1<=4294967296^((dO b).length-1)*2147483648:=ad9 _ (by decide);omega
 have hq:val 4294967296 (dO a)/val 4294967296 (dO b)=(val 4294967296 (dO a)*2^s)/(val 4294967296 (dO b)*2^s):=(Nat.mul_div_mul_right _ _ (aeb (by decide))).symm;have hr:(val 4294967296 (dO a)*2^s)%(val 4294967296 (dO b)*2^s)=(val 4294967296 (dO a)%val 4294967296 (dO b))*2^s:=Nat.mul_mod_mul_right _ _ _;generalize hdV:aG 4294967296 (val 4294967296 (dO b)*2^s)=dV at *
 generalize hdU:aG 4294967296 (val 4294967296 (dO a)*2^s)=dU at *
 rw[aeM hUl]
 have hseg:ai (wK .u32 (List.replicate ((dO a).length+1) 0)) 0 ((wK .u32 dU).take dU.length)=wK .u32 (dU++List.replicate ((dO a).length+1-dU.length) 0):=by
  simp[ai,wK,<-List.map_take]
 refine⟨⟨hUp,hUl,by omega⟩,?_⟩;simp only[ae6 (by simp:(wK .u32 dU).length<=dU.length)]at hseg ⊢;rw[gI,hseg];apply hK;refine acO 1 ?_;have e3:IntKind.i64.wrap (((dO a).length:Int)-(dO b).length)=(((dO a).length-(dO b).length:Nat):Int):=by rw[bB (by omega) (by omega)];omega
 have e4:IntKind.i64.wrap ((((dO a).length-(dO b).length:Nat):Int)+1)=(((dO a).length-(dO b).length+1:Nat):Int):=by rw[bB (by omega) (by omega)];omega
 obtain⟨m,hm⟩:∃m,m=(dO a).length-(dO b).length+1:=⟨_,rfl⟩
 rw[<-hm]at e4;refine ace e3 e4 ?_;refine aaa λK hK=>AW.label ?_;simp;apply hK;have e5:IntKind.i64.wrap ((m:Int)-1)=(m:Int)-1:=bB (by omega) (by omega);refine aaa λK hK=>abf e5 ?_;refine aaE ?_;have hlu:(dU++List.replicate ((dO a).length+1-dU.length) 0).length=(dO a).length+1:=by simp;omega
 have hok:ok 4294967296 (dU++List.replicate ((dO a).length+1-dU.length) 0):=cH.2 ⟨okU,tW (by decide) _⟩;have hvu:val 4294967296 (dU++List.replicate ((dO a).length+1-dU.length) 0)=val 4294967296 (dO a)*2^s:=by rw[jQ,qk,vU];omega
 generalize hu0:dU++List.replicate ((dO a).length+1-dU.length) 0=u0 at *
 have htd:=cA (B:=4294967296) u0 m (by omega);have hdv:=l6 hok m (by omega)
 have hrV:val 4294967296 (u0.drop m)<val 4294967296 dV:=by
  rw[<-hdv,hvu,vV]
  have g1:val 4294967296 (dO a)*2^s<4294967296^m*(4294967296^((dO b).length-1)*2147483648):=by
   have:4294967296^(dO a).length*2^s<=4294967296^m*(4294967296^((dO b).length-1)*2147483648):=by
    rw[<-ad5,<-afa];have:m+((dO b).length-1)=(dO a).length:=by omega
    rw[this];exact ad9 _ hs31
   omega
  refine af5 (aeB g1 (ad9 _ hV2))
 have hI0:dvI dV (dO b).length m (val 4294967296 (dO a)*2^s) (m,u0.take m,u0.drop m,[]):=by
  refine⟨bh _,by simp;omega,by simp;omega,lT hok _,CZ hok _,by simp,cJ _,hrV,?_⟩;simp only[tG,afb,aeI];rw[<-htd,hvu]
 refine abr (dvS dV (dO b).length (dO a).length m s) 2 (dvI dV (dO b).length m (val 4294967296 (dO a)*2^s)) (λp=>p.1) (m,u0.take m,u0.drop m,[]) (Le.mk' _ (by simp[gI]) (by simp) (by simp)) hI0 ?_;rintro⟨k,lo,r,qs⟩ ⟨i1,i2,i3,i4,i5,i6,i7,i8,i9⟩;simp only at i1 i2 i3 i4 i5 i6 i7 i8 i9;unfold dvS;refine aaa λK3 hK3=>aah ?_
 cases k with
 |zero=>
  refine aba (abn (hK _ _ (aaa λK hK=>?_)));have el:lo=[]:=List.length_eq_zero_iff.1 i2;subst el;simp only[tG,Nat.pow_zero,aeS,aeC]at i9;simp only[aeI]at i6
  have hQ:(val 4294967296 (dO a)*2^s)/(val 4294967296 (dO b)*2^s)=val 4294967296 qs:=by
   rw[<-vV,<-i9,agA _ _ (by omega),aeY i8,aeC]
  have hR:(val 4294967296 (dO a)*2^s)%(val 4294967296 (dO b)*2^s)=val 4294967296 r:=by
   rw[<-vV,<-i9,agy,aem i8]
  refine abx mixed (by kernel_rfl) rfl ?_;simp;have hlq:qs.length=m:=i6
  have hQt:dg (qs.take m)=aG 4294967296 (val 4294967296 (dO a)/val 4294967296 (dO b)):=by
   rw[ae6 (by omega)];exact ei (by decide) i7 (by rw[hq,hQ])
  have hrt:(r++List.replicate m 0).take (dO b).length=r:=by rw[<-i3];simp
  have hRt:dg ((r++List.replicate m 0).take (dO b).length)=aG 4294967296 ((val 4294967296 (dO a)%val 4294967296 (dO b))*2^s):=by
   rw[hrt];exact ei (by decide) i5 (by omega)
  refine vF.qG (l:=qs) 2 5 1 m (by omega) (by simp;rfl) (by omega) (dQ _ _) (by simp) (by simp) (by simp) ?_;have hlr:(dO b).length<=(dO a).length+1:=by omega
  simp[kY]
  repeat refine aj ?_
  refine vF.qG (l:=r++List.replicate m 0) 2 5 0 (dO b).length (by simp;omega) (by simp;rfl) (by simp;omega) (dQ _ _) (by simp) (by simp) (by simp) ?_;simp only[hQt,hRt];simp
  have hsh:∀G,aa Tryz.prog G 135 [nK .u32 (some (aG 4294967296 ((val 4294967296 (dO a)%val 4294967296 (dO b))*2^s))),.c (.d (.int .i64 s))] (nK .u32 (if val 4294967296 (dO a)%val 4294967296 (dO b)=0 then none else some (aG 4294967296 (val 4294967296 (dO a)%val 4294967296 (dO b))))):=by
   intro G
   have hx:(aG 4294967296 ((val 4294967296 (dO a)%val 4294967296 (dO b))*2^s)).length<=1000000000000:=by
    rw[<-hRt,hrt];exact Ju (PZ r) (by omega)
   have key:=BM G (some (aG 4294967296 ((val 4294967296 (dO a)%val 4294967296 (dO b))*2^s))) s hx (by omega);have hs0:s/32=0:=by omega
   simp only[aR,hs0]at key;rw[bn (by decide),af0 _ (aeb (by decide))]at key
   by_cases hz:val 4294967296 (dO a)%val 4294967296 (dO b)=0
   ·simp_all
   ·rw[if_neg hz];rw[if_neg]at key
    ·exact key
    ·intro hc;have h9:=List.length_eq_zero_iff.1 (Nat.le_zero.1 hc);have:=(cL (by decide)).1 h9;have h8:=aeh (aeZ hz) (aeb (a:=2) (n:=s) (by decide));omega
  refine ag.pure 2 5 (hsh _) (by simp) (by simp) (by simp) ?_;simp;refine⟨by kernel_rfl,?_⟩;apply hK;exact abe (aN.t2 rfl 5 (by simp) (by simp))
 |succ j=>
  refine abl (aav (hK3 _ _ ?_));rcases afW lo with rfl|⟨lo',x,rfl⟩
  ·simp at i2
  rw[afX]at *
  have hlo:lo'.length=j:=by simp at i2;exact i2
  obtain⟨oklo,hx1⟩:=cH.1 i4;have hx:x<4294967296:=(bD.1 hx1).1;have e6:((j+1:Nat):Int)-1=j:=by omega
  simp only[e6];have hwl:(x::r).length=(dO b).length+1:=by simp[i3]
  have okw:ok 4294967296 (x::r):=bD.2 ⟨hx,i5⟩;have hWv:val 4294967296 (x::r)=x+4294967296*val 4294967296 r:=rfl
  have hWV:val 4294967296 (x::r)<4294967296*val 4294967296 dV:=by
   have:4294967296*(val 4294967296 r+1)<=4294967296*val 4294967296 dV:=ad9 _ i8;rw[aey]at this;omega
  have hEW:=acE (B:=4294967296) hn hwl;have hEV:=ada (B:=4294967296) hn lV;have Yr:=fL (lT okw ((dO b).length-2));rw[aej,aeM (by omega)]at Yr;have okV:=canV.1;have XA:=fL (lT okV ((dO b).length-2));rw[aej,aeM (by omega)]at XA
  have hv1':val 4294967296 dV/4294967296^((dO b).length-1)=dV[(dO b).length-1]:=by
   rw[l6 okV _ (by omega),cR (by omega:(dO b).length-1<dV.length),fJ (l:=dV) (i:=(dO b).length-1+1) (by omega)];rfl
  have DE:2147483648<=dV[(dO b).length-1]:=by
   rw[<-hv1',agb (aeb (by decide)),vV,aea];exact hV2
  generalize hBL:lo'++[x]++(r++List.replicate (m-(j+1)) 0)=BL;have hBL':lo'++(x::r)++List.replicate (m-(j+1)) 0=BL:=by rw[<-hBL];simp
  have hBLl:BL.length=(dO a).length+1:=by rw[<-hBL'];simp;omega
  have hb0:BL[j+(dO b).length]?=some (x::r)[(dO b).length]:=by
   rw[<-hBL',<-hlo,yq (by omega),fy (by omega)]
  have hb1:BL[j+(dO b).length-1]?=some (x::r)[(dO b).length-1]:=by
   have:j+(dO b).length-1=lo'.length+((dO b).length-1):=by omega
   rw[<-hBL',this,yq (by omega),fy (by omega)]
  have hb2:BL[j+(dO b).length-2]?=some (x::r)[(dO b).length-2]:=by
   have:j+(dO b).length-2=lo'.length+((dO b).length-2):=by omega
   rw[<-hBL',this,yq (by omega),fy (by omega)]
  have ha0l:(x::r)[(dO b).length]<4294967296:=okw _ (aT (by omega));have ha1l:(x::r)[(dO b).length-1]<4294967296:=okw _ (aT (by omega));have ha2l:(x::r)[(dO b).length-2]<4294967296:=okw _ (aT (by omega));have hv1l:dV[(dO b).length-1]<4294967296:=okV _ (aT (by omega));have hv2l:dV[(dO b).length-2]<4294967296:=okV _ (aT (by omega));have hxv1:(dO b).length-1<(dO (some dV)).length:=by simp;omega
  have hxv2:(dO b).length-2<(dO (some dV)).length:=by simp;omega
  have gv1:∀lv,aq Tryz.prog 25 lv (nK .u32 (some dV)) (.c (.d (.int .i64 (((dO b).length-1:Nat):Int))))=some (.c (.d (.ptr [DV.int .u32 (dV[(dO b).length-1]:Int)])),[],[],True):=λlv=>gL (by simp) hxv1
  have gv2:∀lv,aq Tryz.prog 25 lv (nK .u32 (some dV)) (.c (.d (.int .i64 (((dO b).length-2:Nat):Int))))=some (.c (.d (.ptr [DV.int .u32 (dV[(dO b).length-2]:Int)])),[],[],True):=λlv=>gL (by simp) hxv2
  have hEst:Ub 4294967296 (4294967296^((dO b).length-2)) (val 4294967296 dV) (val 4294967296 (x::r)) dV[(dO b).length-1] dV[(dO b).length-2] (val 4294967296 (dV.take ((dO b).length-2))) ((x::r)[(dO b).length]*4294967296+(x::r)[(dO b).length-1]) (x::r)[(dO b).length-2] (val 4294967296 ((x::r).take ((dO b).length-2))):=
   ⟨hEV,hEW,XA,Yr,hv2l,ha2l,hWV,by omega,by omega⟩
  generalize (x::r)[(dO b).length]=a0 at *
  generalize (x::r)[(dO b).length-1]=a1 at *
  generalize (x::r)[(dO b).length-2]=a2 at *
  generalize dV[(dO b).length-1]=v1 at *
  generalize dV[(dO b).length-2]=v2 at *
  have l0:=m5 (P:=Tryz.prog) (T:=138) (by simp) .u32 hb0;have l1:=m5 (P:=Tryz.prog) (T:=138) (by simp) .u32 hb1;have l2:=m5 (P:=Tryz.prog) (T:=138) (by simp) .u32 hb2;have f1:IntKind.i64.wrap ((j:Int)+(dO b).length)=((j+(dO b).length:Nat):Int):=by rw[bB (by omega) (by omega)];omega
  have f2:IntKind.i64.wrap (((j+(dO b).length:Nat):Int)-1)=((j+(dO b).length-1:Nat):Int):=by rw[bB (by omega) (by omega)];omega
  have f3:IntKind.i64.wrap (((j+(dO b).length:Nat):Int)-2)=((j+(dO b).length-2:Nat):Int):=by rw[bB (by omega) (by omega)];omega
  have f4:=dj (n:=(a0:Int)) (by omega) (by omega);have f5:=dj (n:=(a1:Int)) (by omega) (by omega);have f6:=dj (n:=(a2:Int)) (by omega) (by omega);have f7:=dj (n:=(v1:Int)) (by omega) (by omega);have f8:=dj (n:=(v2:Int)) (by omega) (by omega);have f9:IntKind.u64.wrap ((a0:Int)*4294967296)=((a0*4294967296:Nat):Int):=by rw[dj (by omega) (by omega)];omega
  obtain⟨top,htp⟩:∃t,t=a0*4294967296+a1:=⟨_,rfl⟩
  have f10:Qa .u64 ((a0*4294967296:Nat):Int) (a1:Int)=(top:Int):=by rw[htp];exact ur ha0l ha1l
  rw[<-htp]at hEst;have htop:=hEst.VA;refine aaa λK5 hK5=>aaE (aaa λK6 hK6=>?_)
  refine acX mixed (by kernel_rfl) rfl rfl ?_;simp[f1,f2,l0,l1,f4,f5,f9,f10,IntKind.bits,-Int.natCast_add,-Int.natCast_mul]
  repeat refine aj ?_
  apply hK6;have htop64:top<18446744073709551616:=by omega
  have f11:Int.tdiv (top:Int) v1=((top/v1:Nat):Int):=by rw[aev (agV top),<-Int.natCast_ediv]
  have f12:Int.tmod (top:Int) v1=((top%v1:Nat):Int):=by rw[aep (agV top),<-Int.natCast_emod]
  have hdm:=afy top v1;have hml:top%v1<v1:=adZ _ (by omega);have hq0:val 4294967296 (x::r)/val 4294967296 dV*val 4294967296 dV<=val 4294967296 (x::r):=afF _ _;have hVp:0<val 4294967296 dV:=hEst.V0
  have hq1:val 4294967296 (x::r)<(val 4294967296 (x::r)/val 4294967296 dV+1)*val 4294967296 dV:=by
   rw[aea];exact Nat.lt_mul_div_succ _ hVp
  have hqB:val 4294967296 (x::r)/val 4294967296 dV<4294967296:=by rw[afD hVp];exact hWV
  have hqf:=hEst.first hq0
  have hg0:top/v1<=4294967297:=by
   apply Nat.lt_succ_iff.1;rw[afD (by omega)];omega
  obtain⟨qt,hqt⟩:∃qt,qt=val 4294967296 (x::r)/val 4294967296 dV:=⟨_,rfl⟩
  rw[<-hqt]at hq0 hq1 hqB hqf;obtain⟨g0,hg0'⟩:∃g,g=top/v1:=⟨_,rfl⟩
  obtain⟨o0,ho0'⟩:∃o,o=top%v1:=⟨_,rfl⟩
  rw[<-hg0']at f11 hdm hqf hg0;rw[<-ho0']at f12 hdm hml;have f13:=dj (n:=(g0:Int)) (by omega) (by omega);have hv10:¬v1=0:=by omega
  have f14:IntKind.i64.wrap (((dO b).length:Int)-1)=(((dO b).length-1:Nat):Int):=e1;refine aaa λK6 hK6=>?_;refine acX mixed (by kernel_rfl) rfl rfl ?_;simp[f14,gv1,f7,f11,f12,f13,hv10];apply hK6
  have close:∀(fr:Nat->AV) (κ:Nat),fr 4=.c (.aH 1 0 m 1)->fr 6=.c (.d (.int .i64 (dO b).length))->fr 9=.c (.d (.int .i64 s))->fr 10=nK .u32 (some dV)->fr 11=.c (.aH 0 0 ((dO a).length+1) 1)->fr 12=.c (.d (.int .i64 j)) ->
   K5 ⟨fr,az (az (λ_=>.hole) 0 (.cells true false 138 (wK .u32 (lo'++(gQ 4294967296 (dO b).length (val 4294967296 (x::r)%val 4294967296 dV)++List.replicate (m-j) 0))))) 1 (.cells true false 138 (wK .u32 (List.replicate j 0++(qt::qs))))⟩ κ:=by
   intro fr κ q4 q6 q9 q10 q11 q12;apply hK5;have g1:=bB (n:=(j:Int)-1) (by omega) (by omega);refine aar ?_;simp[q12,g1];have hml2:val 4294967296 (x::r)%val 4294967296 dV<val 4294967296 dV:=adZ _ hVp;have hVn:val 4294967296 dV<4294967296^(dO b).length:=by rw[vV];exact hV1
   refine⟨j,lo',gQ 4294967296 (dO b).length (val 4294967296 (x::r)%val 4294967296 dV),qt::qs,Le.mk' _ (by simp) (by simp) (by simp[q4,q6,q9,q10,q11]),⟨by omega,hlo,oV _ _ _,oklo,uo (by decide) _ _,by simp only[aef];omega,bD.2 ⟨hqB,i7⟩,?_,?_⟩,by omega⟩
   ·simp only[nr];rw[aem (Nat.lt_trans hml2 hVn)];omega
   ·simp only[nr];rw[bP 4294967296 qt qs,aem (Nat.lt_trans hml2 hVn),<-i9,jQ,hlo,adR];have hdm2:=Nat.mod_add_div (val 4294967296 (x::r)) (val 4294967296 dV);rw[<-hqt]at hdm2
    have h1:val 4294967296 (x::r)%val 4294967296 dV+val 4294967296 dV*(qt+4294967296*val 4294967296 qs)=x+4294967296*(val 4294967296 r+val 4294967296 dV*val 4294967296 qs):=by
     rw[aey,<-afl,hdm2,hWv,aey,Nat.mul_left_comm,afl]
    rw[h1,bP,tG,afb,aeI,aey,ad5,afl]
  refine aaa λK6 hK6=>aaE ?_
  have fin:∀(g:Nat) (fr:Nat->AV) (κ:Nat),g<4294967296->qt<=g->g<=qt+1->fr 4=.c (.aH 1 0 m 1)->fr 6=.c (.d (.int .i64 (dO b).length))->fr 9=.c (.d (.int .i64 s))->fr 10=nK .u32 (some dV)->fr 11=.c (.aH 0 0 ((dO a).length+1) 1)->fr 12=.c (.d (.int .i64 j))->fr 14=.c (.d (.int .u64 g)) ->
   K6 ⟨fr,az (az (λ_=>.hole) 0 (.cells true false 138 (wK .u32 BL))) 1 (.cells true false 138 (wK .u32 (List.replicate (j+1) 0++qs)))⟩ κ:=by
   intro g fr κ hg1 hg2 hg3 q4 q6 q9 q10 q11 q12 q14;apply hK6;refine acO 2 ?_;have hVn:val 4294967296 dV<4294967296^(dO b).length:=by rw[vV];exact hV1
   have hmlt:val 4294967296 (x::r)%val 4294967296 dV<4294967296^(dO b).length:=Nat.lt_trans (adZ _ hVp) hVn;have hsn:gQ 4294967296 ((dO b).length+1) (val 4294967296 (x::r)%val 4294967296 dV)=gQ 4294967296 (dO b).length (val 4294967296 (x::r)%val 4294967296 dV)++[0]:=zk hmlt;have hmj1:m-j=(m-(j+1))+1:=by rw[Nat.sub_succ];exact(Nat.succ_pred_eq_of_pos (Nat.sub_pos_of_lt i1)).symm
   have hmj:List.replicate (m-j) (0:Nat)=0::List.replicate (m-(j+1)) 0:=by
    rw[hmj1];exact List.replicate_succ
   have hmodq:val 4294967296 (x::r)%val 4294967296 dV=val 4294967296 (x::r)-qt*val 4294967296 dV:=by
    rw[hqt,aea];exact Nat.mod_def _ _
   have hLq:List.replicate (j+1) (0:Nat)++qs=List.replicate j 0++(0::qs):=by
    rw[agR,adX];rfl
   refine aaa λK7 hK7=>abf q14 ?_
   by_cases hgz:g=0
   ·refine aaX (by simp[hgz]<;>omega) (abn ?_);simp;have hqz:qt=0:=by omega
    have e9:gQ 4294967296 ((dO b).length+1) (val 4294967296 (x::r))=x::r:=by rw[<-hwl];exact Sf okw
    have e8:val 4294967296 (x::r)%val 4294967296 dV=val 4294967296 (x::r):=by rw[hmodq,hqz];simp
    have e6:gQ 4294967296 (dO b).length (val 4294967296 (x::r)%val 4294967296 dV)++[0]=x::r:=by rw[<-hsn,e8,e9]
    have e5:∀(A B:List Nat),A++(0::B)=(A++[0])++B:=λA B=>by simp
    have e7:lo'++(gQ 4294967296 (dO b).length (val 4294967296 (x::r)%val 4294967296 dV)++List.replicate (m-j) 0)=BL:=by
     rw[hmj,e5,e6,<-hBL',adX]
    have hcl:∀(fr':Nat->AV) (κ':Nat),fr' 4=.c (.aH 1 0 m 1)->fr' 6=.c (.d (.int .i64 (dO b).length))->fr' 9=.c (.d (.int .i64 s))->fr' 10=nK .u32 (some dV)->fr' 11=.c (.aH 0 0 ((dO a).length+1) 1)->fr' 12=.c (.d (.int .i64 j)) ->
     K5 ⟨fr',az (az (λ_=>.hole) 0 (.cells true false 138 (wK .u32 BL))) 1 (.cells true false 138 (wK .u32 (List.replicate (j+1) 0++qs)))⟩ κ':=by
     intro fr' κ' z1 z2 z3 z4 z5 z6;have hcl:=close fr' κ' z1 z2 z3 z4 z5 z6;rw[e7,hqz,<-hLq]at hcl;exact hcl
    exact hcl _ _ (by simp[q4]) (by simp[q6]) (by simp[q9]) (by simp[q10]) (by simp[q11]) (by simp[q12])
   ·refine abd (by simp[hgz]<;>omega) (aav (hK7 _ _ (aaa λK7 hK7=>aaa λK8 hK8=>?_)))
    have store:∀(fr':Nat->AV) (κ':Nat),fr' 4=.c (.aH 1 0 m 1)->fr' 6=.c (.d (.int .i64 (dO b).length))->fr' 9=.c (.d (.int .i64 s))->fr' 10=nK .u32 (some dV)->fr' 11=.c (.aH 0 0 ((dO a).length+1) 1)->fr' 12=.c (.d (.int .i64 j))->fr' 14=.c (.d (.int .u64 qt)) ->
     K7 ⟨fr',az (az (λ_=>.hole) 0 (.cells true false 138 (wK .u32 (lo'++(gQ 4294967296 ((dO b).length+1) (val 4294967296 (x::r)%val 4294967296 dV)++List.replicate (m-(j+1)) 0))))) 1 (.cells true false 138 (wK .u32 (List.replicate (j+1) 0++qs)))⟩ κ':=by
     intro fr' κ' z1 z2 z3 z4 z5 z6 z7;apply hK7;have y1:IntKind.u32.wrap (qt:Int)=(qt:Int):=bN (by omega) (by omega)
     have y2:ai (wK .u32 (List.replicate (j+1) 0++qs)) j [CV.d (.int .u32 (qt:Int))]=wK .u32 (List.replicate j 0++(qt::qs)):=by
      rw[gw _ (by simp;omega),pU]
     have y3:lo'++(gQ 4294967296 (dO b).length (val 4294967296 (x::r)%val 4294967296 dV)++List.replicate (m-j) 0)=lo'++(gQ 4294967296 ((dO b).length+1) (val 4294967296 (x::r)%val 4294967296 dV)++List.replicate (m-(j+1)) 0):=by
      rw[hmj,hsn];simp only[adX,aeX,aeT]
     refine aar ?_;simp[z1,z6,z7,y1,y2,-bP,-List.append_assoc];refine⟨by omega,?_⟩;have hcl:=close (κ:=κ'+1) (fr:=az (az (az (az (az fr' 156 (.c (.aH 1 0 m 1))) 157 (.c (.d (.int .i64 j)))) 158 (.c (.d (.int .u64 qt)))) 159 (.c (.d (.int .u32 qt)))) 160 (.c (.ptr 1 j))) (by simp[z1]) (by simp[z2]) (by simp[z3]) (by simp[z4]) (by simp[z5]) (by simp[z6]);rw[y3]at hcl;exact hcl
    have hwin:(x::r).length=(dO (some dV)).length+1:=by rw[hwl];simp[lV]
    have hT:=λ(G:List (List DV))=>Ar G lo' (x::r) (List.replicate (m-(j+1)) 0) ((dO a).length+1-j) g (some dV) hwin (by rw[hwl];omega) okw hg1 (by rw[hBL',hBLl];omega)
    simp only[hBL',hlo,hwl,aR]at hT
    have hWB:val 4294967296 (x::r)<4294967296^((dO b).length+1):=by
     have:=fL okw;rwa[hwl]at this
    by_cases too:val 4294967296 (x::r)<g*val 4294967296 dV
    ·have hb1:rI (val 4294967296 (x::r)) (g*val 4294967296 dV)=1:=by unfold rI;rw[if_pos too]
     have hgq:g=qt+1:=by
      rcases Nat.lt_or_ge qt g with hc|hc
      ·omega
      ·exact absurd too (Nat.not_lt.2 (Ju (adJ _ hc) hq0))
     simp only[hb1,afC,eq_self,decide_true]at hT;obtain⟨R,hR⟩:∃R,R=gQ 4294967296 ((dO b).length+1) (val 4294967296 (x::r)+4294967296^((dO b).length+1)-g*val 4294967296 dV):=⟨_,rfl⟩
     simp only[<-hR]at hT;have hRl:R.length=(dO b).length+1:=by rw[hR,oV]
     have hRo:ok 4294967296 R:=by rw[hR];exact uo (by decide) _ _
     have hgV:g*val 4294967296 dV=qt*val 4294967296 dV+val 4294967296 dV:=by rw[hgq,ad7,aeS]
     have hRv:val 4294967296 R+val 4294967296 dV=4294967296^((dO b).length+1)+val 4294967296 (x::r)%val 4294967296 dV:=by
      rw[hR,nr,hmodq]
      have hVE:val 4294967296 dV<=4294967296^((dO b).length+1):=by
       rw[adR];exact Ju (afr hVn) (ae1 _ (by decide))
      have key:∀(W E gv qv V:Nat),W<gv->gv=qv+V->qv<=W->V<=E->W+E-gv<E/\(W+E-gv)+V=E+(W-qv):=by intros;omega
      obtain⟨k1,k2⟩:=key _ _ _ _ _ too hgV hq0 hVE;rw[aem k1];exact k2
     have hRd:gQ 4294967296 ((dO b).length+1) (val 4294967296 R+val 4294967296 dV)=gQ 4294967296 ((dO b).length+1) (val 4294967296 (x::r)%val 4294967296 dV):=by
      rw[hRv,LZ (by decide)]
     have hwin':R.length=(dO (some dV)).length+1:=by rw[hRl];simp[lV]
     have hll:(lo'++R++List.replicate (m-(j+1)) 0).length<=1000000000000:=by
      simp only[ad6,List.length_replicate,hlo,hRl];omega
     have hGv:=λ(G:List (List DV))=>AG G lo' R (List.replicate (m-(j+1)) 0) ((dO a).length+1-j) (some dV) hwin' (by rw[hRl];omega) hRo hll
     simp only[hlo,hRl,aR,hRd,adX]at hGv;simp only[adX]at hT;refine aar ?_;simp[q11,q12,q10,q14,-bP];refine⟨by omega,?_⟩
     refine gH.Jo 3 9 0 (by simp;rfl) (qb _ _) (qb _ _) (hT _) rfl rfl (by
      intro i h h'
      match i,h with
      |0,_=>exact .inr (.inl ⟨_,_,_,rfl,rfl⟩)
      |1,_=>exact .inl ⟨by simp,rfl⟩
      |2,_=>exact .inl ⟨rfl,rfl⟩) (by simp) (by decide) ?_
     simp[-bP,BW];apply hK8;refine abl (aaa λK8 hK8=>?_);have y5:IntKind.u64.wrap ((g:Int)-1)=(qt:Int):=by rw[dj (by omega) (by omega)];omega
     refine aar ?_;simp[q14,y5,-bP];apply hK8;refine aar ?_;simp[q11,q12,q10,-bP];refine⟨by omega,?_⟩
     refine gH.Jo 4 9 0 (own:=true) (T:=138) (cs:=wK .u32 (lo'++(R++List.replicate (m-(j+1)) 0))) (by simp) (qb _ _) (qb _ _) (hGv _) rfl rfl (by
      intro i h h'
      match i,h with
      |0,_=>exact .inr (.inl ⟨_,_,_,rfl,rfl⟩)
      |1,_=>exact .inl ⟨by simp,rfl⟩) (by simp) (by decide) ?_
     simp[-bP,BW];exact store _ _ (by simp[q4]) (by simp[q6]) (by simp[q9]) (by simp[q10]) (by simp[q11]) (by simp[q12]) (by simp)
    ·have hb1:rI (val 4294967296 (x::r)) (g*val 4294967296 dV)=0:=by unfold rI;rw[if_neg too]
     have hgq:g=qt:=by
      rcases Nat.lt_or_ge qt g with hc|hc
      ·have:(qt+1)*val 4294967296 dV<=g*val 4294967296 dV:=adJ _ hc;omega
      ·omega
     have hWm:val 4294967296 (x::r)+4294967296^((dO b).length+1)*0-g*val 4294967296 dV=val 4294967296 (x::r)%val 4294967296 dV:=by
      rw[hmodq,hgq,afb,aeI]
     simp only[hb1,hWm,Nat.zero_ne_one,decide_false,adX]at hT;refine aar ?_;simp[q11,q12,q10,q14,-bP];refine⟨by omega,?_⟩
     refine gH.Jo 3 9 0 (by simp;rfl) (qb _ _) (qb _ _) (hT _) rfl rfl (by
      intro i h h'
      match i,h with
      |0,_=>exact .inr (.inl ⟨_,_,_,rfl,rfl⟩)
      |1,_=>exact .inl ⟨by simp,rfl⟩
      |2,_=>exact .inl ⟨rfl,rfl⟩) (by simp) (by decide) ?_
     simp[-bP,BW];apply hK8;refine aba (aav ?_);simp[-bP];exact store _ _ (by simp[q4]) (by simp[q6]) (by simp[q9]) (by simp[q10]) (by simp[q11]) (by simp[q12]) (by simp[q14,hgq])
  refine abr (λ(p:Nat×Nat)=>⟨aU [(4,.c (.aH 1 0 m 1)),(6,.c (.d (.int .i64 (dO b).length))),(9,.c (.d (.int .i64 s))),(10,nK .u32 (some dV)),(11,.c (.aH 0 0 ((dO a).length+1) 1)),(12,.c (.d (.int .i64 j))),(14,.c (.d (.int .u64 p.1))),(15,.c (.d (.int .u64 p.2)))],
   az (az (λ_=>.hole) 0 (.cells true false 138 (wK .u32 BL))) 1 (.cells true false 138 (wK .u32 (List.replicate (j+1) 0++qs)))⟩) 2
   (λp=>p.1*v1+p.2=top/\qt<=p.1/\p.1<=4294967297/\p.2<4294967296) (λp=>p.1) (g0,o0) (Le.mk' _ rfl (by simp) (by simp)) ⟨by rw[aea];exact hdm,hqf,hg0,by omega⟩ ?_
  rintro⟨g,o⟩ ⟨w1,w2,w3,w4⟩;simp only at w1 w2 w3 w4;refine aaa λK7 hK7=>aaa λK8 hK8=>?_
  have dec:∀(fr:Nat->AV) (κ:Nat),qt<g->fr 4=.c (.aH 1 0 m 1)->fr 6=.c (.d (.int .i64 (dO b).length))->fr 9=.c (.d (.int .i64 s))->fr 10=nK .u32 (some dV)->fr 11=.c (.aH 0 0 ((dO a).length+1) 1)->fr 12=.c (.d (.int .i64 j))->fr 14=.c (.d (.int .u64 g))->fr 15=.c (.d (.int .u64 o)) ->
   K7 ⟨fr,az (az (λ_=>.hole) 0 (.cells true false 138 (wK .u32 BL))) 1 (.cells true false 138 (wK .u32 (List.replicate (j+1) 0++qs)))⟩ κ:=by
   intro fr κ hg q4 q6 q9 q10 q11 q12 q14 q15;apply hK7;refine acO 2 ?_;refine aaE ?_;have g1:IntKind.u64.wrap ((g:Int)-1)=((g-1:Nat):Int):=by rw[dj (by omega) (by omega)];omega
   have g2:IntKind.u64.wrap ((o:Int)+v1)=((o+v1:Nat):Int):=by rw[dj (by omega) (by omega)];omega
   refine ace q14 g1 ?_;refine aaF λK9 hK9=>?_;simp[q15,q10,q6,f14,gv1,f7,g2,-Int.natCast_add];apply hK9;refine aaa λK9 hK9=>?_
   have w1':(g-1)*v1+(o+v1)=top:=by
    rw[<-w1];obtain⟨g',rfl⟩:∃g',g=g'+1:=⟨g-1,by omega⟩
    rw[agj,ad7,aeS];omega
   by_cases ho:o+v1<4294967296
   ·have g3:Int.fdiv ((o+v1:Nat):Int) 4294967296=0:=by rw[aeO _ (by omega)];omega
    refine aar ?_;simp[IntKind.bits,g3,-Int.natCast_add];apply hK9;refine aba (aav ?_);simp;refine⟨g-1,o+v1,Le.mk' _ rfl (by simp) (by simp[q4,q6,q9,q10,q11,q12]),⟨w1',by omega,by omega,ho⟩,by omega⟩
   ·have g3:Int.fdiv ((o+v1:Nat):Int) 4294967296=1:=by rw[aeO _ (by omega)];omega
    refine aar ?_;simp[IntKind.bits,g3,-Int.natCast_add];apply hK9;refine abl (abn ?_);simp
    have hgB:g-1<4294967296:=by
     apply aeL;intro hc;have:4294967296*v1<=(g-1)*v1:=adJ _ (by omega);rw[aey]at htop;omega
    have hnear:=hEst.near hq1 w1' hgB (by
     have h1:(g-1)*v2<=4294967296*4294967296:=aeK (by omega) (by omega);omega)
    exact fin (g-1) _ _ hgB (by omega) hnear (by simp[q4]) (by simp[q6]) (by simp[q9]) (by simp[q10]) (by simp[q11]) (by simp[q12]) (by simp)
  by_cases hgB:4294967296<=g
  ·have g1:Int.fdiv (g:Int) 4294967296=1:=by rw[aeO _ (by omega)];omega
   refine acX mixed (by kernel_rfl) rfl rfl ?_;simp[IntKind.bits,g1];apply hK8;refine abl (aav ?_);simp;exact dec _ _ (by omega) (by simp) (by simp) (by simp) (by simp) (by simp) (by simp) (by simp) (by simp)
  ·have g1:Int.fdiv (g:Int) 4294967296=0:=by rw[aeO _ (by omega)];omega
   have hgv:g*v2<=4294967295*4294967295:=aeK (by omega) (by omega)
   have g2:IntKind.u64.wrap ((g:Int)*v2)=((g*v2:Nat):Int):=by
    rw[<-afG];generalize g*v2=p at hgv;exact dj (by omega) (by omega)
   have g3:IntKind.u64.wrap ((o:Int)*4294967296)=((o*4294967296:Nat):Int):=by rw[dj (by omega) (by omega)];omega
   have g4:=ur w4 ha2l;have g5:IntKind.i64.wrap (((dO b).length:Int)-2)=(((dO b).length-2:Nat):Int):=by rw[bB (by omega) (by omega)];omega
   have hgo:∀{P Q:Nat},((P:Nat):Int)<((Q:Nat):Int)↔P<Q:=by intro P Q;omega
   refine acX mixed (by kernel_rfl) rfl rfl ?_;simp[IntKind.bits,g1,g5,gv2,f8,g2,g3,f1,f3,l2,f6,g4,-Int.natCast_add,-Int.natCast_mul]
   repeat refine aj ?_
   apply hK8
   by_cases ht:o*4294967296+a2<g*v2
   ·refine aaX (by simp[ht]<;>omega) (aav ?_);simp;exact dec _ _ (hEst.over hq0 w1 ht) (by simp) (by simp) (by simp) (by simp) (by simp) (by simp) (by simp) (by simp)
   ·refine abd (by simp[ht]<;>omega) (abn ?_);simp;exact fin g _ _ (by omega) w2 (hEst.near hq1 w1 (by omega) (by omega)) (by simp) (by simp) (by simp) (by simp) (by simp) (by simp) (by simp)
def sE(a b:Option (List Nat)):Option (List Nat):=if val 4294967296 (dO a)<val 4294967296 (dO b)then none else some (aG 4294967296 (val 4294967296 (dO a)/val 4294967296 (dO b)))
def kL(a b:Option (List Nat)):Option (List Nat):=
 if val 4294967296 (dO a)<val 4294967296 (dO b)then a
 else if (dO b).length=1 then some (aG 4294967296 (val 4294967296 (dO a)%val 4294967296 (dO b)))
 else if val 4294967296 (dO a)%val 4294967296 (dO b)=0 then none else some (aG 4294967296 (val 4294967296 (dO a)%val 4294967296 (dO b)))
theorem OP:dO (sE a b)=aG 4294967296 (val 4294967296 (dO a)/val 4294967296 (dO b)):=by
 unfold sE;split
 ·rename_i h;rw[aeY h];rfl
 ·rfl
theorem BP(ha:can 4294967296 (dO a)):dO (kL a b)=aG 4294967296 (val 4294967296 (dO a)%val 4294967296 (dO b)):=by
 unfold kL;split
 ·rename_i h;rw[aem h];exact gK (by decide) ha rfl
 ·split
  ·rfl
  ·split
   ·simp_all
   ·rfl
theorem jv(G:List (List DV))(a b:Option (List Nat))(ha:can 4294967296 (dO a))(hb:can 4294967296 (dO b))(h0:dO b≠[])(hl:(dO a).length<1000000000000):
 aa Tryz.prog G 82 [nK .u32 a,nK .u32 b] (.tup [nK .u32 (sE a b),nK .u32 (kL a b)]):=by
 by_cases h:val 4294967296 (dO a)<val 4294967296 (dO b)
 ·have:=Lc G a b ha hb h;simpa only[sE,kL,if_pos h]using this
 ·by_cases hn:(dO b).length=1
  ·have:=Lg G a b ha hb (Nat.le_of_not_lt h) hn (afr hl);simpa only[sE,kL,if_neg h,if_pos hn]using this
  ·have h1:0<(dO b).length:=List.length_pos_iff.2 h0;have:=Pj a b ha hb (Nat.le_of_not_lt h) (by omega) hl G;simp only[sE,kL,if_neg h,if_neg hn]
   grind
def jM(a b:Option (List Nat)):Nat->Option (List Nat)
 |0=>a
 |n+1=>if dO b=[]then a else jM b (kL a b) n
theorem zP(h:dO b=[])(n:Nat):jM a b n=a:=by
 cases n<;>simp[jM,h]
theorem mX(o o':Option (List Nat)):(AV.tup [nK .u32 o,nK .u32 o']).pure=true:=by
 cases o<;>cases o'<;>rfl
theorem cS{m:Nat}(hB:2<=B)(h:m<=n):(aG B m).length<=(aG B n).length:=
 bS hB (ae9 h (nU hB))
theorem p7:∀(n:Nat) (a b:Option (List Nat)),can 4294967296 (dO a)->can 4294967296 (dO b)->val 4294967296 (dO b)<=n->jM a b n=jM a b (val 4294967296 (dO b))/\dO (jM a b n)=aG 4294967296 (Nat.gcd (val 4294967296 (dO a)) (val 4294967296 (dO b)))
 |0,a,b,ha,hb,h=>by
  have h0:val 4294967296 (dO b)=0:=by omega
  rw[h0];exact⟨rfl,by rw[Nat.gcd_zero_right];exact gK (by decide) ha rfl⟩
 |n+1,a,b,ha,hb,h=>by
  by_cases he:dO b=[]
  ·rw[zP he,zP he];refine⟨rfl,?_⟩;rw[he];simp only[tG,Nat.gcd_zero_right];exact gK (by decide) ha rfl
  ·have hv0:0<val 4294967296 (dO b):=iC hb he;have hR:=BP (b:=b) ha;have hRc:can 4294967296 (dO (kL a b)):=by rw[hR];exact bx (by decide) _
   have hlt:val 4294967296 (dO (kL a b))<val 4294967296 (dO b):=by rw[hR,bn (by decide)];exact adZ _ hv0
   obtain⟨k,hk⟩:∃k,val 4294967296 (dO b)=k+1:=⟨val 4294967296 (dO b)-1,by omega⟩
   have r1:=p7 n b (kL a b) hb hRc (by omega);have r2:=p7 k b (kL a b) hb hRc (by omega);have e1:jM a b (n+1)=jM b (kL a b) n:=by simp only[jM,if_neg he]
   have e2:jM a b (val 4294967296 (dO b))=jM b (kL a b) k:=by rw[hk];simp only[jM,if_neg he]
   refine⟨by grind,?_⟩;rw[e1,r1.2,hR,bn (by decide),af1 (val 4294967296 (dO b)),<-Nat.gcd_rec,af1]
 termination_by n a b=>val 4294967296 (dO b)
theorem Ll(ha:can 4294967296 (dO a))(hb:can 4294967296 (dO b))(he:dO b≠[]):jM b (kL a b) (val 4294967296 (dO (kL a b)))=jM a b (val 4294967296 (dO b)):=by
 have hv0:0<val 4294967296 (dO b):=iC hb he;have hR:=BP (b:=b) ha;have hRc:can 4294967296 (dO (kL a b)):=by rw[hR];exact bx (by decide) _
 have hlt:val 4294967296 (dO (kL a b))<val 4294967296 (dO b):=by rw[hR,bn (by decide)];exact adZ _ hv0
 obtain⟨k,hk⟩:∃k,val 4294967296 (dO b)=k+1:=⟨val 4294967296 (dO b)-1,by omega⟩
 have e2:jM a b (val 4294967296 (dO b))=jM b (kL a b) k:=by rw[hk];simp only[jM,if_neg he]
 rw[e2,(p7 k b (kL a b) hb hRc (by omega)).1]
theorem zh(ha:can 4294967296 (dO a))(hb:can 4294967296 (dO b)):dO (jM a b (val 4294967296 (dO b)))=aG 4294967296 (Nat.gcd (val 4294967296 (dO a)) (val 4294967296 (dO b))):=
 (p7 _ a b ha hb (bh _)).2
theorem tS(G:List (List DV))(a b:Option (List Nat))(ha:can 4294967296 (dO a))(hb:can 4294967296 (dO b))(hl:(dO a).length<1000000000000)(hl':(dO b).length<1000000000000):
 aa Tryz.prog G 80 [nK .u32 a,nK .u32 b] (nK .u32 (jM a b (val 4294967296 (dO b)))):=by
 refine aa.en Tryz.func80 rfl λ_=>aah ?_;refine aaa λK hK=>aaE ?_
 refine abr (λ(p:Option (List Nat)×Option (List Nat))=>⟨aU [(0,nK .u32 p.1),(1,nK .u32 p.2)],λ_=>.hole⟩) 0
  (λp=>can 4294967296 (dO p.1)/\can 4294967296 (dO p.2)/\(dO p.1).length<1000000000000/\(dO p.2).length<1000000000000/\jM p.1 p.2 (val 4294967296 (dO p.2))=jM a b (val 4294967296 (dO b)))
  (λp=>val 4294967296 (dO p.2)) (a,b) (Le.mk' _ rfl (by simp) (by simp)) ⟨ha,hb,hl,hl',rfl⟩ ?_
 rintro⟨x,y⟩ ⟨i1,i2,i3,i4,i5⟩;simp only at i1 i2 i3 i4 i5;refine aaa λK3 hK3=>aah ?_
 by_cases hy:dO y=[]
 ·have hy':¬(0:Int)<((dO y).length:Int):=by rw[hy];simp
  refine abd (by simp<;>omega) (abn (hK _ _ ?_));rw[zP hy]at i5;refine aah ?_;exact abe (aN.rt rfl 4 (by simp[i5]))
 ·have hy1:0<(dO y).length:=List.length_pos_iff.2 hy;have hy':(0:Int)<((dO y).length:Int):=by omega
  refine aaX (by simp<;>omega) (aav (hK3 _ _ (aaE (aaF λK5 hK5=>?_))));simp;refine ag.pure 0 0 (jv _ _ _ i1 i2 hy i3) (mX _ _) (by simp) rfl ?_;simp;apply hK5;refine aar ?_;simp;have hv0:0<val 4294967296 (dO y):=iC i2 hy;have hR:=BP (b:=y) i1;have hlt:val 4294967296 (dO (kL x y))<val 4294967296 (dO y):=by rw[hR,bn (by decide)];exact adZ _ hv0
  refine⟨y,kL x y,Le.mk' _ rfl (by simp) (by simp),⟨i2,by rw[hR];exact bx (by decide) _,i4,?_,?_⟩,hlt⟩
  ·rw[hR];refine ae9 (cS (by decide) (afr (adZ _ hv0))) ?_;rw[<-gK (by decide) i2 rfl];exact i4
  ·rw[Ll i1 i2 hy];exact i5
noncomputable def zN:Code:=match Tryz.f77.body with|some (.seq _ (.seq _ (.seq (.seq _ (.block _ (.rangeFunc _ _ _ b))) _)))=>b|_=>.skip
noncomputable def A8:Code:=match Tryz.f77.body with|some (.seq _ (.seq _ (.seq (.seq _ (.block _ (.rangeFunc _ _ b _))) _)))=>b|_=>.skip
def kR(u:List UInt8)(d:DV):Key->LB:=az (az (λ_=>.hole) 0 (.cells false false 9 [.d (.str u)])) 1 (.cells false false 25 [.d d])
theorem NQ(u:List UInt8)(d:DV):∀k,kR u d k=.hole\/∃T cs,kR u d k=.cells false false T cs:=by
 intro k;unfold kR az
 grind
theorem Tf(u:List UInt8)(d d':DV):az (kR u d) 1 (.cells false false 25 [.d d'])=kR u d':=by
 funext k;unfold kR az
 grind
theorem LG(G:List (List DV))(v sz:Nat)(hv:v<4294967296)(hz:sz<4294967296)(o:Option (List Nat))(dv:DV)(hdv:(.c (.d dv):AV)=nK .u32 o)(hl:(dO o).length<=100000000000)(L:Nat)(hL:L<=100000000000)(hval:val 4294967296 (dO o)<4294967296^L)(u:List UInt8)(r:Option Nat)(fr:Nat->AV)
 (f3:fr 3=.c (.ptr 1 0)) (f4:fr 4=.c (.d (.int .u32 v))) (f5:fr 5=.c (.d (.int .u32 sz))) :
 ∀c:Ctx,c.P=Tryz.prog->c.G=G->c.n=20->AW c r zN ⟨fr,kR u dv⟩ 0 (λx s _=>x=.normal/\s.lv=kR u (.sl (dK .u32 (aG 4294967296 (val 4294967296 (dO o)*sz+v))))):=by
 rintro⟨_,Gc,w0,F0,W0,_,iN,β0⟩ rfl hG rfl;have hG:Gc=G:=hG;subst hG;have g1:kR u dv 1=.cells false false 25 [.d dv]:=by simp[kR]
 have g5:kR u dv 5=.hole:=by simp[kR,az]
 have w1:IntKind.u64.wrap (sz:Int)=sz:=dj (by omega) (by omega);have w2:IntKind.u64.wrap (v:Int)=v:=dj (by omega) (by omega);have hp:(AV.c (.d dv)).pure=true:=by rw[hdv];cases o<;>rfl
 have b1:(aG 4294967296 sz).length<=1:=bS (by decide) (by omega);have b2:(aG 4294967296 v).length<=1:=bS (by decide) (by omega)
 have b3:(aG 4294967296 (val 4294967296 (dO o)*sz)).length<=L+1:=bS (by decide) (by
  rw[adR];exact ae9 (ad9 _ (afr hz)) (Nat.mul_lt_mul_of_pos_right hval (by decide)))
 have m1:aa Tryz.prog Gc 36 [.c (.d dv),nK .u32 (some (aG 4294967296 sz))] (nK .u32 (some (aG 4294967296 (val 4294967296 (dO o)*sz)))):=by
  have:=cB Gc o (some (aG 4294967296 sz)) (by omega) (by simp;omega);rw[<-hdv]at this;simpa[bn]using this
 have m2:aa Tryz.prog Gc 39 [nK .u32 (some (aG 4294967296 (val 4294967296 (dO o)*sz))),nK .u32 (some (aG 4294967296 v))] (nK .u32 (some (aG 4294967296 (val 4294967296 (dO o)*sz+v)))):=by
  have:=kI Gc (some (aG 4294967296 (val 4294967296 (dO o)*sz))) (some (aG 4294967296 v)) (by simp;omega) (by simp;omega);simpa[bn]using this
 refine aaE ?_;refine abx mixed (by kernel_rfl) rfl ?_;simp[f3,f5,g1,w1];refine ag.pure 0 5 (dX _ sz (by omega)) (by simp) (by simp) g5 ?_;simp;refine ag.pure 0 5 m1 (by simp) (by simp[hp]) g5 ?_;simp[f4,w2];refine ag.pure 0 5 (dX _ v (by omega)) (by simp) (by simp) g5 ?_;simp;refine ag.pure 0 5 m2 (by simp) (by simp) g5 ?_;generalize aG 4294967296 (val 4294967296 (dO o)*sz+v)=ds at *
 have e1:nK .u32 (some ds)=.c (.d (.sl (dK .u32 ds))):=rfl;simp[f3,g1,e1,ai];refine⟨by kernel_rfl,?_⟩;exact Tf u dv (.sl (dK .u32 ds))
end Go.Am
namespace Go.Proofs
open Go.Shelf
def Tryz.Ft:Go.Shelf.Ren:=⟨λ|217=>208|266=>231|n=>n,λ|9=>9|5=>5|3=>3|n=>n,λ|n=>n⟩
theorem Tryz.St:Go.Proofs.Lays.n217 Tryz.prog Tryz.Ft:={
 mixed:=by kernel_rfl
 f217:=Tryz.func208.trans (congrArg some (by kernel_rfl))
 f266:=Tryz.func231.trans (congrArg some (by kernel_rfl))
 t3:=Tryz.underlying3
 a3:=Tryz.isAgg3
 z3:=Tryz.sizeOf3
 v3:=Tryz.zeroValue3
 t5:=Tryz.underlying5
 a5:=Tryz.isAgg5
 z5:=Tryz.sizeOf5
 v5:=Tryz.zeroValue5
 t9:=Tryz.underlying9
 a9:=Tryz.isAgg9
 z9:=Tryz.sizeOf9
 v9:=Tryz.zeroValue9 }
def Tryz.Gl:Go.Shelf.Ren:=⟨λ|219=>169|217=>208|225=>209|224=>210|267=>211|266=>231|314=>232|n=>n,λ|9=>9|3=>3|4=>4|5=>5|46=>139|146=>239|51=>138|n=>n,λ|1=>1|n=>n⟩
theorem Tryz.T8:Go.Proofs.Lays.n219 Tryz.prog Tryz.Gl:={
 mixed:=by kernel_rfl
 f217:=Tryz.func208.trans (congrArg some (by kernel_rfl))
 f219:=Tryz.func169.trans (congrArg some (by kernel_rfl))
 f224:=Tryz.func210.trans (congrArg some (by kernel_rfl))
 f225:=Tryz.func209.trans (congrArg some (by kernel_rfl))
 f266:=Tryz.func231.trans (congrArg some (by kernel_rfl))
 f267:=Tryz.func211.trans (congrArg some (by kernel_rfl))
 f314:=Tryz.func232.trans (congrArg some (by kernel_rfl))
 t3:=Tryz.underlying3
 a3:=Tryz.isAgg3
 z3:=Tryz.sizeOf3
 v3:=Tryz.zeroValue3
 t4:=Tryz.underlying4
 a4:=Tryz.isAgg4
 z4:=Tryz.sizeOf4
 v4:=Tryz.zeroValue4
 t5:=Tryz.underlying5
 a5:=Tryz.isAgg5
 z5:=Tryz.sizeOf5
 v5:=Tryz.zeroValue5
 t9:=Tryz.underlying9
 a9:=Tryz.isAgg9
 z9:=Tryz.sizeOf9
 v9:=Tryz.zeroValue9
 t46:=Tryz.underlying139
 a46:=Tryz.isAgg139
 z46:=Tryz.sizeOf139
 v46:=Tryz.zeroValue139
 t51:=Tryz.underlying138
 a51:=Tryz.isAgg138
 z51:=Tryz.sizeOf138
 v51:=Tryz.zeroValue138
 t146:=Tryz.underlying239
 a146:=Tryz.isAgg239
 z146:=Tryz.sizeOf239
 v146:=Tryz.zeroValue239
 g1:=by kernel_rfl }
open Go.RowKit Go.Lib in
theorem Tryz.stringslite_IndexByte(s:ByteArray)(c:Int)(w:World):
 Calls Tryz.prog 208 #[.string s,.int .u8 c] w λe w'=>e=.returned (.int .i64 (Lib.indexByte s.data.toList c.toNat.toUInt8))/\w'=w:=Any.stringslite_IndexByte Tryz.St s c w
open Go.RowKit Go.Lib in
theorem Tryz.stringslite_Index(s sub:ByteArray)(m:Int)(w:World)(hs:s.size<4294967281)(hm:w.cell? ⟨1,0,none⟩=some (.int .i64 m)):
 Calls Tryz.prog 169 #[.string s,.string sub] w λe w'=>e=.returned (.int .i64 (Lib.index s.data.toList sub.data.toList))/\w'=w:=Any.stringslite_Index Tryz.T8 s sub m w hs hm
end Go.Proofs
namespace Go.Am
open Go.Proofs Go.Lib
variable {off T n:Nat}{x:AV}{w:World}{us:List AV}{V:Vw}{F:Nat->Prop}{β:Key->Nat}{P:Program}{G:List (List DV)}{lv:Key->LB}{vs:Array Value}{c:Ctx}{s:aB}{a:Act}
def Q0(T off len:Nat):Bool:=(Nat.beq T 151&&(Nat.beq off 0&&Nat.ble 2 len))
theorem Kp{len:Nat}(h:Q0 T off len=true):T=151/\off=0/\2<=len:=by
 simp only[Q0,rP]at h
 simp_all
theorem Ul:(Tryz.prog.info? 151).map (·.size)=some 2:=by kernel_rfl
theorem Xb:Tryz.prog.cellsOf 151=2:=by kernel_rfl
theorem Wm:∃d,Tryz.prog.depth=d+1:=⟨Tryz.prog.depth-1,by kernel_rfl⟩
theorem acu:rowAt Tryz.prog (sameLayout Tryz.prog Tryz.prog.depth · 151) Tryz.prog.depth 151 1 0 1=true:=by kernel_rfl
theorem GQ{p:Program}{fits:TypeId->Bool}{d:Nat}{e:TypeId}{c c':Nat}(h:rowAt p fits d e c off n=true)(hc:c<=c'):rowAt p fits d e c' off n=true:=by
 cases d with
 |zero=>simp[rowAt]at h
 |succ d=>
  unfold rowAt at h ⊢;simp only at h ⊢;split at h
  ·cases h
  grind
theorem YC(h:Q0 T off n=true):liesAt Tryz.prog Tryz.prog.depth T (n/Tryz.prog.cellsOf T) off 151 1=true:=by
 obtain⟨d,hd⟩:=Wm
 have key:∀T off c,rowAt Tryz.prog (sameLayout Tryz.prog Tryz.prog.depth · 151) Tryz.prog.depth T c off 1=true->liesAt Tryz.prog Tryz.prog.depth T c off 151 1=true:=by
  intro T off c h;rw[hd]at h ⊢;unfold liesAt;rw[hd,h];simp
 obtain⟨rfl,rfl,h3⟩:=Kp h;rw[Xb];exact key _ _ _ (GQ acu (by omega))
theorem TT(b off:Nat)(w:World)(h0:w.cell? ⟨b,off,none⟩=some (.pointer (some ⟨b,off,none⟩))):
 Calls Tryz.prog 141 #[.pointer (some ⟨b,off,none⟩)] w λe w'=>e=.returned (.tuple #[])/\w'=w:=by
 obtain⟨j,hj,_⟩:=Option.map_eq_some_iff.1 Ul
 go_enter Tryz.func141,Tryz.ntmps141
 go_wp2
 rw[Lib.run_neq_ptr_same w _ Tryz.underlying148 hj]
 go_wp2
 go_end0
 simp
theorem NH(b off n:Nat)(T:TypeId)(w:World)(h0:w.cell? ⟨b,off,none⟩=some (.pointer none))(hn:Q0 T off n=true)(hsh:w.shape? b=some (T,n))(hfz:w.frozen? ⟨b,off,none⟩=false):
 Calls Tryz.prog 141 #[.pointer (some ⟨b,off,none⟩)] w λe w'=>e=.returned (.tuple #[])/\w'=w.setCell ⟨b,off,none⟩ (.pointer (some ⟨b,off,none⟩)):=by
 obtain⟨j,hj,hjs⟩:=Option.map_eq_some_iff.1 Ul;have hlt:off<n:=by obtain⟨_,h1,h2⟩:=Kp hn;omega
 go_enter Tryz.func141,Tryz.ntmps141
 go_wp2
 rw[Lib.run_to_unsafe w ⟨b,off,none⟩ Tryz.underlying148 Tryz.underlying243 hj (by omega) hsh hlt];simp only[Result.andThen];rw[Oper.upon_value]
 go_wp2
 rw[run_callFunc_extern Tryz.func186 (by kernel_rfl) (by kernel_rfl) (by kernel_rfl) (e:=Extern.AbiNoEscape.same) (by kernel_rfl)];rw[Lib.run_noEscape];simp only[Result.andThen];rw[Oper.upon_value]
 go_wp2
 rw[Lib.run_from_unsafe w ⟨b,off,none⟩ Tryz.underlying243 Tryz.underlying148 hj hsh (YC hn)];simp only[Result.andThen];rw[Oper.upon_value]
 go_wp2
 go_end0
 simp
theorem aW.of_same{f:FuncId}(hx:x.flat=true)
 (h:∀(F:Nat->Prop) (β:Key->Nat) (w:World) (vs:Array Value),di (dW P G w F β lv) F β lv w->vs.size=us.length->(∀i (h:i<us.length) (h':i<vs.size),(Vw.mk F β lv w).av vs[i] us[i]) ->
  ∃v,(Vw.mk F β lv w).av v x/\Calls P f vs w λe w'=>e=.returned v/\w'=w):aW P G f us lv (.ret x lv):=by
 intro F β w vs hS hl hv;obtain⟨v,h1,h2⟩:=h F β w vs hS hl hv;refine h2.mono λe w' he=>?_;obtain⟨rfl,rfl⟩:=he;exact⟨v,F,β,rfl,hS,h1⟩
theorem args1(hl:vs.size=[x].length)(hv:∀i (h:i < [x].length) (h':i<vs.size),V.av vs[i] [x][i]):∃u,vs=#[u]/\V.av u x:=by
 have h1:vs.size=1:=hl;refine⟨vs[0],?_,hv 0 (by simp) (by omega)⟩
 grind
theorem args2{y:AV}(hl:vs.size=[x,y].length)(hv:∀i (h:i < [x,y].length) (h':i<vs.size),V.av vs[i] [x,y][i]):∃u v,vs=#[u,v]/\V.av u x/\V.av v y:=by
 have h1:vs.size=2:=hl;refine⟨vs[0],vs[1],?_,hv 0 (by simp) (by omega),hv 1 (by simp) (by omega)⟩
 grind
def F5:List UInt8->List UInt8->Bool
 |[],_=>true
 |a::l,b::m=>Nat.beq a.toNat b.toNat&&F5 l m
 |_::_,[]=>false
theorem NW(a b:UInt8):Nat.beq a.toNat b.toNat=(a == b):=by
 rw[Bool.eq_iff_iff];constructor
 ·intro h;have:=ae8 h;simpa using UInt8.toNat_inj.1 this
 simp_all
theorem yp:∀(l m:List UInt8),F5 l m=l.isPrefixOf m
 |[],m=>by rfl
 |a::l,b::m=>by simp only[F5,List.isPrefixOf,NW,yp l m]
 |a::l,[]=>by rfl
def CJ(t:List UInt8):List UInt8->Nat->Option Nat
 |[],i=>bif F5 t []then some i else none
 |a::l,i=>bif F5 t (a::l)then some i else CJ t l (Nat.succ i)
def Cg:Option Nat->Int
 |some i=>Int.ofNat i
 |none=>Int.negSucc 0
theorem KC(t:List UInt8):∀(s:List UInt8) (i:Nat),Cg (CJ t s i)=if Lib.index s t = -1 then -1 else Lib.index s t+i
 |[],i=>by
  simp only[CJ,yp,Lib.index]
  cases t with
  |nil=>simp[Cg]
  |cons a t=>simp[Cg]
 |a::l,i=>by
  have ih:=KC t l (Nat.succ i);have e:Lib.index (a::l) t=if t.isPrefixOf (a::l)then 0 else(if Lib.index l t == -1 then -1 else Lib.index l t+1):=by simp only[Lib.index]
  simp only[CJ,yp]
  cases hp:t.isPrefixOf (a::l)with
  |true=>
   have e2:Lib.index (a::l) t=0:=by rw[e,if_pos hp]
   rw[e2];simp[Cg]
  |false=>
   have e2:Lib.index (a::l) t=if Lib.index l t == -1 then -1 else Lib.index l t+1:=by rw[e,if_neg (by simp[hp])]
   rw[e2];simp only[cond_false];rw[ih]
   by_cases h:Lib.index l t = -1
   ·simp[h]
   ·have hge:=index_ge l t
    grind
theorem nO(s t:List UInt8):Lib.index s t=Cg (CJ t s 0):=by
 rw[KC];simp
theorem index_one(s:List UInt8)(c:UInt8):Lib.indexByte s c=Lib.index s [c]:=by
 induction s with
 |nil=>rfl
 |cons a s ih=>
  simp only[Lib.indexByte,Lib.index,ih]
  grind
def Db:List AV->Option AV
 |[.c (.d (.str s)),.c (.d (.str t))]=>bif Nat.blt s.length 4294967281 then some (.c (.d (.int .i64 (Cg (CJ t s 0)))))else none
 |_=>none
def xJ:List AV->Option AV
 |[.c (.d (.str s)),.c (.d (.int .u8 (.ofNat n)))]=>bif Nat.blt s.length 4294967281 then some (.c (.d (.int .i64 (Cg (CJ [UInt8.ofNat n] s 0)))))else none
 |_=>none
theorem Is{n:Int}(h:-9223372036854775808<=n/\n<=9223372036854775807):V.av (.int .i64 n) (.c (.d (.int .i64 n))):=
 Vw.mI _ _ _ (cj (by simpa[wG,og]using h))
theorem BG(s t:List UInt8)(h:s.length<4294967281):-9223372036854775808<=Lib.index s t/\Lib.index s t<=9223372036854775807:=by
 have h1:=index_ge s t
 have h2:Lib.index s t<=s.length:=by
  clear h h1
  induction s with
  |nil=>simp only[Lib.index];omega
  |cons a s ih=>
   simp only[Lib.index]
   grind
 omega
theorem LW{g:Nat}{k:IntKind}{n:Int}(hS:di (dW P G w F β lv) F β lv w)(hg:G[g]?=some [.int k n]):w.cell? ⟨g,0,none⟩=some (.int k n):=by
 have:=hS.qP g _ hg
 cases this with
 |ptr b off vs cs hm ho hr=>
  have h1:=hm 0 (by simp);have h2:=hr 0 (by simp);simp only[aeQ]at h2;have h3:=h1.2;generalize vs 0=u at h2 h3
  cases h2
  exact h3
theorem Lr(m:Int)(h:Db us=some x)(lv:Key->LB):aW Tryz.prog (GG m) 169 us lv (.ret x lv):=by
 unfold Db at h;split at h
 ·rename_i s t
  cases hb:Nat.blt s.length 4294967281 with
  |false=>rw[hb]at h;cases h
  |true=>
   rw[hb]at h;simp only[cond_true,ah]at h;subst h;have hs:s.length<4294967281:=ad1 hb;refine aW.of_same (by rfl) λF β w vs hS hl hv=>?_;obtain⟨u,v,rfl,hu,hv⟩:=args2 hl hv;have:=Tryz.stringslite_Index ⟨s.toArray⟩ ⟨t.toArray⟩ m w (by rw[cZ];exact hs) (LW hS rfl);refine⟨.int .i64 (Cg (CJ t s 0)),?_,?_⟩
   ·rw[<-nO];exact Is (BG s t hs)
   ·rw[Vw.kB hu,Vw.kB hv];simpa[nO]using this
 ·cases h
theorem He(m:Int)(h:xJ us=some x)(lv:Key->LB):aW Tryz.prog (GG m) 208 us lv (.ret x lv):=by
 unfold xJ at h;split at h
 ·rename_i s n
  cases hb:Nat.blt s.length 4294967281 with
  |false=>rw[hb]at h;cases h
  |true=>
   rw[hb]at h;simp only[cond_true,ah]at h;subst h;have hs:s.length<4294967281:=ad1 hb;refine aW.of_same (by rfl) λF β w vs hS hl hv=>?_;obtain⟨u,v,rfl,hu,hv⟩:=args2 hl hv;have:=Tryz.stringslite_IndexByte ⟨s.toArray⟩ n w;refine⟨.int .i64 (Cg (CJ [UInt8.ofNat n] s 0)),?_,?_⟩
   ·rw[<-nO];exact Is (BG s _ hs)
   ·rw[Vw.kB hu,Vw.eV hv];simpa[<-nO,index_one]using this
 ·cases h
theorem DN{b:Nat}{arr:Array Value}{T:TypeId}{v:Value}{fr:Nat×Nat}(hb:w.heap[b]?=some (.cells arr T fr))(off:Nat):
 w.setCell ⟨b,off,none⟩ v=w.setRow b (arr.setIfInBounds off v):=by
 unfold World.setCell World.setRow
 have:(w.heap.modify b λ
  |.cells c elem frozen=>.cells (c.setIfInBounds off v) elem frozen
  |o=>o)=w.heap.modify b λ
  |.cells _ elem frozen=>.cells (arr.setIfInBounds off v) elem frozen
  |o=>o:=by
  apply Array.ext
  ·simp
  ·intro i p q;simp only[Array.getElem_modify];split
   ·rename_i hi
    subst hi;obtain⟨h1,h2⟩:=Array.getElem?_eq_some_iff.1 hb;rw[h2]
   ·rfl
 grind
theorem MC{m:Nat}(h:Q0 T off n=true)(hm:n<=m):Q0 T off m=true:=by
 have key:∀k,n<=m->Nat.ble k n=true->Nat.ble k m=true:=λk h1 h2=>Nat.ble_eq_true_of_le (Ju (ad1 h2) h1)
 simp only[Q0,aeV,rP]at h ⊢
 grind
theorem IT{α:Type}{cs r:List α}{x:α}(h:cs.drop off=x::r):∃hlt:off<cs.length,cs[off]=x:=by
 have hlt:off<cs.length:=by
  apply aeL;intro hc;rw[aeH (by omega)]at h;cases h
 rw[adT hlt]at h
 grind
theorem Bn(m:Int)(lv:Key->LB)(k off T:Nat)(cs r:List CV)(hk:lv k=.cells false false T cs)(hc:cs.drop off=.ptr k off::r):
 aW Tryz.prog (GG m) 141 [.c (.ptr k off)] lv (.ret (.tup []) lv):=by
 intro F β w vs hS hl hv;obtain⟨u,rfl,hu⟩:=args1 hl hv
 have hu1:u=.pointer (some ⟨β k,off,none⟩):=by
  obtain⟨h1,_⟩:=hu;simpa only[Vw.dn,hk]using h1
 subst hu1;have hb:=hS.bK k;unfold Vw.bK at hb;simp only[hk]at hb;obtain⟨arr,b1,b2,b3,_⟩:=hb;obtain⟨hlt,hx⟩:=IT hc;have hpos:off<arr.size:=by omega
 have h0:=b3 off hlt hpos;rw[hx]at h0;obtain⟨h0,_⟩:=h0;simp only[Vw.dn,hk]at h0
 have hcell:w.cell? ⟨β k,off,none⟩=some (.pointer (some ⟨β k,off,none⟩)):=by
  rw[cell_of_heap b1];simp[hpos,h0]
 refine(TT _ _ w hcell).mono λe w' he=>?_;obtain⟨rfl,rfl⟩:=he;exact⟨_,F,β,rfl,hS,⟨#[],rfl,rfl,λi h=>absurd h (by simp)⟩⟩
theorem yX(m:Int)(lv:Key->LB)(k off T:Nat)(cs r:List CV)(hok:Q0 T off cs.length=true)(hk:lv k=.cells false false T cs)(hc:cs.drop off=.d .nilp::r):
 aW Tryz.prog (GG m) 141 [.c (.ptr k off)] lv (.ret (.tup []) (az lv k (.cells false false T (ai cs off [.ptr k off])))):=by
 intro F β w vs hS hl hv;obtain⟨u,rfl,hu⟩:=args1 hl hv
 have hu1:u=.pointer (some ⟨β k,off,none⟩):=by
  obtain⟨h1,_⟩:=hu;simpa only[Vw.dn,hk]using h1
 subst hu1;have hb:=hS.bK k;unfold Vw.bK at hb;simp only[hk]at hb;obtain⟨arr,b1,b2,b3,_⟩:=hb;obtain⟨hlt,hx⟩:=IT hc;have hpos:off<arr.size:=by omega
 have h0:=b3 off hlt hpos;rw[hx]at h0
 have h0':arr[off]=.pointer none:=by
  obtain⟨h0,_⟩:=h0;have h0:Rd _ arr[off] .nilp:=h0;generalize arr[off]=v at h0
  cases h0;rfl
 have hcell:w.cell? ⟨β k,off,none⟩=some (.pointer none):=by
  rw[cell_of_heap b1];simp[hpos,h0']
 refine(NH _ off arr.size T w hcell (MC hok b2) (by simp[World.shape?,b1]) (frozen_of_heap b1 off)).mono λe w' he=>?_;obtain⟨rfl,rfl⟩:=he;have hset:=DN (v:=.pointer (some ⟨β k,off,none⟩)) b1 off;have hle:off+[CV.ptr k off].length<=cs.length:=by simp;omega
 have hS2:=hS.setRow (arr:=arr.setIfInBounds off (.pointer (some ⟨β k,off,none⟩))) (cs':=ai cs off [.ptr k off]) hk b1 (by simp) (by rw[c9 _ _ _ hle];grind) (by
  intro i p q;rw[Array.getElem_setIfInBounds (by grind),eO _ _ _ hle i p]
  by_cases hi:off=i
  ·subst hi;rw[if_pos rfl,dif_pos ⟨bh _,by simp⟩];simp only[afk,aeQ];refine⟨?_,rfl⟩;simp only[Vw.dn,hk]
  grind)
 rw[hset];exact⟨_,F,β,rfl,hS2,⟨#[],rfl,rfl,λi h=>absurd h (by simp)⟩⟩
theorem aD.far{w':World}(h:aD c F β s a w)(B:Nat->Prop)
 (hs:∀b,¬B b->b<w.heap.size->w'.heap[b]?=w.heap[b]?) (hF:∀b,B b->¬F b) (hL:∀k,(s.lv k).live=true->¬B (β k)) (hW:∀b,B b->c.w0.heap.size<=b)
 (hsz:w.heap.size<=w'.heap.size) (ha:∀b,cz w b<=cz w' b) (hoo:w'.os=w.os/\w'.output=w.output:=by exact⟨rfl,rfl⟩):aD c F β s a w':=by
 have hm:∀b,F b->w'.heap[b]?=w.heap[b]?:=λb hb=>hs b (λhB=>hF b hB hb) (h.ox b hb).1
 have:=h.step (hoo:=hoo) (F':=F) (β':=β) (lv':=s.lv) (w':=w') (λ_ h=>h) hm (λk=>LB.bE _) (λ_ _ _=>rfl) ha ?_ h.inj (λb hb=>.inl hb) hsz ?_
 ·exact this
 ·intro k hK;have hb:=h.bK k
  have key:(s.lv k).live=true->(Vw.mk F β s.lv w').bK c k:=λhl=>
   Vw.bJ hb hK rfl rfl (hs _ (hL k hl) (h.iD hl)) (λ_ h=>h)
  cases e:s.lv k with
  |cells own fz T cs=>
   cases fz with
   |false=>exact key (by rw[e];rfl)
   |true=>
    refine Vw.bJ hb hK rfl rfl (hm _ ?_) (λ_ h=>h);unfold Vw.bK at hb;grind
  |map own es=>exact key (by rw[e];rfl)
  |hole=>unfold Vw.bK;grind
  |dead=>unfold Vw.bK;grind
  |nils=>unfold Vw.bK;grind
 ·intro b hb hW0;exact hs b (λhB=>by grind) (aeB hb h.ge)
theorem aD.FX(h:aD c F β s a w)(o:Obj):aD c F β s a (w.alloc o):=
 h.far (λ_=>False) (λb _ hb=>by rw[heap_alloc,if_neg (by omega)]) (λ_ h=>h.elim) (λ_ _ h=>h.elim) (λ_ h=>h.elim) (by simp) (kS w o)
end Go.Am
namespace Go.Am
variable {l n κ:Nat}{P:Program}{G:List (List DV)}{fr:Nat->AV}{lv iN lv':Key->LB}{F0 F:Nat->Prop}{β0 β:Key->Nat}{w w0:World}{o:Obj}{s:aB}{a:Act}{rec:Loop}
section
variable {c:Ctx}{r:Option Nat}{F:Nat->Prop}{β:Key->Nat}{s:aB}{a:Act}{w w':World}
theorem AW.fresh{code:Code}{Q:Ex->aB->Nat->Prop}(h:aD c F β ⟨fr,lv⟩ a w)(ho:cD lv)
 (hA:∀c':Ctx,c'.P=c.P->c'.G=c.G->c'.n=c.n->c'.iN=lv->AW c' r code ⟨fr,lv⟩ κ Q) :
 code.wpIn (sX r) 0 c.P (λe a' w'=>∃x s' κ' F' β',Q x s' κ'/\aD c F' β' s' a' w'/\Eh x e F' w'/\w.heap.size<=w'.heap.size/\(∀b,F' b->F b\/w.heap.size<=b)/\(∀k,(s'.lv k).live=true->w.heap.size<=β' k\/∃j,(lv j).live=true/\β j=β' k) /\
  ∀b,b<w.heap.size->(∀k,(lv k).live=true->β k≠b)->w'.heap[b]?=w.heap[b]?) a w:=by
 let c':Ctx:={ dW c.P c.G w F β lv with n:=c.n,ds:=c.ds }
 have h1:aD c' F β ⟨fr,lv⟩ a w:=di.with (c:=c') (h.yV ho) h.size h.defers h.fr;refine wpIn_mono (hA c' rfl rfl rfl rfl F β a w h1) ?_;rintro e a' w' ⟨x,s',κ',F',β',hQ,h2,hx⟩;have hx0:di (dW c.P c.G w F β lv) F' β' s'.lv w':=aD.uD (c:=c') h2;have h3:aD c F' β' ⟨fr,s'.lv⟩ a w':=h.Fy hx0;have h4:aD c F' β' s' a' w':=di.with (c:=c) (aD.uD (s:=⟨fr,s'.lv⟩) h3) h2.size h2.defers h2.fr;refine⟨x,s',κ',F',β',hQ,h4,hx,h2.ge,λb hb=>(h2.ox b hb).2,λk hk=>h2.ga hk,λb hb hn=>?_⟩;exact h2.old b hb (λ⟨k,hk,he⟩=>hn k hk he)
theorem aD.ac4(h:aD c F β s a w)(B:Nat->Prop)
 (hs:∀b,¬B b->b<w.heap.size->w'.heap[b]?=w.heap[b]?) (hF:∀b,B b->¬F b) (hL:∀k,(s.lv k).live=true->¬B (β k)) (hW:∀b,B b->c.w0.heap.size<=b\/c.W0 b)
 (hsz:w.heap.size<=w'.heap.size) (ha:∀b,cz w b<=cz w' b) (hoo:w'.os=w.os/\w'.output=w.output:=by exact⟨rfl,rfl⟩):aD c F β s a w':=by
 have hm:∀b,F b->w'.heap[b]?=w.heap[b]?:=λb hb=>hs b (λhB=>hF b hB hb) (h.ox b hb).1
 have:=h.step (hoo:=hoo) (F':=F) (β':=β) (lv':=s.lv) (w':=w') (λ_ h=>h) hm (λk=>LB.bE _) (λ_ _ _=>rfl) ha ?_ h.inj (λb hb=>.inl hb) hsz ?_
 ·exact this
 ·intro k hK;have hb:=h.bK k
  have key:(s.lv k).live=true->(Vw.mk F β s.lv w').bK c k:=λhl=>
   Vw.bJ hb hK rfl rfl (hs _ (hL k hl) (h.iD hl)) (λ_ h=>h)
  cases e:s.lv k with
  |cells own fz T cs=>
   cases fz with
   |false=>exact key (by rw[e];rfl)
   |true=>
    refine Vw.bJ hb hK rfl rfl (hm _ ?_) (λ_ h=>h);unfold Vw.bK at hb;simp only[e]at hb;obtain⟨x,h1,h2,h3,h4,h5⟩:=hb;simpa using h4
  |map own es=>exact key (by rw[e];rfl)
  |hole=>unfold Vw.bK;simp only[e]
  |dead=>unfold Vw.bK;simp only[e]
  |nils=>unfold Vw.bK;simp only[e]
 ·intro b hb hW0;exact hs b (λhB=>(hW b hB).elim (λh1=>by omega) hW0) (aeB hb h.ge)
theorem aD.Cq(h:aD c F β s a w)(o':Obj)(hl:w.heap[l]?=some o)(hc:∀x y z,o≠.cells x y z)(hF:¬F l)(hL:∀k,(s.lv k).live=true->β k≠l)(hW:c.w0.heap.size<=l\/c.W0 l):aD c F β s a (w.putObj l o'):=by
 refine h.ac4 (λx=>x=l) (λx hx _=>agW hx) (λx hx=>hx▸hF) (λk hk=>hL k hk) (λx hx=>hx▸hW) (by simp) (λb=>?_)
 by_cases e:b=l
 ·subst e;unfold cz;rw[hl]
  cases o with
  |cells x y z=>exact absurd rfl (hc x y z)
  |_=>exact aa2 _
 ·unfold cz;rw[agW e];exact bh _
end
def Tk(P:Program)(G:List (List DV))(w:World)(F:Nat->Prop)(β:Key->Nat)(lv:Key->LB)(n l:Nat):Ctx:=
 ⟨P,G,w,F,λb=>(∃k,(lv k).live=true/\β k=b)\/b=l,n,lv,β,[]⟩
theorem aD.toR(l:Nat)(h:aD { dW P G w0 F0 β0 iN with n:=n } F β s a w):
 aD (Tk P G w0 F0 β0 iN n l) F β s a w:=by
 refine⟨λk=>Vw.Jy ?_ (h.bK k),h.inj,h.fr,h.size,h.defers,h.ox,h.F0,λb hb hW=>h.old b hb (λhx=>hW (.inl hx)),h.ge,h.qP,h.keep,h.IQ,h.Ey⟩;intro o ho;unfold eU at ho ⊢
 cases o with
 |true=>exact ho
 |false=>exact ho.imp id .inl
theorem aD.ofR(h:aD (Tk P G w0 F0 β0 iN n l) F β s a w)
 (hl0:w0.heap[l]?=some o) (hl:w.heap[l]?=some o) (hc:∀x y z,o≠.cells x y z) (hm:∀x y,o≠.map x y):di (dW P G w0 F0 β0 iN) F β s.lv w:=by
 refine⟨λk=>?_,h.inj,λ_=>trivial,rfl,rfl,h.ox,h.F0,λb hb hW=>?_,h.ge,h.qP,h.keep,h.IQ,h.Ey⟩
 ·have hb:=h.bK k
  have key:∀ow,eU (Tk P G w0 F0 β0 iN n l) ow (β k)->β k≠l->eU { dW P G w0 F0 β0 iN with n:=0 } ow (β k):=by
   intro ow ho hne;unfold eU at ho ⊢
   cases ow with
   |true=>exact ho
   |false=>
    rcases ho with h1|h1|h1
    ·exact .inl h1
    ·exact .inr h1
    ·exact absurd h1 hne
  unfold Vw.bK at hb ⊢
  cases e:s.lv k with
  |cells own fz T cs=>
   simp only[e]at hb ⊢;obtain⟨arr,b1,b2,b3,b4,b5⟩:=hb;exact⟨arr,b1,b2,b3,b4,key _ b5 (λhe=>by rw[he,hl]at b1;simp only[ah]at b1;exact hc _ _ _ b1)⟩
  |map own es=>
   simp only[e]at hb ⊢;obtain⟨x,y,b1,b2,b3,b4,b5⟩:=hb;exact⟨x,y,b1,b2,b3,b4,key _ b5 (λhe=>by rw[he,hl]at b1;simp only[ah]at b1;exact hm _ _ b1)⟩
  |hole=>simp only[e]
  |dead=>simp only[e]
  |nils=>simp only[e]
 ·by_cases e:b=l
  ·subst e;show w.heap[b]?=w0.heap[b]?;rw[hl,hl0]
  ·refine h.old b hb ?_;rintro(h1|h1)
   ·exact hW h1
   ·exact e h1
theorem fY.yield{w1:World}{ops:Array Oper}{o:Oper}{cl:Call}{fo:Operand}{xs:List AV}(hd:∀d,o.dst=some d->d<n)
 (hg:o.guard=none) (ho:o.op=.call cl) (hcal:cl.callee=.value fo) (hfo:(aB.mk fr lv).val G fo=.c (.d (.func (.yield l) [] [])))
 (hxs:cl.args.toList.map ((aB.mk fr lv).val G)=xs) (hps:rec.params.size=xs.length) (hl:w1.heap[l]?=some (.loop rec)) (hnl:∀k,(iN k).live=true->β0 k≠l) (hok:cD lv)
 (hround:∀(F:Nat->Prop) (β:Key->Nat) (w:World) (vs:Array Value),di (dW P G w1 F0 β0 iN) F β lv w->di (dW P G w F β lv) F β lv w->w.heap[l]?=some (.loop rec)->vs.size=xs.length->(∀i (h:i<xs.length) (h':i<vs.size),(Vw.mk F β lv w).av vs[i] xs[i]) ->
  RoundIn (sX none) 0 P l rec.fn ((rec.params.zip vs).foldl (λtmps (t,a)=>tmps.setIfInBounds t a) rec.tmps) rec.assign rec.body w λe w'=>e=.returned (.bool true)/\∃F' β',di (dW P G w F β lv) F' β' lv' w') :
 fY { dW P G w1 F0 β0 iN with n:=n } none ops o ⟨fr,lv⟩ (aB.put ⟨fr,lv'⟩ o.dst (.c (.d (.bool true)))):=by
 intro F β a w K Q hs hK;have hw:Region.wanted o (yielded ops a.tmps)=true:=by unfold Region.wanted;rw[hg]
 rw[if_pos hw];have hS:di (dW P G w1 F0 β0 iN) F β lv w:=aD.uD hs
 have hlw:w.heap[l]?=some (.loop rec):=by
  rw[<-hl];have hlt:=(Array.getElem?_eq_some_iff.1 hl).1;exact hs.old l hlt (λ⟨k,hk,he⟩=>hnl k hk he)
 have hv0:=hs.val fo
 have DE:a.eval fo=.func (.yield l) #[] #[]:=by
  have h1:(Vw.mk F β lv w).av (a.eval fo) (.c (.d (.func (.yield l) [] []))):=hfo▸hv0;obtain⟨h1,_⟩:=h1;generalize a.eval fo=u at h1
  cases h1 with
  |func _ fs cs _ _ hf hc _ _=>
   grind
 have hsz:(cl.args.map a.eval).size=xs.length:=by rw[<-hxs];simp
 have hav:∀i (h:i<xs.length) (h':i<(cl.args.map a.eval).size),(Vw.mk F β lv w).av (cl.args.map a.eval)[i] xs[i]:=by
  intro i p q;subst hxs;simp only[agJ,ab5,afA];exact hs.val _
 have hr:(execOp a.eval o).run P w=.ok (.round l rec.fn ((rec.params.zip (cl.args.map a.eval)).foldl (λtmps (t,a)=>tmps.setIfInBounds t a) rec.tmps) rec.assign rec.body) w:=by
  simp only[execOp,ho,resolve,hcal,DE,Deferred.ofValue,mT,aer,sr,invoke];have:=run_yield (P:=P) (args:=cl.args.map a.eval) hlw (by omega);simpa using this
 refine⟨λ_ _=>trivial,?_⟩;rw[Oper.semAt_eq _ _ _ (λc h=>by grind)];show o.uponIn (sX none) 0 P a K Q ((execOp a.eval o).run P w);rw[hr,Oper.uponIn_round];refine⟨λh=>by simp[sX,Fence.wide]at h,?_⟩;refine(hround F β w _ hS (hs.yV hok) hlw hsz hav).mono λe w' he=>?_;obtain⟨rfl,F',β',hX⟩:=he;exact hK F' β' _ _ (aD.CS (hs.Fy hX) hd (Vw.ob _ _))
theorem Eb{lv1:Key->LB}{tmps:Array Value}{fr2:Nat->AV}(hS:di (dW P G w F β lv) F β lv w)(hok:cD lv)(hok1:cD lv1)
 (hlw:w.heap[l]?=some (.loop rec)) (hst:rec.state=.ready) (hpe:rec.pending=none) (hn:tmps.size=n) (hfr:∀t,(Vw.mk F β lv w).av (tmps.getD t undef) (fr t)) (hFl:¬F l)
 (h1:∀c:Ctx,c.P=P->c.G=G->c.n=n->c.iN=lv->AW c (some l) rec.assign ⟨fr,lv⟩ κ (λx s _=>x=.normal/\s=⟨fr2,lv1⟩))
 (h2:∀c:Ctx,c.P=P->c.G=G->c.n=n->c.iN=lv1->AW c (some l) rec.body ⟨fr2,lv1⟩ κ (λx s _=>x=.normal/\s.lv=lv')) :
 RoundIn (sX none) 0 P l rec.fn tmps rec.assign rec.body w λe w'=>e=.returned (.bool true)/\∃F' β',di (dW P G w F β lv) F' β' lv' w':=by
 have hlt:l<w.heap.size:=(Array.getElem?_eq_some_iff.1 hlw).1
 have hnot:∀(F:Nat->Prop) (β:Key->Nat) (lv:Key->LB) (c:Ctx) (s:aB) (a:Act) (w:World) (r:Loop),aD c F β s a w->w.heap[l]?=some (.loop r)->∀k,(s.lv k).live=true->β k≠l:=by
  intro F β lv c s a w r h hl k hk he;have hb:=h.bK k;unfold Vw.bK at hb
  cases e:s.lv k with
  |cells own fz T cs=>grind
  |map own es=>grind
  |hole=>rw[e]at hk;cases hk
  |dead=>rw[e]at hk;cases hk
  |nils=>rw[e]at hk;cases hk
 have s0:aD (Tk P G w F β lv n l) F β ⟨fr,lv⟩ ⟨tmps,[]⟩ w:=aD.toR l (di.enter hS (a:=⟨tmps,[]⟩) hn rfl hfr);refine roundIn_of_wpIn trivial ?_;show rec.assign.wpIn (sX (some l)) 0 P _ _ w;refine wpIn_mono (AW.fresh (r:=some l) s0 hok (h1 ·)) ?_;rintro e a1 w1 ⟨x,s1,κ1,F1,β1,⟨rfl,rfl⟩,s1',hx,z1,z2,z2b,z3⟩
 cases hx
 have hl1:w1.heap[l]?=some (.loop rec):=by rw[z3 l hlt (hnot F β lv _ _ _ w rec s0 hlw)];exact hlw
 refine⟨_,run_beginRound hl1 hst,?_⟩
 have hF1:¬F1 l:=λh=>by
  grind
 have s2:=s1'.Cq (.loop { rec with state:=.busy }) hl1 (λ_ _ _ h=>by cases h) hF1 (hnot _ _ lv _ _ _ _ _ s1' hl1) (.inr (.inr rfl));have hl2:(w1.putObj l (.loop { rec with state:=.busy })).heap[l]?=some (.loop { rec with state:=.busy }):=World.putObj_heap_same (by omega);show rec.body.wpIn (sX (some l)) 0 P _ _ _;refine wpIn_mono (AW.fresh (r:=some l) s2 hok1 (h2 ·)) ?_;rintro e a3 w3 ⟨x,s3,κ3,F3,β3,⟨rfl,hlv⟩,s3',hx,y1,y2,y2b,y3⟩
 cases hx
 have hl3:w3.heap[l]?=some (.loop { rec with state:=.busy }):=by rw[y3 l (by simp;omega) (hnot _ _ lv _ _ _ _ _ s2 hl2)];exact hl2
 have hF3:¬F3 l:=λh=>by
  grind
 have hrec:({ { rec with state:=.busy } with state:=.ready,pending:=none }:Loop)=rec:=by
  cases rec;simp only at hst hpe;subst hst;subst hpe;rfl
 have s4:=s3'.Cq (.loop rec) hl3 (λ_ _ _ h=>by cases h) hF3 (hnot _ _ lv _ _ _ _ _ s3' hl3) (.inr (.inr rfl));have hl4:(w3.putObj l (.loop rec)).heap[l]?=some (.loop rec):=World.putObj_heap_same (Array.getElem?_eq_some_iff.1 hl3).1;have hS4:=s4.ofR hlw hl4 (λ_ _ _ h=>by cases h) (λ_ _ h=>by cases h);refine⟨.bool true,w3.putObj l (.loop rec),?_,rfl,F3,β3,hlv▸hS4⟩;have:=run_endRound (P:=P) none hl3
 grind
end Go.Am
namespace Go.Am
open Go.Am.Ty Go.Proofs N
variable {c:Ctx}{r:Option Nat}{ops:Array Oper}{s:aB}{j:Nat}
def aS:List UInt8->Nat->Nat
 |[],n=>n
 |c::l,n=>aS l (10*n+(c.toNat-48))
def wL(l:List UInt8):Prop:=∀c∈l,48<=c.toNat/\c.toNat<=57
theorem k5:∀(a b:List UInt8) (n:Nat),aS (a++b) n=aS b (aS a n)
 |[],b,n=>rfl
 |c::a,b,n=>by simp[aS,k5 a b]
theorem fR:∀(l:List UInt8) (n:Nat),aS l n=n*10^l.length+aS l 0
 |[],n=>by simp[aS]
 |c::l,n=>by
  simp only[aS,aef,adR];rw[fR l (10*n+_),fR l (10*0+_)]
  grind
theorem oe:∀{l:List UInt8},wL l->aS l 0<10^l.length
 |[],_=>by simp[aS]
 |c::l,h=>by
  have h1:=h c (aen ..);have ih:=oe (l:=l) (λx hx=>h x (aew _ hx));simp only[aS,aef,adR];rw[fR];have h2:(10*0+(c.toNat-48))*10^l.length<=9*10^l.length:=adJ _ (by omega);omega
theorem fY.plain{o:Oper}{κ:Key}{x:AV}{vc:Prop}(hd:∀d,o.dst=some d->d<c.n)(hg:o.guard=none)
 (h:dA c.P o.op (o.op.operands.toList.map (s.val c.G)) s.lv κ=some (x,[],[],vc)) (hvc:vc) {s1:aB}(h1:s1=s.put o.dst x):fY c r ops o s s1:=by
 subst h1;exact fY.PD (cY.plain hd (by unfold dN;rw[hg]) h hvc)
def oO(st:Bool)(n:Nat):Option (List Nat):=if st then some (aG 4294967296 n)else none
def nD:Option (List Nat)->DV
 |none=>.nilsl
 |some l=>.sl (dK .u32 l)
theorem Uu(o:Option (List Nat)):(AV.c (.d (nD o)))=nK .u32 o:=by cases o<;>rfl
theorem AW.oP{κ:Nat}{Q:Ex->aB->Nat->Prop}{id:Nat}(h:∃s',r4 c r ops ops.toList s s'/\Q .normal s' κ):AW c r (.region id ops false) s κ Q:=
 let ⟨_,h1,h2⟩:=h;AW.JT h1 h2
@[simp]theorem YE(u:List UInt8)(d:DV):kR u d 0=.cells false false 9 [.d (.str u)]:=by rfl
@[simp]theorem Uj(u:List UInt8)(d:DV):kR u d 1=.cells false false 25 [.d d]:=by rfl
@[simp]theorem Yz(u u':List UInt8)(d:DV):az (kR u d) 0 (.cells false false 9 [.d (.str u')])=kR u' d:=by
 funext k;unfold kR az
 grind
theorem qa(u:List UInt8)(d:DV):lE (kR u d):=by
 intro k own es h;rcases NQ u d k with h1|⟨T,cs,h1⟩<;>rw[h1]at h<;>cases h
theorem P5(G:List (List DV))(v sz:Nat)(lv:Key->LB)(r:Option Nat)(fr:Nat->AV)(f8:fr 8=.c (.d (.int .u32 v)))(f9:fr 9=.c (.d (.int .u32 sz))):
 ∀c:Ctx,c.P=Tryz.prog->c.G=G->c.n=20->AW c r A8 ⟨fr,lv⟩ 0 (λx s _=>x=.normal/\s=⟨az (az fr 4 (.c (.d (.int .u32 v)))) 5 (.c (.d (.int .u32 sz))),lv⟩):=by
 rintro⟨_,Gc,w0,F0,W0,_,iN,β0⟩ rfl rfl rfl;unfold A8;refine abf f8 ?_;refine aar ?_;simp[f9]
noncomputable def GV:Code:=match Tryz.f177.body with|some b=>b|_=>.skip
def TX(c:Ctx)(Y:AV):Prop:=
 ∀(u:List UInt8) (n:Nat) (st:Bool) (v sz L:Nat) (fr:Nat->AV) (ops:Array Oper) (o:Oper) (cl:Call),v<4294967296->sz<4294967296->(st=false->n=0)->L<=10000000000->n<4294967296^L ->
  o.dst=some 32->o.guard=none->o.op=.call cl->cl.callee=.value (.tmp 29)->cl.args=#[.tmp 30,.tmp 31]->fr 29=Y->fr 30=.c (.d (.int .u32 v))->fr 31=.c (.d (.int .u32 sz)) ->
  fY c none ops o ⟨fr,kR u (nD (oO st n))⟩ (aB.put ⟨fr,kR u (nD (oO true (n*sz+v)))⟩ (some 32) (.c (.d (.bool true))))
def pw(j:Nat):Nat:=10^j
theorem Tl(j:Nat):pw (j+1)=10*pw j:=by unfold pw;omega
theorem RQ:pw 0=1:=rfl
theorem p10(h:j<=9):pw j<=1000000000:=by
 unfold pw;have:=ael (n:=10) (by decide) h;omega
theorem Hj{u:List UInt8}{ch:UInt8}{rest:List UInt8}(h:u.drop j=ch::rest):u.take (j+1)=u.take j++[ch]/\u.drop (j+1)=rest/\j<u.length:=by
 have hlt:j<u.length:=by
  apply aeL;intro hc;rw[aeH (by omega)]at h;cases h
 have e:u.drop j=u[j]::u.drop (j+1):=adT hlt
 grind
theorem TF(G:List (List DV))(s0:List UInt8)(hD:wL s0)(hlen:s0.length<=1000000000)(Y:AV)(hY:Y.bX=true):
 ∀c:Ctx,c.P=Tryz.prog->c.G=G->c.n=34->TX c Y->AW c none GV ⟨λt=>[Y,.c (.ptr 0 0)].getD t .undef,kR s0 .nilsl⟩ 0 (λx s _=>x=.normal/\s.lv=kR [] (nD (oO (!s0.isEmpty) (aS s0 0)))):=by
 rintro⟨_,Gc,w0,F0,W0,_,iN,β0⟩ rfl rfl rfl hy;unfold GV;refine aaE ?_
 refine abr (λ(p:List UInt8×Nat×Bool×Nat)=>⟨aU [(0,Y),(1,.c (.ptr 0 0))],kR p.1 (nD (oO p.2.2.1 p.2.1))⟩) 0
  (λp=>wL p.1/\p.2.2.2+p.1.length<=1000000000/\p.2.1<4294967296^p.2.2.2/\aS p.1 p.2.1=aS s0 0/\(p.2.2.1=false->p.2.1=0/\p.1=s0)/\(p.2.2.1=true->s0≠[]))
  (λp=>p.1.length) (s0,0,false,0) (Le.mk' _ (by rfl) (qa _ _) (by simp[hY])) (by grind) ?_
 rintro⟨u,n,st,L⟩ ⟨h1,h2,h3,h4,h5,h6⟩;simp only at h1 h2 h3 h4 h5 h6;refine aaa λK hK=>aah ?_
 by_cases hu:u=[]
 ·subst hu;refine aba (abn ?_);simp;have e1:n=aS s0 0:=h4
  have e2:st = !s0.isEmpty:=by
   cases st with
   |true=>grind
   |false=>grind
  grind
 have hu0:0<u.length:=List.length_pos_iff.2 hu
 have hs0:s0≠[]:=by
  cases st with
  |true=>exact h6 rfl
  |false=>rw[<-(h5 rfl).2];exact hu
 refine aaX (by simp_all) (aav (hK _ _ (aaE (aah ?_))));refine aaa λK hK=>?_
 have fin:∀(j:Nat) (fr:Nat->AV) (κ:Nat),0<j->j<=9->j<=u.length->fr 0=Y->fr 1=.c (.ptr 0 0)->fr 3=.c (.d (.int .u32 (aS (u.take j) 0)))->fr 4=.c (.d (.int .u32 (pw j)))->K ⟨fr,kR (u.drop j) (nD (oO st n))⟩ κ:=by
  intro j fr κ hj0 hj9 hju f0 f1 f3 f4
  have hvj:aS (u.take j) 0<pw j:=by
   unfold pw;have:=oe (l:=u.take j) (λc hc=>h1 c (afK hc))
   rwa[aej,aeM hju]at this
  have hpj:=p10 hj9
  have hdec:aS (u.drop j) (n*pw j+aS (u.take j) 0)=aS s0 0:=by
   rw[<-h4]
   conv=>rhs;rw[<-afh j u]
   rw[k5,fR (u.take j) n,aej,aeM hju];rfl
  have hbig:n*pw j+aS (u.take j) 0<4294967296^(L+1):=by
   rw[adR];have g1:n*pw j+aS (u.take j) 0<(n+1)*pw j:=by rw[ad7];omega
   exact aeB g1 (aeK (by omega) (by omega))
  generalize aS (u.take j) 0=v at *
  generalize hpw:pw j=q at *
  apply hK;refine aaa λK2 hK2=>?_;have hd:∀t:Nat,t<34->∀d,some t=some d->d<34:=λt ht d h=>by grind
  refine AW.JT (s':=⟨az (az (az (az (az fr 29 Y) 30 (.c (.d (.int .u32 v)))) 31 (.c (.d (.int .u32 q)))) 32 (.c (.d (.bool true)))) 33 (.c (.d (.bool false))),kR (u.drop j) (nD (oO true (n*q+v)))⟩) ?_ ?_
  ·refine⟨⟨az fr 29 Y,kR (u.drop j) (nD (oO st n))⟩,?_,⟨az (az fr 29 Y) 30 (.c (.d (.int .u32 v))),kR (u.drop j) (nD (oO st n))⟩,?_,⟨az (az (az fr 29 Y) 30 (.c (.d (.int .u32 v)))) 31 (.c (.d (.int .u32 q))),kR (u.drop j) (nD (oO st n))⟩,?_,
    ⟨az (az (az (az fr 29 Y) 30 (.c (.d (.int .u32 v)))) 31 (.c (.d (.int .u32 q)))) 32 (.c (.d (.bool true))),kR (u.drop j) (nD (oO true (n*q+v)))⟩,?_,⟨az (az (az (az (az fr 29 Y) 30 (.c (.d (.int .u32 v)))) 31 (.c (.d (.int .u32 q)))) 32 (.c (.d (.bool true)))) 33 (.c (.d (.bool false))),kR (u.drop j) (nD (oO true (n*q+v)))⟩,?_,rfl⟩
   ·exact fY.plain (κ:=0) (x:=fr 0) (hd 29 (by decide)) rfl rfl trivial (by simp_all)
   ·exact fY.plain (κ:=0) (x:=fr 3) (hd 30 (by decide)) rfl rfl trivial (by simp_all)
   ·exact fY.plain (κ:=0) (x:=fr 4) (hd 31 (by decide)) rfl rfl trivial (by simp_all)
   ·exact hy (u.drop j) n st v q L _ _ _ _ (by omega) (by omega) (λh=>(h5 h).1) (by omega) h3 rfl rfl rfl rfl rfl (by simp) (by simp) (by simp)
   ·exact fY.plain (κ:=0) (x:=.c (.d (.bool false))) (hd 33 (by decide)) rfl rfl trivial rfl
  ·simp only[uF];apply hK2;refine aba (aav ?_);simp only[vQ,uF];refine⟨(u.drop j,n*q+v,true,L+1),Le.mk' _ rfl (qa _ _) (by simp_all),⟨λc hc=>h1 c (afv hc),by simp;omega,hbig,hdec,(by simp),(λ_=>hs0)⟩,by simp;omega⟩
 refine aah ?_;refine aaE ?_
 refine abr (λ(j:Nat)=>⟨aU [(0,Y),(1,.c (.ptr 0 0)),(3,.c (.d (.int .u32 (aS (u.take j) 0)))),(4,.c (.d (.int .u32 (pw j:Int)))),(5,.c (.d (.int .i64 j)))],kR (u.drop j) (nD (oO st n))⟩) 0
  (λj=>j<=9/\j<=u.length) (λj=>9-j) 0 (Le.mk' _ (by simp) (qa _ _) (by simp[hY,aS,RQ])) (by simp) ?_
 rintro j ⟨hj,hju⟩
 have hvj:aS (u.take j) 0<pw j:=by
  unfold pw;have:=oe (l:=u.take j) (λc hc=>h1 c (afK hc))
  rwa[aej,aeM hju]at this
 have hpj:=p10 hj;refine aaa λK2 hK2=>aaa λK3 hK3=>?_
 by_cases hj9:j<9
 ·have hj9':(j:Int)<9:=by omega
  by_cases hje:j=u.length
  ·subst hje;refine acT hj9 hj9' (hK3 _ _ ?_);refine aba (abn ?_);simp;have:=fin u.length;simp at this;refine this _ _ hu0 hj (by simp) (by simp) (by simp) (by simp)
  ·have hlt:j<u.length:=by omega
   obtain⟨ch,rest,hcr⟩:∃ch rest,u.drop j=ch::rest:=⟨u[j],u.drop (j+1),adT hlt⟩
   obtain⟨t1,t2,_⟩:=Hj hcr;have hch:48<=ch.toNat/\ch.toNat<=57:=h1 ch (afv (by rw[hcr];simp));have hlt':0<u.length-j:=by omega
   refine adH hj9 hj9' hlt hlt' (hK3 _ _ ?_);refine aaX (by rfl) (aav (hK2 _ _ (aaa λK2 hK2=>aaE (aaa λK3 hK3=>?_))));have hpj':=p10 (j:=j+1) (by omega);have hps:=Tl j;obtain⟨x,hx⟩:∃x,ch.toNat-48=x:=⟨_,rfl⟩
   obtain⟨v,hv⟩:∃v,aS (u.take j) 0=v:=⟨_,rfl⟩
   obtain⟨v',hv'⟩:∃v',aS (u.take (j+1)) 0=v':=⟨_,rfl⟩
   obtain⟨q',hq'⟩:∃q',pw (j+1)=q':=⟨_,rfl⟩
   have hvv:v'=10*v+x:=by rw[<-hv',t1,k5,hv,<-hx];rfl
   rw[hq']at hps hpj';rw[hv]at hvj
   have w1:IntKind.u8.wrap ((ch.toNat:Int)-48)=(x:Int):=by
    rw[cj ⟨by simp only[wG];omega,by simp only[og];omega⟩];omega
   have w2:IntKind.u32.wrap (x:Int)=(x:Int):=bN (by omega) (by omega);have w3:IntKind.u32.wrap (10*(v:Int))=10*(v:Int):=bN (by omega) (by omega);have w4:IntKind.u32.wrap (10*(v:Int)+(x:Int))=(v':Int):=by rw[bN (by omega) (by omega)];omega
   have w5:IntKind.u32.wrap (10*(pw j:Int))=(q':Int):=by rw[bN (by omega) (by omega)];omega
   have w6:IntKind.i64.wrap ((j:Int)+1)=((j+1:Nat):Int):=by rw[cj ⟨by simp only[wG];omega,by simp only[og];omega⟩];omega
   refine aar ?_;simp[hcr,hv,w1,w2,w3,w4,w5];apply hK3;refine acT hcr @ai.eq_1 (hK2 _ _ ?_);refine acO 0 ?_;refine aar ?_;simp[w6];refine⟨j+1,Le.mk' _ (by simp[t2]) (qa _ _) (by simp[hY,hv',hq']),?_,?_⟩
   ·omega
   ·omega
 ·have hj':j=9:=by omega
  subst hj';refine adl (hK3 _ _ ?_);refine aba (abn ?_)
  simp_all
end Go.Am
namespace Go.Am
open Go.Proofs Go.Am.Ty N
variable {P:Program}{G:List (List DV)}{lv:Key->LB}{F:Nat->Prop}{β:Key->Nat}{w:World}
theorem LK:Tryz.f177.body=some GV:=rfl
theorem HV(s:ByteArray)(w:World):Calls Tryz.prog 130 #[.string s] w λe w'=>e=.returned (.func (.func 177) #[] #[.pointer (some ⟨w.heap.size,0,none⟩)])/\w'=w.alloc (.cells #[.string s] 9):=by
 have hmf:∀(fn:Fn) (first cap:Array Value) (w:World),(Instr.makeFunc fn first cap).run Tryz.prog w=.ok (.func fn first cap) w:=λ_ _ _ _=>rfl
 go_enter Tryz.func130,Tryz.ntmps130
 go_wp2
 go_ret
 simp
def Wh(s:ByteArray)(w:World):World:=(w.alloc (.cells #[.slice none 0 0] 25)).alloc (.cells #[.string s] 9)
def TC(s:ByteArray)(w:World):Array Value:=#[.string s,undef,.slice none 0 0,.pointer (some ⟨w.heap.size,0,none⟩),undef,undef,.string s,.func (.func 177) #[] #[.pointer (some ⟨w.heap.size+1,0,none⟩)],undef,undef,undef,undef,undef,undef,undef,undef,undef,undef,undef,undef]
theorem Qg(s:ByteArray)(w:World)(R:Ending->World->Prop)
 (h:(Code.rangeFunc (.tmp 7) #[8,9] A8 zN).wpIn Fence.wide 0 Tryz.prog (λe a' W=>e=.normal/\∃D v,a'={ tmps:=TC s w,defers:=[{ target:=.collected D,args:=#[] }] }/\W.heap[D]?=some (.deferred (some []))/\W.cell? ⟨w.heap.size,0,none⟩=some v/\R (.returned v) (W.putObj D (.deferred none))) ⟨TC s w,[]⟩ (Wh s w)) :
 Calls Tryz.prog 77 #[.string s] w R:=by
 refine(callsIn_wide (n:=0)).1 ?_;refine callsIn_of_wp_marks Tryz.func77 rfl trivial ?_ rfl;simp only[Tryz.ntmps77,afN,aef,List.length_nil,Nat.reduceAdd,Nat.reduceSub,Array.replicate_succ,Array.replicate_zero,List.push_toArray,List.append_toArray,aeT,aeX]
 gi_wp2
 refine⟨trivial,rfl,((callsIn_wide (n:=0)).2 (HV s _)).mono ?_⟩;rintro e w' ⟨rfl,rfl⟩
 gi_wp2
 refine wpIn_mono (show(Code.rangeFunc (.tmp 7) #[8,9] A8 zN).wpIn Fence.wide 0 Tryz.prog _ _ _ from h) ?_;rintro e a' W ⟨rfl,D,v,rfl,hD,hc,hR⟩;simp only[Exit.inBlock,Exit.then]
 apply_assumption
 unfold TC
 gi_wp2
 refine⟨by simp,.inl ⟨_,_,rfl,run_takeDeferred hD,?_⟩⟩;exact⟨_,results_tmp rfl _ _ _,by simp_all⟩
theorem Mz{f:FuncId}{fn:Func}{code:Code}{args:List AV}{lv':Key->LB}{κ:Nat}(hf:P.funcs[f]?=some fn)(hb:fn.body=some code)(hl:args.length<=fn.ntmps)(hres:fn.results=#[]){vs:Array Value}(hS:di (dW P G w F β lv) F β lv w)(hvl:vs.size=args.length)(hv:∀i (h:i<args.length) (h':i<vs.size),(Vw.mk F β lv w).av vs[i] args[i])
 (h:AW { dW P G w F β lv with n:=fn.ntmps } none code ⟨λt=>args.getD t .undef,lv⟩ κ (λx s _=>x=.normal/\s.lv=lv')) :
 Calls P f vs w λe w'=>(∃v,e=.returned v)/\∃F' β',di (dW P G w F β lv) F' β' lv' w':=by
 refine calls_of_wp hf hb ?_
 let a:Act:={ tmps:=vs++Array.replicate (fn.ntmps-vs.size) undef,defers:=[] }
 have hst:aD { dW P G w F β lv with n:=fn.ntmps } F β ⟨λt=>args.getD t .undef,lv⟩ a w:=by
  refine di.with (c:={ dW P G w F β lv with n:=fn.ntmps }) hS ?_ rfl (λt=>?_)
  ·grind
  ·show(Vw.mk F β lv w).av ((vs++Array.replicate (fn.ntmps-vs.size) undef).getD t undef) (args.getD t .undef)
   by_cases ht:t<args.length
   ·have h1:args.getD t .undef=args[t]:=dP ht
    have h2:(vs++Array.replicate (fn.ntmps-vs.size) undef).getD t undef=vs[t]'(by omega):=by
     rw[ae3,agM (by omega),afd (by omega)];rfl
    grind
   ·have h1:args.getD t .undef=.undef:=gz ht
    have h2:(vs++Array.replicate (fn.ntmps-vs.size) undef).getD t undef=undef:=by
     rw[ae3,ag1 (by omega),agv];split<;>rfl
    rw[h1,h2];rfl
 have hw:=(wpIn_wide (n:=0)).1 (h F β a w hst);refine wp_mono hw λe a' w' hp=>?_;obtain⟨e',s',κ',F',β',⟨rfl,hq⟩,hs',he⟩:=hp
 cases he
 exact⟨hs'.defers,.tuple #[],by simp[results,hres],⟨_,rfl⟩,F',β',hq▸hs'.uD⟩
theorem qd(u:List UInt8)(d:DV):cD (kR u d):=by
 intro k;rcases NQ u d k with h|⟨T,cs,h⟩<;>rw[h]<;>rfl
theorem N2(s:List UInt8)(d:DV):az (az (az (az (λ_=>LB.hole) 1 (.cells true false 25 [.d d])) 1 (.cells false false 25 [.d d])) 0 (.cells true false 9 [.d (.str s)])) 0 (.cells false false 9 [.d (.str s)])=kR s d:=by
 funext k;unfold kR az
 grind
theorem Od{s:List UInt8}(hlv:lv=λ_=>.hole)(hS:di (dW P G w F β lv) F β lv w)(hs:s.length<=9223372036854775807):
 ∃β2:Key->Nat,di (dW P G w F β lv) F β2 (kR s .nilsl) (Wh ⟨s.toArray⟩ w)/\β2 1=w.heap.size/\β2 0=w.heap.size+1:=by
 subst hlv
 have h1:=aD.alloc (κ:=1) hS rfl (arr:=#[.slice none 0 0]) 25 (cs:=[.d .nilsl]) (by simp) (λi p q=>by
  have:i=0:=by simp at p;omega
  subst this;exact⟨.nilsl,rfl⟩)
 have h2:=h1.om (k:=1) (T:=25) (cs:=[.d .nilsl]) false (by rfl)
 have h3:=aD.alloc (κ:=0) h2 (by simp[az]) (arr:=#[.string ⟨s.toArray⟩]) 9 (cs:=[.d (.str s)]) (by simp) (λi p q=>by
  have:i=0:=by simp at p;omega
  subst this;refine⟨?_,rfl⟩;have:=Rd.str (M:=(Vw.mk F (az β 1 w.heap.size) (az (az (λ_=>LB.hole) 1 (.cells true false 25 [.d .nilsl])) 1 (.cells false false 25 [.d .nilsl])) (w.alloc (.cells #[.slice none 0 0] 25))).mem) ⟨s.toArray⟩ (by omega)
  grind)
 have h4:=h3.om (k:=0) (T:=9) (cs:=[.d (.str s)]) false (by rfl);refine⟨az (az β 1 w.heap.size) 0 (w.alloc (.cells #[.slice none 0 0] 25)).heap.size,?_,?_,?_⟩
 ·have:=h4.uD;rw[<-N2 s .nilsl];exact this
 ·simp[az]
 simp
theorem rM(G:List (List DV))(s:List UInt8)(hD:wL s)(hlen:s.length<=1000000000):aa Tryz.prog G 77 [.c (.d (.str s))] (nK .u32 (oO (!s.isEmpty) (aS s 0))):=by
 intro F β w vs hS hl hv;have hlv:bL [] []=λ_=>LB.hole:=gU
 obtain⟨u,rfl,hu⟩:=args1 hl hv;rw[Vw.kB hu];obtain⟨β2,hS2,e1,e0⟩:=Od hlv hS (s:=s) (by omega);refine Qg _ w _ ?_;refine wpIn_rangeFunc ?_;intro fn hfn;obtain⟨rec,hrec⟩:∃rec:Loop,rec={ state:=.ready,pending:=none,fn,tmps:=TC ⟨s.toArray⟩ w,params:=#[8,9],assign:=A8,body:=zN,defers:=(Wh ⟨s.toArray⟩ w).heap.size }:=⟨_,rfl⟩
 have hsz:(Wh ⟨s.toArray⟩ w).heap.size=w.heap.size+2:=by simp[Wh]
 obtain⟨w1,hw1⟩:∃w1,((Wh ⟨s.toArray⟩ w).alloc (.deferred (some []))).alloc (.loop rec)=w1:=⟨_,rfl⟩
 have hD1:w1.heap[w.heap.size+2]?=some (.deferred (some [])):=by
  rw[<-hw1,heap_alloc,if_neg (by simp[hsz]),heap_alloc,if_pos hsz.symm]
 have hL1:w1.heap[w.heap.size+3]?=some (.loop rec):=by
  rw[<-hw1,heap_alloc,if_pos (by simp[hsz])]
 have hw1s:w1.heap.size=w.heap.size+4:=by rw[<-hw1];simp[hsz]
 have hS3:di (dW Tryz.prog G w F β (bL [] [])) F β2 (kR s .nilsl) w1:=by
  rw[<-hw1];exact(hS2.FX _).FX _
 have hS4:di (dW Tryz.prog G w1 F β2 (kR s .nilsl)) F β2 (kR s .nilsl) w1:=aD.yV hS3 (qd _ _);have hFw:∀b,F b->b<w.heap.size:=λb hb=>(hS.ox b hb).1
 have hnot:∀b,w.heap.size+2<=b->∀k,(kR s .nilsl k).live=true->β2 k≠b:=by
  intro b hb k hk he
  by_cases h1:k=1
  ·grind
  ·by_cases h0:k=0
   ·grind
   ·rw[show kR s .nilsl k=.hole by unfold kR az;grind]at hk;cases hk
 refine⟨w.heap.size+3,[{ target:=.collected (w.heap.size+2),args:=#[] }],w1,{ target:=.fn (.func 177) #[.pointer (some ⟨w.heap.size+1,0,none⟩)],args:=#[.func (.yield (w.heap.size+3)) #[] #[]] },w1,177,
  #[.func (.yield (w.heap.size+3)) #[] #[]]++#[.pointer (some ⟨w.heap.size+1,0,none⟩)],w1,?_,?_,λ_ _=>trivial,?_,(λh=>by simp[Fence.wide]at h),?_⟩
 ·have:=run_enterLoop_outer (P:=Tryz.prog) (w:=Wh ⟨s.toArray⟩ w) fn (TC ⟨s.toArray⟩ w) #[8,9] A8 zN
  simp_all
 ·have hg:(Act.eval ⟨TC ⟨s.toArray⟩ w,[]⟩ (.tmp 7))=.func (.func 177) #[] #[.pointer (some ⟨w.heap.size+1,0,none⟩)]:=rfl;simp only[resolve,hg];simp[go_sem]
 ·have:=nE (P:=Tryz.prog) (f:=177) (by kernel_rfl) (#[.func (.yield (w.heap.size+3)) #[] #[]]++#[.pointer (some ⟨w.heap.size+1,0,none⟩)]) w1;simpa[invoke,go_sem]using this
 ·refine(callsIn_wide (n:=0)).2 ?_
  let Y:AV:=.c (.d (.func (.yield (w.heap.size+3)) [] []))
  have hit:=Mz (κ:=0) (lv':=kR [] (nD (oO (!s.isEmpty) (aS s 0)))) (args:=[Y,.c (.ptr 0 0)]) (vs:=#[.func (.yield (w.heap.size+3)) #[] #[]]++#[.pointer (some ⟨w.heap.size+1,0,none⟩)]) Tryz.func177 LK (by simp) rfl hS4 rfl (λi p q=>by
   have:i=0\/i=1:=by simp at p;omega
   rcases this with rfl|rfl
   ·exact⟨.func _ _ _ _ _ rfl rfl (λi h=>absurd h (aft i)) (λi h=>absurd h (aft i)),rfl⟩
   ·refine⟨?_,rfl⟩;simp only[Vw.dn,YE,e0];rfl) (TF G s hD hlen Y rfl _ rfl rfl rfl ?_)
  ·refine hit.mono λe w3 he=>?_;obtain⟨⟨v,rfl⟩,F3,β3,hX⟩:=he;have hold:∀b,w.heap.size+2<=b->b<w1.heap.size->w3.heap[b]?=w1.heap[b]?:=λb h1 h2=>hX.old b h2 (λ⟨k,hk,he⟩=>hnot b h1 k hk he)
   have hL3:w3.heap[w.heap.size+3]?=some (.loop rec):=(hold _ (by omega) (by omega)).trans hL1;have hD3:w3.heap[w.heap.size+2]?=some (.deferred (some [])):=(hold _ (by omega) (by omega)).trans hD1
   have hF3:∀b,w.heap.size+2<=b->b<w1.heap.size->¬F3 b:=by
    intro b h1 h2 hb;rcases(hX.ox _ hb).2 with h|h
    ·have:=hFw _ h;omega
    ·have:w1.heap.size<=b:=h;omega
   have hlv3:∀b,w.heap.size+2<=b->b<w1.heap.size->∀k,(kR [] (nD (oO (!s.isEmpty) (aS s 0))) k).live=true->β3 k≠b:=by
    intro b h1 h2 k hk he;rcases hX.ga (k:=k) hk with h|⟨j,hj,hj2⟩
    ·have:w1.heap.size<=β3 k:=h;omega
    ·grind
   have hc1:β3 1=w.heap.size:=by
    have h0:kR s DV.nilsl 1≠.hole:=by simp
    rcases hX.keep 1 h0 with h|⟨h,_⟩
    ·simp at h
    ·rw[h];exact e1
   have q1:aD { dW Tryz.prog G w F β (bL [] [])with n:=0 } F3 β3 ⟨λ_=>.junk,kR [] (nD (oO (!s.isEmpty) (aS s 0)))⟩ ⟨#[],[]⟩ w3:=hS3.Fy hX;have q2:=q1.Cq (.loop { rec with state:=.exhausted }) hL3 (λ_ _ _ h=>by cases h) (hF3 _ (by omega) (by omega)) (hlv3 _ (by omega) (by omega)) (.inl (by show w.heap.size<=_;omega));have hD4:(w3.putObj (w.heap.size+3) (.loop { rec with state:=.exhausted })).heap[w.heap.size+2]?=some (.deferred (some [])):=(agW (by omega)).trans hD3;have q3:=q2.Cq (.deferred none) hD4 (λ_ _ _ h=>by cases h) (hF3 _ (by omega) (by omega)) (hlv3 _ (by omega) (by omega)) (.inl (by show w.heap.size<=_;omega));have hb:=q2.bK 1;unfold Vw.bK at hb;simp only[Uj]at hb;obtain⟨arr,b1,b2,b3,_⟩:=hb;have hpos:0<arr.size:=by simp at b2;omega
   have h0:=b3 0 (by simp) hpos;simp only[aeQ]at h0;refine⟨none,w3.putObj (w.heap.size+3) (.loop { rec with state:=.exhausted }),?_,rfl,w.heap.size+2,arr[0],rfl,hD4,?_,arr[0],F3,β3,rfl,?_,?_⟩
   ·have:=run_endLoop (P:=Tryz.prog) hL3 (by grind)
    grind
   ·rw[hc1]at b1;simp only[World.cell?]
    grind
   ·refine⟨λk=>?_,λk k' h=>?_,λ_=>trivial,rfl,rfl,q3.ox,q3.F0,q3.old,q3.ge,q3.qP,λk h=>?_,q3.IQ,q3.Ey⟩
    ·unfold Vw.bK;grind
    ·rw[hlv]at h;cases h
    ·exact absurd (by rw[hlv];rfl) h
   ·have hR:∀x,(Vw.mk F3 β3 (kR [] (nD (oO (!s.isEmpty) (aS s 0)))) (w3.putObj (w.heap.size+3) (.loop { rec with state:=.exhausted }))).cv arr[0] (.d x)->(Vw.mk F3 β3 (bL [] []) ((w3.putObj (w.heap.size+3) (.loop { rec with state:=.exhausted })).putObj (w.heap.size+2) (.deferred none))).av arr[0] (.c (.d x)):=by
     rintro x ⟨g1,g2⟩;refine⟨Rd.mono (gT (λ_ h=>h) (λb hb=>?_)) g1,g2⟩;refine agW (λe=>?_);subst e;exact hF3 _ (by omega) (by omega) hb
    rw[<-Uu]
    grind
  ·intro u n st v sz L fr ops o cl hv hz hst hL hn hdst hg ho hcal hargs f29 f30 f31;rw[<-hdst];refine fY.yield (xs:=[.c (.d (.int .u32 v)),.c (.d (.int .u32 sz))]) (λd hd=>?_) hg ho hcal f29 (by simp_all) (by grind) hL1 (λk hk=>hnot _ (by omega) k hk) (qd _ _) ?_
   ·rw[hdst]at hd;cases hd;simp
   intro F' β' w' vs' hX hXe hl' hvs hav;obtain⟨x,y,rfl,hx,hy⟩:=args2 hvs hav;have ht:(rec.params.zip #[x,y]).foldl (λtmps (t,a)=>tmps.setIfInBounds t a) rec.tmps=((TC ⟨s.toArray⟩ w).setIfInBounds 8 x).setIfInBounds 9 y:=by rw[hrec];simp only[List.zip_toArray,List.zip_cons_cons,List.zip_nil_right,List.foldl_toArray,afO,List.foldl_nil]
   rw[ht]
   have hb1:β' 1=w.heap.size:=by
    have h0:kR s DV.nilsl 1≠.hole:=by simp
    rcases hX.keep 1 h0 with h|⟨h,_⟩
    ·simp at h
    ·rw[h];exact e1
   have hFl:¬F' (w.heap.size+3):=by
    intro hb;rcases(hX.ox _ hb).2 with h|h
    ·have:=hFw _ h;omega
    ·have:w1.heap.size<=w.heap.size+3:=h;omega
   let fr0:Nat->AV:=λt=>if t=3 then .c (.ptr 1 0)else if t=8 then .c (.d (.int .u32 v))else if t=9 then .c (.d (.int .u32 sz))else .junk
   have hval:val 4294967296 (dO (oO st n))=n:=by
    cases st with
    |false=>have:=hst rfl;subst this;rfl
    |true=>exact bn (by decide) n
   have hlenO:(dO (oO st n)).length<=L:=by
    cases st with
    |false=>simp[oO,dO]
    |true=>exact bS (by decide) hn
   refine Eb (lv1:=kR u (nD (oO st n))) (n:=20) (κ:=0) (fr:=fr0) (fr2:=az (az fr0 4 (.c (.d (.int .u32 v)))) 5 (.c (.d (.int .u32 sz)))) hXe (qd _ _) (qd _ _) hl' (by rw[hrec]) (by rw[hrec]) (by simp[TC]) (λt=>?_) hFl ?_ ?_
   ·show(Vw.mk F' β' _ w').av _ (if t=3 then .c (.ptr 1 0)else if t=8 then .c (.d (.int .u32 v))else if t=9 then .c (.d (.int .u32 sz))else .junk)
    by_cases h3:t=3
    ·subst h3;simp only[if_true];have:(((TC ⟨s.toArray⟩ w).setIfInBounds 8 x).setIfInBounds 9 y).getD 3 undef=.pointer (some ⟨w.heap.size,0,none⟩):=rfl;rw[this];refine⟨?_,rfl⟩;simp only[Vw.dn,Uj,hb1]
    ·by_cases h8:t=8
     ·subst h8;exact hx
     ·by_cases h9:t=9
      ·subst h9;exact hy
      ·simp only[h3,h8,h9,if_false];trivial
   ·intro c hP hG hn' _;rw[hrec];exact P5 G v sz _ _ fr0 rfl rfl c hP hG hn'
   ·intro c hP hG hn' _;rw[hrec];have:=LG G v sz hv hz (oO st n) (nD (oO st n)) (Uu _) (by omega) L (by omega) (by omega) u (some (w.heap.size+3)) (az (az fr0 4 (.c (.d (.int .u32 v)))) 5 (.c (.d (.int .u32 sz)))) (by rfl) (by simp[az]) (by simp[az]) c hP hG hn';rw[hval]at this;exact this
end Go.Am
namespace Go.Am
open Go.Proofs N
variable {x:AV}{V V':Vw}{v:Value}{us:List AV}
theorem wu(hm:∀a v,V.mem a v->V'.mem a v){x:CV}(hx:x.pure=true)(h:V.cv v x):V'.cv v x:=by
 cases x with
 |d x=>exact⟨Rd.mono hm h.1,h.2⟩
 |junk=>exact h
 |_=>cases hx
theorem nW(hm:∀a v,V.mem a v->V'.mem a v)(hx:x.kX=true)(h:V.oq v x):V'.oq v x:=by
 cases x with
 |c x=>exact wu hm hx h
 |agg cs=>
  obtain⟨arr,h1,h2,h3⟩:=h;refine⟨arr,h1,h2,λi p q=>wu hm ?_ (h3 i p q)⟩;simp only[AV.kX,adV]at hx
  grind
 |tup l=>exact h.elim
 |undef=>exact h
 |junk=>trivial
theorem vY(hm:∀a v,V.mem a v->V'.mem a v)(hx:x.pure=true)(h:V.av v x):V'.av v x:=by
 cases x with
 |tup l=>
  obtain⟨arr,h1,h2,h3⟩:=h;refine⟨arr,h1,h2,λi p q=>nW hm ?_ (h3 i p q)⟩;simp only[AV.pure,adV]at hx
  grind
 |c x=>
  have hx':(AV.c x).kX=true:=hx;exact nW (x:=.c x) hm hx' h
 |agg cs=>
  have hx':(AV.agg cs).kX=true:=hx;exact nW (x:=.agg cs) hm hx' h
 |undef=>exact h
 |junk=>trivial
theorem aW.cU{P:Program}{G:List (List DV)}{f:FuncId}{lv:Key->LB}(hus:∀u∈us,u.pure=true)(hx:x.pure=true)(h:aa P G f us x):aW P G f us lv (.ret x lv):=by
 intro F β w vs hS hl hv;have hlv:bL [] []=λ_=>LB.hole:=gU
 have hS0:di (dW P G w F β (bL [] [])) F β (bL [] []) w:=by
  rw[hlv];exact⟨λk=>trivial,λk k' h=>(by cases h),λ_=>trivial,rfl,rfl,λb hb=>⟨(hS.ox b hb).1,.inl hb⟩,λ_ hb=>hb,λ_ _ _=>rfl,bh _,hS.qP,λk hk=>absurd rfl hk,λ_=>bh _,⟨rfl,rfl⟩⟩
 refine(h F β w vs hS0 hl (λi p q=>vY (V:=Vw.mk F β lv w) (V':=Vw.mk F β (bL [] []) w) (λ_ _ h=>h) (hus _ (aT p)) (hv i p q))).mono λe w' he=>?_;obtain⟨v,F',β',rfl,hX,hav⟩:=he
 have hold:∀b,b<w.heap.size->w'.heap[b]?=w.heap[b]?:=λb hb=>hX.old b hb (by
  rintro⟨k,hk,_⟩;rw[hlv]at hk;cases hk)
 have hFl:∀b,F' b->F b\/w.heap.size<=b:=λb hb=>(hX.ox b hb).2
 refine⟨v,F',β,rfl,?_,vY (V:=Vw.mk F' β' (bL [] []) w') (V':=Vw.mk F' β lv w') (λ_ _ h=>h) hx hav⟩;refine aD.step (hoo:=hX.Ey) (c:={ dW P G w F β lv with n:=0 }) (s:=⟨λ_=>.junk,lv⟩) hS hX.F0 (λb hb=>hold b (hS.ox b hb).1) (λk=>LB.bE _) (λ_ _ _=>rfl) hX.IQ ?_ hS.inj (λb hb=>(hFl b hb).imp id λh=>⟨(hX.ox b hb).1,h⟩) hX.ge (λb hb _=>hold b hb);intro k hK;have hb:=hS.bK k
 have key:(lv k).live=true->(Vw.mk F' β lv w').bK { dW P G w F β lv with n:=0 } k:=λhl=>
  Vw.bJ hb hK rfl rfl (hold _ (hS.iD hl)) (λ_ hf=>by
   rcases hFl _ hf with h|h
   ·exact h
   ·have:=hS.iD (k:=k) hl
    grind)
 cases e:lv k with
 |cells own fz T cs=>
  cases fz with
  |false=>exact key (by rw[e];rfl)
  |true=>
   unfold Vw.bK at hb ⊢;simp only[e]at hb ⊢;obtain⟨arr,b1,b2,b3,b4,b5⟩:=hb;simp only[if_true]at b4 ⊢;exact⟨arr,by grind,b2,λi p q=>hK.cv (b3 i p q),hX.F0 _ b4,b5⟩
 |map own es=>exact key (by rw[e];rfl)
 |hole=>unfold Vw.bK;grind
 |dead=>unfold Vw.bK;grind
 |nils=>unfold Vw.bK;grind
noncomputable def fU(f:Nat)(x:Spec)(t:Tb Spec):Tb Spec:=t.set .body x (pathOf f)
theorem k8(f j:Nat)(x:Spec)(t:Tb Spec):(fU f x t).get .body (pathOf j)=if j=f then x else t.get .body (pathOf j):=by
 have:Decidable (pathOf j=pathOf f):=Classical.propDecidable _;unfold fU;rw[Tb.CP]
 by_cases e:j=f
 ·grind
 ·rw[if_neg e,if_neg (λh=>e (sR h))]
def PY:List UInt8->Bool
 |[]=>true
 |c::l=>(Nat.ble 48 c.toNat&&Nat.ble c.toNat 57)&&PY l
theorem Gd:∀{l:List UInt8},PY l=true->wL l
 |[],_=>λc hc=>by cases hc
 |c::l,h=>by
  simp only[PY,rP]at h;intro d hd;rcases List.mem_cons.1 hd with rfl|hd
  ·simp_all
  ·exact Gd h.2 d hd
def AO:List AV->Option AV
 |[.c (.d (.str s))]=>bif PY s&&Nat.ble s.length 1000000000 then some (nK .u32 (oO (!s.isEmpty) (aS s 0)))else none
 |_=>none
theorem FW(m:Int)(h:AO us=some x)(lv:Key->LB):aW Tryz.prog (GG m) 77 us lv (.ret x lv):=by
 unfold AO at h;split at h
 ·rename_i s
  cases hb:PY s&&Nat.ble s.length 1000000000 with
  |false=>rw[hb]at h;cases h
  |true=>
   rw[hb]at h;simp only[cond_true,ah]at h;subst h;simp only[rP]at hb;exact aW.cU (λu hu=>by simp_all) (by simp) (rM (GG m) s (Gd hb.1) (ad1 hb.2))
 ·cases h
noncomputable def ZO:Tb Spec:=fU 141 (.self Q0) (fU 169 (.pure Db) (fU 208 (.pure xJ) (fU 77 (.pure AO) .leaf)))
theorem qg(f:Nat):ZO.get .body (pathOf f)=if f=141 then .self Q0 else if f=169 then .pure Db else if f=208 then .pure xJ else if f=77 then .pure AO else .body:=by
 unfold ZO;simp only[k8,Tb.eI]
theorem N5(m:Int):mK Tryz.prog (GG m) ZO 0 where
 pure:=by
  intro f g us x h hg lv ho;rw[qg]at h;split at h
  ·cases h
  split at h
  ·rename_i e;subst e;cases h;exact Lr m hg lv
  split at h
  ·rename_i e;subst e;cases h;exact He m hg lv
  split at h
  ·rename_i e;subst e;cases h;exact FW m hg lv
  ·cases h
 xm:=by
  intro f h;rw[qg]at h
  repeat (split at h;· cases h)
  cases h
 xx:=by
  intro f h;rw[qg]at h
  repeat (split at h;· cases h)
  cases h
 JK:=by
  intro f g h lv k off T cs r ho hok hk hc;rw[qg]at h;split at h
  ·rename_i e;subst e;cases h;exact yX m lv k off T cs r hok hk hc
  ·repeat (split at h;· cases h)
   cases h
 live:=by
  intro f g us lv x h;rw[qg]at h
  repeat (split at h;· cases h)
  cases h
 JZ:=by
  intro f g h lv k off T cs r ho hok hk hc;rw[qg]at h;split at h
  ·rename_i e;subst e;cases h;exact Bn m lv k off T cs r hk hc
  ·repeat (split at h;· cases h)
   cases h
theorem gx(m:Int)(n:Nat):kg Tryz.prog (GG m) (RD Tryz.prog (GG m) ZO 0 n):=CG mixed (N5 m) n
end Go.Am
namespace Go.Am
open Go.Proofs
variable {ks:List Key}{x y X':AV}{lv lv':Key->LB}{v:Value}{P:Program}{G:List (List DV)}{f:FuncId}{us:List AV}
def dI(lv:Key->LB):AV->Option (AV×List Key)
 |.tup l=>(j9 lv l).map λp=>(.tup p.1,p.2)
 |x=>eZ lv x
theorem Bw(h:dI lv x=some (y,ks)):∀k∈ks,∃own fz T cs,lv k=.cells own fz T cs:=by
 cases x with
 |tup l=>
  simp only[dI,aek]at h;obtain⟨⟨ys,ks'⟩,h1,h2⟩:=h;simp only[M1]at h2;obtain⟨rfl,rfl⟩:=h2;exact rW h1
 |c x=>exact u9 (x:=.c x) h
 |agg x=>exact u9 (x:=.agg x) h
 |undef=>cases h
 |junk=>cases h
theorem Pv{V:Vw}(h:eZ lv x=some (y,ks))(hv:V.av v y):V.oq v y:=by
 cases x with
 |c x=>
  simp only[eZ,aek]at h;obtain⟨p,_,h2⟩:=h;simp only[M1]at h2;obtain⟨rfl,rfl⟩:=h2;exact hv
 |agg cs=>
  simp only[eZ,aek]at h;obtain⟨p,_,h2⟩:=h;simp only[M1]at h2;obtain⟨rfl,rfl⟩:=h2;exact hv
 |_=>cases h
theorem di.dI{c:Ctx}{F Fz:Nat->Prop}{β:Key->Nat}{s:aB}{w:World}(h:di c F β s.lv w)(hF:∀b,F b->Fz b){β':Key->Nat}(ht:Am.dI s.lv x=some (y,ks))
 (hk:∀k∈ks,Fz (β k)) (hv:(Vw.mk F β s.lv w).av v x):(Vw.mk Fz β' lv' w).av v y:=by
 cases x with
 |tup l=>
  simp only[Am.dI,aek]at ht;obtain⟨⟨ys,ks'⟩,h1,h2⟩:=ht;simp only[M1]at h2;obtain⟨rfl,rfl⟩:=h2;obtain⟨g1,g2⟩:=vh h1;obtain⟨arr,a1,a2,a3⟩:=hv;refine⟨arr,a1,by omega,λi p q=>?_⟩;obtain⟨k,h3,h4⟩:=g2 i p (by omega)
  have hx:(Vw.mk F β s.lv w).av arr[i] (l[i]'(by omega)):=by
   have:=a3 i (by omega) q;generalize l[i]'(by omega)=z at this h3
   cases z with
   |tup l=>cases h3
   |_=>exact this
  exact Pv h3 (h.eZ hF h3 (λk' hk'=>hk k' (h4 k' hk')) hx)
 |c x=>exact h.eZ (x:=.c x) hF ht hk hv
 |agg cs=>exact h.eZ (x:=.agg cs) hF ht hk hv
 |undef=>cases ht
 |junk=>cases ht
theorem aa.DG{X:AV}(h:aW P G f us (λ_=>.hole) (.ret X lv'))(hd:dI lv' X=some (X',ks)):aa P G f us X':=by
 intro F β w vs hS hl hv;have hlv:bL [] []=λ_=>LB.hole:=gU
 rw[hlv]at hS hv;refine(h F β w vs hS hl hv).mono λe w' he=>?_;obtain⟨v,F',β',rfl,hX,hav⟩:=he;have hFz:∀b,F' b->(F' b\/∃k∈ks,b=β' k):=λb hb=>.inl hb
 refine⟨v,λb=>F' b\/∃k∈ks,b=β' k,β',rfl,?_,?_⟩
 ·rw[hlv];refine⟨λk=>trivial,λk k' h=>(by cases h),λ_=>trivial,rfl,rfl,λb hb=>?_,λb hb=>.inl (hX.F0 b hb),λb hb hW=>hX.old b hb (by omega),hX.ge,λg cs hg=>Rd.mono (gT hFz (λ_ _=>rfl)) (hX.qP g cs hg),λk hk=>absurd rfl hk,hX.IQ,hX.Ey⟩;rcases hb with hb|⟨k,hk,rfl⟩
  ·exact hX.ox b hb
  ·obtain⟨own,fz,T,cs',e⟩:=Bw hd k hk;have hlt:β' k<w'.heap.size:=aD.um hX e
   cases fz with
   |false=>
    refine⟨hlt,?_⟩;rcases hX.ga (k:=k) (by show(lv' k).live=true;rw[e];rfl)with h1|⟨j,hj,_⟩
    ·omega
    ·cases hj
   |true=>
    have hb:=hX.bK k;unfold Vw.bK at hb;simp only[e]at hb;obtain⟨arr,b1,b2,b3,b4,b5⟩:=hb;simp only[if_true]at b4;exact hX.ox _ b4
 ·exact di.dI (s:=⟨λ_=>.junk,lv'⟩) hX hFz hd (λk hk=>.inr ⟨k,hk,rfl⟩) hav
noncomputable def Bj:IB:=λx lv nx lg=>.done x lv nx []
noncomputable def Wd(r:dm):Option AV:=
 dm.rec (motive:=λ_=>Option AV) (λ_ _=>none) (λx lv _ _=>(dI (bf lv) x).map (·.1)) (λ_ _ _ _=>none) r
theorem aa.gM{ev:eJ}(hc:kg P G ev)(h:Wd (ev f us .leaf 0 [] Bj .uR)=some X'):aa P G f us X':=by
 have h0:cD (bf .leaf):=λk=>by simp[bf,Tb.eI,LB.okB]
 have e0:bf .leaf=λ_=>LB.hole:=by funext k;simp[bf,Tb.eI]
 generalize hr:ev f us .leaf 0 [] Bj .uR=r at h
 cases r with
 |bad n o=>cases h
 |uR d lv nx lg=>cases h
 |done X LV nx lg=>
  rcases hc f us .leaf 0 [] Bj .uR _ hr (λn o h=>by cases h) h0 with⟨x,lv',nx',l,q1,q2,_⟩|⟨d,lv',nx',l,q1,_⟩
  ·simp only[Bj,dm.done.injEq]at q1;obtain⟨rfl,rfl,_,_⟩:=q1;rw[e0]at q2;have h1:(dI (bf lv') x).map (·.1)=some X':=h;obtain⟨⟨y,ks⟩,h2,h3⟩:=Option.map_eq_some_iff.1 h1;simp only at h3;subst h3;exact aa.DG q2 h2
  grind
end Go.Am
namespace Go.Am
variable {fn:Func}{x:AV}{P:Program}{G:List (List DV)}{f:FuncId}{code:Code}{args:List AV}
def aM(c:Ctx)(fn:Func)(x:AV):Ex->aB->Nat->Prop
 |.normal,s,_|.ret,s,_=>eE c.P s fn.results.toList=some x
 |_,_,_=>False
def gG(c:Ctx)(fn:Func)(x:AV):Ex->aB->Nat->Prop
 |.normal,s,_|.ret,s,_=>∃X ks,eE c.P s fn.results.toList=some X/\dI s.lv X=some (x,ks)
 |_,_,_=>False
theorem aa.H9(hf:P.funcs[f]?=some fn)(hb:fn.body=some code)(hl:args.length<=fn.ntmps)
 (h:∀c:Ctx,c.P=P->c.G=G->c.n=fn.ntmps->c.iN=(λ_=>.hole)->AW c none code ⟨λt=>args.getD t .undef,λ_=>.hole⟩ 0 (gG c fn x)):aa P G f args x:=by
 intro F β w vs hS hvl hv;have hlv:bL [] []=λ_=>LB.hole:=gU
 rw[hlv]at hS hv;refine yT hf hb hl hS hvl hv (h _ rfl rfl rfl rfl) (λe s κ hq=>by cases e<;>first|exact .inl rfl|exact .inr rfl|exact hq.elim) λe s' κ F' β' a' w' hq hX0=>?_;obtain⟨X,ks,h0,hd⟩:∃X ks,eE P s' fn.results.toList=some X/\dI s'.lv X=some (x,ks):=by cases e<;>first|exact hq|exact hq.elim
 obtain⟨v,h4,hav⟩:=uh hX0 h0;have hX:di (dW P G w F β (λ_=>.hole)) F' β' s'.lv w':=hX0.uD;have hFz:∀b,F' b->(F' b\/∃k∈ks,b=β' k):=λb hb=>.inl hb
 refine⟨hX0.defers,v,h4,v,λb=>F' b\/∃k∈ks,b=β' k,β',rfl,?_,?_⟩
 ·rw[hlv];refine⟨λk=>trivial,λk k' h=>(by cases h),λ_=>trivial,rfl,rfl,λb hb=>?_,λb hb=>.inl (hX.F0 b hb),λb hb hW=>hX.old b hb (by omega),hX.ge,λg cs hg=>Rd.mono (gT hFz (λ_ _=>rfl)) (hX.qP g cs hg),λk hk=>absurd rfl hk,hX.IQ,hX.Ey⟩;rcases hb with hb|⟨k,hk,rfl⟩
  ·exact hX.ox b hb
  ·obtain⟨own,fz,T,cs',e⟩:=Bw hd k hk;have hlt:β' k<w'.heap.size:=aD.um hX e
   cases fz with
   |false=>
    refine⟨hlt,?_⟩;rcases hX.ga (k:=k) (by show(s'.lv k).live=true;rw[e];rfl)with h1|⟨j,hj,_⟩
    ·omega
    ·cases hj
   |true=>
    have hb:=hX.bK k;unfold Vw.bK at hb;simp only[e]at hb;obtain⟨arr,b1,b2,b3,b4,b5⟩:=hb;simp only[if_true]at b4;exact hX.ox _ b4
 ·rw[hlv];exact di.dI (s:=⟨λ_=>.junk,s'.lv⟩) hX hFz hd (λk hk=>.inr ⟨k,hk,rfl⟩) hav
theorem aM.d{c:Ctx}{e:Ex}{s:aB}{κ:Nat}(hx:dI s.lv x=some (x,[]))(h:aM c fn x e s κ):gG c fn x e s κ:=by
 cases e<;>first|exact⟨x,[],h,hx⟩|exact h.elim
theorem aa.Wf(hf:P.funcs[f]?=some fn)(hb:fn.body=some code)(hl:args.length<=fn.ntmps)
 (hx:∀lv,dI lv x=some (x,[]))
 (h:∀c:Ctx,c.P=P->c.G=G->c.n=fn.ntmps->AW c none code ⟨λt=>args.getD t .undef,λ_=>.hole⟩ 0 (aM c fn x)):aa P G f args x:=
 aa.H9 hf hb hl λc h1 h2 h3 _=>(h c h1 h2 h3).mono λe s κ hq=>aM.d (hx _) hq
theorem aa.enc(hf:P.funcs[f]?=some fn)(hb:fn.body=some code)(hx:∀lv,dI lv x=some (x,[]))
 (h:∀z:Ev,AW ⟨P,G,z.w,z.F,z.W,fn.ntmps,z.q,z.b,z.d⟩ none code ⟨λt=>args.getD t .undef,λ_=>.hole⟩ 0 (aM ⟨P,G,z.w,z.F,z.W,fn.ntmps,z.q,z.b,z.d⟩ fn x)) (hl:Nat.ble args.length fn.ntmps=true:=by kernel_rfl):aa P G f args x:=
 aa.Wf hf hb (ad1 hl) hx λ⟨_,_,w,F,W,_,q,b,d⟩ h1 h2 h3=>by cases h1;cases h2;cases h3;exact h ⟨w,F,W,q,b,d⟩
end Go.Am
namespace Go.Am
open Go.Am.Ty Go.Proofs N
variable {c:Ctx}{fn:Func}{x:AV}{t k off κ:Nat}{T U:TypeId}{own fz:Bool}{cs:List CV}{s:aB}
def nC:Option (List Nat)->CV
 |none=>.d .nilsl
 |some l=>.d (.sl (dK .u32 l))
theorem gy(o:Option (List Nat)):nK .u32 o=.c (nC o):=by cases o<;>rfl
@[simp]theorem cg(lv:Key->LB)(b:Bool)(p q:Option (List Nat)):dI lv (.agg [.d (.bool b),nC p,nC q])=some (.agg [.d (.bool b),nC p,nC q],[]):=by
 cases p<;>cases q<;>rfl
@[simp]theorem aaW(o:Option (List Nat)):(nC o).pure=true:=by cases o<;>rfl
@[simp]theorem ZN(o:Option (List Nat)):(AV.c (nC o)).bX=true:=by cases o<;>rfl
@[simp]theorem Z3(o:Option (List Nat)):(AV.c (nC o)).pure=true:=by cases o<;>rfl
theorem aM.cell(hr:fn.results=#[.cell t T])(ht:s.fr t=.c (.ptr k off))(hk:s.lv k=.cells own fz U cs)
 (hx:gA c.P T (cs.drop off)=some x):aM c fn x .ret s κ:=by
 show eE c.P s fn.results.toList=some x;rw[hr];simp[eE,kZ,mN,ht,hk,hx]
theorem aM.rN{y:AV}{u:Nat}(hr:fn.results=#[.cell t T,.tmp u])(ht:s.fr t=.c (.ptr k off))(hk:s.lv k=.cells own fz U cs)
 (hx:gA c.P T (cs.drop off)=some x) (hy:s.fr u=y) (hn:x.bZ=true) (hm:y.bZ=true):aM c fn (.tup [x,y]) .ret s κ:=by
 show eE c.P s fn.results.toList=some _;rw[hr];simp[eE,kZ,mN,ht,hk,hx,hy,hn,hm]
attribute [local irreducible] aM
theorem AX:eS Tryz.prog 27 [] []=some (.agg [.d (.bool false),.d .nilsl,.d .nilsl],[],[],True):=by kernel_rfl
theorem HH(b p q:CV):eS Tryz.prog 27 [0,1,2] [.c b,.c p,.c q]=some (.agg [b,p,q],[],[],True):=by kernel_rfl
theorem ql(b p q:CV):gA Tryz.prog 27 [b,p,q]=some (.agg [b,p,q]):=by kernel_rfl
abbrev pY(neg:Bool)(p q:Option (List Nat)):AV:=.agg [.d (.bool neg),nC p,nC q]
def gO(p q:Option (List Nat)):Option (List Nat):=jM p q (val 4294967296 (dO q))
def mP(p q:Option (List Nat)):Option (List Nat):=if val 4294967296 (dO q)=1 then p else if val 4294967296 (dO (gO p q))=1 then p else sE p (gO p q)
def UM(p q:Option (List Nat)):Option (List Nat):=if val 4294967296 (dO q)=1 then q else if val 4294967296 (dO (gO p q))=1 then q else sE q (gO p q)
def mQ(p q:Option (List Nat)):Option (List Nat):=if val 4294967296 (dO (UM p q))=1 then none else UM p q
def kC(neg:Bool)(p q:Option (List Nat)):AV:=if dO p=[]then pY false none none else pY neg (mP p q) (mQ p q)
theorem HO(lv:Key->LB)(neg:Bool)(p q:Option (List Nat)):dI lv (kC neg p q)=some (kC neg p q,[]):=by
 unfold kC;split<;>exact cg ..
theorem rF(G:List (List DV))(neg:Bool)(p q:Option (List Nat))(hp:can 4294967296 (dO p))(hq:can 4294967296 (dO q))(hq0:dO q≠[])(hl:(dO p).length<1000000000000)(hl':(dO q).length<1000000000000):
 aa Tryz.prog G 38 [.c (.d (.bool neg)),nK .u32 p,nK .u32 q] (kC neg p q):=by
 have hgd:=zh hp hq;have hgc:can 4294967296 (dO (gO p q)):=by unfold gO;rw[hgd];exact bx (by decide) _
 have hqv:0<val 4294967296 (dO q):=iC hq hq0
 have hg0:dO (gO p q)≠[]:=by
  unfold gO;rw[hgd];intro h;have:=(cL (by decide)).1 h;have:=Nat.gcd_pos_of_pos_right (val 4294967296 (dO p)) hqv;omega
 refine aa.enc Tryz.func38 rfl (λlv=>HO lv _ _ _) λ_=>aah ?_;refine aaa λK hK=>aah ?_
 by_cases hpe:dO p=[]
 ·refine aaX (by simp_all) (abf AX ?_);refine aaH ?_;refine aM.cell (T:=27) (t:=6) (k:=0) (off:=0) (own:=true) (fz:=false) (U:=27) (cs:=[.d (.bool false),.d .nilsl,.d .nilsl]) rfl ?_ ?_ ?_
  ·simp
  ·rfl
  ·rw[aeu,ql];simp[kC,hpe,nC]
 refine abd (by simp_all) (aav (hK _ _ (aaa λK hK=>?_)))
 have rest:∀(fr:Nat->AV) (κ:Nat) (p' q':Option (List Nat)),fr 0=.c (.d (.bool neg))->fr 1=nK .u32 p'->fr 2=nK .u32 q'->fr 6=.c (.ptr 0 0)->can 4294967296 (dO q')->mP p q=p'->UM p q=q' ->
  K ⟨fr,az (λ_=>.hole) 0 (.cells true false 27 [.d (.bool false),.d .nilsl,.d .nilsl])⟩ κ:=by
  intro fr κ p' q' z0 z1 z2 z6 hc e1 e2;apply hK;refine aaa λK1 hK1=>aaF λK2 hK2=>?_;simp[z2];refine ag.pure κ 9 (jw _ _ hc) rfl (by simp) (by simp) ?_;simp;apply hK2
  by_cases h1:val 4294967296 (dO q')=1
  ·refine aaX (by simp_all) (adl (hK1 _ _ ?_));refine ads z0 z1 z6 @gy @HH ?_;refine aaH ?_;refine aM.cell (T:=27) (t:=6) (k:=0) (off:=0) (own:=true) (fz:=false) (U:=27) (cs:=[.d (.bool neg),nC p',.d .nilsl]) rfl ?_ ?_ ?_
   ·simp[z6]
   ·rfl
   ·rw[aeu,ql];simp[kC,hpe,e1,mQ,e2,h1,nC]
  ·refine abd (by simp_all) (aav (hK1 _ _ (AW.f6 z0 z1 z2 z6 @gy @HH ?_)));refine aaH ?_;refine aM.cell (T:=27) (t:=6) (k:=0) (off:=0) (own:=true) (fz:=false) (U:=27) (cs:=[.d (.bool neg),nC p',nC q']) rfl ?_ ?_ ?_
   ·simp[z6]
   ·rfl
   ·rw[aeu,ql];simp[kC,hpe,e1,mQ,e2,h1]
 refine aaF λK1 hK1=>?_;simp;refine ag.pure 1 9 (jw _ _ hq) rfl (by simp) (by simp) ?_;simp;apply hK1
 by_cases h1:val 4294967296 (dO q)=1
 ·refine abd (by simp_all) (aav ?_);simp;exact rest _ _ p q (by simp) (by simp) (by simp) (by simp) hq (by simp[mP,h1]) (by simp[UM,h1])
 refine aaX (by simp_all) (aaF λK1 hK1=>?_);simp;refine ag.pure 1 9 (tS _ _ _ hp hq hl hl') (by simp) (by simp) (by simp) ?_;simp;apply hK1;refine aaF λK1 hK1=>?_;simp;refine ag.pure 1 9 (jw _ (jM p q (val 4294967296 (dO q))) hgc) rfl (by simp) (by simp) ?_;simp;apply hK1
 by_cases h2:val 4294967296 (dO (gO p q))=1
 ·have h2':val 4294967296 (dO (jM p q (val 4294967296 (dO q))))=1:=h2;refine abd (by simp_all) (aav ?_);simp;exact rest _ _ p q (by simp) (by simp) (by simp) (by simp) hq (by simp[mP,h2]) (by simp[UM,h2])
 have h2':¬val 4294967296 (dO (jM p q (val 4294967296 (dO q))))=1:=h2;refine aaX (by simp_all) (aaF λK1 hK1=>?_);simp;refine ag.pure 1 9 (jv _ _ (jM p q (val 4294967296 (dO q))) hp hgc hg0 hl) (mX _ _) (by simp) (by simp) ?_;simp;apply hK1;refine aar ?_;simp;refine ag.pure 1 9 (jv _ _ (jM p q (val 4294967296 (dO q))) hq hgc hg0 hl') (mX _ _) (by simp) (by simp) ?_;simp;exact rest _ _ (sE p (gO p q)) (sE q (gO p q)) (by simp) (by simp;rfl) (by simp;rfl) (by simp) (by rw[OP];exact bx (by decide) _) (by simp[mP,h1,h2]) (by simp[UM,h1,h2])
end Go.Am
namespace Go.Am
open Go.Am.Ty Go.Proofs N
variable {x y:Rat}{L a n b m:Nat}{q p:Option (List Nat)}{k:Int}{neg neg':Bool}
theorem Zy(q:Option (List Nat)):aO Tryz.prog .eql 25 (.c (nC q)) (.c (.d .nilsl))=some (.c (.d (.bool q.isNone)),[],[],True):=by
 cases q with
 |none=>kernel_rfl
 |some l=>exact(show ∀es,aO Tryz.prog .eql 25 (.c (.d (.sl es))) (.c (.d .nilsl))=some (.c (.d (.bool false)),[],[],True) from λes=>by kernel_rfl) _
theorem Zf(lv:Key->LB)(o:Option (List Nat)):fX Tryz.prog 25 lv (.c (nC o))=some (.c (.d (.int .i64 (dO o).length)),[],[],True):=by
 rw[<-gy];simp
@[simp]theorem Nw(neg:Bool)(p q:Option (List Nat)):(AV.agg [.d (.bool neg),nC p,nC q]).pure=true:=by cases p<;>cases q<;>rfl
def gP(neg:Bool)(p:Option (List Nat)):Int:=if dO p=[]then 0 else if neg then -1 else 1
def fV:Option (List Nat)->Option (List Nat)
 |none=>some (aG 4294967296 1)
 |some l=>some l
theorem fK(G:List (List DV))(neg:Bool)(p q:Option (List Nat)):aa Tryz.prog G 66 [pY neg p q] (.c (.d (.int .i64 (gP neg p)))):=by
 refine aa.en Tryz.func66 rfl λ_=>aah ?_;refine aaa λK hK=>aaE (abf @Zf ?_)
 by_cases hp:dO p=[]
 ·refine aaX (by simp_all) (aah ?_);exact abe (aN.rt rfl 2 (by simp[gP,hp]))
 ·refine abd (by simp_all) (aah ?_)
  cases neg with
  |true=>
   refine abl (aah ?_);exact abe (aN.rt rfl 2 (by simp[gP,hp]))
  |false=>
   refine aba (aav (hK _ _ (aah ?_)));exact abe (aN.rt rfl 2 (by simp[gP,hp]))
theorem bM(G:List (List DV))(neg:Bool)(p q:Option (List Nat)):aa Tryz.prog G 37 [pY neg p q] (.c (nC (fV q))):=by
 have hof:=dX G 1 (by decide);simp only[gy]at hof;refine aa.en Tryz.func37 rfl λ_=>aah ?_;refine aaa λK hK=>aaF λK1 hK1=>?_;simp[Zy];apply hK1
 cases q with
 |none=>
  refine abl (aaF λK1 hK1=>?_);simp;refine ag.pure 1 9 hof (by simp) (by simp) (by simp) ?_;simp;apply hK1;exact abe (aN.rt rfl 2 (by simp[fV]))
 |some l=>
  refine aba (aav (hK _ _ (aah ?_)));exact abe (aN.rt rfl 2 (by simp[fV]))
theorem II(G:List (List DV))(neg:Bool)(p q:Option (List Nat)):aa Tryz.prog G 162 [pY neg p q] (pY false p q):=by
 refine aa.enc Tryz.func162 rfl (λlv=>cg lv _ _ _) λ_=>aah ?_;refine abf @HH ?_;refine aaH ?_;refine aM.cell (κ:=0) (T:=27) (t:=2) (k:=1) (off:=0) (own:=true) (fz:=false) (U:=27) (cs:=[.d (.bool false),nC p,nC q]) rfl ?_ ?_ ?_
 ·simp
 ·simp[ai]
 ·rw[aeu,ql]
def Xa(neg:Bool)(p q:Option (List Nat))(neg':Bool)(p' q':Option (List Nat)):Int:=
 if gP neg p=gP neg' p' then gP neg p*eC (val 4294967296 (dO p)*val 4294967296 (dO (fV q'))) (val 4294967296 (dO p')*val 4294967296 (dO (fV q)))
 else if gP neg p<gP neg' p' then -1 else 1
theorem Ff(a b:Nat):-1<=eC a b/\eC a b<=1:=by unfold eC;omega
theorem Wp(neg:Bool)(p:Option (List Nat))(a b:Nat):IntKind.i64.wrap (gP neg p*eC a b)=gP neg p*eC a b:=by
 have h1:=Ff a b;have h2:gP neg p=0\/gP neg p=1\/gP neg p = -1:=by unfold gP;split<;>(try split)<;>simp
 rcases h2 with h|h|h<;>rw[h]<;>exact bB (by omega) (by omega)
theorem uG(h:(dO q).length<=n)(hn:1<=n):(dO (fV q)).length<=n:=by
 cases q with
 |none=>exact Ju (bS (m:=1) (by decide) (by decide)) hn
 |some l=>exact h
theorem Ij(G:List (List DV))(neg neg':Bool)(p q p' q':Option (List Nat))(h1:(dO p).length<=100000000000)(h2:(dO q).length<=100000000000)(h3:(dO p').length<=100000000000)(h4:(dO q').length<=100000000000):
 aa Tryz.prog G 27 [pY neg p q,pY neg' p' q'] (.c (.d (.int .i64 (Xa neg p q neg' p' q')))):=by
 have b1:=uG h2 (by decide);have b2:=uG h4 (by decide);have m1:=cB G p (fV q') (by omega) (by omega);have m2:=cB G p' (fV q) (by omega) (by omega);have m3:=fT (G:=G) (a:=some (aG 4294967296 (val 4294967296 (dO p)*val 4294967296 (dO (fV q'))))) (b:=some (aG 4294967296 (val 4294967296 (dO p')*val 4294967296 (dO (fV q))))) (bx (by decide) _) (bx (by decide) _);simp only[aR,bn (by decide:2<=4294967296)]at m3;simp only[gy]at m1 m2 m3;refine aa.en Tryz.func27 rfl λ_=>aah ?_;refine aaa λK hK=>?_;refine abx mixed (by kernel_rfl) rfl ?_;simp;refine ag.pure 2 9 (fK _ neg p q) (by simp) (by simp) rfl ?_;simp;refine ag.pure 2 9 (fK _ neg' p' q') (by simp) (by simp) rfl ?_;simp;refine⟨by kernel_rfl,?_⟩;apply hK;refine aaa λK hK=>aah ?_
 by_cases hs:gP neg p=gP neg' p'
 ·refine abd (by simp_all) (aav (hK _ _ (aaa λK hK=>?_)));refine abx mixed (by kernel_rfl) rfl ?_;simp[hs];refine ag.pure 2 9 (bM _ neg' p' q') (by simp) (by simp) rfl ?_;simp;refine ag.pure 2 9 m1 (by simp) (by simp) rfl ?_;simp;refine ag.pure 2 9 (bM _ neg p q) (by simp) (by simp) rfl ?_;simp;refine ag.pure 2 9 m2 (by simp) (by simp) rfl ?_;simp;refine ag.pure 2 9 m3 (by simp) (by simp) rfl ?_;simp[Wp];refine⟨by kernel_rfl,?_⟩;apply hK;exact abe (aN.rt rfl 4 (by simp[Xa,hs]))
 ·refine aaX (by simp_all) (aaa λK1 hK1=>aah ?_)
  by_cases hlt:gP neg p<gP neg' p'
  ·refine aaX (by simp_all) (aah ?_);exact abe (aN.rt rfl 4 (by simp[Xa,hs,hlt]))
  ·refine abd (by simp_all) (aav (hK1 _ _ (aah ?_)));exact abe (aN.rt rfl 4 (by simp[Xa,hs,hlt]))
def aL(n:Nat):Option (List Nat):=if n=0 then none else some (aG 4294967296 n)
def bw(n:Nat):Option (List Nat):=if n=1 then none else some (aG 4294967296 n)
abbrev bC(x:Rat):AV:=pY (decide (x.num<0)) (aL x.num.natAbs) (bw x.den)
def dh(neg:Bool)(a:Nat):Int:=if neg then -(a:Int)else a
theorem jO(n:Nat):dO (aL n)=(aG 4294967296 n):=by
 unfold aL;split
 ·simp_all
 ·rfl
theorem oQ(n:Nat):fV (bw n)=some (aG 4294967296 n):=by
 unfold bw;split
 ·rename_i h;subst h;rfl
 ·rfl
theorem cK(n:Nat):val 4294967296 (aG 4294967296 n)=n:=bn (by decide) n
theorem ff(n:Nat):can 4294967296 (aG 4294967296 n):=bx (by decide) n
theorem jN(n:Nat):(val 4294967296 (dO (aL n)))=n:=by rw[jO,cK]
theorem vl(n:Nat):(val 4294967296 (dO (fV (bw n))))=n:=by rw[oQ,aR,cK]
theorem k6(n:Nat):can 4294967296 (dO (aL n)):=by rw[jO];exact ff n
theorem Fk(n:Nat):can 4294967296 (dO (fV (bw n))):=by rw[oQ];exact ff n
theorem jg(h:n≠0):(aG 4294967296 n)≠[]:=λe=>h ((cL (by decide)).1 e)
theorem zE{o:Option (List Nat)}(hc:can 4294967296 (dO o))(h:dO o≠[]):o=some (aG 4294967296 (val 4294967296 (dO o))):=by
 cases o with
 |none=>simp_all
 |some l=>exact congrArg some (gK (by decide) hc rfl)
theorem o5(neg:Bool)(hb:b≠0):(mkRat (dh neg a) b).num=dh neg (a/Nat.gcd a b)/\(mkRat (dh neg a) b).den=b/Nat.gcd a b:=by
 have h1:(dh neg a).natAbs=a:=by unfold dh;split<;>omega
 rw[Rat.num_mkRat,Rat.den_mkRat,if_neg hb,if_neg hb,h1,af1 b a];refine⟨?_,rfl⟩
 cases neg with
 |false=>rfl
 |true=>
  show -(a:Int)/((Nat.gcd a b:Nat):Int) = -((a/Nat.gcd a b:Nat):Int)
  rw[Int.neg_ediv_of_dvd (Int.ofNat_dvd.2 (agE a b))];rfl
theorem qe(neg:Bool)(a:Nat):(dh neg a).natAbs=a:=by unfold dh;omega
theorem IM(neg:Bool)(h:a≠0):decide (dh neg a<0)=neg:=by
 cases neg<;>simp[dh]<;>omega
theorem Zw(hp:can 4294967296 (dO p))(hq:can 4294967296 (dO q))(h0:dO p≠[]):mP p q=aL ((val 4294967296 (dO p))/Nat.gcd (val 4294967296 (dO p)) (val 4294967296 (dO q))):=by
 have ha:0<(val 4294967296 (dO p)):=iC hp h0;have ep:=zE hp h0;have hgv:(val 4294967296 (dO (gO p q)))=Nat.gcd (val 4294967296 (dO p)) (val 4294967296 (dO q)):=by unfold gO;rw[zh hp hq,cK]
 have hgp:0<Nat.gcd (val 4294967296 (dO p)) (val 4294967296 (dO q)):=agk _ ha;have hle:Nat.gcd (val 4294967296 (dO p)) (val 4294967296 (dO q))<=(val 4294967296 (dO p)):=agl ha (agE _ _);have hag:(val 4294967296 (dO p))/Nat.gcd (val 4294967296 (dO p)) (val 4294967296 (dO q))≠0:=aeE (Nat.div_pos hle hgp);unfold aL;rw[if_neg hag];unfold mP;split
 ·rename_i h;rw[h,agF,afH];exact ep
 ·split
  ·grind
  ·unfold sE;grind
theorem Zd(hp:can 4294967296 (dO p))(hq:can 4294967296 (dO q))(h0:dO q≠[]):mQ p q=bw ((val 4294967296 (dO q))/Nat.gcd (val 4294967296 (dO p)) (val 4294967296 (dO q))):=by
 have hb:0<(val 4294967296 (dO q)):=iC hq h0;have eq:=zE hq h0;have hgv:(val 4294967296 (dO (gO p q)))=Nat.gcd (val 4294967296 (dO p)) (val 4294967296 (dO q)):=by unfold gO;rw[zh hp hq,cK]
 have hle:Nat.gcd (val 4294967296 (dO p)) (val 4294967296 (dO q))<=(val 4294967296 (dO q)):=agl hb (Nat.gcd_dvd_right _ _)
 have e:UM p q=some (aG 4294967296 ((val 4294967296 (dO q))/Nat.gcd (val 4294967296 (dO p)) (val 4294967296 (dO q)))):=by
  unfold UM;split
  ·rename_i h;rw[h,agF,afH,<-h];exact eq
  ·split
   ·grind
   ·unfold sE;grind
 unfold mQ bw;rw[e,aR,cK]
theorem Br(neg:Bool)(hp:can 4294967296 (dO p))(hq:can 4294967296 (dO q))(hq0:dO q≠[]):kC neg p q=bC (mkRat (dh neg (val 4294967296 (dO p))) (val 4294967296 (dO q))):=by
 have hb:(val 4294967296 (dO q))≠0:=aeE (iC hq hq0);unfold kC
 by_cases h0:dO p=[]
 ·have e:dh neg (val 4294967296 (dO p))=0:=by rw[h0,tG];cases neg<;>rfl
  rw[if_pos h0,e,Rat.zero_mkRat];rfl
 ·have ha:0<(val 4294967296 (dO p)):=iC hp h0;have hgp:0<Nat.gcd (val 4294967296 (dO p)) (val 4294967296 (dO q)):=agk _ ha;have hle:Nat.gcd (val 4294967296 (dO p)) (val 4294967296 (dO q))<=(val 4294967296 (dO p)):=agl ha (agE _ _);have hag:(val 4294967296 (dO p))/Nat.gcd (val 4294967296 (dO p)) (val 4294967296 (dO q))≠0:=aeE (Nat.div_pos hle hgp);obtain⟨n1,n2⟩:=o5 neg (a:=(val 4294967296 (dO p))) hb;rw[if_neg h0,Zw hp hq h0,Zd hp hq hq0];show pY neg _ _=pY (decide (_<0)) (aL _) (bw _);rw[n1,n2,qe,IM neg hag]
theorem mC(x:Rat):dh (decide (x.num<0)) x.num.natAbs=x.num:=by
 unfold dh
 grind
def nl(n:Nat):Nat:=(aG 4294967296 n).length
theorem DS(h:n<4294967296^m):nl n<=m:=bS (by decide) h
theorem zJ(n:Nat):n<4294967296^nl n:=nU (by decide)
theorem dc(h:m<=n):nl m<=nl n:=cS (by decide) h
theorem bO(a b:Nat):nl (a*b)<=nl a+nl b:=by
 refine DS ?_;rw[afa];exact Nat.mul_lt_mul'' (zJ a) (zJ b)
theorem mB(a b:Nat):nl (a+b)<=max (nl a) (nl b)+1:=by
 refine DS ?_;have h1:a<4294967296^max (nl a) (nl b):=aeB (zJ a) (ael (by decide) (by omega));have h2:b<4294967296^max (nl a) (nl b):=aeB (zJ b) (ael (by decide) (by omega));omega
theorem UH(m:Nat):(2:Nat)^(32*m)=4294967296^m:=by rw[afp]
theorem o9(k:Nat):nl (2^k)<=k/32+1:=by
 refine DS ?_;rw[<-UH];exact Nat.pow_lt_pow_right (by decide) (by omega)
theorem eK:nl 1=1:=by rfl
theorem Ww(h:n≠0):1<=nl n:=by rw[<-eK];exact dc (by omega)
theorem WJ(h:a<10^L):nl a<=(L+8)/9:=by
 refine DS (aeB h ?_);have h1:(10:Nat)^L<=10^(9*((L+8)/9)):=ael (by decide) (by omega);rw[afp]at h1;exact Ju h1 (af2 (by decide) _)
theorem wW(h:n≠0):bF n<=32*nl n:=by
 have h1:=zJ n;rw[<-UH]at h1;have h2:=jX h;have h3:bF n-1<32*nl n:=(agz (by decide)).1 (ae9 h2 h1);omega
def br(x:Rat)(L:Nat):Prop:=nl x.num.natAbs<=L/\nl x.den<=L
theorem au{M:Nat}(h:br x L)(hm:L<=M):br x M:=⟨Ju h.1 hm,Ju h.2 hm⟩
theorem hJ(neg:Bool)(hb:b≠0)(h1:nl a<=L)(h2:nl b<=L):br (mkRat (dh neg a) b) L:=by
 obtain⟨n1,n2⟩:=o5 neg (a:=a) hb;unfold br;rw[n1,n2,qe];exact⟨Ju (dc (afq _ _)) h1,Ju (dc (afq _ _)) h2⟩
theorem uC(h:br x L):br (-x) L:=by
 unfold br at *;simp_all
theorem BV(n:Int)(L:Nat)(h:nl n.natAbs<=L)(h1:1<=L):br (n:Rat) L:=⟨by rw[Rat.num_intCast];exact h,by rw[Rat.den_intCast,eK];exact h1⟩
def gp(x:Rat)(k:Int):Rat:=if k<0 then mkRat x.num (x.den*2^(-k).toNat)else mkRat (x.num*2^k.toNat) x.den
theorem zH(x:Rat)(k:Nat):x.den*2^k≠0:=aeE (aeh x.den_pos (aeb (by decide)))
theorem yJ(h:k<0):gp x k=mkRat (dh (decide (x.num<0)) x.num.natAbs) (x.den*2^(-k).toNat):=by rw[mC];unfold gp;grind
theorem tu(neg:Bool)(a b:Nat):dh neg a*(b:Int)=dh neg (a*b):=by
 unfold dh;grind
theorem yj(h:¬k<0):gp x k=mkRat (dh (decide (x.num<0)) (x.num.natAbs*2^k.toNat)) x.den:=by
 unfold gp;rw[if_neg h,<-tu,mC];congr 2
theorem KS(h:br x L)(k:Int):br (gp x k) (L+k.natAbs/32+1):=by
 by_cases hk:k<0
 ·rw[yJ hk];refine hJ _ (zH _ _) (by have:=h.1;omega) ?_;have h1:=bO x.den (2^(-k).toNat);have h2:=o9 (-k).toNat;have h3:(-k).toNat=k.natAbs:=by omega
  have:=h.2;omega
 ·rw[yj hk];refine hJ _ x.den_nz ?_ (by have:=h.2;omega);have h1:=bO x.num.natAbs (2^k.toNat);have h2:=o9 k.toNat;have h3:k.toNat=k.natAbs:=by omega
  have:=h.1;omega
theorem BY(x y:Rat):x+y=mkRat (dh (decide (x.num<0)) (x.num.natAbs*y.den)+dh (decide (y.num<0)) (y.num.natAbs*x.den)) (x.den*y.den):=by
 rw[Rat.add_def',<-tu,<-tu,mC,mC]
theorem xB(neg:Bool)(a b:Nat):dh neg a+dh neg b=dh neg (a+b):=by unfold dh;grind
theorem Dp(h:neg≠neg')(hab:a<b):dh neg a+dh neg' b=dh neg' (b-a):=by
 unfold dh;grind
theorem Dj(h:neg≠neg')(hab:¬a<b):dh neg a+dh neg' b=dh neg (a-b):=by
 unfold dh;grind
theorem Sy(hx:br x L)(hy:br y L):br (x+y) (2*L+1):=by
 have hd:x.den*y.den≠0:=aeE (aeh x.den_pos y.den_pos);have e1:=bO x.num.natAbs y.den;have e2:=bO y.num.natAbs x.den;have e3:=bO x.den y.den;obtain⟨a1,a2⟩:=hx;obtain⟨b1,b2⟩:=hy;rw[BY]
 by_cases h:decide (x.num<0)=decide (y.num<0)
 ·rw[h,xB];refine hJ _ hd ?_ (by omega);have:=mB (x.num.natAbs*y.den) (y.num.natAbs*x.den);omega
 ·by_cases hab:x.num.natAbs*y.den<y.num.natAbs*x.den
  ·rw[Dp h hab];refine hJ _ hd ?_ (by omega);have:=dc (afI (y.num.natAbs*x.den) (x.num.natAbs*y.den));omega
  ·rw[Dj h hab];refine hJ _ hd ?_ (by omega);have:=dc (afI (x.num.natAbs*y.den) (y.num.natAbs*x.den));omega
def eN(x y:Rat):Int:=if x<y then -1 else if y<x then 1 else 0
theorem Wu(a b:Bool):aO Tryz.prog .eql 4 (.c (.d (.bool a))) (.c (.d (.bool b)))=some (.c (.d (.bool (a == b))),[],[],True):=by
 rfl
theorem pM(G:List (List DV))(neg:Bool)(p q:Option (List Nat))(hp:can 4294967296 (dO p))(hq:can 4294967296 (dO q))(hq0:dO q≠[])(hl:(dO p).length<1000000000000)(hl':(dO q).length<1000000000000):
 aa Tryz.prog G 38 [.c (.d (.bool neg)),.c (nC p),.c (nC q)] (bC (mkRat (dh neg (val 4294967296 (dO p))) (val 4294967296 (dO q)))):=by
 have:=rF G neg p q hp hq hq0 hl hl';rw[Br neg hp hq hq0]at this;simp only[gy]at this;omega
theorem kP(G:List (List DV))(neg:Bool)(a b:Nat)(hb:b≠0)(hl:nl a<1000000000000)(hl':nl b<1000000000000):
 aa Tryz.prog G 38 [.c (.d (.bool neg)),.c (nC (some (aG 4294967296 a))),.c (nC (some (aG 4294967296 b)))] (bC (mkRat (dh neg a) b)):=by
 have:=pM G neg (some (aG 4294967296 a)) (some (aG 4294967296 b)) (ff a) (ff b) (jg hb) hl hl';simp only[aR,cK]at this;omega
theorem GN(G:List (List DV))(neg:Bool)(p q:Option (List Nat)):aa Tryz.prog G 124 [pY neg p q] (pY (!neg&&decide (dO p≠[])) p q):=by
 cases neg with
 |true=>
  show aa Tryz.prog G 124 [pY true p q] (pY false p q);refine aa.enc Tryz.func124 rfl (λlv=>cg lv _ _ _) λ_=>aah ?_;refine abf @HH ?_;refine aaH ?_;rfl
 |false=>
  by_cases hp:dO p=[]
  ·rw[show(!false&&decide (dO p≠[]))=false by simp[hp]];refine aa.enc Tryz.func124 rfl (λlv=>cg lv _ _ _) λ_=>aah ?_;refine adG @HH @Zf hp ?_;refine aaH ?_;rfl
  ·rw[show(!false&&decide (dO p≠[]))=true by simp[hp]];refine aa.enc Tryz.func124 rfl (λlv=>cg lv _ _ _) λ_=>aah ?_;refine aaa λK hK=>?_;have hp':=List.length_pos_iff.2 hp;refine adH @HH @Zf hp hp' (hK _ _ ?_);refine aaH ?_;rfl
theorem xN(G:List (List DV))(x:Rat):aa Tryz.prog G 124 [bC x] (bC (-x)):=by
 have h:=GN G (decide (x.num<0)) (aL x.num.natAbs) (bw x.den)
 have e:(!decide (x.num<0)&&decide (dO (aL x.num.natAbs)≠[]))=decide ((-x).num<0):=by
  rw[Rat.neg_num,jO]
  by_cases h0:x.num=0
  ·simp_all
  ·have h1:(aG 4294967296 x.num.natAbs)≠[]:=jg (by omega)
   grind
 rw[e]at h;show aa _ _ _ _ (pY (decide ((-x).num<0)) (aL (-x).num.natAbs) (bw (-x).den));rw[show(-x).num.natAbs=x.num.natAbs by simp,Rat.neg_den];exact h
theorem vA(neg:Bool)(a:Nat):mkRat (dh neg a) 1=((dh neg a:Int):Rat):=by
 rw[Rat.mkRat_one]
theorem wX(G:List (List DV))(n:Int)(h1:-9223372036854775808<=n)(h2:n<=9223372036854775807):aa Tryz.prog G 48 [.c (.d (.int .i64 n))] (bC (n:Rat)):=by
 have hof1:=dX G 1 (by decide);have hofn:=dX G n.natAbs (by omega)
 have hl:nl n.natAbs<1000000000000:=by
  have e2:(4294967296:Nat)^2=18446744073709551616:=by decide
  have:=DS (n:=n.natAbs) (m:=2) (by omega);omega
 have hm:=λneg=>kP G neg n.natAbs 1 (by decide) hl (by rw[eK];decide)
 simp only[gy]at hof1 hofn;simp only[vA]at hm
 by_cases hn:n<0
 ·have e:dh true n.natAbs=n:=by unfold dh;rw[if_pos rfl];omega
  have Xl:=hm true;rw[e]at Xl;have ew:IntKind.u64.wrap (-IntKind.u64.wrap n)=(n.natAbs:Int):=by rw[AT,AT];omega
  refine aa.enc Tryz.func48 rfl (λlv=>cg lv _ _ _) λ_=>aah ?_;refine aaa λK hK=>abf hn ?_;refine aaX (by rfl) (aaF λK1 hK1=>?_);simp[ew];refine ag.p 1 9 hofn ?_;simp;refine ag.p 1 9 hof1 ?_;simp;refine ag.p 1 9 Xl ?_;simp;apply hK1;refine aaH ?_;rfl
 ·have e:dh false n.natAbs=n:=by unfold dh;rw[if_neg (by decide)];omega
  have Xl:=hm false;rw[e]at Xl;have ew:IntKind.u64.wrap n=(n.natAbs:Int):=by rw[AT];omega
  refine aa.enc Tryz.func48 rfl (λlv=>cg lv _ _ _) λ_=>aah ?_;refine aaa λK hK=>abf hn ?_;refine abd (by rfl) (aav (hK _ _ (aaF λK hK=>?_)));simp[ew];refine ag.p 1 9 hofn ?_;simp;refine ag.p 1 9 hof1 ?_;simp;refine ag.p 1 9 Xl ?_;simp;apply hK;refine aaH ?_;rfl
def Dz(neg:Bool)(a:Nat)(neg':Bool)(b q:Nat):Rat:=
 if neg=neg' then mkRat (dh neg (a+b)) q else if a<b then mkRat (dh neg' (b-a)) q else mkRat (dh neg (a-b)) q
theorem td:(eC a b<0)↔a<b:=by unfold eC;omega
theorem HI(G:List (List DV))(neg neg':Bool)(p q p' q':Option (List Nat))(h1:(dO p).length<=10000000000)(h2:(dO q).length<=10000000000)(h3:(dO p').length<=10000000000)(h4:(dO q').length<=10000000000)
 (c1:can 4294967296 (dO p)) (c2:can 4294967296 (dO (fV q))) (c3:can 4294967296 (dO p')) (c4:can 4294967296 (dO (fV q'))) (z2:(val 4294967296 (dO (fV q)))≠0) (z4:(val 4294967296 (dO (fV q')))≠0) :
 aa Tryz.prog G 10 [pY neg p q,pY neg' p' q'] (bC (Dz neg ((val 4294967296 (dO p))*(val 4294967296 (dO (fV q')))) neg' ((val 4294967296 (dO p'))*(val 4294967296 (dO (fV q)))) ((val 4294967296 (dO (fV q)))*(val 4294967296 (dO (fV q')))))):=by
 have b1:=uG h2 (by decide);have b2:=uG h4 (by decide);have m1:=cB G p (fV q') (by omega) (by omega);have m2:=cB G p' (fV q) (by omega) (by omega);have m3:=cB G (fV q) (fV q') (by omega) (by omega);have hQ:(val 4294967296 (dO (fV q)))*(val 4294967296 (dO (fV q')))≠0:=aeE (aeh (aeZ z2) (aeZ z4));have lv:∀{o:Option (List Nat)},can 4294967296 (dO o)->nl (val 4294967296 (dO o))=(dO o).length:=λ{o} hc=>by unfold nl;rw[<-gK (by decide) hc rfl]
 have l1:nl ((val 4294967296 (dO p))*(val 4294967296 (dO (fV q'))))<=20000000000:=by
  have:=bO (val 4294967296 (dO p)) (val 4294967296 (dO (fV q')));rw[lv c1,lv c4]at this;omega
 have l2:nl ((val 4294967296 (dO p'))*(val 4294967296 (dO (fV q))))<=20000000000:=by
  have:=bO (val 4294967296 (dO p')) (val 4294967296 (dO (fV q)));rw[lv c3,lv c2]at this;omega
 have l3:nl ((val 4294967296 (dO (fV q)))*(val 4294967296 (dO (fV q'))))<=20000000000:=by
  have:=bO (val 4294967296 (dO (fV q))) (val 4294967296 (dO (fV q')));rw[lv c2,lv c4]at this;omega
 generalize (val 4294967296 (dO p))*(val 4294967296 (dO (fV q')))=a at *
 generalize (val 4294967296 (dO p'))*(val 4294967296 (dO (fV q)))=b at *
 generalize (val 4294967296 (dO (fV q)))*(val 4294967296 (dO (fV q')))=Q at *
 have la:(dO (some (aG 4294967296 a))).length<=20000000000:=l1;have lb:(dO (some (aG 4294967296 b))).length<=20000000000:=l2;have k1:=kI G (some (aG 4294967296 a)) (some (aG 4294967296 b)) (by omega) (by omega);have k2:=fT (G:=G) (a:=some (aG 4294967296 a)) (b:=some (aG 4294967296 b)) (ff _) (ff _);have k3:=λh=>nN G (some (aG 4294967296 a)) (some (aG 4294967296 b)) (by omega) h
 have k4:=λh=>nN G (some (aG 4294967296 b)) (some (aG 4294967296 a)) (by omega) h
 simp only[aR,cK]at k1 k2 k3 k4;simp only[gy,G7]at m1 m2 m3 k1 k2 k3 k4;have mk1:=λneg n (h:nl n<=20000000001)=>kP G neg n Q hQ (by omega) (by omega)
 have hsum:nl (a+b)<=20000000001:=by have:=mB a b;omega
 have hs1:nl (a-b)<=20000000001:=by have:=dc (afI a b);omega
 have hs2:nl (b-a)<=20000000001:=by have:=dc (afI b a);omega
 refine aa.enc Tryz.func10 rfl (λlv=>cg lv _ _ _) λ_=>aah ?_;refine aaa λK hK=>?_;refine abx mixed (by kernel_rfl) rfl ?_;simp;refine ag.p 3 9 (bM _ neg' p' q') ?_;simp;refine ag.p 3 9 m1 ?_;simp;refine ag.p 3 9 (bM _ neg p q) ?_;simp;refine ag.p 3 9 m2 ?_;simp;refine ag.p 3 9 (bM _ neg p q) ?_;simp;refine ag.p 3 9 (bM _ neg' p' q') ?_;simp;refine ag.p 3 9 m3 ?_;simp;refine⟨by kernel_rfl,?_⟩;apply hK;refine aaa λK hK=>aaE (abf @Wu ?_)
 by_cases hn:neg=neg'
 ·subst hn;have e:Dz neg a neg b Q=mkRat (dh neg (a+b)) Q:=by unfold Dz;rw[if_pos rfl]
  rw[e];refine abl (aaa λK1 hK1=>?_);refine abx mixed (by kernel_rfl) rfl ?_;simp;refine ag.p 3 9 k1 ?_;simp;refine ag.p 3 9 (mk1 neg _ hsum) ?_;simp;refine⟨by kernel_rfl,?_⟩;apply hK1;refine aaH ?_;rfl
 have hn':(neg == neg')=false:=by cases neg<;>cases neg'<;>simp_all
 refine abd (by simp_all) (acH 3 k2 ?_)
 by_cases hab:a<b
 ·have e:Dz neg a neg' b Q=mkRat (dh neg' (b-a)) Q:=by unfold Dz;rw[if_neg hn,if_pos hab]
  rw[e];have hc:=td.2 hab;refine aaX (by simp_all) (aaa λK1 hK1=>?_);refine abx mixed (by kernel_rfl) rfl ?_;simp;refine ag.p 3 9 (k4 (by omega)) ?_;simp;refine ag.p 3 9 (mk1 neg' _ hs2) ?_;simp;refine⟨by kernel_rfl,?_⟩;apply hK1;refine aaH ?_;rfl
 ·have e:Dz neg a neg' b Q=mkRat (dh neg (a-b)) Q:=by unfold Dz;rw[if_neg hn,if_neg hab]
  have hc:¬eC a b<0:=λh=>hab (td.1 h)
  refine abd (by simp_all) (aav (hK _ _ (aaa λK hK=>?_)));refine abx mixed (by kernel_rfl) rfl ?_;simp;refine ag.p 3 9 (k3 (by omega)) ?_;simp;refine ag.p 3 9 (mk1 neg _ hs1) ?_;simp;refine⟨by kernel_rfl,?_⟩;apply hK;refine aaH ?_;refine aM.cell (κ:=0) (T:=27) (t:=4) (k:=2) (off:=0) (own:=true) (fz:=false) (U:=27) (cs:=[.d (.bool (decide ((mkRat (dh neg (a-b)) Q).num<0))),nC (aL (mkRat (dh neg (a-b)) Q).num.natAbs),nC (bw (mkRat (dh neg (a-b)) Q).den)]) rfl ?_ ?_ ?_
  ·simp
  ·rfl
  simp_all
theorem dJ(n:Nat):(dO (aL n)).length=nl n:=by rw[jO];rfl
theorem tV(n:Nat):(dO (bw n)).length<=nl n:=by
 unfold bw;split
 ·simp
 ·exact bh _
theorem lU(G:List (List DV))(x y:Rat)(hx:br x 10000000000)(hy:br y 10000000000):aa Tryz.prog G 10 [bC x,bC y] (bC (x+y)):=by
 have h:=HI G (decide (x.num<0)) (decide (y.num<0)) (aL x.num.natAbs) (bw x.den) (aL y.num.natAbs) (bw y.den)
  (by rw[dJ];exact hx.1) (Ju (tV _) hx.2) (by rw[dJ];exact hy.1) (Ju (tV _) hy.2) (k6 _) (Fk _) (k6 _) (Fk _) (by rw[vl];exact x.den_nz) (by rw[vl];exact y.den_nz)
 simp only[jN,vl]at h
 have e:Dz (decide (x.num<0)) (x.num.natAbs*y.den) (decide (y.num<0)) (y.num.natAbs*x.den) (x.den*y.den)=x+y:=by
  rw[BY];unfold Dz;split
  ·rename_i hh;rw[hh,xB]
  ·split
   ·rename_i hh hl;rw[Dp hh hl]
   ·rename_i hh hl;rw[Dj hh hl]
 grind
theorem xO(G:List (List DV))(x y:Rat)(hx:br x 10000000000)(hy:br y 10000000000):aa Tryz.prog G 149 [bC x,bC y] (bC (x-y)):=by
 have h1:=xN G y;have h2:=lU G x (-y) hx (uC hy);rw[<-Rat.sub_eq_add_neg]at h2;refine aa.enc Tryz.func149 rfl (λlv=>cg lv _ _ _) λ_=>aah ?_;refine aaa λK hK=>?_;refine abx mixed (by kernel_rfl) rfl ?_;simp;refine ag.p 3 9 h1 ?_;simp;refine ag.p 3 9 h2 ?_;simp;refine⟨by kernel_rfl,?_⟩;apply hK;refine aaH ?_;rfl
theorem wq(G:List (List DV))(x:Rat)(k:Int)(hx:br x 10000000000)(h1:-1000000<=k)(h2:k<=1000000):aa Tryz.prog G 42 [bC x,.c (.d (.int .i64 k))] (bC (gp x k)):=by
 have hbot:=bM G (decide (x.num<0)) (aL x.num.natAbs) (bw x.den);rw[oQ]at hbot;have hw:IntKind.i64.wrap (-k) = -k:=bB (by omega) (by omega)
 by_cases hk:k<0
 ·have e:=yJ (x:=x) hk;have ht:((-k).toNat:Int) = -k:=by omega
  have hs:=fO G (some (aG 4294967296 x.den)) (-k).toNat (by have:=hx.2;show nl _<=_;omega) (by omega);simp only[aR,jg x.den_nz,if_false,cK,gy,ht]at hs
  have hm:=pM G (decide (x.num<0)) (aL x.num.natAbs) (some (aG 4294967296 (x.den*2^(-k).toNat))) (k6 _) (ff _) (jg (zH _ _)) (by rw[dJ];have:=hx.1;omega) (by
   have h3:=bO x.den (2^(-k).toNat);have h4:=o9 (-k).toNat;have:=hx.2;show nl _<_;omega)
  rw[jN,aR,cK,<-e]at hm;generalize gp x k=r at *
  refine aa.enc Tryz.func42 rfl (λlv=>cg lv _ _ _) λ_=>aah ?_;refine aaa λK hK=>abf hk ?_;refine aaX (by rfl) (aaa λK1 hK1=>?_);refine abx mixed (by kernel_rfl) rfl ?_;simp;refine ag.p 2 9 hbot ?_;simp[hw];refine ag.p 2 9 hs ?_;simp;refine ag.p 2 9 hm ?_;simp;refine⟨by kernel_rfl,?_⟩;apply hK1;refine aaH ?_;rfl
 ·have e:=yj (x:=x) hk;have ht:(k.toNat:Int)=k:=by omega
  have hs:=fO G (aL x.num.natAbs) k.toNat (by rw[dJ];have:=hx.1;omega) (by omega)
  have hs':aa Tryz.prog G 83 [.c (nC (aL x.num.natAbs)),.c (.d (.int .i64 k))] (.c (nC (aL (x.num.natAbs*2^k.toNat)))):=by
   simp only[jN]at hs;simp only[jO,ht,gy]at hs
   by_cases h0:x.num.natAbs=0
   ·have:(aG 4294967296 x.num.natAbs)=[]:=by rw[h0];rfl
    rw[if_pos this]at hs;rw[h0,Nat.zero_mul];rw[h0]at hs;exact hs
   ·rw[if_neg (jg h0)]at hs;unfold aL at hs ⊢;rw[if_neg h0]at hs;rw[if_neg h0,if_neg (aeE (aeh (aeZ h0) (aeb (by decide))))];exact hs
  have hm:=pM G (decide (x.num<0)) (aL (x.num.natAbs*2^k.toNat)) (some (aG 4294967296 x.den)) (k6 _) (ff _) (jg x.den_nz) (by
   rw[dJ];have h3:=bO x.num.natAbs (2^k.toNat);have h4:=o9 k.toNat;have:=hx.1;omega) (by have:=hx.2;show nl _<_;omega)
  rw[jN,aR,cK,<-e]at hm;generalize gp x k=r at *
  refine aa.enc Tryz.func42 rfl (λlv=>cg lv _ _ _) λ_=>aah ?_;refine aaa λK hK=>abf hk ?_;refine abd (by rfl) (aav (hK _ _ (aaa λK hK=>?_)));refine abx mixed (by kernel_rfl) rfl ?_;simp;refine ag.p 2 9 hs' ?_;simp;refine ag.p 2 9 hbot ?_;simp;refine ag.p 2 9 hm ?_;simp;refine⟨by kernel_rfl,?_⟩;apply hK;refine aaH ?_;rfl
theorem pG(lv:Key->LB)(b:Bool)(p q:Option (List Nat))(n:Int):dI lv (.tup [pY b p q,.c (.d (.int .i64 n))])=some (.tup [pY b p q,.c (.d (.int .i64 n))],[]):=by
 cases p<;>cases q<;>rfl
@[simp]theorem B5(b:Bool)(p q:Option (List Nat))(n:Int):(AV.tup [.agg [.d (.bool b),nC p,nC q],.c (.d (.int .i64 n))]).pure=true:=by
 cases p<;>cases q<;>rfl
def yb(x:Rat):Int:=
 let k:=(bF x.num.natAbs:Int)-bF x.den
 if x.num.natAbs*2^(max (-k) 0).toNat<x.den*2^(max k 0).toNat then k-1 else k
theorem Pe(hx:x≠0)(h:br x L):-(32*(L:Int))<=yb x/\yb x<=32*L:=by
 have h0:x.num.natAbs≠0:=by intro e;exact hx (Rat.num_eq_zero.1 (by omega))
 have h1:=wW h0;have h2:=wW x.den_nz;have h3:1<=bF x.num.natAbs:=by unfold bF;rw[if_neg h0];omega
 have h4:1<=bF x.den:=by unfold bF;rw[if_neg x.den_nz];omega
 have:=h.1;have:=h.2;unfold yb
 grind
theorem RG(G:List (List DV))(x:Rat)(hx:x≠0)(hs:br x 10000000):aa Tryz.prog G 228 [bC x] (.c (.d (.int .i64 (yb x)))):=by
 have h0:x.num.natAbs≠0:=by intro e;exact hx (Rat.num_eq_zero.1 (by omega))
 have hbot:=bM G (decide (x.num<0)) (aL x.num.natAbs) (bw x.den);rw[oQ]at hbot;have l1:=hs.1;have l2:=hs.2;have b1:=wW h0;have b2:=wW x.den_nz;have p1:=mH G (aL x.num.natAbs) (k6 _) (by rw[dJ];omega);have p2:=mH G (some (aG 4294967296 x.den)) (ff _) (by show nl _<=_;omega);rw[jN]at p1;rw[aR,cK]at p2;have ek:∃k:Int,(bF x.num.natAbs:Int)-bF x.den=k/\-320000000<=k/\k<=320000000:=⟨_,rfl,by omega,by omega⟩
 obtain⟨k,hk,k1,k2⟩:=ek;have ew:IntKind.i64.wrap ((bF x.num.natAbs:Int)-bF x.den)=k:=by rw[hk];exact bB (by omega) (by omega)
 have ew2:IntKind.i64.wrap (-k) = -k:=bB (by omega) (by omega);have mx1:(List.foldl (λa b:Int=>if a<b then b else a) (-k) [0])=((max (-k) 0).toNat:Int):=by simp only[List.foldl];split<;>omega
 have mx2:(List.foldl (λa b:Int=>if a<b then b else a) k [0])=((max k 0).toNat:Int):=by simp only[List.foldl];split<;>omega
 have hlog:yb x=if x.num.natAbs*2^(max (-k) 0).toNat<x.den*2^(max k 0).toNat then k-1 else k:=by unfold yb;simp only[hk]
 have s1:=fO G (aL x.num.natAbs) (max (-k) 0).toNat (by rw[dJ];omega) (by omega);have s2:=fO G (some (aG 4294967296 x.den)) (max k 0).toNat (by show nl _<=_;omega) (by omega);rw[jO,if_neg (jg h0),cK]at s1;rw[aR,if_neg (jg x.den_nz),cK]at s2;have cm:=fT (G:=G) (a:=some (aG 4294967296 (x.num.natAbs*2^(max (-k) 0).toNat))) (b:=some (aG 4294967296 (x.den*2^(max k 0).toNat))) (ff _) (ff _);simp only[aR,cK]at cm;generalize x.num.natAbs*2^(max (-k) 0).toNat=a at *
 generalize x.den*2^(max k 0).toNat=b at *
 generalize (max (-k) 0).toNat=u at *
 generalize (max k 0).toNat=v at *
 simp only[gy]at p1 p2 s1 s2 cm;have ew3:IntKind.i64.wrap (k-1)=k-1:=bB (by omega) (by omega);refine aa.en Tryz.func228 rfl λ_=>aah ?_;refine acH 1 hbot ?_;refine aaF λK hK=>?_;simp;refine ag.p 1 9 p1 ?_;simp;refine ag.p 1 9 p2 ?_;simp[ew];apply hK;refine aaa λK hK=>aaF λK1 hK1=>?_;simp[ew2,dF,mx1,-List.foldl_cons,-List.foldl_nil];refine ag.p 1 9 s1 ?_;simp[dF,mx2,-List.foldl_cons,-List.foldl_nil];refine ag.p 1 9 s2 ?_;simp[-List.foldl_cons,-List.foldl_nil];refine ag.p 1 9 cm ?_;simp;apply hK1
 by_cases hab:a<b
 ·have hc:=td.2 hab;rw[if_pos hab]at hlog;refine aaX (by simp_all) (acK ew3 (hK _ _ ?_));refine aah ?_;exact abe (aN.rt rfl 2 (by simp[hlog]))
 ·have hc:¬eC a b<0:=λh=>hab (td.1 h)
  rw[if_neg hab]at hlog;refine abd (by simp_all) (aav (hK _ _ (aah ?_)));exact abe (aN.rt rfl 2 (by simp[hlog]))
theorem Nz(hx:x≠0):gP (decide (x.num<0)) (aL x.num.natAbs)≠0:=by
 have h0:x.num.natAbs≠0:=by intro e;exact hx (Rat.num_eq_zero.1 (by omega))
 unfold gP;rw[jO,if_neg (jg h0)];omega
theorem D4(hx:x=0):gP (decide (x.num<0)) (aL x.num.natAbs)=0:=by subst hx;rfl
theorem V6:x<y↔dh (decide (x.num<0)) (x.num.natAbs*y.den)<dh (decide (y.num<0)) (y.num.natAbs*x.den):=by
 rw[Rat.lt_iff,<-tu,<-tu,mC,mC]
theorem Jb(x y:Rat):Xa (decide (x.num<0)) (aL x.num.natAbs) (bw x.den) (decide (y.num<0)) (aL y.num.natAbs) (bw y.den)=eN x y:=by
 unfold eN;simp only[V6];unfold Xa;simp only[jN,vl];have hx:0<x.den:=x.den_pos;have hy:0<y.den:=y.den_pos
 have sx:gP (decide (x.num<0)) (aL x.num.natAbs)=if x.num.natAbs=0 then 0 else if x.num<0 then -1 else 1:=by
  unfold gP;rw[jO];simp only[cL (by decide:2<=4294967296),decide_eq_true_eq]
 have sy:gP (decide (y.num<0)) (aL y.num.natAbs)=if y.num.natAbs=0 then 0 else if y.num<0 then -1 else 1:=by
  unfold gP;rw[jO];simp only[cL (by decide:2<=4294967296),decide_eq_true_eq]
 rw[sx,sy];have ha:x.num.natAbs*y.den=0↔x.num.natAbs=0:=by rw[Nat.mul_eq_zero];omega
 have hb:y.num.natAbs*x.den=0↔y.num.natAbs=0:=by rw[Nat.mul_eq_zero];omega
 generalize x.num.natAbs*y.den=a at *
 generalize y.num.natAbs*x.den=b at *
 unfold dh eC
 grind
theorem mo(G:List (List DV))(x y:Rat)(hx:br x 10000000000)(hy:br y 10000000000):aa Tryz.prog G 27 [bC x,bC y] (.c (.d (.int .i64 (eN x y)))):=by
 have h:=Ij G (decide (x.num<0)) (decide (y.num<0)) (aL x.num.natAbs) (bw x.den) (aL y.num.natAbs) (bw y.den)
  (by rw[dJ];have:=hx.1;omega) (Ju (tV _) (by have:=hx.2;omega)) (by rw[dJ];have:=hy.1;omega) (Ju (tV _) (by have:=hy.2;omega))
 rw[Jb]at h;exact h
theorem Cx(a b:Bool)(m n:Nat):dh (a != b) (m*n)=dh a m*dh b n:=by
 unfold dh;cases a<;>cases b<;>simp[Int.neg_mul,Int.mul_neg]
theorem C4(x y:Rat):x*y=mkRat (dh (decide (x.num<0) != decide (y.num<0)) (x.num.natAbs*y.num.natAbs)) (x.den*y.den):=by
 rw[Rat.mul_def',Cx,mC,mC]
theorem Io(h:x≠0):x.num.natAbs≠0:=by intro e;exact h (Rat.num_eq_zero.1 (by omega))
theorem Hi(hy:y≠0):x/y=mkRat (dh (decide (x.num<0) != decide (y.num<0)) (x.num.natAbs*y.den)) (x.den*y.num.natAbs):=by
 have hn:=Io hy
 have e:mkRat (dh (decide (x.num<0) != decide (y.num<0)) (x.num.natAbs*y.den)) (x.den*y.num.natAbs)*y=x:=by
  conv=>lhs;rhs;rw[<-agB y]
  conv=>rhs;rw[<-agB x]
  rw[Rat.mkRat_mul_mkRat,Rat.mkRat_eq_iff (aeE (aeh (aeh x.den_pos (aeZ hn)) y.den_pos)) x.den_nz,Cx,mC]
  have h1:dh (decide (y.num<0)) y.den*y.num=(y.den:Int)*y.num.natAbs:=by
   unfold dh
   by_cases h:y.num<0
   ·rw[decide_eq_true h,if_pos rfl,show(y.num.natAbs:Int) = -y.num by omega,Int.neg_mul,Int.mul_neg]
   ·rw[decide_eq_false h,if_neg (by decide),show(y.num.natAbs:Int)=y.num by omega]
  rw[Int.mul_assoc x.num,h1,afG,afG,Int.mul_assoc,Int.mul_comm _ (x.den:Int),Int.mul_comm (y.den:Int),Int.mul_assoc (x.den:Int)]
 rw[<-Rat.mul_div_cancel (a:=mkRat _ _) hy,e]
theorem xQ(hx:br x L)(hy:br y L):br (x*y) (2*L):=by
 have e1:=bO x.num.natAbs y.num.natAbs;have e2:=bO x.den y.den;obtain⟨a1,a2⟩:=hx;obtain⟨b1,b2⟩:=hy;rw[C4];exact hJ _ (aeE (aeh x.den_pos y.den_pos)) (by omega) (by omega)
theorem T5(hx:br x L)(hy:br y L):br (x/y) (2*L+1):=by
 by_cases h0:y=0
 ·have:x/y=0:=by rw[h0,Rat.div_def,Rat.inv_zero,afV]
  rw[this];exact⟨by show nl 0<=_;exact aa2 _,by show nl 1<=_;rw[eK];omega⟩
 have e1:=bO x.num.natAbs y.den;have e2:=bO x.den y.num.natAbs;obtain⟨a1,a2⟩:=hx;obtain⟨b1,b2⟩:=hy;rw[Hi h0];exact hJ _ (aeE (aeh x.den_pos (aeZ (Io h0)))) (by omega) (by omega)
theorem IK(hx:br x L)(hy:br y L):br (iJ x y) L:=by unfold iJ;split<;>assumption
theorem JO(hx:br x L)(hy:br y L):br (jz x y) L:=by unfold jz;split<;>assumption
def kj(x:Rat)(away:Bool):Rat:=((dh (decide (x.num<0)) (x.num.natAbs/x.den+if away=true/\x.num.natAbs%x.den≠0 then 1 else 0):Int):Rat)
theorem L2(h:br x L)(away:Bool):br (kj x away) (L+1):=by
 unfold kj;refine BV _ _ ?_ (by omega);rw[qe];have h1:=h.1;refine Ju (dc (n:=x.num.natAbs+1) ?_) ?_
 ·have:=afq x.num.natAbs x.den;split<;>omega
 ·have:=mB x.num.natAbs 1;have h2:=eK;have h3:1<=L:=Ju (Ww x.den_nz) h.2;omega
def yQ(bits:Int):Int:=min (max bits 1) 4000
def EW(x:Rat)(bits:Int)(away:Bool):Rat:=if x=0 then x else gp (kj (gp x (-(yb x-yQ bits+1))) away) (yb x-yQ bits+1)
def zG(x:Rat)(bits:Int):Rat:=EW x bits (decide (x.num<0))
def U6(x:Rat)(bits:Int):Rat:=EW x bits (!decide (x.num<0))
end Go.Am
