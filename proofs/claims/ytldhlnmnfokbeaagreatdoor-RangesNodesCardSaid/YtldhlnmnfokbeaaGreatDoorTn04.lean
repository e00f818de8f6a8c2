/- Helpers. -/
import Derived.Test.YtldhlnmnfokbeaaGreatDoorTn03
import Derived.Test.YtldhlnmnfokbeaaGreatDoorProg
import Derived.Shelf.Strings.Search1
import Derived.Shelf.Strings.Search2
import Derived.Shelf.Strings.Search3
import Derived.Shelf.Strings.Cut
import Derived.Shelf.Strings.Count
import Derived.Lib.Builder
import Derived.TacticsIn
import Derived.TacticsInMore
import Derived.RegionIn
import Derived.OwnWalkIn
import Derived.WalkKit
import Derived.RangeFuncOwn
import Derived.Lib.IndexMore

set_option linter.all false
set_option maxHeartbeats 8000000
set_option maxRecDepth 100000
open Go.IntKind
open Go.Proofs.Tryz
namespace Go.Am
variable {B n x c y i L k s:Nat}{a b:Option (List Nat)}{l:List Nat}
abbrev afF:=@List.eq_nil_or_concat
abbrev afG:=@List.concat_eq_append
abbrev afH:=@Int.natCast_mul
abbrev afI:=@Nat.div_add_mod
abbrev afJ:=@Int.tdiv_eq_ediv_of_nonneg
abbrev afo:=@Int.natCast_nonneg
abbrev agh:=@Int.tmod_eq_emod_of_nonneg
abbrev agi:=@Int.natCast_zero
abbrev adR:=@Nat.pow_pos
abbrev afZ:=@Nat.add_sub_cancel
abbrev afp:=@Nat.div_mul_le_self
abbrev aeT:=@Nat.pow_mul
abbrev aeU:=@Nat.mul_zero
abbrev afh:=@Nat.div_div_eq_div_mul
abbrev aeB:=@Nat.div_le_self
abbrev agj:=@List.flatten_cons
abbrev agK:=@Nat.mul_lt_mul_of_pos_right
abbrev aeg:=@Nat.ne_of_gt
abbrev afK:=@Nat.pow_zero
abbrev aeV:=@Nat.le_of_lt
abbrev afL:=@Nat.gcd_comm
abbrev agC:=@World.putObj_heap_other
abbrev agk:=@Nat.gcd_dvd_left
abbrev af0:=@Nat.gcd_pos_of_pos_left
abbrev af1:=@Nat.gcd_one_right
abbrev afb:=@Nat.div_one
abbrev afq:=@Nat.pow_le_pow_left
abbrev afM:=@Rat.num_intCast
abbrev agl:=@Rat.den_intCast
abbrev afr:=@Nat.sub_le
abbrev afc:=@Rat.neg_num
abbrev afN:=@Rat.neg_den
abbrev afs:=@Rat.sub_eq_add_neg
open Go.Am.Ty Go.Proofs N
theorem mixed:prog.follows .mixedOrders=true:=zt
theorem gk{G:List (List DV)}(ha:can 4294967296 (dO a))(hb:can 4294967296 (dO b)):aa prog G 139 [nK .u32 a,nK .u32 b] (.c (.d (.int .i64 (eO (val 4294967296 (dO a)) (val 4294967296 (dO b)))))):=by
 refine aQ.nc 0 zp (λV v h=>jD h) λhra=>?_;refine aQ.nc 1 zp (λV v h=>jD h) λhrb=>?_;refine aa.en func139 rfl λ_=>aah ?_;refine aac λK hK=>aah ?_
 by_cases hl:(dO a).length=(dO b).length
 ·refine aaD yk (aan (hK _ _ (aac λK hK=>aaF λK1 hK1=>?_)));simp;have e1:=bP (n:=((dO a).length:Int)-1) zd zd;simp only[e1];apply hK1;refine aaw ?_;refine aaY (λ(k:Nat)=>⟨aT [(0,nK .u32 a),(1,nK .u32 b),(5,.c (.d (.int .i64 ((k:Int)-1))))],λ_=>.hole⟩) 0 (λk=>k<=(dO a).length/\(dO a).drop k=(dO b).drop k) (λk=>k) (dO a).length (Le.mk' _ rfl bG zp) ⟨bf _,yn⟩ ?_;rintro k ⟨h1,h2⟩;refine aac λK3 hK3=>aah ?_
  cases k with
  |zero=>
   refine aax (aaR (hK _ _ (aah ?_)));simp only[ady]at h2;exact aaq (aD.rt rfl 0 (by simp[o5 (congrArg (val 4294967296) h2)]))
  |succ k=>
   have h3:k<(dO b).length:=zd
   have h4:k<(dO a).length:=zd
   have e2:((k+1:Nat):Int)-1=k:=zd
   simp only[e2];refine aaE (aan (hK3 _ _ (aac λK5 hK5=>aaw (aac λK6 hK6=>?_))));refine abT mixed zt rfl rfl ?_;simp[h3,h4];apply hK6
   by_cases hd:(dO a)[k]=(dO b)[k]
   ·refine aaD yk (aan (hK5 _ _ (aai ?_)));simp;have e3:=bP (n:=(k:Int)-1) zd zd;simp[e3];refine⟨k,Le.mk' _ zp zp zp,⟨zd,?_⟩,zd⟩;rw[adP h4,adP h3,hd,h2]
   ·refine aaB xv (aac λK6 hK6=>aac λK7 hK7=>?_);refine abT mixed zt rfl rfl ?_;simp[h3,h4];apply hK7
    by_cases hlt:(dO a)[k]<(dO b)[k]
    ·refine aaB yk (aah ?_);have:=sI ha.1 h4 h3 h2 hlt;exact aaq (aD.rt rfl 0 (by simp[lq this]))
    ·refine aaD yk (aan (hK6 _ _ (aah ?_)));have:=sI hb.1 h3 h4 h2.symm zd;exact aaq (aD.rt rfl 0 (by simp[mz this]))
 ·refine aaB xv (aac λK2 hK2=>aah ?_)
  by_cases hlt:(dO a).length<(dO b).length
  ·refine aaB yk (aah ?_);exact aaq (aD.rt rfl 0 km)
  ·refine aaD yk (aan (hK2 _ _ (aah ?_)));exact aaq (aD.rt rfl 0 pD)
theorem BS(G:List (List DV))(l:List Nat):aa prog G 233 [uW l] (uW (N.fc l)):=by
 refine aQ.nc 0 zp (λV v h=>M7 h) λhl=>?_;refine aa.pW func233 rfl zp ?_;rintro⟨_,_,w0,F0,W0,_,jd,β0⟩ rfl rfl rfl;refine aac λK hK=>?_;refine abq rfl ?_;simp;apply hK;clear hK K;refine aac λK hK=>aaw ?_;refine aaY (λl'=>⟨aT [(0,uW l')],λ_=>.hole⟩) 0 (λl'=>l'.length<=l.length/\N.fc l'=N.fc l) (λl'=>l'.length) l (Le.slots _ (by simp[uW,AV.cG]) zp) zp ?_;rintro l' ⟨h0,h1⟩
 have fin:∀(fr:Nat->AV) (κ:Nat),fr 0=uW (N.fc l)->K ⟨fr,λ_=>.hole⟩ κ:=by
  intro fr κ h;apply hK;clear hK;refine aac λK hK=>?_;refine abq rfl ?_;simp;apply hK;clear hK;exact aal (aD.tmp rfl 0 pi rfl rfl rfl)
 refine aac λK2 hK2=>aac λK3 hK3=>?_;refine abq rfl ?_;rcases afF l' with rfl|⟨xs,x,rfl⟩
 ·simp[uW,eT,jU,DR];apply hK3;refine abR (b:=false) zp (aaR ?_);simp;apply fin;simp[uW,<-h1]
 ·rw[afG]at*
  have h3:xs.length+1<=9223372036854775807:=by have:=hl.1;simp at h0;omega
  have h4:i64.wrap ((xs.length:Int))=xs.length:=eG ⟨vd,un⟩;have h2:(0:Int)<(xs.length:Int)+1:=zd
  by_cases hx:x=0
  ·subst hx;simp[uW,eT,jU,DR,uD,h2,h4];refine⟨zd,?_⟩;apply hK3;clear hK3 K3;refine abR (b:=true) zp (aan ?_);simp;apply hK2;clear hK2 K2;refine aaw ?_;refine abq rfl ?_;simp[uW,eT,jU,DR,h4];refine⟨⟨zd,λe he=>?_⟩,?_⟩
   ·rcases he with he|rfl
    ·exact WU _ _ he
    ·rfl
   refine⟨xs,Le.slots [(0,uW xs)] (by simp[uW,AV.cG]) zp,⟨yn,by rw[<-h1,jM]⟩,zd⟩
  ·have hx':¬((x:Int)=0):=by omega
   simp[uW,eT,jU,DR,uD,h2,h4];refine⟨zd,?_⟩;apply hK3;clear hK3 K3;refine abR (b:=false) rc (aaR ?_);simp;apply fin;simp[uW,<-h1,kT hx]
abbrev IV:=nK .u32
theorem fG(G:List (List DV))(l:List Nat):aa prog G 178 [IV (some l)] (IV (some (fc l))):=by
 refine aa.pW func178 rfl zp ?_;rintro⟨_,_,w0,F0,W0,_,jd,β0⟩ rfl rfl rfl;refine aac λK hK=>?_;refine abq rfl ?_;simp;apply hK;clear hK K;refine aac λK hK=>?_;refine abq rfl ?_;simp[NH];refine ag.pure 0 0 (BS _ l) rfl (by simp[IV]) rfl ?_;simp;apply hK;clear hK K;exact aal (aD.tmp rfl 0 wr rfl rfl rfl)
theorem kE(G:List (List DV))(a b:Option (List Nat))(ha:(dO a).length<=1000000000000)(hb:(dO b).length<=1000000000000):
 aa prog G 138 [IV a,IV b] (IV (some (aL 4294967296 (val 4294967296 (dO a)+val 4294967296 (dO b))))):=by
 refine aQ.nc 0 zp (λV v h=>jD h) λhra=>?_;refine aQ.nc 1 zp (λV v h=>jD h) λhrb=>?_;refine aa.pW func138 rfl zp ?_;rintro⟨_,_,w0,F0,W0,_,jd,β0⟩ rfl rfl rfl;refine aac λK hK=>?_;refine abq rfl ?_;simp;apply hK;clear hK K;refine aac λK hK=>?_;refine aac λK2 hK2=>?_;refine abq rfl ?_;simp[sH nJ];apply hK2;clear hK2 K2
 have main:∀(a' b':Option (List Nat)) (fr:Nat->AV) (κ:Nat),fr 0=IV a'->fr 1=IV b'->(dO b').length<=(dO a').length->(dO a').length<=1000000000000 ->
  ok 4294967296 (dO a')->ok 4294967296 (dO b')->val 4294967296 (dO a')+val 4294967296 (dO b')=val 4294967296 (dO a)+val 4294967296 (dO b)->K ⟨fr,λ_=>.hole⟩ κ:=by
  intro a' b' fr κ f0 f1 hle hla oka okb hv;apply hK;clear hK;refine aac λK hK=>?_;refine abq rfl ?_;have e1:=bP (n:=((dO a').length:Int)+1) zd zd;simp[f0,sH nJ,e1,nJ,Jd,H7,FG];refine⟨zd,?_⟩;apply hK;clear hK K;refine abP 1 ?_;generalize hκ:κ=κ0;refine aac λK hK=>?_;refine abq rfl ?_;simp;apply hK;clear hK K;refine aac λK hK=>aac λK1 hK1=>?_;refine abq rfl ?_;simp[f0,sH nJ];apply hK1;clear hK1 K1;refine aaw ?_
  refine aaY (λ(p:List Nat×Nat)=>⟨aT [(0,IV a'),(1,IV b'),(5,.c (.aO κ0 0 ((dO a').length+1) 1)),(6,.c (.d (.int .u64 p.2))),(20,IV a'),(21,.c (.d (.int .i64 (dO a').length))),(22,.c (.d (.int .i64 p.1.length)))],
   aM (λ_=>.hole) κ0 (.cells true false 200 (wK .u32 (p.1++List.replicate ((dO a').length+1-p.1.length) 0)))⟩) (κ0+1)
   (λp=>p.1.length<=(dO a').length/\ok 4294967296 p.1/\p.2<=1/\val 4294967296 p.1+4294967296^p.1.length*p.2=val 4294967296 ((dO a').take p.1.length)+val 4294967296 ((dO b').take p.1.length))
   (λp=>(dO a').length-p.1.length) ([],0) (Le.mk' _ lr zp (by simp[f0,f1])) T2 ?_
  rintro⟨pre,c⟩ ⟨h1,h2,h3,h4⟩;simp only at h1 h2 h3 h4;refine aac λK3 hK3=>?_;refine abq rfl ?_;simp;apply hK3;clear hK3 K3;refine aac λK2 hK2=>?_
  by_cases hlt:pre.length<(dO a').length
  ·refine abR (b:=true) ap (aan ?_);simp;apply hK2;have hz:(dO a').length+1-pre.length=((dO a').length-pre.length)+1:=by omega
   refine aac λK3 hK3=>aaw ?_;refine aac λK4 hK4=>?_;refine abq rfl ?_;simp[P8 nJ hlt,uD];apply hK4;clear hK4 K4;refine aac λK4 hK4=>?_;refine abq rfl ?_;simp[vF,vX];have hx:(dO a')[pre.length]<4294967296:=oka _ (cn hlt);generalize hxe:(dO a')[pre.length]=x at hx;have e3:=fB (n:=(x:Int)) zd zd;have e4:=fB (n:=(c:Int)+x) zd zd;simp only[e3,e4];apply hK4;clear hK4 K4;refine aac λK5 hK5=>aac λK6 hK6=>?_
   have fin:∀(y:Nat) (fr:Nat->AV) (κ:Nat),y<4294967296->val 4294967296 ((dO b').take (pre.length+1))=val 4294967296 ((dO b').take pre.length)+4294967296^pre.length*y ->
    fr 0=IV a'->fr 1=IV b'->fr 5=.c (.aO κ0 0 ((dO a').length+1) 1)->fr 6=.c (.d (.int .u64 ((c:Int)+x+y)))->fr 7=.c (.d (.int .i64 pre.length)) ->
    fr 20=IV a'->fr 21=.c (.d (.int .i64 (dO a').length))->fr 22=.c (.d (.int .i64 pre.length)) ->
    K5 ⟨fr,aM (λ_=>.hole) κ0 (.cells true false 200 (wK .u32 (pre++List.replicate ((dO a').length+1-pre.length) 0)))⟩ κ:=by
    intro y fr κ hy hbv q0 q1 q5 q6 q7 q20 q21 q22;apply hK5;refine abP (κ0+2) ?_;refine aac λK5 hK5=>?_;refine abq rfl ?_;have e5:u32.wrap ((c:Int)+x+y)=((c+x+y)%4294967296:Nat):=lh
    have e6:ai (wK .u32 (pre++List.replicate ((dO a').length+1-pre.length) 0)) pre.length [CV.d (.int .u32 (((c+x+y)%4294967296:Nat):Int))]=wK .u32 (pre++[(c+x+y)%4294967296]++List.replicate ((dO a').length-pre.length) 0):=by
     rw[hz,iU _ zp,mM]
    have e7:(pre.length:Int)<((dO a').length:Int)+1:=zd
    simp[q5,q6,q7,nJ,vF,vX,e5,e6,Cr,JV,-Int.natCast_emod,-Int.natCast_add];refine⟨zd,zd,?_⟩;apply hK5;clear hK5 K5;refine abq rfl ?_;have e8:(((c:Int)+x+y)/4294967296)=(((c+x+y)/4294967296:Nat):Int):=zd
    have e8':Int.fdiv ((c:Int)+x+y) 4294967296=(((c+x+y)/4294967296:Nat):Int):=by rw[adM _ zd];exact e8
    simp[q6,IntKind.bits,e8',-Int.natCast_ediv,-Int.natCast_add];apply hK3;refine abq rfl ?_;have e9:=bP (n:=(pre.length:Int)+1) zd zd;simp[q22,e9];have e10:(dO a').length-pre.length=(dO a').length+1-(pre.length+1):=zd
    refine⟨pre++[(c+x+y)%4294967296],(c+x+y)/4294967296,Le.mk' _ zp zp (by simp[q0,q1,q5,q20,q21]),⟨yv,?_,zd,?_⟩,yv⟩
    ·exact dD.2 ⟨h2,b6.2 ⟨zd,dM _⟩⟩
    ·have:=o8 4294967296 pre (c+x+y);rw[adl,aex,this,bU hlt,hxe,hbv,adZ,adZ];omega
   refine abq rfl ?_;simp[sH nJ];apply hK6;clear hK6 K6
   by_cases hlb:pre.length<(dO b').length
   ·refine abR (b:=true) (by simp[hlb]) ?_;refine abq rfl ?_;have hy:(dO b')[pre.length]<4294967296:=okb _ (cn hlb);have e5:=fB (n:=((dO b')[pre.length]:Int)) zd zd;have e6:=fB (n:=(c:Int)+x+(dO b')[pre.length]) zd zd;simp[P8 nJ hlb,uD,vF,vX,e5,e6];exact fin _ _ _ hy (bU hlb) zp zp zp zp zp zp zp zp
   ·refine abR (b:=false) (by simp[hlb]) (aan ?_);simp;exact fin 0 _ _ zd wy zp zp zp zp zp zp zp zp
  ·refine abR (b:=false) ap (aaR ?_);simp;have e2:pre.length=(dO a').length:=by omega
   apply hK;refine aac λK hK=>?_;refine abq rfl ?_;have e3:=lR (n:=(c:Int)) zd zd
   have e4:ai (wK .u32 (pre++[0])) pre.length [CV.d (.int .u32 (c:Int))]=wK .u32 (pre++[c]):=by
    rw[iU _ zp];simp
   simp only[<-e2];simp[sH nJ,<-e2,nJ,vF,vX,e3,e4,Cr,JV];refine⟨zd,?_⟩;apply hK;clear hK K;refine aac λK hK=>?_;refine abq rfl ?_;simp[OW];have hl:pre.length+1=(pre++[c]).length:=zp
   rw[hl]
   have hout:fc (pre++[c])=aL 4294967296 (val 4294967296 (dO a)+val 4294967296 (dO b)):=by
    refine fQ zr (dD.2 ⟨h2,b6.2 ⟨zd,dM _⟩⟩) ?_;rw[gU,h4,aX zd,aX zd,hv]
   refine eL.sY 0 (κ0+1) κ0 wr yv (fG _ _) zp zp zp ?_;simp;apply hK;clear hK K;exact aal (aD.tmp rfl (κ0+1) te zp zp zp)
 have oka:ok 4294967296 (dO a):=λd hd=>by have:=hra.2 d hd;simp only[rM]at this;omega
 have okb:ok 4294967296 (dO b):=λd hd=>by have:=hrb.2 d hd;simp only[rM]at this;omega
 by_cases hlt:(dO a).length<(dO b).length
 ·refine abR (b:=true) ap ?_;refine abq rfl ?_;simp;exact main b a _ _ zp zp zd hb okb oka zd
 ·refine abR (b:=false) ap (aan ?_);simp;exact main a b _ _ zp zp zd ha oka okb rfl
theorem Pr(hx:x<4294967296)(hc:c<=1)(hy:y<4294967296):
 ∃v b:Nat,v<4294967296/\b<=1/\v+c+y=x+4294967296*b/\u32.wrap (u64.wrap (u64.wrap ((x:Int)-c)-y))=v/\Int.fdiv (u64.wrap (u64.wrap ((x:Int)-c)-y)) 9223372036854775808=b:=by
 simp only[tf,Cj]
 by_cases h:c+y<=x
 ·refine⟨x-c-y,0,zd,zd,zd,zd,?_⟩
  grind
 ·refine⟨x+4294967296-c-y,1,zd,zd,zd,zd,?_⟩
  grind
theorem Lu(hx:x<4294967296)(hc:c<=1):u64.wrap (u64.wrap ((x:Int)-c)-(0:Nat))=u64.wrap ((x:Int)-c):=by
 simp only[Cj];omega
theorem uR(G:List (List DV))(a b:Option (List Nat))(ha:(dO a).length<=1000000000000)(hv:val 4294967296 (dO b)<=val 4294967296 (dO a)):
 aa prog G 140 [nK .u32 a,nK .u32 b] (nK .u32 (some (aL 4294967296 (val 4294967296 (dO a)-val 4294967296 (dO b))))):=by
 refine aQ.nc 0 zp (λV v h=>jD h) λhra=>?_;refine aQ.nc 1 zp (λV v h=>jD h) λhrb=>?_;have oka:ok 4294967296 (dO a):=λd hd=>by have:=hra.2 d hd;simp only[rM]at this;omega
 have okb:ok 4294967296 (dO b):=λd hd=>by have:=hrb.2 d hd;simp only[rM]at this;omega
 refine aa.en func140 rfl λ_=>aah ?_;refine aaF λK hK=>?_;simp
 repeat refine az ?_
 apply hK;refine aah ?_;refine aac λK hK=>aah ?_;refine aaw ?_
 refine aaY (λ(p:List Nat×Nat)=>⟨aT [(0,nK .u32 a),(1,nK .u32 b),(5,.c (.aO 0 0 (dO a).length 1)),(6,.c (.d (.int .u64 p.2))),(13,nK .u32 a),(14,.c (.d (.int .i64 (dO a).length))),(15,.c (.d (.int .i64 p.1.length)))],
  aM (λ_=>.hole) 0 (.cells true false 200 (wK .u32 (p.1++List.replicate ((dO a).length-p.1.length) 0)))⟩) 1
  (λp=>p.1.length<=(dO a).length/\ok 4294967296 p.1/\p.2<=1/\val 4294967296 p.1+val 4294967296 ((dO b).take p.1.length)=val 4294967296 ((dO a).take p.1.length)+4294967296^p.1.length*p.2)
  (λp=>(dO a).length-p.1.length) ([],0) (Le.mk' _ lr zp zp) T2 ?_
 rintro⟨pre,c⟩ ⟨h1,h2,h3,h4⟩;simp only at h1 h2 h3 h4;refine aah ?_;refine aac λK2 hK2=>?_
 by_cases hlt:pre.length<(dO a).length
 ·refine aaB yk (aan (hK2 _ _ ?_));have hz:(dO a).length-pre.length=((dO a).length-pre.length-1)+1:=by omega
  refine aac λK3 hK3=>aaw (aaF λK4 hK4=>?_)
  simp[hlt];apply hK4;refine aaF λK4 hK4=>?_;simp;have hx:(dO a)[pre.length]<4294967296:=oka _ (cn hlt);generalize hxe:(dO a)[pre.length]=x at hx;have e3:=fB (n:=(x:Int)) zd zd;simp only[e3];apply hK4;refine aac λK5 hK5=>aac λK6 hK6=>?_
  have fin:∀(y:Nat) (fr:Nat->AV) (κ:Nat),y<4294967296->val 4294967296 ((dO b).take (pre.length+1))=val 4294967296 ((dO b).take pre.length)+4294967296^pre.length*y ->
   fr 0=nK .u32 a->fr 1=nK .u32 b->fr 5=.c (.aO 0 0 (dO a).length 1)->fr 9=.c (.d (.int .u64 (u64.wrap (u64.wrap ((x:Int)-c)-y))))->fr 7=.c (.d (.int .i64 pre.length)) ->
   fr 13=nK .u32 a->fr 14=.c (.d (.int .i64 (dO a).length))->fr 15=.c (.d (.int .i64 pre.length)) ->
   K5 ⟨fr,aM (λ_=>.hole) 0 (.cells true false 200 (wK .u32 (pre++List.replicate ((dO a).length-pre.length) 0)))⟩ κ:=by
   intro y fr κ hy hbv q0 q1 q5 q9 q7 q13 q14 q15;obtain⟨v,bb,g1,g2,g3,g4,g5⟩:=Pr hx h3 hy;apply hK5;refine abP 2 ?_
   have e6:ai (wK .u32 (pre++List.replicate ((dO a).length-pre.length) 0)) pre.length [CV.d (.int .u32 (v:Int))]=wK .u32 (pre++[v]++List.replicate ((dO a).length-pre.length-1) 0):=by
    rw[hz,iU _ zp,mM];simp
   have e7:(pre.length:Int)<((dO a).length:Int):=zd
   refine aaF λK7 hK7=>?_;simp[q5,q9,q7,g4,e6,e7]
   repeat refine az ?_
   apply hK7;refine aai ?_;simp[q9,IntKind.bits,g5];apply hK3;have e9:=bP (n:=(pre.length:Int)+1) zd zd;refine aai ?_;simp[q15,e9];have e10:(dO a).length-pre.length-1=(dO a).length-(pre.length+1):=zd
   refine⟨pre++[v],bb,Le.mk' _ (by simp[e10]) zp (by simp[q0,q1,q5,q13,q14]),⟨yv,dD.2 ⟨h2,b6.2 ⟨g1,dM _⟩⟩,g2,?_⟩,yv⟩;rw[adl,aex,gU,bU hlt,hxe,hbv,adk];have g6:4294967296^pre.length*(v+c+y)=4294967296^pre.length*(x+4294967296*bb):=by rw[g3]
   rw[adZ,adZ,adZ,<-adQ]at g6;omega
  refine abS (hK6 _ _ ?_)
  by_cases hlb:pre.length<(dO b).length
  ·refine aaB sm ?_;have hy:(dO b)[pre.length]<4294967296:=okb _ (cn hlb);have e5:=fB (n:=((dO b)[pre.length]:Int)) zd zd;refine aai ?_;simp[hlb,e5];exact fin _ _ _ hy (bU hlb) zp zp zp zp zp zp zp zp
  ·refine aaD sm (aan ?_);simp;exact fin 0 _ _ zd wy zp zp zp (by rw[Lu hx h3];simp) zp zp zp zp
 ·refine aaD yk (aaR ?_);simp;have e2:pre.length=(dO a).length:=by omega
  apply hK;refine aaF λK hK=>?_;simp
  have hlb:val 4294967296 ((dO b).take pre.length)=val 4294967296 (dO b):=by
   by_cases hb:(dO b).length<=pre.length
   ·exact aX hb
   ·have g1:=cV (B:=4294967296) (dO b) pre.length zd;have g2:=iu oka;rw[<-e2]at g2
    have g3:val 4294967296 ((dO b).drop pre.length)=0:=by
     apply ad0;intro hne;have:4294967296^pre.length*1<=4294967296^pre.length*val 4294967296 ((dO b).drop pre.length):=adI _ zd;omega
    grind
  have hva:val 4294967296 ((dO a).take pre.length)=val 4294967296 (dO a):=aX zd
  have hc:c=0:=by
   apply ad0;intro hne;have:c=1:=zd
   subst this;have:=iu h2;rw[hlb,hva]at h4;omega
  subst hc
  have hout:fc pre=aL 4294967296 (val 4294967296 (dO a)-val 4294967296 (dO b)):=by
   refine fQ zr h2 ?_;rw[hlb,hva]at h4;omega
  rw[<-e2];simp only[Nat.sub_self,List.replicate_zero,ad5];refine eL.sY 0 1 0 wr zd (fG _ _) zp zp zp ?_;simp;apply hK;exact aaq (aD.rt rfl 1 te)
theorem G5{j T V o L':Nat}(h1:L+B^(i+j)*c=T+B^i*(x*V))(h2:L'+B^(i+j)*o=L+B^(i+j)*((c+(x*y+o))%B)):
 L'+B^(i+j+1)*((c+(x*y+o))/B)=T+B^i*(x*(V+B^j*y)):=by
 have h3:=ry B (i+j) (c+(x*y+o))
 grind
theorem eI(G:List (List DV))(a b:Option (List Nat))(ha:(dO a).length<=1000000000000)(hb:(dO b).length<=1000000000000):
 aa prog G 136 [nK .u32 a,nK .u32 b] (nK .u32 (some (aL 4294967296 (val 4294967296 (dO a)*val 4294967296 (dO b))))):=by
 refine aQ.nc 0 zp (λV v h=>jD h) λhra=>?_;refine aQ.nc 1 zp (λV v h=>jD h) λhrb=>?_;have oka:ok 4294967296 (dO a):=λd hd=>by have:=hra.2 d hd;simp only[rM]at this;omega
 have okb:ok 4294967296 (dO b):=λd hd=>by have:=hrb.2 d hd;simp only[rM]at this;omega
 refine aa.en func136 rfl λ_=>aah ?_;refine aac λK hK=>?_;have e0:i64.wrap (((dO a).length:Int)+(dO b).length)=(((dO a).length+(dO b).length:Nat):Int):=by rw[bP zd zd];omega
 refine aai ?_;simp[e0,-Int.natCast_add]
 repeat refine az ?_
 apply hK;refine aac λK hK=>aah ?_;refine aaw ?_
 refine aaY (λ(p:Nat×List Nat)=>⟨aT [(0,nK .u32 a),(1,nK .u32 b),(5,.c (.aO 0 0 ((dO a).length+(dO b).length) 1)),(17,nK .u32 a),(18,.c (.d (.int .i64 (dO a).length))),(19,.c (.d (.int .i64 p.1)))],
  aM (λ_=>.hole) 0 (.cells true false 200 (wK .u32 (p.2++List.replicate ((dO a).length-p.1) 0)))⟩) 1
  (λp=>p.1<=(dO a).length/\p.2.length=p.1+(dO b).length/\ok 4294967296 p.2/\val 4294967296 p.2=val 4294967296 ((dO a).take p.1)*val 4294967296 (dO b))
  (λp=>(dO a).length-p.1) (0,List.replicate (dO b).length 0) (Le.mk' _ (by simp[jj,afE]) zp zp) ⟨zp,zp,vH zd _,by simp[sN]⟩ ?_
 rintro⟨i,lo⟩ ⟨h1,h2,h3,h4⟩;simp only at h1 h2 h3 h4;refine aah ?_;refine aac λK2 hK2=>?_
 by_cases hlt:i<(dO a).length
 ·refine aaB yk (aan (hK2 _ _ (aac λK3 hK3=>aaw (aaF λK4 hK4=>?_))));simp[hlt];apply hK4;refine aaF λK4 hK4=>?_;simp;have hx:(dO a)[i]<4294967296:=oka _ (cn hlt);generalize hxe:(dO a)[i]=x at hx;apply hK4;refine aac λK4 hK4=>aaF λK5 hK5=>?_;simp;apply hK5;refine aaw ?_
  refine aaY (λ(p:Nat×List Nat×Nat)=>⟨aT [(0,nK .u32 a),(1,nK .u32 b),(5,.c (.aO 0 0 ((dO a).length+(dO b).length) 1)),(17,nK .u32 a),(18,.c (.d (.int .i64 (dO a).length))),(19,.c (.d (.int .i64 i))),
   (6,.c (.d (.int .i64 i))),(7,.c (.d (.int .u32 x))),(8,.c (.d (.int .u64 p.2.2))),(24,nK .u32 b),(25,.c (.d (.int .i64 (dO b).length))),(26,.c (.d (.int .i64 p.1)))],
   aM (λ_=>.hole) 0 (.cells true false 200 (wK .u32 (p.2.1++List.replicate ((dO a).length-i) 0)))⟩) 2
   (λp=>p.1<=(dO b).length/\p.2.1.length=i+(dO b).length/\ok 4294967296 p.2.1/\p.2.2<4294967296/\val 4294967296 p.2.1+4294967296^(i+p.1)*p.2.2=val 4294967296 ((dO a).take i)*val 4294967296 (dO b)+4294967296^i*(x*val 4294967296 ((dO b).take p.1)))
   (λp=>(dO b).length-p.1) (0,lo,0) (Le.mk' _ zp zp zp) ⟨zp,h2,h3,zp,by simp[h4]⟩ ?_
  rintro⟨j,lo2,c⟩ ⟨g1,g2,g3,g4,g5⟩;simp only at g1 g2 g3 g4 g5;refine aah ?_;refine aac λK7 hK7=>?_
  by_cases hlj:j<(dO b).length
  ·refine aaB (by simp[hlj]<;>omega) (aan (hK7 _ _ (aac λK8 hK8=>aaw (aaF λK9 hK9=>?_))));simp[hlj];apply hK9;refine aac λK9 hK9=>?_;have hy:(dO b)[j]<4294967296:=okb _ (cn hlj);have hij:i+j<lo2.length:=by omega
   have hij2:i+j<(lo2++List.replicate ((dO a).length-i) 0).length:=yv
   have hij3:i+j<lo2.length+((dO a).length-i):=zd
   have ho:lo2[i+j]<4294967296:=g3 _ (cn hij);have ho2:(lo2++List.replicate ((dO a).length-i) 0)[i+j]=lo2[i+j]:=aeF hij;have hb2:val 4294967296 ((dO b).take (j+1))=val 4294967296 ((dO b).take j)+4294967296^j*(dO b)[j]:=bU hlj;have hset:=yW (B:=4294967296) hij;generalize (dO b)[j]=y at hy hb2;generalize lo2[i+j]=o at ho ho2 hset;have hxy:x*y<=4294967295*4294967295:=ae3 zd zd;have e1:i64.wrap ((i:Int)+j)=((i+j:Nat):Int):=by rw[bP zd zd];omega
   have e2:=fB (n:=(x:Int)) zd zd;have e3:=fB (n:=(y:Int)) zd zd
   have e4:u64.wrap ((x:Int)*y)=((x*y:Nat):Int):=by
    rw[<-afH];generalize x*y=p at hxy;exact fB zd zd
   have e5:=fB (n:=(o:Int)) zd zd
   have e6:u64.wrap (((x*y:Nat):Int)+o)=((x*y+o:Nat):Int):=by
    generalize x*y=p at hxy;rw[fB zd zd];omega
   have e7:u64.wrap ((c:Int)+((x*y+o:Nat):Int))=((c+(x*y+o):Nat):Int):=by
    generalize x*y=p at hxy;rw[fB zd zd];omega
   refine aai ?_;simp[e1,e2,e3,e4,e5,e6,e7,hij3,ho2,-Int.natCast_add,-Int.natCast_mul]
   repeat refine az ?_
   apply hK9;have hbd:c+(x*y+o)<18446744073709551616:=by generalize x*y=p at hxy;omega
   generalize hm:c+(x*y+o)=m at hbd;have f1:u32.wrap (m:Int)=((m%4294967296:Nat):Int):=lh
   have f2:ai (wK .u32 (lo2++List.replicate ((dO a).length-i) 0)) (i+j) [CV.d (.int .u32 ((m%4294967296:Nat):Int))]=wK .u32 (lo2.set (i+j) (m%4294967296)++List.replicate ((dO a).length-i) 0):=by
    rw[iU _ hij2,agz _ _ hij]
   have f3:Int.fdiv (m:Int) 4294967296=((m/4294967296:Nat):Int):=by rw[adM _ zd];omega
   have f4:(i+j:Int)<(dO a).length+(dO b).length:=zd
   refine aaF λK9 hK9=>?_;simp[e1,f1,f2,-Int.natCast_add,-Int.natCast_emod]
   repeat refine az ?_
   apply hK9;refine aai ?_;simp[IntKind.bits,f3,-Int.natCast_ediv];apply hK8;have f5:=bP (n:=(j:Int)+1) zd zd;refine aai ?_;simp[f5];refine⟨j+1,lo2.set (i+j) (m%4294967296),m/4294967296,Le.mk' _ zp zp zp,⟨zd,by simp[g2],I4 g3 _ (adx _ zd),?_,?_⟩,zd⟩
   ·omega
   ·rw[hb2,<-hm,<-afk i j 1];exact G5 g5 yn
  ·refine aaD (by simp[hlj]<;>omega) (aaR (hK4 _ _ ?_));have ej:j=(dO b).length:=by omega
   subst ej;rw[aX (bf _)]at g5;have e1:i64.wrap ((i:Int)+(dO b).length)=((i+(dO b).length:Nat):Int):=by rw[bP zd zd];omega
   have e2:=lR (n:=(c:Int)) zd zd;have hz:(dO a).length-i=((dO a).length-i-1)+1:=zd
   have f2:ai (wK .u32 (lo2++List.replicate ((dO a).length-i) 0)) (i+(dO b).length) [CV.d (.int .u32 (c:Int))]=wK .u32 (lo2++[c]++List.replicate ((dO a).length-i-1) 0):=by
    rw[iU _ yv,hz,<-g2,mM];simp
   have f6:i+(dO b).length<lo2.length+((dO a).length-i):=zd
   refine aai ?_;simp[e1,e2,f2,-Int.natCast_add]
   repeat refine az ?_
   apply hK3;have f5:=bP (n:=(i:Int)+1) zd zd;refine aai ?_;simp[f5];have f7:(dO a).length-(i+1)=(dO a).length-i-1:=zd
   refine⟨i+1,lo2++[c],Le.mk' _ (by simp[f7]) zp zp,⟨zd,yv,dD.2 ⟨g3,b6.2 ⟨g4,dM _⟩⟩,?_⟩,zd⟩;rw[gU,g2,g5,bU hlt,hxe,adn,adQ]
 ·refine aaD yk (aaR (hK _ _ ?_));have e2:i=(dO a).length:=by omega
  subst e2;refine aaF λK hK=>?_;simp;rw[<-h2]
  have hout:fc lo=aL 4294967296 (val 4294967296 (dO a)*val 4294967296 (dO b)):=by
   refine fQ zr h3 ?_;rw[h4,aX (bf _)]
  refine eL.sY 0 1 0 wr zd (fG _ _) zp zp zp ?_;simp;apply hK;exact aaq (aD.rt rfl 1 te)
theorem rI(G:List (List DV))(a:Option (List Nat))(b:Nat)(hb:b≠0)(ha:(dO a).length<=1000000000000):
 aa prog G 205 [nK .u32 a,.c (.d (.int .u32 b))] (.tup [nK .u32 (some (aL 4294967296 (val 4294967296 (dO a)/b))),.c (.d (.int .u32 ((val 4294967296 (dO a)%b:Nat):Int)))]):=by
 refine aQ.nc 0 zp (λV v h=>jD h) λhra=>?_;refine aQ.nc 1 zp (λV v h=>Vw.uP h) λhrb=>?_;have oka:ok 4294967296 (dO a):=λd hd=>by have:=hra.2 d hd;simp only[rM]at this;omega
 rw[qK]at hrb;simp only[BB,rM]at hrb;refine aa.en func205 rfl λ_=>aah ?_;refine aah ?_;refine aah ?_;refine aac λK hK=>aac λK1 hK1=>?_;have e1:=bP (n:=((dO a).length:Int)-1) zd zd;refine aby e1 (hK1 _ _ ?_);refine aaw ?_
 refine aaY (λ(p:Nat×List Nat×Nat)=>⟨aT [(0,nK .u32 a),(1,.c (.d (.int .u32 b))),(4,.c (.aO 0 0 (dO a).length 1)),(6,.c (.d (.int .u64 p.2.2))),(7,.c (.d (.int .i64 ((p.1:Int)-1))))],
  aM (λ_=>.hole) 0 (.cells true false 200 (wK .u32 (List.replicate p.1 0++p.2.1)))⟩) 1
  (λp=>p.1+p.2.1.length=(dO a).length/\ok 4294967296 p.2.1/\p.2.2<b/\val 4294967296 ((dO a).drop p.1)=val 4294967296 p.2.1*b+p.2.2)
  (λp=>p.1) ((dO a).length,[],0) (Le.mk' _ lr zp zp) (by simp[dM];omega) ?_
 rintro⟨k,qs,r⟩ ⟨h1,h2,h3,h4⟩;simp only at h1 h2 h3 h4;refine aac λK3 hK3=>aah ?_
 cases k with
 |zero=>
  refine aax (aaR (hK _ _ (aaF λK hK=>?_)));simp;have e2:(dO a).length=qs.length:=zd
  have e3:=lR (n:=(r:Int)) zd zd;rw[e2];simp only[ady]at*
  have hq:val 4294967296 (dO a)/b=val 4294967296 qs:=by
   rw[h4,afE,Nat.add_mul_div_right _ _ zd,ae9 h3];omega
  have hr:val 4294967296 (dO a)%b=r:=by
   rw[h4,afE,Nat.add_mul_mod_self_right,ad4 h3]
  have hout:fc qs=aL 4294967296 (val 4294967296 (dO a)/b):=fQ zr h2 hq.symm;refine eL.sY 0 1 0 wr zd (fG _ _) zp zp zp ?_;simp[e3];apply hK;exact aaq (aD.t2 rfl 1 te xf)
 |succ k=>
  have hk:k<(dO a).length:=zd
  have e2:((k+1:Nat):Int)-1=k:=zd
  simp only[e2];refine aaE (aan (hK3 _ _ (aac λK5 hK5=>aaw (aac λK6 hK6=>?_))));have hx:(dO a)[k]<4294967296:=oka _ (cn hk);have hd:val 4294967296 ((dO a).drop k)=(dO a)[k]+4294967296*val 4294967296 ((dO a).drop (k+1)):=eF hk;generalize hxe:(dO a)[k]=x at hx hd;have f1:u64.wrap ((r:Int)*4294967296)=((r*4294967296:Nat):Int):=by rw[fB zd zd];omega
  have f2:=fB (n:=(x:Int)) zd zd;have f3:=vn (m:=r) (y:=x) zd hx;refine aai ?_;simp[hk,hxe,f1,f2,f3,IntKind.bits,-Int.natCast_add,-Int.natCast_mul];apply hK6
  have hb1:r*4294967296+x<b*4294967296:=by
   have:(r+1)*4294967296<=b*4294967296:=adh _ h3;omega
  generalize hm:r*4294967296+x=m at hb1;have g1:=fB (n:=(b:Int)) zd zd;have g2:m/b<4294967296:=by rw[afn zd,aed];exact hb1
  have hdm:=afI m b;have hml:m%b<b:=adx _ zd;have g3:Int.tdiv (m:Int) b=((m/b:Nat):Int):=by rw[afJ (afo m),<-Int.natCast_ediv]
  have g8:Int.tmod (m:Int) b=((m%b:Nat):Int):=by rw[agh (afo m),<-Int.natCast_emod]
  generalize m/b=q at g2 g3 hdm;generalize m%b=r' at g8 hdm hml;have g3':=fB (n:=(q:Int)) zd zd;have g4:=lR (n:=(q:Int)) zd zd
  have g5:ai (wK .u32 (List.replicate (k+1) 0++qs)) k [CV.d (.int .u32 (q:Int))]=wK .u32 (List.replicate k 0++(q::qs)):=by
   rw[iU _ yv,sF]
  have g6:¬((b:Int)=0):=zd
  have g7:(k:Int)<(dO a).length:=zd
  refine AW.f7 g1 g3 g3' g4 g5 hb hk ?_;refine aai ?_;simp[g1,g8,hb];apply hK5;have g9:=bP (n:=(k:Int)-1) zd zd;refine aai ?_;simp[g9];refine⟨k,q::qs,r',Le.mk' _ zp zp zp,⟨yv,b6.2 ⟨g2,h2⟩,hml,?_⟩,zd⟩;rw[hd,h4,cB]
  grind
theorem fK(G:List (List DV))(n:Nat)(hn:n<18446744073709551616):aa prog G 103 [.c (.d (.int .u64 n))] (nK .u32 (some (aL 4294967296 n))):=by
 refine aa.en func103 rfl λ_=>aah ?_;refine aac λK hK=>?_;have e1:u32.wrap (n:Int)=((n%4294967296:Nat):Int):=lh
 have e2:Int.fdiv (n:Int) 4294967296=((n/4294967296:Nat):Int):=by rw[adM _ zd];omega
 have e3:u32.wrap ((n/4294967296:Nat):Int)=((n/4294967296:Nat):Int):=lR zd zd;have hok:ok 4294967296 [n%4294967296,n/4294967296]:=b6.2 ⟨zd,b6.2 ⟨zd,dM _⟩⟩;have hout:fc [n%4294967296,n/4294967296]=aL 4294967296 n:=fQ zr hok yv;generalize hq:n/4294967296=q at*
 generalize hr:n%4294967296=r at*
 refine aai ?_;simp[IntKind.bits,e1,e2,e3,aB,ic,ai,gh];refine eL.sY (l:=[r,q]) 0 1 0 (by simp[wK];rfl) zp (fG _ _) zp zp zp ?_;simp;apply hK;exact aaq (aD.rt rfl 1 te)
theorem mB(G:List (List DV))(a:Option (List Nat))(ha:can 4294967296 (dO a)):aa prog G 104 [nK .u32 a] (.c (.d (.bool (decide (val 4294967296 (dO a)=1))))):=by
 refine aa.en func104 rfl λ_=>aah ?_;refine aac λK hK=>?_
 have h0:(dO a).length=1↔∃x,dO a=[x]:=by
  constructor
  ·intro h;match hd:dO a,h with|[x],_=>exact⟨x,rfl⟩
  ·grind
 by_cases hl:(dO a).length=1
 ·obtain⟨x,hx⟩:=h0.1 hl;have h1:0<(dO a).length:=by omega
  have h2:(dO a)[0]=x:=rc
  have h3:val 4294967296 (dO a)=x:=rc
  have h4:=jh (P:=prog) (T:=32) (lv:=λ_=>.hole) (k:=.u32) (k':=.i64) (o:=a) (i:=0) zp h1;simp only[agi,h2]at h4;refine abG hl h4 (hK _ _ ?_);have h5:(x:Int)=1↔x=1:=zd
  exact aaq (aD.rt rfl 0 yk)
 ·have h3:¬val 4294967296 (dO a)=1:=by
   intro h;have:=iT (zr:2<=4294967296) ha h;rw[this]at hl;exact hl rfl
  have h4:¬((dO a).length:Int)=1:=zd
  refine abG hl h4 (hK _ _ ?_);exact aaq (aD.rt rfl 0 (by simp[h3]))
def bk(n:Nat):Nat:=if n=0 then 0 else Nat.log2 n+1
theorem R6(h1:2^k<=n)(h2:n<2^(k+1)):bk n=k+1:=by
 have h0:n≠0:=by have:=adR (a:=2) (n:=k) zr;omega
 have:=(Nat.log2_eq_iff h0).2 ⟨h1,h2⟩;simp[bk,h0,this]
theorem mE(n:Nat):n<2^bk n:=by
 unfold bk;split
 ·simp[*]
 ·exact Nat.lt_log2_self
theorem iY(h:n≠0):2^(bk n-1)<=n:=by
 simp only[bk,h,if_false,afZ];exact Nat.log2_self_le h
theorem mT(h:2^k<=n):bk n=bk (n/2^k)+k:=by
 have hk:=adR (a:=2) (n:=k) zr;have h0:n/2^k≠0:=by have:=Nat.div_pos h hk;omega
 have h1:=iY h0;have h2:=mE (n/2^k);have h3:0<bk (n/2^k):=by simp[bk,h0]
 have h4:2^(bk (n/2^k)-1)*2^k<=n:=HQ (adh _ h1) (afp n _);have h5:n<2^bk (n/2^k)*2^k:=by rw[<-afn hk];exact h2
 rw[<-aee]at h4 h5;have h6:=R6 h4 yn;omega
theorem Yk(f:List UInt8)(hf:(List.range 256).all (λi=>(f[i]?.getD 0).toNat==bk i)=true)(x:Nat)(hx:x<256):(f[x]?.getD 0).toNat=bk x:=by
 grind
theorem tB(G:List (List DV))(n:Nat)(hn:n<4294967296):aa prog G 267 [.c (.d (.int .u32 n))] (.c (.d (.int .i64 (bk n)))):=by
 refine aa.en func267 rfl λ_=>aah ?_;refine aac λK hK=>aah ?_
 have step2:∀(x m:Nat) (fr:Nat->AV) (κ:Nat),x<65536->m<=16->bk n=m+bk x->fr 0=.c (.d (.int .u32 x))->fr 2=.c (.d (.int .i64 m))->K ⟨fr,λ_=>.hole⟩ κ:=by
  intro x m fr κ hx hm hb f0 f2;apply hK;refine aac λK hK=>aaN f0 ?_
  have step3:∀(x m:Nat) (fr:Nat->AV) (κ:Nat),x<256->m<=24->bk n=m+bk x->fr 0=.c (.d (.int .u32 x))->fr 2=.c (.d (.int .i64 m))->K ⟨fr,λ_=>.hole⟩ κ:=by
   intro x m fr κ hx hm hb f0 f2;apply hK;refine aac λK hK=>?_;have e1:u8.wrap (x:Int)=x:=eG ⟨vd,un⟩
   have hbl:bk x<=8:=by
    by_cases h0:x=0
    ·subst h0;decide
    ·have:=iY h0;apply ad0;intro hc;have h9:2^8<=2^(bk x-1):=adK zr zd;omega
   refine aai ?_;simp[f0,f2,e1];rw[Yk (x:=x) (hx:=hx)]
   ·have e2:=bP (n:=(bk x:Int)) zd zd;have e3:=bP (n:=(m:Int)+bk x) zd zd;rw[e2,e3]
    repeat refine az ?_
    apply hK;exact aaq (aD.rt rfl 0 se)
   ·kernel_rfl
  by_cases h:256<=x
  ·refine aaB xv ?_;have e1:Int.fdiv (x:Int) 256=((x/256:Nat):Int):=by rw[adM _ zd];omega
   have e2:=bP (n:=(m:Int)+8) zd zd;refine aaF λK1 hK1=>?_;simp[f0,IntKind.bits,e1,-Int.natCast_ediv];apply hK1;refine aai ?_;simp[f2,e2];refine step3 (x/256) (m+8) _ _ zd zd ?_ zp zp;have:=mT (n:=x) (k:=8) zd
   grind
  ·refine aaD xv (aan ?_);simp;exact step3 x m _ _ zd zd hb (by simp[f0]) ST
 by_cases h:65536<=n
 ·refine aaB xv ?_;have e1:Int.fdiv (n:Int) 65536=((n/65536:Nat):Int):=by rw[adM _ zd];omega
  refine aaF λK1 hK1=>?_;simp[IntKind.bits,e1,-Int.natCast_ediv];apply hK1;refine aai ?_;simp;refine step2 (n/65536) 16 _ _ zd zd ?_ zp zp;have:=mT (n:=n) (k:=16) zd
  grind
 ·refine aaD xv (aan ?_);simp;exact step2 n 0 _ _ zd zd zp zp zp
theorem pS(G:List (List DV))(n:Nat)(hn:n<4294967296):aa prog G 227 [.c (.d (.int .u32 n))] (.c (.d (.int .i64 (32-(bk n:Int))))):=by
 have hbl:bk n<=32:=by
  by_cases h0:n=0
  ·subst h0;decide
  ·have:=iY h0;apply ad0;intro hc;have h9:2^32<=2^(bk n-1):=adK zr zd;omega
 refine aa.en func227 rfl λ_=>aah ?_;refine aaF λK hK=>?_;simp;refine ag.pure 0 0 (tB _ n hn) rfl zp rfl ?_;have e2:=bP (n:=32-(bk n:Int)) zd zd;simp[e2];apply hK;exact aaq (aD.rt rfl 0 zp)
theorem oq(G:List (List DV))(a:Option (List Nat))(ha:can 4294967296 (dO a))(hl:(dO a).length<=1000000000000):aa prog G 268 [nK .u32 a] (.c (.d (.int .i64 (bk (val 4294967296 (dO a)))))):=by
 refine aa.en func268 rfl λ_=>aah ?_;refine aah ?_;refine aac λK hK=>aah ?_
 by_cases h0:dO a=[]
 ·refine aaB yk (aah ?_);exact aaq (aD.rt rfl 0 (by simp[h0,bk]))
 ·refine aaD yk (aan (hK _ _ (aac λK hK=>?_)));have h0':0<(dO a).length:=List.length_pos_iff.2 h0;have hk:(dO a).length-1<(dO a).length:=by omega
  have e1:i64.wrap (((dO a).length:Int)-1)=(((dO a).length-1:Nat):Int):=by rw[bP zd zd];omega
  have e2:=bP (n:=32*(((dO a).length-1:Nat):Int)) zd zd;have hx:(dO a)[(dO a).length-1]<4294967296:=ha.1 _ (cn hk);have hx0:(dO a)[(dO a).length-1]≠0:=ha.2 _ yn;have hv:=cV (B:=4294967296) (dO a) ((dO a).length-1) zd;rw[eF hk,ig (l:=dO a) (i:=(dO a).length-1+1) zd]at hv;have hlt:=iu (n7 ha.1 ((dO a).length-1));rw[acM,aea zd]at hlt;generalize (dO a).length-1=k at*
  generalize hxe:(dO a)[k]=x at*
  have hbl:bk x<=32:=by
   have:=iY hx0;apply ad0;intro hc;have h9:2^32<=2^(bk x-1):=adK zr zd;omega
  have hb:bk (val 4294967296 (dO a))=32*k+bk x:=by
   have hP:(4294967296:Nat)^k=2^(32*k):=by rw[aeT]
   rw[hP]at hv hlt
   have h1:val 4294967296 (dO a)/2^(32*k)=x:=by
    rw[hv,aeU,ad9,agf _ _ (adR zr),ae9 hlt,aej]
   have h2:=mT (n:=val 4294967296 (dO a)) (k:=32*k) (by
    have:2^(32*k)*1<=2^(32*k)*(x+4294967296*0):=adI _ zd;omega)
   rw[h1]at h2;omega
  refine aai ?_;simp[e1,e2,hk,hxe];refine ag.pure 0 0 (tB _ x hx) rfl zp rfl ?_;have e3:=bP (n:=32*(k:Int)+bk x) zd zd;simp[e3];apply hK;exact aaq (aD.rt rfl 0 se)
theorem O7(hx:x<4294967296)(hs:s<32):∃y h:Nat,(x*2^s)%4294967296=y*2^s/\(x*2^s)/4294967296=h/\y*2^s+2^s<=4294967296/\h<2^s/\x*2^s<18446744073709551616:=by
 have hP:(2:Nat)^(32-s)*2^s=4294967296:=by rw[<-aee,Nat.sub_add_cancel zd]
 have h0:0<2^s:=adR zr;have h1:0<2^(32-s):=adR zr;refine⟨x%2^(32-s),_,?_,rfl,?_,?_,?_⟩
 ·rw[<-hP,Nat.mul_mod_mul_right]
 ·have:=adx x h1
  calc x%2^(32-s)*2^s+2^s=(x%2^(32-s)+1)*2^s:=by grind
   _<=2^(32-s)*2^s:=adh _ this
   _=4294967296:=hP
 ·rw[afn zr,aed]
  simp_all
 ·have h2:2^s<4294967296:=Nat.pow_lt_pow_right zr hs |> λh=>h
  calc x*2^s<=4294967295*2^s:=adh _ zd
   _<=4294967295*4294967295:=adI _ zd
   _<_:=zr
theorem iz(G:List (List DV))(a:Option (List Nat))(k:Nat)(ha:(dO a).length<=1000000000000)(hk:k<=1000000000000):
 aa prog G 228 [nK .u32 a,.c (.d (.int .i64 k))] (if dO a=[]then nK .u32 none else nK .u32 (some (aL 4294967296 (val 4294967296 (dO a)*2^k)))):=by
 refine aQ.nc 0 zp (λV v h=>jD h) λhra=>?_;have oka:ok 4294967296 (dO a):=λd hd=>by have:=hra.2 d hd;simp only[rM]at this;omega
 by_cases h0:dO a=[]
 ·rw[if_pos h0];refine aa.en func228 rfl λ_=>aah ?_;refine aac λK hK=>aah ?_;refine aaB yk (aah ?_);exact aaq (aD.rt rfl 0 (by simp[nK]))
 ·rw[if_neg h0];refine aa.en func228 rfl λ_=>aah ?_;refine aac λK hK=>aah ?_;refine aaD yk (aan (hK _ _ (aac λK hK=>?_)));have d1:Int.tdiv (k:Int) 32=((k/32:Nat):Int):=by rw[afJ zd];omega
  have d2:Int.tmod (k:Int) 32=((k%32:Nat):Int):=by rw[agh zd];omega
  have hks:k=32*(k/32)+k%32:=zd
  have hs:k%32<32:=zd
  have hw:k/32<=1000000000000:=zd
  have d3:=bP (n:=((k/32:Nat):Int)) zd zd;have d4:=fB (n:=((k%32:Nat):Int)) zd zd;generalize k/32=w at*
  generalize k%32=s at*
  refine AW.l4 d1 d2 d3 d4 (hK _ _ ?_);have e1:i64.wrap (((dO a).length:Int)+w)=(((dO a).length+w:Nat):Int):=by rw[bP zd zd];omega
  have e2:i64.wrap ((((dO a).length+w:Nat):Int)+1)=(((dO a).length+w+1:Nat):Int):=by rw[bP zd zd];omega
  refine aaF λK hK=>?_;simp[e1,e2,-Int.natCast_add]
  repeat refine az ?_
  apply hK;refine aac λK hK=>aah ?_;refine aaw ?_
  refine aaY (λ(p:Nat×List Nat)=>⟨aT [(0,nK .u32 a),(5,.c (.d (.int .i64 w))),(6,.c (.d (.int .u64 s))),(7,.c (.aO 0 0 ((dO a).length+w+1) 1)),(25,nK .u32 a),(26,.c (.d (.int .i64 (dO a).length))),(27,.c (.d (.int .i64 p.1)))],
   aM (λ_=>.hole) 0 (.cells true false 200 (wK .u32 (p.2++List.replicate ((dO a).length-p.1) 0)))⟩) 1
   (λp=>p.1<=(dO a).length/\p.2.length=p.1+w+1/\ok 4294967296 p.2/\p.2.getD (p.1+w) 0<2^s/\val 4294967296 p.2=4294967296^w*(val 4294967296 ((dO a).take p.1)*2^s))
   (λp=>(dO a).length-p.1) (0,List.replicate (w+1) 0) (Le.mk' _ (by simp[jj,show(dO a).length+w+1=w+1+(dO a).length by omega]) zp zp) ⟨zp,zp,vH zd _,yn,by simp[sN]⟩ ?_
  rintro⟨i,lo⟩ ⟨h1,h2,h3,h4,h5⟩;simp only at h1 h2 h3 h4 h5;refine aah ?_;refine aac λK2 hK2=>?_
  by_cases hlt:i<(dO a).length
  ·refine aaB yk (aan (hK2 _ _ (aac λK3 hK3=>aaw (aaF λK4 hK4=>?_))));simp[hlt];apply hK4;refine aac λK4 hK4=>?_;have hx:(dO a)[i]<4294967296:=oka _ (cn hlt);have hbt:val 4294967296 ((dO a).take (i+1))=val 4294967296 ((dO a).take i)+4294967296^i*(dO a)[i]:=bU hlt;generalize (dO a)[i]=x at hx hbt;obtain⟨y,hh,g1,g2,g3,g4,g5⟩:=O7 hx hs;have e3:=fB (n:=(x:Int)) zd zd
   have e4:u64.wrap ((x:Int)*2^min s 64)=((x*2^s:Nat):Int):=by
    rw[aea zd,show((x:Int)*2^s)=((x*2^s:Nat):Int) by rfl];generalize x*2^s=z at g5;exact fB zd zd
   refine aai ?_;simp[e3,IntKind.bits,e4,-Int.natCast_mul,-Int.natCast_pow];apply hK4;have hij:i+w<lo.length:=zd
   have hij2:i+w<(lo++List.replicate ((dO a).length-i) 0).length:=yv
   have hij3:i+w<lo.length+((dO a).length-i):=zd
   have ht:lo[i+w]<2^s:=by rw[ab6,fy hij]at h4;exact h4
   have ho2:(lo++List.replicate ((dO a).length-i) 0)[i+w]=lo[i+w]:=aeF hij;have hset:=yW (B:=4294967296) hij;generalize lo[i+w]=t at ht ho2 hset;have f1:i64.wrap ((i:Int)+w)=((i+w:Nat):Int):=by rw[bP zd zd];omega
   have f2:u32.wrap ((x*2^s:Nat):Int)=((y*2^s:Nat):Int):=by rw[<-g1,tf];generalize x*2^s=z;omega
   have f3:OC .u32 (t:Int) ((y*2^s:Nat):Int)=((y*2^s+t:Nat):Int):=N7 ht zd;have f8:y*2^s+t<4294967296:=zd
   have f4:ai (wK .u32 (lo++List.replicate ((dO a).length-i) 0)) (i+w) [CV.d (.int .u32 ((y*2^s+t:Nat):Int))]=wK .u32 (lo.set (i+w) (y*2^s+t)++List.replicate ((dO a).length-i) 0):=by
    rw[iU _ hij2,agz _ _ hij]
   have f5:i+w<(dO a).length+w+1:=zd
   refine aaF λK4 hK4=>?_;simp[f1,f2,f3,f4,f5,hij3,ho2,-Int.natCast_mul,-Int.natCast_pow,-Int.natCast_add]
   repeat refine az ?_
   apply hK4;have f6:Int.fdiv ((x*2^s:Nat):Int) 4294967296=(hh:Int):=by rw[adM _ zd,<-g2];generalize x*2^s=z;omega
   have f7:i64.wrap (((i+w:Nat):Int)+1)=((i+w+1:Nat):Int):=by rw[bP zd zd];omega
   have hs32:(2:Nat)^s<4294967296:=Nat.pow_lt_pow_right zr hs |> λh=>h
   have f9:=lR (n:=(hh:Int)) zd zd;have hz:(dO a).length-i=((dO a).length-i-1)+1:=zd
   have f10:ai (wK .u32 (lo.set (i+w) (y*2^s+t)++List.replicate ((dO a).length-i) 0)) (i+w+1) [CV.d (.int .u32 (hh:Int))]=wK .u32 (lo.set (i+w) (y*2^s+t)++[hh]++List.replicate ((dO a).length-i-1) 0):=by
    rw[iU _ yv,hz];have:i+w+1=(lo.set (i+w) (y*2^s+t)).length:=yv
    rw[this,mM];simp
   have f11:i+w+1<lo.length+((dO a).length-i):=zd
   refine aai ?_;simp[f1,f6,f7,f9,f10,IntKind.bits,-Int.natCast_mul,-Int.natCast_pow,-Int.natCast_add]
   repeat refine az ?_
   apply hK3;have f12:=bP (n:=(i:Int)+1) zd zd;refine aai ?_;simp[f12];have f13:(dO a).length-(i+1)=(dO a).length-i-1:=zd
   refine⟨i+1,lo.set (i+w) (y*2^s+t)++[hh],Le.mk' _ (by simp[f13]) zp zp,⟨zd,yv,dD.2 ⟨I4 h3 _ f8,b6.2 ⟨zd,dM _⟩⟩,?_,?_⟩,zd⟩
   ·grind
   ·rw[gU,List.length_set,h2,hbt];have p1:=hset (y*2^s+t);have p2:=ry 4294967296 (i+w) (x*2^s)
    grind
  ·refine aaD yk (aaR ?_);simp;have e9:i=(dO a).length:=by omega
   subst e9;apply hK;refine aaF λK hK=>?_;simp;rw[<-h2]
   have hout:fc lo=aL 4294967296 (val 4294967296 (dO a)*2^k):=by
    refine fQ zr h3 ?_;rw[h5,aX (bf _),hks,aee,aeT];generalize 2^s=S;generalize val 4294967296 (dO a)=V;have:(2:Nat)^32=4294967296:=zr
    rw[this];generalize 4294967296^w=W
    grind
   refine eL.sY 0 1 0 wr zd (fG _ _) zp zp zp ?_;simp;apply hK;exact aaq (aD.rt rfl 1 te)
theorem n8(h:ok B l)(i:Nat)(hi:i<=l.length):val B l/B^i=val B (l.drop i):=by
 have h1:=cV (B:=B) l i hi;have h2:=iu (n7 h i);rw[acM,aea hi]at h2;have hp:0<B^i:=zd
 rw[h1,agf _ _ hp,ae9 h2,aej]
theorem My{D z:Nat}(hs:s<32)(hD:D=x+4294967296*(y+4294967296*z)):D/2^s%4294967296=(y*4294967296+x)/2^s%4294967296:=by
 have hP:(2:Nat)^(32-s)*2^s=4294967296:=by rw[<-aee,Nat.sub_add_cancel zd]
 have h0:0<2^s:=adR zr
 have e:D=(y*4294967296+x)+2^s*(4294967296*(2^(32-s)*z)):=by
  have aux:∀S T B:Nat,T*S=B->S*(B*(T*z))=B*(B*z):=by
   intro S T B h
   calc S*(B*(T*z))=(T*S)*(B*z):=by ac_rfl
    _=_:=by rw[h]
  have this:=aux (2^s) (2^(32-s)) 4294967296 hP;rw[this,hD];omega
 rw[e,agf _ _ h0,agc]
theorem vk(G:List (List DV))(a:Option (List Nat))(k:Nat)(ha:(dO a).length<=1000000000000)(hk:k<=1000000000000):
 aa prog G 231 [nK .u32 a,.c (.d (.int .i64 k))] (if (dO a).length<=k/32 then nK .u32 none else nK .u32 (some (aL 4294967296 (val 4294967296 (dO a)/2^k)))):=by
 refine aQ.nc 0 zp (λV v h=>jD h) λhra=>?_;have oka:ok 4294967296 (dO a):=λd hd=>by have:=hra.2 d hd;simp only[rM]at this;omega
 have d1:Int.tdiv (k:Int) 32=((k/32:Nat):Int):=by rw[afJ zd];omega
 have d2:Int.tmod (k:Int) 32=((k%32:Nat):Int):=by rw[agh zd];omega
 have hks:k=32*(k/32)+k%32:=zd
 have hs:k%32<32:=zd
 have hw:k/32<=1000000000000:=zd
 have d3:=bP (n:=((k/32:Nat):Int)) zd zd;have d4:=fB (n:=((k%32:Nat):Int)) zd zd;generalize k/32=w at*
 generalize k%32=s at*
 by_cases h0:(dO a).length<=w
 ·rw[if_pos h0];refine aa.en func231 rfl λ_=>aah ?_;refine acw d1 d2 d3 d4 ?_;refine aac λK hK=>aah ?_;refine aaB yk (aah ?_);exact aaq (aD.rt rfl 0 (by simp[nK]))
 ·rw[if_neg h0];refine aa.en func231 rfl λ_=>aah ?_;refine acw d1 d2 d3 d4 ?_;refine aac λK hK=>aah ?_;refine aaD yk (aan (hK _ _ ?_));have e1:i64.wrap (((dO a).length:Int)-w)=(((dO a).length-w:Nat):Int):=by rw[bP zd zd];omega
  have hw1:w<=(dO a).length:=zd
  have hD:=n8 oka w hw1;refine aaN e1 ?_;refine aac λK hK=>aah ?_;refine aaw ?_
  refine aaY (λ(pre:List Nat)=>⟨aT [(0,nK .u32 a),(5,.c (.d (.int .i64 w))),(6,.c (.d (.int .u64 s))),(7,.c (.aO 0 0 ((dO a).length-w) 1)),(25,.c (.d (.int .i64 ((dO a).length-w:Nat)))),(26,.c (.d (.int .i64 pre.length)))],
   aM (λ_=>.hole) 0 (.cells true false 200 (wK .u32 (pre++List.replicate ((dO a).length-w-pre.length) 0)))⟩) 1
   (λpre=>pre.length<=(dO a).length-w/\ok 4294967296 pre/\val 4294967296 pre=(val 4294967296 ((dO a).drop w)/2^s)%4294967296^pre.length)
   (λpre=>(dO a).length-w-pre.length) [] (Le.mk' _ lr zp zp) ⟨zp,dM _,by simp[Nat.mod_one]⟩ ?_
  rintro pre ⟨h1,h2,h3⟩;refine aah ?_;refine aac λK2 hK2=>?_
  by_cases hlt:pre.length<(dO a).length-w
  ·refine aaB yk (aan (hK2 _ _ (aac λK3 hK3=>aaw (aah ?_))));refine aac λK4 hK4=>?_;have hi:pre.length+w<(dO a).length:=by omega
   have f1:i64.wrap ((pre.length:Int)+w)=((pre.length+w:Nat):Int):=by rw[bP zd zd];omega
   have f2:i64.wrap (((pre.length+w:Nat):Int)+1)=((pre.length+w+1:Nat):Int):=by rw[bP zd zd];omega
   have hx:(dO a)[pre.length+w]<4294967296:=oka _ (cn hi)
   have hdr:val 4294967296 ((dO a).drop w)/4294967296^pre.length=(dO a)[pre.length+w]+4294967296*val 4294967296 ((dO a).drop (pre.length+w+1)):=by
    rw[n8 (Di oka w) _ yv,afe,afE w,eF hi]
   have hix:=jh (P:=prog) (T:=32) (lv:=aM (λ_=>.hole) 0 (.cells true false 200 (wK .u32 (pre++List.replicate ((dO a).length-w-pre.length) 0)))) (k:=.u32) (k':=.i64) (o:=a) (i:=pre.length+w) zp hi;generalize (dO a)[pre.length+w]=x at hx hdr hix;have e3:=fB (n:=(x:Int)) zd zd;refine aai ?_;simp[f1,hix,e3,-Int.natCast_add];apply hK4;refine aac λK5 hK5=>aac λK6 hK6=>?_
   have fin:∀(y z:Nat) (fr:Nat->AV) (κ:Nat),y<4294967296->val 4294967296 ((dO a).drop (pre.length+w+1))=y+4294967296*z ->
    fr 0=nK .u32 a->fr 5=.c (.d (.int .i64 w))->fr 6=.c (.d (.int .u64 s))->fr 7=.c (.aO 0 0 ((dO a).length-w) 1)->fr 8=.c (.d (.int .i64 pre.length))->fr 9=.c (.d (.int .u64 ((y*4294967296+x:Nat):Int))) ->
    fr 25=.c (.d (.int .i64 ((dO a).length-w:Nat)))->fr 26=.c (.d (.int .i64 pre.length)) ->
    K5 ⟨fr,aM (λ_=>.hole) 0 (.cells true false 200 (wK .u32 (pre++List.replicate ((dO a).length-w-pre.length) 0)))⟩ κ:=by
    intro y z fr κ hy hyz q0 q5 q6 q7 q8 q9 q25 q26;apply hK5;refine abP 2 ?_
    have g1:Int.fdiv ((y*4294967296+x:Nat):Int) (2^min s 64)=(((y*4294967296+x)/2^s:Nat):Int):=by
     rw[aea zd,adM _ (Int.le_of_lt (Int.pow_pos zr))];generalize y*4294967296+x=m;rw[Int.natCast_ediv];congr 1
    have g2:u32.wrap (((y*4294967296+x)/2^s:Nat):Int)=(((y*4294967296+x)/2^s%4294967296:Nat):Int):=by
     rw[tf];generalize (y*4294967296+x)/2^s=m;omega
    have hdig:=My (x:=x) (y:=y) (z:=z) hs (D:=val 4294967296 ((dO a).drop w)/4294967296^pre.length) zd;have hv:(y*4294967296+x)/2^s%4294967296<4294967296:=adx _ zd;generalize (y*4294967296+x)/2^s%4294967296=v at g2 hdig hv;have hz:(dO a).length-w-pre.length=((dO a).length-w-pre.length-1)+1:=zd
    have g3:ai (wK .u32 (pre++List.replicate ((dO a).length-w-pre.length) 0)) pre.length [CV.d (.int .u32 (v:Int))]=wK .u32 (pre++[v]++List.replicate ((dO a).length-w-pre.length-1) 0):=by
     rw[hz,iU _ zp,mM];simp
    refine aai ?_;simp[q6,q7,q8,q9,IntKind.bits,g1,g2,g3,hlt,-Int.natCast_add,-Int.natCast_mul,-Int.natCast_ediv,-Int.natCast_pow]
    repeat refine az ?_
    apply hK3;have g4:=bP (n:=(pre.length:Int)+1) zd zd;refine aai ?_;simp[q26,g4];have g5:(dO a).length-w-(pre.length+1)=(dO a).length-w-pre.length-1:=zd
    refine⟨pre++[v],Le.mk' _ (by simp[g5]) zp (by simp[q0,q5,q6,q7,q25]),⟨yv,dD.2 ⟨h2,b6.2 ⟨hv,dM _⟩⟩,?_⟩,yv⟩;rw[gU,adl,aex,Nat.mod_pow_succ,h3,afh,aed (2^s),<-afh,hdig]
   refine aai ?_;simp[f1,f2,-Int.natCast_add];apply hK6
   by_cases hlb:pre.length+w+1<(dO a).length
   ·refine aaB sm ?_;have hy:(dO a)[pre.length+w+1]<4294967296:=oka _ (cn hlb);have hyz:=eF (B:=4294967296) hlb;have hiy:=jh (P:=prog) (T:=32) (lv:=aM (λ_=>.hole) 0 (.cells true false 200 (wK .u32 (pre++List.replicate ((dO a).length-w-pre.length) 0)))) (k:=.u32) (k':=.i64) (o:=a) (i:=pre.length+w+1) zp hlb;generalize (dO a)[pre.length+w+1]=y at hy hyz hiy;have p1:=fB (n:=(y:Int)) zd zd;have p2:u64.wrap ((y:Int)*4294967296)=((y*4294967296:Nat):Int):=by rw[fB zd zd];omega
    have p3:OC .u64 (x:Int) ((y*4294967296:Nat):Int)=((y*4294967296+x:Nat):Int):=by rw[EV];exact vn hy hx
    refine aai ?_;simp[f1,f2,hiy,p1,p2,p3,IntKind.bits,-Int.natCast_add,-Int.natCast_mul];exact fin y _ _ _ hy hyz zp zp zp zp zp zp zp zp
   ·refine aaD sm (aan ?_);simp;exact fin 0 0 _ _ zd (by rw[ig zd]) zp zp zp zp zp zp zp zp
  ·refine aaD yk (aaR ?_);simp;have e9:pre.length=(dO a).length-w:=by omega
   apply hK;refine aaF λK hK=>?_;simp
   have hout:fc pre=aL 4294967296 (val 4294967296 (dO a)/2^k):=by
    refine fQ zr h2 ?_;have hl:=iu (Di oka w);rw[afl,<-e9]at hl;rw[h3,ad4 (aeR (aeB _ _) hl),<-hD,afh,hks,aee,aeT]
   rw[<-e9];simp only[Nat.sub_self,List.replicate_zero,ad5];refine eL.sY 0 1 0 wr zd (fG _ _) zp zp zp ?_;simp;apply hK;exact aaq (aD.rt rfl 1 te)
theorem Ct{x0 cb b:Nat}(hx:x0<4294967296)(hc:cb<4294967296)(hb:b<=1):
 ∃v b':Nat,v<4294967296/\b'<=1/\v+cb+b=x0+4294967296*b'/\u32.wrap (u64.wrap (u64.wrap ((x0:Int)-cb)-b))=v/\Int.fdiv (u64.wrap (u64.wrap ((x0:Int)-cb)-b)) 9223372036854775808=b':=by
 simp only[tf,Cj]
 by_cases h:cb+b<=x0
 ·refine⟨x0-cb-b,0,zd,zd,zd,zd,?_⟩
  grind
 ·refine⟨x0+4294967296-cb-b,1,zd,zd,zd,zd,?_⟩
  grind
theorem rS(k:IntKind)(l:List Nat):∀x∈wK k l,x.pure=true:=by
 intro x hx;simp only[wK,aeA]at hx;obtain⟨y,_,rfl⟩:=hx;rfl
def tA(w m:Nat):Nat:=if w<m then 1 else 0
theorem NR{W M R bb:Nat}(hbb:bb<=1)(h:R+M=W+L*bb)(hR:R<L):bb=tA W M/\R=W+L*tA W M-M:=by
 unfold tA;have:bb=0\/bb=1:=zd
 grind
theorem BT(G:List (List DV))(lo win hi:List Nat)(n t:Nat)(v:Option (List Nat))(hw:win.length=(dO v).length+1)(hn:win.length<=n)(okw:ok 4294967296 win)(ht:t<4294967296)(hl:(lo++win++hi).length<=1000000000000):
 aQ prog G 229 [.c (.aO 0 lo.length n 1),nK .u32 v,.c (.d (.int .u64 t))] [.cells false false 200 (wK .u32 (lo++win++hi))]
  (.ret (.c (.d (.bool (decide (tA (val 4294967296 win) (t*val 4294967296 (dO v))=1))))) [.cells false false 200 (wK .u32 (lo++jo 4294967296 win.length (val 4294967296 win+4294967296^win.length*tA (val 4294967296 win) (t*val 4294967296 (dO v))-t*val 4294967296 (dO v))++hi))] []):=by
 refine aQ.nc 1 zp (λV v h=>jD h) λhrv=>?_;have okv:ok 4294967296 (dO v):=λd hd=>by have:=hrv.2 d hd;simp only[rM]at this;omega
 simp only[adl]at hl;refine aQ.en1 func229 rfl λ_=>aah ?_;refine aah ?_;refine aac λK hK=>aah ?_;refine aaw ?_
 refine aaY (λ(p:List Nat×Nat×Nat)=>⟨aT [(0,.c (.aO 0 lo.length n 1)),(1,nK .u32 v),(2,.c (.d (.int .u64 t))),(7,.c (.d (.int .u64 p.2.1))),(8,.c (.d (.int .u64 p.2.2))),(13,nK .u32 v),(14,.c (.d (.int .i64 (dO v).length))),(15,.c (.d (.int .i64 p.1.length)))],
  aM (λ_=>.hole) 0 (.cells false false 200 (wK .u32 (lo++(p.1++win.drop p.1.length)++hi)))⟩) 1000
  (λp=>p.1.length<=(dO v).length/\ok 4294967296 p.1/\p.2.1<4294967296/\p.2.2<=1/\val 4294967296 p.1+t*val 4294967296 ((dO v).take p.1.length)=val 4294967296 (win.take p.1.length)+4294967296^p.1.length*(p.2.1+p.2.2))
  (λp=>(dO v).length-p.1.length) ([],0,0) (Le.mk' _ zp zp zp) ⟨zp,dM _,zp,zp,zp⟩ ?_
 rintro⟨pre,c,b⟩ ⟨h1,h2,h3,h4,h5⟩;simp only at h1 h2 h3 h4 h5;have hwl:pre.length<win.length:=zd
 have hwd:win.drop pre.length=win[pre.length]::win.drop (pre.length+1):=adP hwl;have hwx:win[pre.length]<4294967296:=okw _ (cn hwl);have hwt:=bU (B:=4294967296) hwl;generalize hx0:win[pre.length]=x0 at hwd hwx hwt;generalize hB:lo++(pre++win.drop pre.length)++hi=BL;rw[hwd]at hB;have hget:BL[lo.length+pre.length]?=some x0:=by rw[<-hB];exact J2 hi
 have hBl:BL.length=lo.length+(win.length+hi.length):=by rw[<-hB];simp;omega
 refine aah ?_;refine aac λK2 hK2=>?_
 by_cases hlt:pre.length<(dO v).length
 ·refine aaB yk (aan (hK2 _ _ (aac λK3 hK3=>aaw (aaF λK4 hK4=>?_))));simp[hlt];apply hK4;refine aac λK4 hK4=>?_;have hx:(dO v)[pre.length]<4294967296:=okv _ (cn hlt);have hvt:=bU (B:=4294967296) hlt;generalize (dO v)[pre.length]=x at hx hvt;have htx:t*x<=4294967295*4294967295:=ae3 zd zd;have e1:=fB (n:=(x:Int)) zd zd
  have e2:u64.wrap ((t:Int)*x)=((t*x:Nat):Int):=by
   rw[<-afH];generalize t*x=p at htx;exact fB zd zd
  have e3:u64.wrap ((c:Int)+((t*x:Nat):Int))=((c+t*x:Nat):Int):=by
   generalize t*x=p at htx;rw[fB zd zd];omega
  refine aai ?_;simp[e1,e2,e3,-Int.natCast_add,-Int.natCast_mul];apply hK4;generalize hm:c+t*x=m at*
  have hml:m<18446744073709551616:=by rw[<-hm];generalize t*x=p at htx;omega
  have e4:u32.wrap (m:Int)=((m%4294967296:Nat):Int):=lh
  have e5:=fB (n:=((m%4294967296:Nat):Int)) zd zd;have e6:=fB (n:=(x0:Int)) zd zd;have hcb:m%4294967296<4294967296:=adx _ zd;have hdm:=afI m 4294967296;obtain⟨d,b',g1,g2,g3,g4,g5⟩:=Ct hwx hcb h4;have e7:Int.fdiv (m:Int) 4294967296=((m/4294967296:Nat):Int):=by rw[adM _ zd];omega
  generalize m%4294967296=mr at*
  generalize m/4294967296=mq at*
  have i1:=oL (P:=prog) (T:=200) zp .u32 hget
  have i2:ai (wK .u32 BL) (lo.length+pre.length) [CV.d (.int .u32 (d:Int))]=wK .u32 (lo++((pre++[d])++win.drop (pre.length+1))++hi):=by
   rw[iU _ zd,<-hB,zu]
  have i3:lo.length+pre.length+1<=BL.length:=zd
  have i4:pre.length<n:=zd
  refine aaF λK4 hK4=>?_;simp[i1,e4,e5,e6,i4,-Int.natCast_emod];apply hK4;refine acw g4 i2 i3 i4 ?_;refine aaF λK4 hK4=>?_;simp[IntKind.bits,g5];apply hK4;refine aai ?_;simp[IntKind.bits,e7,-Int.natCast_ediv];apply hK3;have e8:=bP (n:=(pre.length:Int)+1) zd zd;refine aai ?_;simp[e8];refine⟨pre++[d],mq,b',Le.mk' _ zp zp zp,⟨yv,dD.2 ⟨h2,b6.2 ⟨g1,dM _⟩⟩,zd,g2,?_⟩,yv⟩;rw[adl,aex,gU,hvt,hwt,adk]
  grind
 ·refine aaD yk (aaR ?_);simp;have ek:pre.length=(dO v).length:=by omega
  apply hK;have hgl:win.drop (pre.length+1)=[]:=aeQ zd;obtain⟨d,b',g1,g2,g3,g4,g5⟩:=Ct hwx h3 h4;have e6:=fB (n:=(x0:Int)) zd zd;have i1:=oL (P:=prog) (T:=200) zp .u32 hget
  have i2:ai (wK .u32 BL) (lo.length+pre.length) [CV.d (.int .u32 (d:Int))]=wK .u32 (lo++(pre++[d])++hi):=by
   rw[iU _ zd,<-hB,zu,hgl,ad5]
  have i3:lo.length+pre.length+1<=BL.length:=zd
  have i4:pre.length<n:=zd
  rw[<-ek];refine aaF λK hK=>?_;simp[<-ek,i1,e6,i4];apply hK;refine aaF λK hK=>?_;simp[<-ek,i2,i3,i4,g4];apply hK;refine aaF λK hK=>?_;simp[IntKind.bits,g5];apply hK;have hvv:val 4294967296 ((dO v).take pre.length)=val 4294967296 (dO v):=aX zd;have hww:val 4294967296 (win.take (pre.length+1))=val 4294967296 win:=aX zd;have hL:win.length=pre.length+1:=zd
  rw[hvv]at h5
  have hfin:val 4294967296 (pre++[d])+t*val 4294967296 (dO v)=val 4294967296 win+4294967296^win.length*b':=by
   rw[hL,gU,<-hww,hwt,adk];have j1:4294967296^pre.length*(d+c+b)=4294967296^pre.length*(x0+4294967296*b'):=by rw[g3]
   rw[adZ,adZ,adZ,<-adQ]at j1;rw[adZ]at h5;omega
  have hok:ok 4294967296 (pre++[d]):=dD.2 ⟨h2,b6.2 ⟨g1,dM _⟩⟩;have hlt2:=iu hok;rw[adl,aex,<-hL]at hlt2;obtain⟨q1,q2⟩:=NR g2 hfin hlt2;have hdig:=sM hok q2;rw[adl,aex,<-hL]at hdig;rw[<-hdig];have q3:(b':Int)=1↔tA (val 4294967296 win) (t*val 4294967296 (dO v))=1:=by rw[<-q1];omega
  refine aal (κ:=0) (Ab.tmp (κ:=0) rfl (by simp[q3]) rfl zp zp)
theorem Na(hB:0<B)(h:ok B l)(hv:val B l=n%B^l.length):l=jo B l.length n:=by
 have h1:=sM (vA hB l.length n) (oz l.length n);rw[rG]at h1;rw[h1];exact sM h hv
theorem BK(G:List (List DV))(lo win hi:List Nat)(n:Nat)(v:Option (List Nat))(hw:win.length=(dO v).length+1)(hn:win.length<=n)(okw:ok 4294967296 win)(hl:(lo++win++hi).length<=1000000000000):
 aQ prog G 230 [.c (.aO 0 lo.length n 1),nK .u32 v] [.cells false false 200 (wK .u32 (lo++win++hi))]
  (.ret (.tup []) [.cells false false 200 (wK .u32 (lo++jo 4294967296 win.length (val 4294967296 win+val 4294967296 (dO v))++hi))] []):=by
 refine aQ.nc 1 zp (λV v h=>jD h) λhrv=>?_;have okv:ok 4294967296 (dO v):=λd hd=>by have:=hrv.2 d hd;simp only[rM]at this;omega
 simp only[adl]at hl;refine aQ.en1 func230 rfl λ_=>aah ?_;refine aac λK hK=>aah ?_;refine aaw ?_
 refine aaY (λ(p:List Nat×Nat)=>⟨aT [(0,.c (.aO 0 lo.length n 1)),(1,nK .u32 v),(4,.c (.d (.int .u64 p.2))),(7,nK .u32 v),(8,.c (.d (.int .i64 (dO v).length))),(9,.c (.d (.int .i64 p.1.length)))],
  aM (λ_=>.hole) 0 (.cells false false 200 (wK .u32 (lo++(p.1++win.drop p.1.length)++hi)))⟩) 1000
  (λp=>p.1.length<=(dO v).length/\ok 4294967296 p.1/\p.2<=1/\val 4294967296 p.1+4294967296^p.1.length*p.2=val 4294967296 (win.take p.1.length)+val 4294967296 ((dO v).take p.1.length))
  (λp=>(dO v).length-p.1.length) ([],0) (Le.mk' _ zp zp zp) ⟨zp,dM _,zp,zp⟩ ?_
 rintro⟨pre,c⟩ ⟨h1,h2,h4,h5⟩;simp only at h1 h2 h4 h5;have hwl:pre.length<win.length:=zd
 have hwd:win.drop pre.length=win[pre.length]::win.drop (pre.length+1):=adP hwl;have hwx:win[pre.length]<4294967296:=okw _ (cn hwl);have hwt:=bU (B:=4294967296) hwl;generalize hx0:win[pre.length]=x0 at hwd hwx hwt;generalize hB:lo++(pre++win.drop pre.length)++hi=BL;rw[hwd]at hB;have hget:BL[lo.length+pre.length]?=some x0:=by rw[<-hB];exact J2 hi
 have hBl:BL.length=lo.length+(win.length+hi.length):=by rw[<-hB];simp;omega
 have i1:=oL (P:=prog) (T:=200) zp .u32 hget;have i3:lo.length+pre.length+1<=BL.length:=zd
 have i4:pre.length<n:=zd
 refine aah ?_;refine aac λK2 hK2=>?_
 by_cases hlt:pre.length<(dO v).length
 ·refine aaB yk (aan (hK2 _ _ (aac λK3 hK3=>aaw (aaF λK4 hK4=>?_))));simp[hlt];apply hK4;refine aac λK4 hK4=>?_;have hx:(dO v)[pre.length]<4294967296:=okv _ (cn hlt);have hvt:=bU (B:=4294967296) hlt;generalize (dO v)[pre.length]=x at hx hvt;have e1:=fB (n:=(x:Int)) zd zd;have e2:=fB (n:=(x0:Int)) zd zd;have e3:u64.wrap ((x0:Int)+x)=((x0+x:Nat):Int):=by rw[fB zd zd];omega
  have e4:u64.wrap ((c:Int)+((x0+x:Nat):Int))=((c+(x0+x):Nat):Int):=by rw[fB zd zd];omega
  refine aai ?_;simp[i1,i4,e1,e2,e3,e4,-Int.natCast_add];apply hK4;have hs:=o8 4294967296 pre (c+(x0+x));have hml:c+(x0+x)<8589934592:=zd
  generalize hm:c+(x0+x)=m at*
  have e5:u32.wrap (m:Int)=((m%4294967296:Nat):Int):=lh
  have e7:Int.fdiv (m:Int) 4294967296=((m/4294967296:Nat):Int):=by rw[adM _ zd];omega
  have hd:m%4294967296<4294967296:=adx _ zd;have hq:m/4294967296<=1:=zd
  generalize m%4294967296=d at*
  generalize m/4294967296=q at*
  have i2:ai (wK .u32 BL) (lo.length+pre.length) [CV.d (.int .u32 (d:Int))]=wK .u32 (lo++((pre++[d])++win.drop (pre.length+1))++hi):=by
   rw[iU _ zd,<-hB,zu]
  refine acw e5 i2 i3 i4 ?_;refine aai ?_;simp[IntKind.bits,e7];apply hK3;have e8:=bP (n:=(pre.length:Int)+1) zd zd;refine aai ?_;simp[e8];refine⟨pre++[d],q,Le.mk' _ zp zp zp,⟨yv,dD.2 ⟨h2,b6.2 ⟨hd,dM _⟩⟩,hq,?_⟩,yv⟩;rw[adl,aex,hs,hvt,hwt,<-hm,adZ,adZ];omega
 ·refine aaD yk (aaR ?_);simp;have ek:pre.length=(dO v).length:=by omega
  apply hK;have hgl:win.drop (pre.length+1)=[]:=aeQ zd;have e1:=lR (n:=(c:Int)) zd zd;have hs:=o8 4294967296 pre (x0+c);have e2:u32.wrap ((x0:Int)+c)=(((x0+c)%4294967296:Nat):Int):=lh
  have hd:(x0+c)%4294967296<4294967296:=adx _ zd;generalize (x0+c)/4294967296=q at*
  generalize (x0+c)%4294967296=d at*
  have i2:ai (wK .u32 BL) (lo.length+pre.length) [CV.d (.int .u32 (d:Int))]=wK .u32 (lo++(pre++[d])++hi):=by
   rw[iU _ zd,<-hB,zu,hgl,ad5]
  refine aai ?_;simp[<-ek,i1,i2,i3,i4,e1,e2];have hvv:val 4294967296 ((dO v).take pre.length)=val 4294967296 (dO v):=aX zd;have hww:val 4294967296 (win.take (pre.length+1))=val 4294967296 win:=aX zd;have hL:win.length=(pre++[d]).length:=yv
  rw[hvv]at h5;have hok:ok 4294967296 (pre++[d]):=dD.2 ⟨h2,b6.2 ⟨hd,dM _⟩⟩;have hlt2:=iu hok
  have hval:val 4294967296 win+val 4294967296 (dO v)=val 4294967296 (pre++[d])+4294967296^(pre++[d]).length*q:=by
   rw[adl,aex,hs,<-hww,hwt,adZ];omega
  have hdig:pre++[d]=jo 4294967296 win.length (val 4294967296 win+val 4294967296 (dO v)):=by
   rw[hL];refine Na zr hok ?_;rw[hval,agc,ad4 hlt2]
  refine Ab.none (.inl rfl) rfl zp ?_
  grind
theorem MA(G:List (List DV))(a b:Option (List Nat))(ha:can 4294967296 (dO a))(hb:can 4294967296 (dO b))(h:val 4294967296 (dO a)<val 4294967296 (dO b)):
 aa prog G 176 [nK .u32 a,nK .u32 b] (.tup [nK .u32 none,nK .u32 a]):=by
 refine aa.en func176 rfl λ_=>aah ?_;refine AW.scope ?_;refine aah ?_;refine aac λK hK=>aaw (aaF λK1 hK1=>?_)
 simp;refine ag.pure 0 0 (gk ha hb) rfl zp rfl ?_;simp[lq h];apply hK1;refine aaE (aah ?_);exact aaq (aD.t2 rfl 0 (by simp[nK]) zp)
theorem Mc(G:List (List DV))(a b:Option (List Nat))(ha:can 4294967296 (dO a))(hb:can 4294967296 (dO b))(h:val 4294967296 (dO b)<=val 4294967296 (dO a))(hn:(dO b).length=1)(hl:(dO a).length<=1000000000000):
 aa prog G 176 [nK .u32 a,nK .u32 b] (.tup [nK .u32 (some (aL 4294967296 (val 4294967296 (dO a)/val 4294967296 (dO b)))),nK .u32 (some (aL 4294967296 (val 4294967296 (dO a)%val 4294967296 (dO b))))]):=by
 obtain⟨x,hx⟩:∃x,dO b=[x]:=by
  match hd:dO b,hn with|[x],_=>exact⟨x,rfl⟩
 have hxv:val 4294967296 (dO b)=x:=rc
 have hx0:x≠0:=hb.2 x yn;have hxl:x<4294967296:=hb.1 x yn;have hlt:(0:Nat)<(dO b).length:=zd
 have hix:=jh (P:=prog) (T:=32) (lv:=λ_=>.hole) (k:=.u32) (k':=.i64) (o:=b) (i:=0) zp hlt;have hg:(dO b)[0]=x:=rc
 simp only[hg,agi]at hix;refine aa.en func176 rfl λ_=>aah ?_;refine AW.scope ?_;refine aah ?_;refine aac λK hK=>aaw (aac λK1 hK1=>?_)
 have hc:¬eO (val 4294967296 (dO a)) (val 4294967296 (dO b))<0:=pf
 refine aai ?_;simp;refine ag.pure 0 0 (gk ha hb) rfl zp rfl ?_;simp only[hxv]at hc⊢;simp[hc];apply hK1;refine aaD xr (aah ?_);refine aaB yk (aaF λK1 hK1=>?_);simp[hix];refine ag.pure 0 0 (rI _ a x hx0 hl) (by simp[AV.pure,AV.rE];exact⟨rfl,rfl⟩) zp rfl ?_;simp[-Int.natCast_emod];apply hK1;have hml:val 4294967296 (dO a)%x<x:=adx _ zd;generalize hr:val 4294967296 (dO a)%x=r at*
 have e1:=fB (n:=(r:Int)) zd zd;refine aaF λK1 hK1=>?_;simp[e1];refine ag.pure 0 0 (fK _ r zd) zp zp rfl ?_;simp;apply hK1;exact aaq (aD.t2 rfl 0 (by simp[hxv]) yk)
theorem Ss{lv:Key->LB}(k:IntKind)(l:List Nat):cC lv 1 (nK k (some l))=some (l.length,wK k l):=by
 have h1:(dK k l).all (λe=>e.length==1)=true:=by simp[dK]
 have h2:(dK k l).flatten.map CV.d=wK k l:=by
  induction l with
  |nil=>rfl
  |cons x l ih=>simp only[dK,wK,adi,agj,aeD]at ih⊢;simp[ih]
 simp only[cC,nK,h1,if_true,h2];simp[dK]
theorem zM{lo wl hi:List Nat}(h:i<wl.length):(lo++wl++hi)[lo.length+i]?=wl[i]?:=by
 grind
theorem abc(hn:2<=n)(hl:l.length=n+1):val B l=((l[n]*B+l[n-1])*B+l[n-2])*B^(n-2)+val B (l.take (n-2)):=by
 have h1:=cV (B:=B) l (n-2) zd;have e1:n-2+1=n-1:=zd
 have e2:n-1+1=n:=zd
 rw[eF (zd:n-2<l.length)]at h1;simp only[e1]at h1;rw[eF (zd:n-1<l.length)]at h1;simp only[e2]at h1;rw[eF (zd:n<l.length),ig zd]at h1
 grind
theorem aa6(hn:2<=n)(hl:l.length=n):val B l=(l[n-1]*B+l[n-2])*B^(n-2)+val B (l.take (n-2)):=by
 have h1:=cV (B:=B) l (n-2) zd;have e1:n-2+1=n-1:=zd
 rw[eF (zd:n-2<l.length)]at h1;simp only[e1]at h1;rw[eF (zd:n-1<l.length),ig zd]at h1
 grind
def dvI(dV:List Nat)(n m U0:Nat)(p:Nat×List Nat×List Nat×List Nat):Prop:=
 p.1<=m/\p.2.1.length=p.1/\p.2.2.1.length=n/\ok 4294967296 p.2.1/\ok 4294967296 p.2.2.1/\p.2.2.2.length+p.1=m/\ok 4294967296 p.2.2.2/\val 4294967296 p.2.2.1<val 4294967296 dV /\
  val 4294967296 p.2.1+4294967296^p.1*(val 4294967296 p.2.2.1+val 4294967296 dV*val 4294967296 p.2.2.2)=U0
def dvS(dV:List Nat)(n la m s:Nat)(p:Nat×List Nat×List Nat×List Nat):aJ:=
 ⟨aT [(4,.c (.aO 1 0 m 1)),(6,.c (.d (.int .i64 n))),(9,.c (.d (.int .i64 s))),(10,nK .u32 (some dV)),(11,.c (.aO 0 0 (la+1) 1)),(12,.c (.d (.int .i64 ((p.1:Int)-1))))],
  aM (aM (λ_=>.hole) 0 (.cells true false 200 (wK .u32 (p.2.1++p.2.2.1++List.replicate (m-p.1) 0)))) 1 (.cells true false 200 (wK .u32 (List.replicate p.1 0++p.2.2.2)))⟩
theorem UW{b:List Nat}(hb:can 4294967296 b)(hn:b.length=n)(h1:1<=n):∃t s,b[n-1]?=some t/\t<4294967296/\s<=31/\bk t+s=32/\val 4294967296 b*2^s<4294967296^n/\4294967296^(n-1)*2147483648<=val 4294967296 b*2^s:=by
 have hlt:n-1<b.length:=zd
 have ht0:b[n-1]≠0:=hb.2 _ yn;have htl:b[n-1]<4294967296:=hb.1 _ (cn hlt);have hv:=cV (B:=4294967296) b (n-1) zd;rw[eF hlt,ig zd]at hv;have hl:=iu (n7 hb.1 (n-1));rw[acM,aea zd]at hl;refine⟨b[n-1],32-bk b[n-1],fy hlt,htl,?_⟩;generalize b[n-1]=t at*
 have hb1:=iY ht0;have hb2:=mE t;have hb3:1<=bk t:=by simp[bk,ht0]
 have hb4:bk t<=32:=by
  apply ad0;intro hc;have h9:2^32<=2^(bk t-1):=adK zr zd;omega
 have p1:2^bk t*2^(32-bk t)=4294967296:=by
  rw[<-aee];have:bk t+(32-bk t)=32:=zd
  rw[this]
 have p2:2^(bk t-1)*2^(32-bk t)=2147483648:=by
  rw[<-aee];have:bk t-1+(32-bk t)=31:=zd
  rw[this]
 refine⟨zd,zd,?_,?_⟩
 ·have q1:val 4294967296 b+1<=4294967296^(n-1)*2^bk t:=by
   have:4294967296^(n-1)*(t+1)<=4294967296^(n-1)*2^bk t:=adI _ hb2;rw[adZ,aeu]at this;simp only[aeU,ad9]at hv;omega
  have q2:(val 4294967296 b+1)*2^(32-bk t)<=4294967296^(n-1)*2^bk t*2^(32-bk t):=adh _ q1;have q3:4294967296^(n-1)*4294967296=4294967296^n:=by rw[<-adk];congr 1;omega
  rw[adQ,p1,q3,adn,aes]at q2
  grind
 ·rw[<-p2,<-adQ];refine adh _ ?_;have:4294967296^(n-1)*2^(bk t-1)<=4294967296^(n-1)*t:=adI _ hb1
  grind
theorem TS(hB:0<B)(L n:Nat):jo B L (n%B^L)=jo B L n:=by
 have h:=sM (vA hB L n) rfl;rw[rG,oz]at h
 grind
theorem LA(hB:0<B)(L n:Nat):jo B L (B^L+n)=jo B L n:=by
 rw[<-TS hB,Nat.add_mod_left,TS hB]
theorem DE{a b c:LB}:aM (aM (aM (λ_=>LB.hole) 0 a) 1 b) 0 c=aM (aM (λ_=>LB.hole) 0 c) 1 b:=by
 funext k;simp only[aM]
 grind
theorem M1(a b:Option (List Nat))(ha:can 4294967296 (dO a))(hb:can 4294967296 (dO b))(h:val 4294967296 (dO b)<=val 4294967296 (dO a))(hn:2<=(dO b).length)(hl:(dO a).length<1000000000000):
 ∀G,aa prog G 176 [nK .u32 a,nK .u32 b] (.tup [nK .u32 (some (aL 4294967296 (val 4294967296 (dO a)/val 4294967296 (dO b)))),nK .u32 (if val 4294967296 (dO a)%val 4294967296 (dO b)=0 then none else some (aL 4294967296 (val 4294967296 (dO a)%val 4294967296 (dO b))))]):=by
 intro G;obtain⟨t,s,ht,htl,hs,hts,hV1,hV2⟩:=UW hb rfl zd
 have hlen:(dO b).length<=(dO a).length:=by
  apply ad0;intro hc;have:=nF zd ha hb zd;omega
 have hb0:dO b≠[]:=λe=>by grind
 have ha0:dO a≠[]:=λe=>by grind
 obtain⟨hk,hte⟩:=List.getElem?_eq_some_iff.1 ht;have hlz:=pS G t htl;have e0:(32-(bk t:Int))=(s:Int):=zd
 rw[e0]at hlz;have hsb:=iz G b s zd zd;have hsa:=iz G a s zd zd;rw[if_neg hb0]at hsb;rw[if_neg ha0]at hsa;refine aa.en func176 rfl λ_=>aah ?_;refine AW.scope ?_;refine aah ?_;refine aac λK hK=>aaw (aac λK1 hK1=>?_)
 have hc:¬eO (val 4294967296 (dO a)) (val 4294967296 (dO b))<0:=pf
 refine aai ?_;simp;refine ag.pure 0 0 (gk ha hb) rfl zp rfl ?_;simp[hc];apply hK1;refine aaD xr (aah ?_);have hn1:¬(dO b).length=1:=zd
 refine aaD xv (aan (hK _ _ ?_));have e1:i64.wrap (((dO b).length:Int)-1)=(((dO b).length-1:Nat):Int):=by rw[bP zd zd];omega
 refine aaF λK hK=>?_;simp[e1,hk,hte];refine ag.pure 0 0 hlz rfl zp rfl ?_;simp;apply hK;refine aaF λK hK=>?_;simp;refine ag.pure 0 0 hsb zp zp rfl ?_;simp;apply hK;have e2:=bP (n:=((dO a).length:Int)+1) zd zd;refine aaN e2 ?_;refine aaF λK hK=>?_;simp;refine ag.pure 1 5 hsa zp zp zp ?_;simp[m6,Ss];have hA:=oe (B:=4294967296) (n:=val 4294967296 (dO a)) zr;rw[<-iT zr ha rfl]at hA;have hU1:val 4294967296 (dO a)*2^s<4294967296^(dO a).length*2^s:=agK hA (adR zr);have hs31:(2:Nat)^s<=2147483648:=adK (n:=2) zr hs
 have hU2:val 4294967296 (dO a)*2^s<4294967296^((dO a).length+1):=by
  rw[adk];refine adA hU1 (adI _ zd)
 have hApos:0<val 4294967296 (dO a):=jC ha ha0;have hBpos:0<val 4294967296 (dO b):=jC hb hb0;have hU0:val 4294967296 (dO a)*2^s≠0:=aeg (adJ hApos (adR zr));have hV0:val 4294967296 (dO b)*2^s≠0:=aeg (adJ hBpos (adR zr));have hUl:=cE zr hU2;have hUp:0<(aL 4294967296 (val 4294967296 (dO a)*2^s)).length:=List.length_pos_iff.2 (λe=>hU0 ((cL zr).1 e));have okU:=(bO (B:=4294967296) zr (val 4294967296 (dO a)*2^s)).1;have vU:=bE (B:=4294967296) zr (val 4294967296 (dO a)*2^s);have canV:=bO (B:=4294967296) zr (val 4294967296 (dO b)*2^s);have vV:=bE (B:=4294967296) zr (val 4294967296 (dO b)*2^s)
 have lV:(aL 4294967296 (val 4294967296 (dO b)*2^s)).length=(dO b).length:=by
  refine Nat.le_antisymm (cE zr hV1) ?_;apply ad0;intro hc;have g1:=oe (B:=4294967296) (n:=val 4294967296 (dO b)*2^s) zr;have g2:4294967296^(aL 4294967296 (val 4294967296 (dO b)*2^s)).length<=4294967296^((dO b).length-1):=adK zr zd;have g3:4294967296^((dO b).length-1)*1<=4294967296^((dO b).length-1)*2147483648:=adI _ zr;omega
 have hq:val 4294967296 (dO a)/val 4294967296 (dO b)=(val 4294967296 (dO a)*2^s)/(val 4294967296 (dO b)*2^s):=(Nat.mul_div_mul_right _ _ (adR zr)).symm;have hr:(val 4294967296 (dO a)*2^s)%(val 4294967296 (dO b)*2^s)=(val 4294967296 (dO a)%val 4294967296 (dO b))*2^s:=Nat.mul_mod_mul_right _ _ _;generalize hdV:aL 4294967296 (val 4294967296 (dO b)*2^s)=dV at*
 generalize hdU:aL 4294967296 (val 4294967296 (dO a)*2^s)=dU at*
 rw[aea hUl]
 have hseg:ai (wK .u32 (List.replicate ((dO a).length+1) 0)) 0 ((wK .u32 dU).take dU.length)=wK .u32 (dU++List.replicate ((dO a).length+1-dU.length) 0):=by
  simp[ai,wK,<-List.map_take]
 refine⟨⟨hUp,hUl,zd⟩,?_⟩;simp only[aeE (zp:(wK .u32 dU).length<=dU.length)]at hseg⊢;rw[jj,hseg];apply hK;refine abP 1 ?_;have e3:i64.wrap (((dO a).length:Int)-(dO b).length)=(((dO a).length-(dO b).length:Nat):Int):=by rw[bP zd zd];omega
 have e4:i64.wrap ((((dO a).length-(dO b).length:Nat):Int)+1)=(((dO a).length-(dO b).length+1:Nat):Int):=by rw[bP zd zd];omega
 obtain⟨m,hm⟩:∃m,m=(dO a).length-(dO b).length+1:=⟨_,rfl⟩
 rw[<-hm]at e4;refine abk e3 e4 ?_;refine aac λK hK=>AW.label ?_;simp;apply hK;have e5:i64.wrap ((m:Int)-1)=(m:Int)-1:=bP zd zd;refine aac λK hK=>aaN e5 ?_;refine aaw ?_;have hlu:(dU++List.replicate ((dO a).length+1-dU.length) 0).length=(dO a).length+1:=yv
 have hok:ok 4294967296 (dU++List.replicate ((dO a).length+1-dU.length) 0):=dD.2 ⟨okU,vH zr _⟩;have hvu:val 4294967296 (dU++List.replicate ((dO a).length+1-dU.length) 0)=val 4294967296 (dO a)*2^s:=by rw[kX,sN,vU];omega
 generalize hu0:dU++List.replicate ((dO a).length+1-dU.length) 0=u0 at*
 have htd:=cV (B:=4294967296) u0 m zd;have hdv:=n8 hok m zd
 have hrV:val 4294967296 (u0.drop m)<val 4294967296 dV:=by
  rw[<-hdv,hvu,vV]
  have g1:val 4294967296 (dO a)*2^s<4294967296^m*(4294967296^((dO b).length-1)*2147483648):=by
   have:4294967296^(dO a).length*2^s<=4294967296^m*(4294967296^((dO b).length-1)*2147483648):=by
    rw[<-adQ,<-aee];have:m+((dO b).length-1)=(dO a).length:=zd
    rw[this];exact adI _ hs31
   omega
  refine afS (adA g1 (adI _ hV2))
 have hI0:dvI dV (dO b).length m (val 4294967296 (dO a)*2^s) (m,u0.take m,u0.drop m,[]):=by
  refine⟨bf _,yv,yv,n7 hok _,Di hok _,zp,dM _,hrV,?_⟩;simp only[uz,aeU,ad9];rw[<-htd,hvu]
 refine aaY (dvS dV (dO b).length (dO a).length m s) 2 (dvI dV (dO b).length m (val 4294967296 (dO a)*2^s)) (λp=>p.1) (m,u0.take m,u0.drop m,[]) (Le.mk' _ lr zp zp) hI0 ?_;rintro⟨k,lo,r,qs⟩ ⟨i1,i2,i3,i4,i5,i6,i7,i8,i9⟩;simp only at i1 i2 i3 i4 i5 i6 i7 i8 i9;unfold dvS;refine aac λK3 hK3=>aah ?_
 cases k with
 |zero=>
  refine aax (aaR (hK _ _ (aac λK hK=>?_)));have el:lo=[]:=List.length_eq_zero_iff.1 i2;subst el;simp only[uz,afK,aes,aej]at i9;simp only[ad9]at i6
  have hQ:(val 4294967296 (dO a)*2^s)/(val 4294967296 (dO b)*2^s)=val 4294967296 qs:=by
   rw[<-vV,<-i9,agf _ _ zd,ae9 i8,aej]
  have hR:(val 4294967296 (dO a)*2^s)%(val 4294967296 (dO b)*2^s)=val 4294967296 r:=by
   rw[<-vV,<-i9,agc,ad4 i8]
  refine aaT mixed zt rfl ?_;simp;have hlq:qs.length=m:=i6
  have hQt:fc (qs.take m)=aL 4294967296 (val 4294967296 (dO a)/val 4294967296 (dO b)):=by
   rw[aeE zd];exact fQ zr i7 (by rw[hq,hQ])
  have hrt:(r++List.replicate m 0).take (dO b).length=r:=by rw[<-i3];simp
  have hRt:fc ((r++List.replicate m 0).take (dO b).length)=aL 4294967296 ((val 4294967296 (dO a)%val 4294967296 (dO b))*2^s):=by
   rw[hrt];exact fQ zr i5 zd
  refine gw.sY (l:=qs) 2 5 1 m zd wr zd (fG _ _) zp zp zp ?_;have hlr:(dO b).length<=(dO a).length+1:=zd
  simp[nJ]
  repeat refine az ?_
  refine gw.sY (l:=r++List.replicate m 0) 2 5 0 (dO b).length yv wr yv (fG _ _) zp zp zp ?_;simp only[hQt,hRt];simp
  have hsh:∀G,aa prog G 231 [nK .u32 (some (aL 4294967296 ((val 4294967296 (dO a)%val 4294967296 (dO b))*2^s))),.c (.d (.int .i64 s))] (nK .u32 (if val 4294967296 (dO a)%val 4294967296 (dO b)=0 then none else some (aL 4294967296 (val 4294967296 (dO a)%val 4294967296 (dO b))))):=by
   intro G
   have hx:(aL 4294967296 ((val 4294967296 (dO a)%val 4294967296 (dO b))*2^s)).length<=1000000000000:=by
    rw[<-hRt,hrt];exact HQ (O8 r) zd
   have key:=vk G (some (aL 4294967296 ((val 4294967296 (dO a)%val 4294967296 (dO b))*2^s))) s hx zd;have hs0:s/32=0:=zd
   simp only[aS,hs0]at key;rw[bE zr,Nat.mul_div_cancel _ (adR zr)]at key
   by_cases hz:val 4294967296 (dO a)%val 4294967296 (dO b)=0
   ·simp_all
   ·rw[if_neg hz];rw[if_neg]at key
    ·exact key
    ·intro hc;have h9:=List.length_eq_zero_iff.1 (Nat.le_zero.1 hc);have:=(cL zr).1 h9;have h8:=adJ (aeJ hz) (adR (a:=2) (n:=s) zr);omega
  refine ag.pure 2 5 (hsh _) zp zp zp ?_;simp;refine⟨zt,?_⟩;apply hK;exact aaq (aD.t2 rfl 5 zp zp)
 |succ j=>
  refine aaE (aan (hK3 _ _ ?_));rcases afF lo with rfl|⟨lo',x,rfl⟩
  ·simp at i2
  rw[afG]at*
  have hlo:lo'.length=j:=by simp at i2;exact i2
  obtain⟨oklo,hx1⟩:=dD.1 i4;have hx:x<4294967296:=(b6.1 hx1).1;have e6:((j+1:Nat):Int)-1=j:=zd
  simp only[e6];have hwl:(x::r).length=(dO b).length+1:=by simp[i3]
  have okw:ok 4294967296 (x::r):=b6.2 ⟨hx,i5⟩;have hWv:val 4294967296 (x::r)=x+4294967296*val 4294967296 r:=rfl
  have hWV:val 4294967296 (x::r)<4294967296*val 4294967296 dV:=by
   have:4294967296*(val 4294967296 r+1)<=4294967296*val 4294967296 dV:=adI _ i8;rw[adZ]at this;omega
  have hEW:=abc (B:=4294967296) hn hwl;have hEV:=aa6 (B:=4294967296) hn lV;have X3:=iu (n7 okw ((dO b).length-2));rw[acM,aea zd]at X3;have okV:=canV.1;have Wb:=iu (n7 okV ((dO b).length-2));rw[acM,aea zd]at Wb
  have hv1':val 4294967296 dV/4294967296^((dO b).length-1)=dV[(dO b).length-1]:=by
   rw[n8 okV _ zd,eF (zd:(dO b).length-1<dV.length),ig (l:=dV) (i:=(dO b).length-1+1) zd];rfl
  have EM:2147483648<=dV[(dO b).length-1]:=by
   rw[<-hv1',afY (adR zr),vV,aed];exact hV2
  generalize hBL:lo'++[x]++(r++List.replicate (m-(j+1)) 0)=BL;have hBL':lo'++(x::r)++List.replicate (m-(j+1)) 0=BL:=by rw[<-hBL];simp
  have hBLl:BL.length=(dO a).length+1:=by rw[<-hBL'];simp;omega
  have hb0:BL[j+(dO b).length]?=some (x::r)[(dO b).length]:=by
   rw[<-hBL',<-hlo,zM zd,fy zd]
  have hb1:BL[j+(dO b).length-1]?=some (x::r)[(dO b).length-1]:=by
   have:j+(dO b).length-1=lo'.length+((dO b).length-1):=zd
   rw[<-hBL',this,zM zd,fy zd]
  have hb2:BL[j+(dO b).length-2]?=some (x::r)[(dO b).length-2]:=by
   have:j+(dO b).length-2=lo'.length+((dO b).length-2):=zd
   rw[<-hBL',this,zM zd,fy zd]
  have ha0l:(x::r)[(dO b).length]<4294967296:=okw _ (cn zd);have ha1l:(x::r)[(dO b).length-1]<4294967296:=okw _ (cn zd);have ha2l:(x::r)[(dO b).length-2]<4294967296:=okw _ (cn zd);have hv1l:dV[(dO b).length-1]<4294967296:=okV _ (cn zd);have hv2l:dV[(dO b).length-2]<4294967296:=okV _ (cn zd);have hxv1:(dO b).length-1<(dO (some dV)).length:=yv
  have hxv2:(dO b).length-2<(dO (some dV)).length:=yv
  have gv1:∀lv,aq prog 32 lv (nK .u32 (some dV)) (.c (.d (.int .i64 (((dO b).length-1:Nat):Int))))=some (.c (.d (.ptr [DV.int .u32 (dV[(dO b).length-1]:Int)])),[],[],True):=λlv=>jh zp hxv1
  have gv2:∀lv,aq prog 32 lv (nK .u32 (some dV)) (.c (.d (.int .i64 (((dO b).length-2:Nat):Int))))=some (.c (.d (.ptr [DV.int .u32 (dV[(dO b).length-2]:Int)])),[],[],True):=λlv=>jh zp hxv2
  have hEst:TB 4294967296 (4294967296^((dO b).length-2)) (val 4294967296 dV) (val 4294967296 (x::r)) dV[(dO b).length-1] dV[(dO b).length-2] (val 4294967296 (dV.take ((dO b).length-2))) ((x::r)[(dO b).length]*4294967296+(x::r)[(dO b).length-1]) (x::r)[(dO b).length-2] (val 4294967296 ((x::r).take ((dO b).length-2))):=
   ⟨hEV,hEW,Wb,X3,hv2l,ha2l,hWV,zd,zd⟩
  generalize (x::r)[(dO b).length]=a0 at*
  generalize (x::r)[(dO b).length-1]=a1 at*
  generalize (x::r)[(dO b).length-2]=a2 at*
  generalize dV[(dO b).length-1]=v1 at*
  generalize dV[(dO b).length-2]=v2 at*
  have l0:=oL (P:=prog) (T:=200) zp .u32 hb0;have l1:=oL (P:=prog) (T:=200) zp .u32 hb1;have l2:=oL (P:=prog) (T:=200) zp .u32 hb2;have f1:i64.wrap ((j:Int)+(dO b).length)=((j+(dO b).length:Nat):Int):=by rw[bP zd zd];omega
  have f2:i64.wrap (((j+(dO b).length:Nat):Int)-1)=((j+(dO b).length-1:Nat):Int):=by rw[bP zd zd];omega
  have f3:i64.wrap (((j+(dO b).length:Nat):Int)-2)=((j+(dO b).length-2:Nat):Int):=by rw[bP zd zd];omega
  have f4:=fB (n:=(a0:Int)) zd zd;have f5:=fB (n:=(a1:Int)) zd zd;have f6:=fB (n:=(a2:Int)) zd zd;have f7:=fB (n:=(v1:Int)) zd zd;have f8:=fB (n:=(v2:Int)) zd zd;have f9:u64.wrap ((a0:Int)*4294967296)=((a0*4294967296:Nat):Int):=by rw[fB zd zd];omega
  obtain⟨top,htp⟩:∃t,t=a0*4294967296+a1:=⟨_,rfl⟩
  have f10:OC .u64 ((a0*4294967296:Nat):Int) (a1:Int)=(top:Int):=by rw[htp];exact vn ha0l ha1l
  rw[<-htp]at hEst;have htop:=hEst.U6;refine aac λK5 hK5=>aaw (aac λK6 hK6=>?_)
  refine abT mixed zt rfl rfl ?_;simp[f1,f2,l0,l1,f4,f5,f9,f10,IntKind.bits,-Int.natCast_add,-Int.natCast_mul]
  repeat refine az ?_
  apply hK6;have htop64:top<18446744073709551616:=zd
  have f11:Int.tdiv (top:Int) v1=((top/v1:Nat):Int):=by rw[afJ (afo top),<-Int.natCast_ediv]
  have f12:Int.tmod (top:Int) v1=((top%v1:Nat):Int):=by rw[agh (afo top),<-Int.natCast_emod]
  have hdm:=afI top v1;have hml:top%v1<v1:=adx _ zd;have hq0:val 4294967296 (x::r)/val 4294967296 dV*val 4294967296 dV<=val 4294967296 (x::r):=afp _ _;have hVp:0<val 4294967296 dV:=hEst.V0
  have hq1:val 4294967296 (x::r)<(val 4294967296 (x::r)/val 4294967296 dV+1)*val 4294967296 dV:=by
   rw[aed];exact Nat.lt_mul_div_succ _ hVp
  have hqB:val 4294967296 (x::r)/val 4294967296 dV<4294967296:=by rw[afn hVp];exact hWV
  have hqf:=hEst.first hq0
  have hg0:top/v1<=4294967297:=by
   apply Nat.lt_succ_iff.1;rw[afn zd];omega
  obtain⟨qt,hqt⟩:∃qt,qt=val 4294967296 (x::r)/val 4294967296 dV:=⟨_,rfl⟩
  rw[<-hqt]at hq0 hq1 hqB hqf;obtain⟨g0,hg0'⟩:∃g,g=top/v1:=⟨_,rfl⟩
  obtain⟨o0,ho0'⟩:∃o,o=top%v1:=⟨_,rfl⟩
  rw[<-hg0']at f11 hdm hqf hg0;rw[<-ho0']at f12 hdm hml;have f13:=fB (n:=(g0:Int)) zd zd;have hv10:¬v1=0:=zd
  have f14:i64.wrap (((dO b).length:Int)-1)=(((dO b).length-1:Nat):Int):=e1;refine aac λK6 hK6=>?_;refine abT mixed zt rfl rfl ?_;simp[f14,gv1,f7,f11,f12,f13,hv10];apply hK6
  have close:∀(fr:Nat->AV) (κ:Nat),fr 4=.c (.aO 1 0 m 1)->fr 6=.c (.d (.int .i64 (dO b).length))->fr 9=.c (.d (.int .i64 s))->fr 10=nK .u32 (some dV)->fr 11=.c (.aO 0 0 ((dO a).length+1) 1)->fr 12=.c (.d (.int .i64 j)) ->
   K5 ⟨fr,aM (aM (λ_=>.hole) 0 (.cells true false 200 (wK .u32 (lo'++(jo 4294967296 (dO b).length (val 4294967296 (x::r)%val 4294967296 dV)++List.replicate (m-j) 0))))) 1 (.cells true false 200 (wK .u32 (List.replicate j 0++(qt::qs))))⟩ κ:=by
   intro fr κ q4 q6 q9 q10 q11 q12;apply hK5;have g1:=bP (n:=(j:Int)-1) zd zd;refine aai ?_;simp[q12,g1];have hml2:val 4294967296 (x::r)%val 4294967296 dV<val 4294967296 dV:=adx _ hVp;have hVn:val 4294967296 dV<4294967296^(dO b).length:=by rw[vV];exact hV1
   refine⟨j,lo',jo 4294967296 (dO b).length (val 4294967296 (x::r)%val 4294967296 dV),qt::qs,Le.mk' _ zp zp (by simp[q4,q6,q9,q10,q11]),⟨zd,hlo,rG _ _ _,oklo,vA zr _ _,by simp only[aeq];omega,b6.2 ⟨hqB,i7⟩,?_,?_⟩,zd⟩
   ·simp only[oz];rw[ad4 (Nat.lt_trans hml2 hVn)];omega
   ·simp only[oz];rw[cB 4294967296 qt qs,ad4 (Nat.lt_trans hml2 hVn),<-i9,kX,hlo,adk];have hdm2:=Nat.mod_add_div (val 4294967296 (x::r)) (val 4294967296 dV);rw[<-hqt]at hdm2
    have h1:val 4294967296 (x::r)%val 4294967296 dV+val 4294967296 dV*(qt+4294967296*val 4294967296 qs)=x+4294967296*(val 4294967296 r+val 4294967296 dV*val 4294967296 qs):=by
     rw[adZ,<-afk,hdm2,hWv,adZ,Nat.mul_left_comm,afk]
    rw[h1,cB,uz,aeU,ad9,adZ,adQ,afk]
  refine aac λK6 hK6=>aaw ?_
  have fin:∀(g:Nat) (fr:Nat->AV) (κ:Nat),g<4294967296->qt<=g->g<=qt+1->fr 4=.c (.aO 1 0 m 1)->fr 6=.c (.d (.int .i64 (dO b).length))->fr 9=.c (.d (.int .i64 s))->fr 10=nK .u32 (some dV)->fr 11=.c (.aO 0 0 ((dO a).length+1) 1)->fr 12=.c (.d (.int .i64 j))->fr 14=.c (.d (.int .u64 g)) ->
   K6 ⟨fr,aM (aM (λ_=>.hole) 0 (.cells true false 200 (wK .u32 BL))) 1 (.cells true false 200 (wK .u32 (List.replicate (j+1) 0++qs)))⟩ κ:=by
   intro g fr κ hg1 hg2 hg3 q4 q6 q9 q10 q11 q12 q14;apply hK6;refine abP 2 ?_;have hVn:val 4294967296 dV<4294967296^(dO b).length:=by rw[vV];exact hV1
   have hmlt:val 4294967296 (x::r)%val 4294967296 dV<4294967296^(dO b).length:=Nat.lt_trans (adx _ hVp) hVn;have hsn:jo 4294967296 ((dO b).length+1) (val 4294967296 (x::r)%val 4294967296 dV)=jo 4294967296 (dO b).length (val 4294967296 (x::r)%val 4294967296 dV)++[0]:=AE hmlt;have hmj1:m-j=(m-(j+1))+1:=by rw[Nat.sub_succ];exact(Nat.succ_pred_eq_of_pos (Nat.sub_pos_of_lt i1)).symm
   have hmj:List.replicate (m-j) (0:Nat)=0::List.replicate (m-(j+1)) 0:=by
    rw[hmj1];exact List.replicate_succ
   have hmodq:val 4294967296 (x::r)%val 4294967296 dV=val 4294967296 (x::r)-qt*val 4294967296 dV:=by
    rw[hqt,aed];exact Nat.mod_def _ _
   have hLq:List.replicate (j+1) (0:Nat)++qs=List.replicate j 0++(0::qs):=by
    rw[agA,acR];rfl
   refine aac λK7 hK7=>aaN q14 ?_
   by_cases hgz:g=0
   ·refine aaB (by simp[hgz]<;>omega) (aaR ?_);simp;have hqz:qt=0:=by omega
    have e9:jo 4294967296 ((dO b).length+1) (val 4294967296 (x::r))=x::r:=by rw[<-hwl];exact RS okw
    have e8:val 4294967296 (x::r)%val 4294967296 dV=val 4294967296 (x::r):=by rw[hmodq,hqz];simp
    have e6:jo 4294967296 (dO b).length (val 4294967296 (x::r)%val 4294967296 dV)++[0]=x::r:=by rw[<-hsn,e8,e9]
    have e5:∀(A B:List Nat),A++(0::B)=(A++[0])++B:=λA B=>by simp
    have e7:lo'++(jo 4294967296 (dO b).length (val 4294967296 (x::r)%val 4294967296 dV)++List.replicate (m-j) 0)=BL:=by
     rw[hmj,e5,e6,<-hBL',acR]
    have hcl:∀(fr':Nat->AV) (κ':Nat),fr' 4=.c (.aO 1 0 m 1)->fr' 6=.c (.d (.int .i64 (dO b).length))->fr' 9=.c (.d (.int .i64 s))->fr' 10=nK .u32 (some dV)->fr' 11=.c (.aO 0 0 ((dO a).length+1) 1)->fr' 12=.c (.d (.int .i64 j)) ->
     K5 ⟨fr',aM (aM (λ_=>.hole) 0 (.cells true false 200 (wK .u32 BL))) 1 (.cells true false 200 (wK .u32 (List.replicate (j+1) 0++qs)))⟩ κ':=by
     intro fr' κ' z1 z2 z3 z4 z5 z6;have hcl:=close fr' κ' z1 z2 z3 z4 z5 z6;rw[e7,hqz,<-hLq]at hcl;exact hcl
    exact hcl _ _ RK R0 QP a8 WF WP
   ·refine aaD (by simp[hgz]<;>omega) (aan (hK7 _ _ (aac λK7 hK7=>aac λK8 hK8=>?_)))
    have store:∀(fr':Nat->AV) (κ':Nat),fr' 4=.c (.aO 1 0 m 1)->fr' 6=.c (.d (.int .i64 (dO b).length))->fr' 9=.c (.d (.int .i64 s))->fr' 10=nK .u32 (some dV)->fr' 11=.c (.aO 0 0 ((dO a).length+1) 1)->fr' 12=.c (.d (.int .i64 j))->fr' 14=.c (.d (.int .u64 qt)) ->
     K7 ⟨fr',aM (aM (λ_=>.hole) 0 (.cells true false 200 (wK .u32 (lo'++(jo 4294967296 ((dO b).length+1) (val 4294967296 (x::r)%val 4294967296 dV)++List.replicate (m-(j+1)) 0))))) 1 (.cells true false 200 (wK .u32 (List.replicate (j+1) 0++qs)))⟩ κ':=by
     intro fr' κ' z1 z2 z3 z4 z5 z6 z7;apply hK7;have y1:u32.wrap (qt:Int)=(qt:Int):=lR zd zd
     have y2:ai (wK .u32 (List.replicate (j+1) 0++qs)) j [CV.d (.int .u32 (qt:Int))]=wK .u32 (List.replicate j 0++(qt::qs)):=by
      rw[iU _ yv,sF]
     have y3:lo'++(jo 4294967296 (dO b).length (val 4294967296 (x::r)%val 4294967296 dV)++List.replicate (m-j) 0)=lo'++(jo 4294967296 ((dO b).length+1) (val 4294967296 (x::r)%val 4294967296 dV)++List.replicate (m-(j+1)) 0):=by
      rw[hmj,hsn];simp only[acR,afB,aew]
     refine aai ?_;simp[z1,z6,z7,y1,y2,-cB,-List.append_assoc];refine⟨zd,?_⟩;have hcl:=close (κ:=κ'+1) (fr:=aM (aM (aM (aM (aM fr' 156 (.c (.aO 1 0 m 1))) 157 (.c (.d (.int .i64 j)))) 158 (.c (.d (.int .u64 qt)))) 159 (.c (.d (.int .u32 qt)))) 160 (.c (.ptr 1 j))) sk (by simp[z2]) (by simp[z3]) (by simp[z4]) pp (by simp[z6]);rw[y3]at hcl;exact hcl
    have hwin:(x::r).length=(dO (some dV)).length+1:=by rw[hwl];simp[lV]
    have hT:=λ(G:List (List DV))=>BT G lo' (x::r) (List.replicate (m-(j+1)) 0) ((dO a).length+1-j) g (some dV) hwin (by rw[hwl];omega) okw hg1 (by rw[hBL',hBLl];omega)
    simp only[hBL',hlo,hwl,aS]at hT
    have hWB:val 4294967296 (x::r)<4294967296^((dO b).length+1):=by
     have:=iu okw;rwa[hwl]at this
    by_cases too:val 4294967296 (x::r)<g*val 4294967296 dV
    ·have hb1:tA (val 4294967296 (x::r)) (g*val 4294967296 dV)=1:=by unfold tA;rw[if_pos too]
     have hgq:g=qt+1:=by
      rcases Nat.lt_or_ge qt g with hc|hc
      ·omega
      ·exact absurd too (Nat.not_lt.2 (HQ (adh _ hc) hq0))
     simp only[hb1,aeu,eq_self,decide_true]at hT;obtain⟨R,hR⟩:∃R,R=jo 4294967296 ((dO b).length+1) (val 4294967296 (x::r)+4294967296^((dO b).length+1)-g*val 4294967296 dV):=⟨_,rfl⟩
     simp only[<-hR]at hT;have hRl:R.length=(dO b).length+1:=by rw[hR,rG]
     have hRo:ok 4294967296 R:=by rw[hR];exact vA zr _ _
     have hgV:g*val 4294967296 dV=qt*val 4294967296 dV+val 4294967296 dV:=by rw[hgq,adn,aes]
     have hRv:val 4294967296 R+val 4294967296 dV=4294967296^((dO b).length+1)+val 4294967296 (x::r)%val 4294967296 dV:=by
      rw[hR,oz,hmodq]
      have hVE:val 4294967296 dV<=4294967296^((dO b).length+1):=by
       rw[adk];exact HQ (aeV hVn) (Nat.le_mul_of_pos_right _ zr)
      have key:∀(W E gv qv V:Nat),W<gv->gv=qv+V->qv<=W->V<=E->W+E-gv<E/\(W+E-gv)+V=E+(W-qv):=by intros;omega
      obtain⟨k1,k2⟩:=key _ _ _ _ _ too hgV hq0 hVE;rw[ad4 k1];exact k2
     have hRd:jo 4294967296 ((dO b).length+1) (val 4294967296 R+val 4294967296 dV)=jo 4294967296 ((dO b).length+1) (val 4294967296 (x::r)%val 4294967296 dV):=by
      rw[hRv,LA zr]
     have hwin':R.length=(dO (some dV)).length+1:=by rw[hRl];simp[lV]
     have hll:(lo'++R++List.replicate (m-(j+1)) 0).length<=1000000000000:=by
      simp only[adl,List.length_replicate,hlo,hRl];omega
     have hGv:=λ(G:List (List DV))=>BK G lo' R (List.replicate (m-(j+1)) 0) ((dO a).length+1-j) (some dV) hwin' (by rw[hRl];omega) hRo hll
     simp only[hlo,hRl,aS,hRd,acR]at hGv;simp only[acR]at hT;refine aai ?_;simp[q11,q12,q10,q14,-cB];refine⟨zd,?_⟩
     refine eL.Jp 3 9 0 wr (rS _ _) (rS _ _) (hT _) rfl rfl (by
      intro i h h'
      match i,h with
      |0,_=>exact .inr (.inl ⟨_,_,_,rfl,rfl⟩)
      |1,_=>exact .inl ⟨zp,rfl⟩
      |2,_=>exact .inl ⟨rfl,rfl⟩) zp zr ?_
     simp[-cB,DE];apply hK8;refine aaE (aac λK8 hK8=>?_);have y5:u64.wrap ((g:Int)-1)=(qt:Int):=by rw[fB zd zd];omega
     refine aai ?_;simp[q14,y5,-cB];apply hK8;refine aai ?_;simp[q11,q12,q10,-cB];refine⟨zd,?_⟩
     refine eL.Jp 4 9 0 (own:=true) (T:=200) (cs:=wK .u32 (lo'++(R++List.replicate (m-(j+1)) 0))) zp (rS _ _) (rS _ _) (hGv _) rfl rfl (by
      intro i h h'
      match i,h with
      |0,_=>exact .inr (.inl ⟨_,_,_,rfl,rfl⟩)
      |1,_=>exact .inl ⟨zp,rfl⟩) zp zr ?_
     simp[-cB,DE];exact store _ _ RK R0 QP a8 WF WP zp
    ·have hb1:tA (val 4294967296 (x::r)) (g*val 4294967296 dV)=0:=by unfold tA;rw[if_neg too]
     have hgq:g=qt:=by
      rcases Nat.lt_or_ge qt g with hc|hc
      ·have:(qt+1)*val 4294967296 dV<=g*val 4294967296 dV:=adh _ hc;omega
      ·omega
     have hWm:val 4294967296 (x::r)+4294967296^((dO b).length+1)*0-g*val 4294967296 dV=val 4294967296 (x::r)%val 4294967296 dV:=by
      rw[hmodq,hgq,aeU,ad9]
     simp only[hb1,hWm,Nat.zero_ne_one,decide_false,acR]at hT;refine aai ?_;simp[q11,q12,q10,q14,-cB];refine⟨zd,?_⟩
     refine eL.Jp 3 9 0 wr (rS _ _) (rS _ _) (hT _) rfl rfl (by
      intro i h h'
      match i,h with
      |0,_=>exact .inr (.inl ⟨_,_,_,rfl,rfl⟩)
      |1,_=>exact .inl ⟨zp,rfl⟩
      |2,_=>exact .inl ⟨rfl,rfl⟩) zp zr ?_
     simp[-cB,DE];apply hK8;refine aax (aan ?_);simp[-cB];exact store _ _ RK R0 QP a8 WF WP (by simp[q14,hgq])
  refine aaY (λ(p:Nat×Nat)=>⟨aT [(4,.c (.aO 1 0 m 1)),(6,.c (.d (.int .i64 (dO b).length))),(9,.c (.d (.int .i64 s))),(10,nK .u32 (some dV)),(11,.c (.aO 0 0 ((dO a).length+1) 1)),(12,.c (.d (.int .i64 j))),(14,.c (.d (.int .u64 p.1))),(15,.c (.d (.int .u64 p.2)))],
   aM (aM (λ_=>.hole) 0 (.cells true false 200 (wK .u32 BL))) 1 (.cells true false 200 (wK .u32 (List.replicate (j+1) 0++qs)))⟩) 2
   (λp=>p.1*v1+p.2=top/\qt<=p.1/\p.1<=4294967297/\p.2<4294967296) (λp=>p.1) (g0,o0) (Le.mk' _ rfl zp zp) ⟨by rw[aed];exact hdm,hqf,hg0,zd⟩ ?_
  rintro⟨g,o⟩ ⟨w1,w2,w3,w4⟩;simp only at w1 w2 w3 w4;refine aac λK7 hK7=>aac λK8 hK8=>?_
  have dec:∀(fr:Nat->AV) (κ:Nat),qt<g->fr 4=.c (.aO 1 0 m 1)->fr 6=.c (.d (.int .i64 (dO b).length))->fr 9=.c (.d (.int .i64 s))->fr 10=nK .u32 (some dV)->fr 11=.c (.aO 0 0 ((dO a).length+1) 1)->fr 12=.c (.d (.int .i64 j))->fr 14=.c (.d (.int .u64 g))->fr 15=.c (.d (.int .u64 o)) ->
   K7 ⟨fr,aM (aM (λ_=>.hole) 0 (.cells true false 200 (wK .u32 BL))) 1 (.cells true false 200 (wK .u32 (List.replicate (j+1) 0++qs)))⟩ κ:=by
   intro fr κ hg q4 q6 q9 q10 q11 q12 q14 q15;apply hK7;refine abP 2 ?_;refine aaw ?_;have g1:u64.wrap ((g:Int)-1)=((g-1:Nat):Int):=by rw[fB zd zd];omega
   have g2:u64.wrap ((o:Int)+v1)=((o+v1:Nat):Int):=by rw[fB zd zd];omega
   refine abk q14 g1 ?_;refine aaF λK9 hK9=>?_;simp[q15,q10,q6,f14,gv1,f7,g2,-Int.natCast_add];apply hK9;refine aac λK9 hK9=>?_
   have w1':(g-1)*v1+(o+v1)=top:=by
    rw[<-w1];obtain⟨g',rfl⟩:∃g',g=g'+1:=⟨g-1,zd⟩
    rw[afZ,adn,aes];omega
   by_cases ho:o+v1<4294967296
   ·have g3:Int.fdiv ((o+v1:Nat):Int) 4294967296=0:=by rw[adM _ zd];omega
    refine aai ?_;simp[IntKind.bits,g3,-Int.natCast_add];apply hK9;refine aax (aan ?_);simp;refine⟨g-1,o+v1,Le.mk' _ rfl zp (by simp[q4,q6,q9,q10,q11,q12]),⟨w1',zd,zd,ho⟩,zd⟩
   ·have g3:Int.fdiv ((o+v1:Nat):Int) 4294967296=1:=by rw[adM _ zd];omega
    refine aai ?_;simp[IntKind.bits,g3,-Int.natCast_add];apply hK9;refine aaE (aaR ?_);simp
    have hgB:g-1<4294967296:=by
     apply ad0;intro hc;have:4294967296*v1<=(g-1)*v1:=adh _ zd;rw[adZ]at htop;omega
    have hnear:=hEst.near hq1 w1' hgB (by
     have h1:(g-1)*v2<=4294967296*4294967296:=ae3 zd zd;omega)
    exact fin (g-1) _ _ hgB zd hnear RK R0 QP a8 WF WP zp
  by_cases hgB:4294967296<=g
  ·have g1:Int.fdiv (g:Int) 4294967296=1:=by rw[adM _ zd];omega
   refine abT mixed zt rfl rfl ?_;simp[IntKind.bits,g1];apply hK8;refine aaE (aan ?_);simp;exact dec _ _ zd zp zp zp zp zp zp zp zp
  ·have g1:Int.fdiv (g:Int) 4294967296=0:=by rw[adM _ zd];omega
   have hgv:g*v2<=4294967295*4294967295:=ae3 zd zd
   have g2:u64.wrap ((g:Int)*v2)=((g*v2:Nat):Int):=by
    rw[<-afH];generalize g*v2=p at hgv;exact fB zd zd
   have g3:u64.wrap ((o:Int)*4294967296)=((o*4294967296:Nat):Int):=by rw[fB zd zd];omega
   have g4:=vn w4 ha2l;have g5:i64.wrap (((dO b).length:Int)-2)=(((dO b).length-2:Nat):Int):=by rw[bP zd zd];omega
   have hgo:∀{P Q:Nat},((P:Nat):Int)<((Q:Nat):Int)↔P<Q:=by intro P Q;omega
   refine abT mixed zt rfl rfl ?_;simp[IntKind.bits,g1,g5,gv2,f8,g2,g3,f1,f3,l2,f6,g4,-Int.natCast_add,-Int.natCast_mul]
   repeat refine az ?_
   apply hK8
   by_cases ht:o*4294967296+a2<g*v2
   ·refine aaB (by simp[ht]<;>omega) (aan ?_);simp;exact dec _ _ (hEst.over hq0 w1 ht) zp zp zp zp zp zp zp zp
   ·refine aaD (by simp[ht]<;>omega) (aaR ?_);simp;exact fin g _ _ zd w2 (hEst.near hq1 w1 zd zd) zp zp zp zp zp zp zp
def qG(a b:Option (List Nat)):Option (List Nat):=if val 4294967296 (dO a)<val 4294967296 (dO b)then none else some (aL 4294967296 (val 4294967296 (dO a)/val 4294967296 (dO b)))
def lU(a b:Option (List Nat)):Option (List Nat):=
 if val 4294967296 (dO a)<val 4294967296 (dO b)then a
 else if (dO b).length=1 then some (aL 4294967296 (val 4294967296 (dO a)%val 4294967296 (dO b)))
 else if val 4294967296 (dO a)%val 4294967296 (dO b)=0 then none else some (aL 4294967296 (val 4294967296 (dO a)%val 4294967296 (dO b)))
theorem Hw:dO (qG a b)=aL 4294967296 (val 4294967296 (dO a)/val 4294967296 (dO b)):=by
 unfold qG;split
 ·rename_i h;rw[ae9 h];rfl
 ·rfl
theorem Dk(ha:can 4294967296 (dO a)):dO (lU a b)=aL 4294967296 (val 4294967296 (dO a)%val 4294967296 (dO b)):=by
 unfold lU;split
 ·rename_i h;rw[ad4 h];exact iT zr ha rfl
 ·split
  ·rfl
  ·split
   ·simp_all
   ·rfl
theorem ke(G:List (List DV))(a b:Option (List Nat))(ha:can 4294967296 (dO a))(hb:can 4294967296 (dO b))(h0:dO b≠[])(hl:(dO a).length<1000000000000):
 aa prog G 176 [nK .u32 a,nK .u32 b] (.tup [nK .u32 (qG a b),nK .u32 (lU a b)]):=by
 by_cases h:val 4294967296 (dO a)<val 4294967296 (dO b)
 ·have:=MA G a b ha hb h;simpa only[qG,lU,if_pos h]using this
 ·by_cases hn:(dO b).length=1
  ·have:=Mc G a b ha hb (Nat.le_of_not_lt h) hn (aeV hl);simpa only[qG,lU,if_neg h,if_pos hn]using this
  ·have h1:0<(dO b).length:=List.length_pos_iff.2 h0;have:=M1 a b ha hb (Nat.le_of_not_lt h) zd hl G;simp only[qG,lU,if_neg h,if_neg hn]
   grind
def kY(a b:Option (List Nat)):Nat->Option (List Nat)
 |0=>a
 |n+1=>if dO b=[]then a else kY b (lU a b) n
theorem AZ(h:dO b=[])(n:Nat):kY a b n=a:=by
 cases n<;>simp[kY,h]
theorem oW(o o':Option (List Nat)):(AV.tup [nK .u32 o,nK .u32 o']).pure=true:=by
 cases o<;>cases o'<;>rfl
theorem eE{m:Nat}(hB:2<=B)(h:m<=n):(aL B m).length<=(aL B n).length:=
 cE hB (aeR h (oe hB))
theorem sR:∀(n:Nat) (a b:Option (List Nat)),can 4294967296 (dO a)->can 4294967296 (dO b)->val 4294967296 (dO b)<=n->kY a b n=kY a b (val 4294967296 (dO b))/\dO (kY a b n)=aL 4294967296 (Nat.gcd (val 4294967296 (dO a)) (val 4294967296 (dO b)))
 |0,a,b,ha,hb,h=>by
  have h0:val 4294967296 (dO b)=0:=zd
  rw[h0];exact⟨rfl,by rw[Nat.gcd_zero_right];exact iT zr ha rfl⟩
 |n+1,a,b,ha,hb,h=>by
  by_cases he:dO b=[]
  ·rw[AZ he,AZ he];refine⟨rfl,?_⟩;rw[he];simp only[uz,Nat.gcd_zero_right];exact iT zr ha rfl
  ·have hv0:0<val 4294967296 (dO b):=jC hb he;have hR:=Dk (b:=b) ha;have hRc:can 4294967296 (dO (lU a b)):=by rw[hR];exact bO zr _
   have hlt:val 4294967296 (dO (lU a b))<val 4294967296 (dO b):=by rw[hR,bE zr];exact adx _ hv0
   obtain⟨k,hk⟩:∃k,val 4294967296 (dO b)=k+1:=⟨val 4294967296 (dO b)-1,zd⟩
   have r1:=sR n b (lU a b) hb hRc zd;have r2:=sR k b (lU a b) hb hRc zd;have e1:kY a b (n+1)=kY b (lU a b) n:=by simp only[kY,if_neg he]
   have e2:kY a b (val 4294967296 (dO b))=kY b (lU a b) k:=by rw[hk];simp only[kY,if_neg he]
   refine⟨yn,?_⟩;rw[e1,r1.2,hR,bE zr,afL (val 4294967296 (dO b)),<-Nat.gcd_rec,afL]
 termination_by n a b=>val 4294967296 (dO b)
theorem Ld(ha:can 4294967296 (dO a))(hb:can 4294967296 (dO b))(he:dO b≠[]):kY b (lU a b) (val 4294967296 (dO (lU a b)))=kY a b (val 4294967296 (dO b)):=by
 have hv0:0<val 4294967296 (dO b):=jC hb he;have hR:=Dk (b:=b) ha;have hRc:can 4294967296 (dO (lU a b)):=by rw[hR];exact bO zr _
 have hlt:val 4294967296 (dO (lU a b))<val 4294967296 (dO b):=by rw[hR,bE zr];exact adx _ hv0
 obtain⟨k,hk⟩:∃k,val 4294967296 (dO b)=k+1:=⟨val 4294967296 (dO b)-1,zd⟩
 have e2:kY a b (val 4294967296 (dO b))=kY b (lU a b) k:=by rw[hk];simp only[kY,if_neg he]
 rw[e2,(sR k b (lU a b) hb hRc zd).1]
theorem AO(ha:can 4294967296 (dO a))(hb:can 4294967296 (dO b)):dO (kY a b (val 4294967296 (dO b)))=aL 4294967296 (Nat.gcd (val 4294967296 (dO a)) (val 4294967296 (dO b))):=
 (sR _ a b ha hb (bf _)).2
theorem uA(G:List (List DV))(a b:Option (List Nat))(ha:can 4294967296 (dO a))(hb:can 4294967296 (dO b))(hl:(dO a).length<1000000000000)(hl':(dO b).length<1000000000000):
 aa prog G 105 [nK .u32 a,nK .u32 b] (nK .u32 (kY a b (val 4294967296 (dO b)))):=by
 refine aa.en func105 rfl λ_=>aah ?_;refine aac λK hK=>aaw ?_
 refine aaY (λ(p:Option (List Nat)×Option (List Nat))=>⟨aT [(0,nK .u32 p.1),(1,nK .u32 p.2)],λ_=>.hole⟩) 0
  (λp=>can 4294967296 (dO p.1)/\can 4294967296 (dO p.2)/\(dO p.1).length<1000000000000/\(dO p.2).length<1000000000000/\kY p.1 p.2 (val 4294967296 (dO p.2))=kY a b (val 4294967296 (dO b)))
  (λp=>val 4294967296 (dO p.2)) (a,b) (Le.mk' _ rfl zp zp) ⟨ha,hb,hl,hl',rfl⟩ ?_
 rintro⟨x,y⟩ ⟨i1,i2,i3,i4,i5⟩;simp only at i1 i2 i3 i4 i5;refine aac λK3 hK3=>aah ?_
 by_cases hy:dO y=[]
 ·have hy':¬(0:Int)<((dO y).length:Int):=by rw[hy];simp
  refine aaD xv (aaR (hK _ _ ?_));rw[AZ hy]at i5;refine aah ?_;exact aaq (aD.rt rfl 4 (by simp[i5]))
 ·have hy1:0<(dO y).length:=List.length_pos_iff.2 hy;have hy':(0:Int)<((dO y).length:Int):=by omega
  refine aaB xv (aan (hK3 _ _ (aaw (aaF λK5 hK5=>?_))));simp;refine ag.pure 0 0 (ke _ _ _ i1 i2 hy i3) (oW _ _) zp rfl ?_;simp;apply hK5;refine aai ?_;simp;have hv0:0<val 4294967296 (dO y):=jC i2 hy;have hR:=Dk (b:=y) i1;have hlt:val 4294967296 (dO (lU x y))<val 4294967296 (dO y):=by rw[hR,bE zr];exact adx _ hv0
  refine⟨y,lU x y,Le.mk' _ rfl zp zp,⟨i2,by rw[hR];exact bO zr _,i4,?_,?_⟩,hlt⟩
  ·rw[hR];refine aeR (eE zr (aeV (adx _ hv0))) ?_;rw[<-iT zr i2 rfl];exact i4
  ·rw[Ld i1 i2 hy];exact i5
noncomputable def Ad:Code:=match Tryz.f102.body with|some (.seq _ (.seq _ (.seq (.seq _ (.block _ (.rangeFunc _ _ _ b))) _)))=>b|_=>.skip
noncomputable def CL:Code:=match Tryz.f102.body with|some (.seq _ (.seq _ (.seq (.seq _ (.block _ (.rangeFunc _ _ b _))) _)))=>b|_=>.skip
def mI(u:List UInt8)(d:DV):Key->LB:=aM (aM (λ_=>.hole) 0 (.cells false false 9 [.d (.str u)])) 1 (.cells false false 32 [.d d])
theorem MY(u:List UInt8)(d:DV):∀k,mI u d k=.hole\/∃T cs,mI u d k=.cells false false T cs:=by
 intro k;unfold mI aM
 grind
theorem Q7(u:List UInt8)(d d':DV):aM (mI u d) 1 (.cells false false 32 [.d d'])=mI u d':=by
 funext k;unfold mI aM
 grind
theorem K0(G:List (List DV))(v sz:Nat)(hv:v<4294967296)(hz:sz<4294967296)(o:Option (List Nat))(dv:DV)(hdv:(.c (.d dv):AV)=nK .u32 o)(hl:(dO o).length<=100000000000)(L:Nat)(hL:L<=100000000000)(hval:val 4294967296 (dO o)<4294967296^L)(u:List UInt8)(r:Option Nat)(fr:Nat->AV)
 (f3:fr 3=.c (.ptr 1 0)) (f4:fr 4=.c (.d (.int .u32 v))) (f5:fr 5=.c (.d (.int .u32 sz))) :
 ∀c:Ctx,c.P=prog->c.G=G->c.n=20->AW c r Ad ⟨fr,mI u dv⟩ 0 (λx s _=>x=.normal/\s.lv=mI u (.sl (dK .u32 (aL 4294967296 (val 4294967296 (dO o)*sz+v))))):=by
 rintro⟨_,Gc,w0,F0,W0,_,jd,β0⟩ rfl hG rfl;have hG:Gc=G:=hG;subst hG;have g1:mI u dv 1=.cells false false 32 [.d dv]:=by simp[mI]
 have g5:mI u dv 5=.hole:=by simp[mI,aM]
 have w1:u64.wrap (sz:Int)=sz:=fB zd zd;have w2:u64.wrap (v:Int)=v:=fB zd zd;have hp:(AV.c (.d dv)).pure=true:=by rw[hdv];cases o<;>rfl
 have b1:(aL 4294967296 sz).length<=1:=cE zr zd;have b2:(aL 4294967296 v).length<=1:=cE zr zd
 have b3:(aL 4294967296 (val 4294967296 (dO o)*sz)).length<=L+1:=cE zr (by
  rw[adk];exact aeR (adI _ (aeV hz)) (agK hval zr))
 have m1:aa prog Gc 136 [.c (.d dv),nK .u32 (some (aL 4294967296 sz))] (nK .u32 (some (aL 4294967296 (val 4294967296 (dO o)*sz)))):=by
  have:=eI Gc o (some (aL 4294967296 sz)) zd yv;rw[<-hdv]at this;simpa[bE]using this
 have m2:aa prog Gc 138 [nK .u32 (some (aL 4294967296 (val 4294967296 (dO o)*sz))),nK .u32 (some (aL 4294967296 v))] (nK .u32 (some (aL 4294967296 (val 4294967296 (dO o)*sz+v)))):=by
  have:=kE Gc (some (aL 4294967296 (val 4294967296 (dO o)*sz))) (some (aL 4294967296 v)) yv yv;simpa[bE]using this
 refine aaw ?_;refine aaT mixed zt rfl ?_;simp[f3,f5,g1,w1];refine ag.pure 0 5 (fK _ sz zd) zp zp g5 ?_;simp;refine ag.pure 0 5 m1 zp (by simp[hp]) g5 ?_;simp[f4,w2];refine ag.pure 0 5 (fK _ v zd) zp zp g5 ?_;simp;refine ag.pure 0 5 m2 zp zp g5 ?_;generalize aL 4294967296 (val 4294967296 (dO o)*sz+v)=ds at*
 have e1:nK .u32 (some ds)=.c (.d (.sl (dK .u32 ds))):=rfl;simp[f3,g1,e1,ai];refine⟨zt,?_⟩;exact Q7 u dv (.sl (dK .u32 ds))
end Go.Am
namespace Go.Am
def GG(m:Int):List (List DV):=[
 [.int .i64 0,.int .i64 0,.int .i64 0,.int .i64 1,.int .i64 0,.int .i64 1,.int .i64 0,.int .i64 0,.int .i64 1,.int .i64 1,.int .i64 1,.int .i64 1,.int .i64 1,.int .i64 1,.int .i64 1,.int .i64 1,.int .i64 2,.int .i64 2,.int .i64 2,.int .i64 2,.int .i64 2,.int .i64 2,.int .i64 2,.int .i64 2,.int .i64 2,.int .i64 2,.int .i64 2,.int .i64 2,.int .i64 3,.int .i64 3,.int .i64 4,.int .i64 4],
 [.int .i64 m],
 [.int .u64 1,.int .u64 10,.int .u64 100,.int .u64 1000,.int .u64 10000,.int .u64 100000,.int .u64 1000000,.int .u64 10000000,.int .u64 100000000,.int .u64 1000000000,.int .u64 10000000000,.int .u64 100000000000,.int .u64 1000000000000,.int .u64 10000000000000,.int .u64 100000000000000,.int .u64 1000000000000000,.int .u64 10000000000000000,.int .u64 100000000000000000,.int .u64 1000000000000000000,.int .u64 10000000000000000000],
 [],
 [.int .u8 128,.int .u8 191,.int .u8 160,.int .u8 191,.int .u8 128,.int .u8 159,.int .u8 144,.int .u8 191,.int .u8 128,.int .u8 143,.int .u8 0,.int .u8 0,.int .u8 0,.int .u8 0,.int .u8 0,.int .u8 0,.int .u8 0,.int .u8 0,.int .u8 0,.int .u8 0,.int .u8 0,.int .u8 0,.int .u8 0,.int .u8 0,.int .u8 0,.int .u8 0,.int .u8 0,.int .u8 0,.int .u8 0,.int .u8 0,.int .u8 0,.int .u8 0],
 [.int .u8 0,.int .u8 1,.int .u8 28,.int .u8 2,.int .u8 29,.int .u8 14,.int .u8 24,.int .u8 3,.int .u8 30,.int .u8 22,.int .u8 20,.int .u8 15,.int .u8 25,.int .u8 17,.int .u8 4,.int .u8 8,.int .u8 31,.int .u8 27,.int .u8 13,.int .u8 23,.int .u8 21,.int .u8 19,.int .u8 16,.int .u8 7,.int .u8 26,.int .u8 12,.int .u8 18,.int .u8 6,.int .u8 11,.int .u8 5,.int .u8 10,.int .u8 9],
 [.int .u8 0,.int .u8 1,.int .u8 56,.int .u8 2,.int .u8 57,.int .u8 49,.int .u8 28,.int .u8 3,.int .u8 61,.int .u8 58,.int .u8 42,.int .u8 50,.int .u8 38,.int .u8 29,.int .u8 17,.int .u8 4,.int .u8 62,.int .u8 47,.int .u8 59,.int .u8 36,.int .u8 45,.int .u8 43,.int .u8 51,.int .u8 22,.int .u8 53,.int .u8 39,.int .u8 33,.int .u8 30,.int .u8 24,.int .u8 18,.int .u8 12,.int .u8 5,.int .u8 63,.int .u8 55,.int .u8 48,.int .u8 27,.int .u8 60,.int .u8 41,.int .u8 37,.int .u8 16,.int .u8 46,.int .u8 35,.int .u8 44,.int .u8 21,.int .u8 52,.int .u8 32,.int .u8 23,.int .u8 11,.int .u8 54,.int .u8 26,.int .u8 40,.int .u8 15,.int .u8 34,.int .u8 20,.int .u8 31,.int .u8 10,.int .u8 25,.int .u8 14,.int .u8 19,.int .u8 9,.int .u8 13,.int .u8 8,.int .u8 7,.int .u8 6]]
end Go.Am
namespace Go.Proofs
open Go.Shelf
def Tryz.Gu:Go.Shelf.Ren:=⟨λ|217=>259|266=>283|n=>n,λ|9=>9|5=>5|3=>3|n=>n,λ|n=>n⟩
def Tryz.SS:Go.Proofs.Lays.n217 prog Tryz.Gu:={
 mixed:=by kernel_rfl
 f217:=func259.trans (congrArg some (by kernel_rfl))
 f266:=func283.trans (congrArg some (by kernel_rfl))
 t3:=Tryz.underlying3
 a3:=Tryz.isAgg3
 z3:=Tryz.sizeOf3
 v3:=Tryz.zeroValue3
 t5:=Tryz.underlying5
 a5:=Tryz.isAgg5
 z5:=Tryz.sizeOf5
 v5:=Tryz.zeroValue5
 t9:=Tryz.underlying9
 a9:=Tryz.isAgg9
 z9:=Tryz.sizeOf9
 v9:=Tryz.zeroValue9 }
open Go.RowKit Go.Lib in
def Tryz.stringslite_IndexByte(s:ByteArray)(c:Int)(w:World):
 Calls prog 259 #[.string s,.int .u8 c] w λe w'=>e=.returned (.int .i64 (Lib.indexByte s.data.toList c.toNat.toUInt8))/\w'=w:=Any.stringslite_IndexByte Tryz.SS s c w
end Go.Proofs
namespace Go.Am
open Go.Proofs Go.Lib
variable {off T n:Nat}{x:AV}{V:Vw}{w:World}{vs:Array Value}{c:Ctx}{F:Nat->Prop}{β:Key->Nat}{s:aJ}{a:Act}
def Tm(T off len:Nat):Bool:=(Nat.beq T 231&&(Nat.beq off 0&&Nat.ble 2 len))
theorem JL{len:Nat}(h:Tm T off len=true):T=231/\off=0/\2<=len:=by
 simp only[Tm,adS]at h
 simp_all
theorem TF:(prog.info? 231).map (·.size)=some 2:=zt
theorem VG:prog.cellsOf 231=2:=zt
theorem UJ:∃d,prog.depth=d+1:=⟨prog.depth-1,zt⟩
theorem aaW:rowAt prog (sameLayout prog prog.depth · 231) prog.depth 231 1 0 1=true:=zt
theorem Ib{p:Program}{fits:TypeId->Bool}{d:Nat}{e:TypeId}{c c':Nat}(h:rowAt p fits d e c off n=true)(hc:c<=c'):rowAt p fits d e c' off n=true:=by
 cases d with
 |zero=>simp[rowAt]at h
 |succ d=>
  unfold rowAt at h⊢;simp only at h⊢;split at h
  ·cases h
  grind
theorem YJ(h:Tm T off n=true):liesAt prog prog.depth T (n/prog.cellsOf T) off 231 1=true:=by
 obtain⟨d,hd⟩:=UJ
 have key:∀T off c,rowAt prog (sameLayout prog prog.depth · 231) prog.depth T c off 1=true->liesAt prog prog.depth T c off 231 1=true:=by
  intro T off c h;rw[hd]at h⊢;unfold liesAt;rw[hd,h];simp
 obtain⟨rfl,rfl,h3⟩:=JL h;rw[VG];exact key _ _ _ (Ib aaW zd)
theorem Rm(b off:Nat)(w:World)(h0:w.cell? ⟨b,off,none⟩=some (.pointer (some ⟨b,off,none⟩))):
 Calls prog 254 #[.pointer (some ⟨b,off,none⟩)] w λe w'=>e=.returned (.tuple #[])/\w'=w:=by
 obtain⟨j,hj,_⟩:=Option.map_eq_some_iff.1 TF
 go_enter func254,Tryz.ntmps254
 go_wp2
 rw[Lib.run_neq_ptr_same w _ Tryz.underlying228 hj]
 go_wp2
 go_end0
 simp
theorem Pm(b off n:Nat)(T:TypeId)(w:World)(h0:w.cell? ⟨b,off,none⟩=some (.pointer none))(hn:Tm T off n=true)(hsh:w.shape? b=some (T,n))(hfz:w.frozen? ⟨b,off,none⟩=false):
 Calls prog 254 #[.pointer (some ⟨b,off,none⟩)] w λe w'=>e=.returned (.tuple #[])/\w'=w.setCell ⟨b,off,none⟩ (.pointer (some ⟨b,off,none⟩)):=by
 obtain⟨j,hj,hjs⟩:=Option.map_eq_some_iff.1 TF;have hlt:off<n:=by obtain⟨_,h1,h2⟩:=JL hn;omega
 go_enter func254,Tryz.ntmps254
 go_wp2
 rw[Lib.run_to_unsafe w ⟨b,off,none⟩ Tryz.underlying228 Tryz.underlying301 hj zd hsh hlt];simp only[Result.andThen];rw[Oper.upon_value]
 go_wp2
 rw[run_callFunc_extern func281 zt zt zt (e:=Extern.AbiNoEscape.same) zt];rw[Lib.run_noEscape];simp only[Result.andThen];rw[Oper.upon_value]
 go_wp2
 rw[Lib.run_from_unsafe w ⟨b,off,none⟩ Tryz.underlying301 Tryz.underlying228 hj hsh (YJ hn)];simp only[Result.andThen];rw[Oper.upon_value]
 go_wp2
 go_end0
 simp
theorem kL.of_same{P:Program}{G:List (List DV)}{f:FuncId}{us:List AV}{lv:Key->LB}(hx:x.flat=true)
 (h:∀(F:Nat->Prop) (β:Key->Nat) (w:World) (vs:Array Value),fF (fY P G w F β lv) F β lv w->vs.size=us.length->(∀i (h:i<us.length) (h':i<vs.size),(Vw.mk F β lv w).av vs[i] us[i]) ->
  ∃v,(Vw.mk F β lv w).av v x/\Calls P f vs w λe w'=>e=.returned v/\w'=w):kL P G f us lv (.ret x lv):=by
 intro F β w vs hS hl hv;obtain⟨v,h1,h2⟩:=h F β w vs hS hl hv;refine h2.mono λe w' he=>?_;obtain⟨rfl,rfl⟩:=he;exact⟨v,F,β,rfl,hS,h1⟩
theorem args1(hl:vs.size=[x].length)(hv:∀i (h:i < [x].length) (h':i<vs.size),V.av vs[i] [x][i]):∃u,vs=#[u]/\V.av u x:=by
 have h1:vs.size=1:=hl;refine⟨vs[0],?_,hv 0 zp zd⟩
 grind
theorem args2{y:AV}(hl:vs.size=[x,y].length)(hv:∀i (h:i < [x,y].length) (h':i<vs.size),V.av vs[i] [x,y][i]):∃u v,vs=#[u,v]/\V.av u x/\V.av v y:=by
 have h1:vs.size=2:=hl;refine⟨vs[0],vs[1],?_,hv 0 zp zd,hv 1 zp zd⟩
 grind
theorem index_one(s:List UInt8)(c:UInt8):Lib.indexByte s c=Lib.index s [c]:=by
 induction s with
 |nil=>rfl
 |cons a s ih=>
  simp only[Lib.indexByte,Lib.index,ih]
  grind
theorem Vp{n:Int}(h:-9223372036854775808<=n/\n<=9223372036854775807):V.av (.int .i64 n) (.c (.d (.int .i64 n))):=
 Vw.pF _ _ _ (eG (by simpa[BB,rM]using h))
theorem GD{b:Nat}{arr:Array Value}{T:TypeId}{v:Value}{fr:Nat×Nat}(hb:w.heap[b]?=some (.cells arr T fr))(off:Nat):
 w.setCell ⟨b,off,none⟩ v=w.setRow b (arr.setIfInBounds off v):=by
 unfold World.setCell World.setRow
 have:(w.heap.modify b λ
  |.cells c elem frozen=>.cells (c.setIfInBounds off v) elem frozen
  |o=>o)=w.heap.modify b λ
  |.cells _ elem frozen=>.cells (arr.setIfInBounds off v) elem frozen
  |o=>o:=by
  apply Array.ext
  ·simp
  ·intro i p q;simp only[Array.getElem_modify];split
   ·rename_i hi
    subst hi;obtain⟨h1,h2⟩:=Array.getElem?_eq_some_iff.1 hb;rw[h2]
   ·rfl
 grind
theorem MW{m:Nat}(h:Tm T off n=true)(hm:n<=m):Tm T off m=true:=by
 have key:∀k,n<=m->Nat.ble k n=true->Nat.ble k m=true:=λk h1 h2=>Nat.ble_eq_true_of_le (HQ (ae2 h2) h1)
 simp only[Tm,aeY,adS]at h ⊢
 grind
theorem J5{α:Type}{cs r:List α}{x:α}(h:cs.drop off=x::r):∃hlt:off<cs.length,cs[off]=x:=by
 have hlt:off<cs.length:=by
  apply ad0;intro hc;rw[aeQ zd]at h;cases h
 rw[adP hlt]at h
 grind
theorem Mx(m:Int)(lv:Key->LB)(k off T:Nat)(cs r:List CV)(hk:lv k=.cells false false T cs)(hc:cs.drop off=.ptr k off::r):
 kL prog (GG m) 254 [.c (.ptr k off)] lv (.ret (.tup []) lv):=by
 intro F β w vs hS hl hv;obtain⟨u,rfl,hu⟩:=args1 hl hv
 have hu1:u=.pointer (some ⟨β k,off,none⟩):=by
  obtain⟨h1,_⟩:=hu;simpa only[Vw.ff,hk]using h1
 subst hu1;have hb:=hS.dj k;unfold Vw.dj at hb;simp only[hk]at hb;obtain⟨arr,b1,b2,b3,_⟩:=hb;obtain⟨hlt,hx⟩:=J5 hc;have hpos:off<arr.size:=zd
 have h0:=b3 off hlt hpos;rw[hx]at h0;obtain⟨h0,_⟩:=h0;simp only[Vw.ff,hk]at h0
 have hcell:w.cell? ⟨β k,off,none⟩=some (.pointer (some ⟨β k,off,none⟩)):=by
  rw[cell_of_heap b1];simp[hpos,h0]
 refine(Rm _ _ w hcell).mono λe w' he=>?_;obtain⟨rfl,rfl⟩:=he;exact⟨_,F,β,rfl,hS,⟨#[],rfl,rfl,λi h=>absurd h zp⟩⟩
theorem Ih(m:Int)(lv:Key->LB)(k off T:Nat)(cs r:List CV)(hok:Tm T off cs.length=true)(hk:lv k=.cells false false T cs)(hc:cs.drop off=.d .nilp::r):
 kL prog (GG m) 254 [.c (.ptr k off)] lv (.ret (.tup []) (aM lv k (.cells false false T (ai cs off [.ptr k off])))):=by
 intro F β w vs hS hl hv;obtain⟨u,rfl,hu⟩:=args1 hl hv
 have hu1:u=.pointer (some ⟨β k,off,none⟩):=by
  obtain⟨h1,_⟩:=hu;simpa only[Vw.ff,hk]using h1
 subst hu1;have hb:=hS.dj k;unfold Vw.dj at hb;simp only[hk]at hb;obtain⟨arr,b1,b2,b3,_⟩:=hb;obtain⟨hlt,hx⟩:=J5 hc;have hpos:off<arr.size:=zd
 have h0:=b3 off hlt hpos;rw[hx]at h0
 have h0':arr[off]=.pointer none:=by
  obtain⟨h0,_⟩:=h0;have h0:Rd _ arr[off] .nilp:=h0;generalize arr[off]=v at h0
  cases h0;rfl
 have hcell:w.cell? ⟨β k,off,none⟩=some (.pointer none):=by
  rw[cell_of_heap b1];simp[hpos,h0']
 refine(Pm _ off arr.size T w hcell (MW hok b2) (by simp[World.shape?,b1]) (frozen_of_heap b1 off)).mono λe w' he=>?_;obtain⟨rfl,rfl⟩:=he;have hset:=GD (v:=.pointer (some ⟨β k,off,none⟩)) b1 off;have hle:off+[CV.ptr k off].length<=cs.length:=yv
 have hS2:=hS.setRow (arr:=arr.setIfInBounds off (.pointer (some ⟨β k,off,none⟩))) (cs':=ai cs off [.ptr k off]) hk b1 zp (by rw[eW _ _ _ hle];grind) (by
  intro i p q;rw[Array.getElem_setIfInBounds yn,gF _ _ _ hle i p]
  by_cases hi:off=i
  ·subst hi;rw[if_pos rfl,dif_pos ⟨bf _,zp⟩];simp only[Nat.sub_self,aeC];refine⟨?_,rfl⟩;simp only[Vw.ff,hk]
  grind)
 rw[hset];exact⟨_,F,β,rfl,hS2,⟨#[],rfl,rfl,λi h=>absurd h zp⟩⟩
theorem aR.far{w':World}(h:aR c F β s a w)(B:Nat->Prop)
 (hs:∀b,¬B b->b<w.heap.size->w'.heap[b]?=w.heap[b]?) (hF:∀b,B b->¬F b) (hL:∀k,(s.lv k).live=true->¬B (β k)) (hW:∀b,B b->c.w0.heap.size<=b)
 (hsz:w.heap.size<=w'.heap.size) (ha:∀b,dN w b<=dN w' b) (hoo:w'.os=w.os/\w'.output=w.output:=by exact⟨rfl,rfl⟩):aR c F β s a w':=by
 have hm:∀b,F b->w'.heap[b]?=w.heap[b]?:=λb hb=>hs b (λhB=>hF b hB hb) (h.tC b hb).1
 have:=h.step (hoo:=hoo) (F':=F) (β':=β) (lv':=s.lv) (w':=w') (λ_ h=>h) hm (λk=>LB.cF _) (λ_ _ _=>rfl) ha ?_ h.inj (λb hb=>.inl hb) hsz ?_
 ·exact this
 ·intro k hK;have hb:=h.dj k
  have key:(s.lv k).live=true->(Vw.mk F β s.lv w').dj c k:=λhl=>
   Vw.dR hb hK rfl rfl (hs _ (hL k hl) (h.mF hl)) (λ_ h=>h)
  cases e:s.lv k with
  |cells own fz T cs=>
   cases fz with
   |false=>exact key ti
   |true=>
    refine Vw.dR hb hK rfl rfl (hm _ ?_) (λ_ h=>h);unfold Vw.dj at hb;grind
  |map own es=>exact key ti
  |hole=>unfold Vw.dj;grind
  |dead=>unfold Vw.dj;grind
  |nils=>unfold Vw.dj;grind
 ·intro b hb hW0;exact hs b (λhB=>by grind) (adA hb h.ge)
theorem aR.FJ(h:aR c F β s a w)(o:Obj):aR c F β s a (w.alloc o):=
 h.far (λ_=>False) (λb _ hb=>by rw[heap_alloc,if_neg zd]) (λ_ h=>h.elim) (λ_ _ h=>h.elim) (λ_ h=>h.elim) zp (qI w o)
end Go.Am
namespace Go.Am
variable {l n κ:Nat}{P:Program}{G:List (List DV)}{fr:Nat->AV}{lv jd lv':Key->LB}{F0 F:Nat->Prop}{β0 β:Key->Nat}{w w0:World}{o:Obj}{s:aJ}{a:Act}{rec:Loop}
section
variable {c:Ctx}{r:Option Nat}{F:Nat->Prop}{β:Key->Nat}{s:aJ}{a:Act}{w w':World}
theorem AW.fresh{code:Code}{Q:Ex->aJ->Nat->Prop}(h:aR c F β ⟨fr,lv⟩ a w)(ho:nj lv)
 (hA:∀c':Ctx,c'.P=c.P->c'.G=c.G->c'.n=c.n->c'.jd=lv->AW c' r code ⟨fr,lv⟩ κ Q) :
 code.wpIn (wg r) 0 c.P (λe a' w'=>∃x s' κ' F' β',Q x s' κ'/\aR c F' β' s' a' w'/\Yo x e F' w'/\w.heap.size<=w'.heap.size/\(∀b,F' b->F b\/w.heap.size<=b)/\(∀k,(s'.lv k).live=true->w.heap.size<=β' k\/∃j,(lv j).live=true/\β j=β' k) /\
  ∀b,b<w.heap.size->(∀k,(lv k).live=true->β k≠b)->w'.heap[b]?=w.heap[b]?) a w:=by
 let c':Ctx:={ fY c.P c.G w F β lv with n:=c.n,ds:=c.ds }
 have h1:aR c' F β ⟨fr,lv⟩ a w:=fF.with (c:=c') (h.Dv ho) h.size h.defers h.fr;refine wpIn_mono (hA c' rfl rfl rfl rfl F β a w h1) ?_;rintro e a' w' ⟨x,s',κ',F',β',hQ,h2,hx⟩;have hx0:fF (fY c.P c.G w F β lv) F' β' s'.lv w':=aR.ux (c:=c') h2;have h3:aR c F' β' ⟨fr,s'.lv⟩ a w':=h.KE hx0;have h4:aR c F' β' s' a' w':=fF.with (c:=c) (aR.ux (s:=⟨fr,s'.lv⟩) h3) h2.size h2.defers h2.fr;refine⟨x,s',κ',F',β',hQ,h4,hx,h2.ge,λb hb=>(h2.tC b hb).2,λk hk=>h2.jk hk,λb hb hn=>?_⟩;exact h2.old b hb (λ⟨k,hk,he⟩=>hn k hk he)
theorem aR.ac0(h:aR c F β s a w)(B:Nat->Prop)
 (hs:∀b,¬B b->b<w.heap.size->w'.heap[b]?=w.heap[b]?) (hF:∀b,B b->¬F b) (hL:∀k,(s.lv k).live=true->¬B (β k)) (hW:∀b,B b->c.w0.heap.size<=b\/c.W0 b)
 (hsz:w.heap.size<=w'.heap.size) (ha:∀b,dN w b<=dN w' b) (hoo:w'.os=w.os/\w'.output=w.output:=by exact⟨rfl,rfl⟩):aR c F β s a w':=by
 have hm:∀b,F b->w'.heap[b]?=w.heap[b]?:=λb hb=>hs b (λhB=>hF b hB hb) (h.tC b hb).1
 have:=h.step (hoo:=hoo) (F':=F) (β':=β) (lv':=s.lv) (w':=w') (λ_ h=>h) hm (λk=>LB.cF _) (λ_ _ _=>rfl) ha ?_ h.inj (λb hb=>.inl hb) hsz ?_
 ·exact this
 ·intro k hK;have hb:=h.dj k
  have key:(s.lv k).live=true->(Vw.mk F β s.lv w').dj c k:=λhl=>
   Vw.dR hb hK rfl rfl (hs _ (hL k hl) (h.mF hl)) (λ_ h=>h)
  cases e:s.lv k with
  |cells own fz T cs=>
   cases fz with
   |false=>exact key ti
   |true=>
    refine Vw.dR hb hK rfl rfl (hm _ ?_) (λ_ h=>h);unfold Vw.dj at hb;simp only[e]at hb;obtain⟨x,h1,h2,h3,h4,h5⟩:=hb;simpa using h4
  |map own es=>exact key ti
  |hole=>unfold Vw.dj;simp only[e]
  |dead=>unfold Vw.dj;simp only[e]
  |nils=>unfold Vw.dj;simp only[e]
 ·intro b hb hW0;exact hs b (λhB=>(hW b hB).elim (λh1=>by omega) hW0) (adA hb h.ge)
theorem aR.Ey(h:aR c F β s a w)(o':Obj)(hl:w.heap[l]?=some o)(hc:∀x y z,o≠.cells x y z)(hF:¬F l)(hL:∀k,(s.lv k).live=true->β k≠l)(hW:c.w0.heap.size<=l\/c.W0 l):aR c F β s a (w.putObj l o'):=by
 refine h.ac0 (λx=>x=l) (λx hx _=>agC hx) (λx hx=>hx▸hF) (λk hk=>hL k hk) (λx hx=>hx▸hW) zp (λb=>?_)
 by_cases e:b=l
 ·subst e;unfold dN;rw[hl]
  cases o with
  |cells x y z=>exact absurd rfl (hc x y z)
  |_=>exact ab5 _
 ·unfold dN;rw[agC e];exact bf _
end
def Qy(P:Program)(G:List (List DV))(w:World)(F:Nat->Prop)(β:Key->Nat)(lv:Key->LB)(n l:Nat):Ctx:=
 ⟨P,G,w,F,λb=>(∃k,(lv k).live=true/\β k=b)\/b=l,n,lv,β,[]⟩
theorem aR.toR(l:Nat)(h:aR { fY P G w0 F0 β0 jd with n:=n } F β s a w):
 aR (Qy P G w0 F0 β0 jd n l) F β s a w:=by
 refine⟨λk=>Vw.JO ?_ (h.dj k),h.inj,h.fr,h.size,h.defers,h.tC,h.F0,λb hb hW=>h.old b hb (λhx=>hW (.inl hx)),h.ge,h.uX,h.keep,h.Ls,h.Hs⟩;intro o ho;unfold iM at ho ⊢
 cases o with
 |true=>exact ho
 |false=>exact ho.imp id .inl
theorem aR.ofR(h:aR (Qy P G w0 F0 β0 jd n l) F β s a w)
 (hl0:w0.heap[l]?=some o) (hl:w.heap[l]?=some o) (hc:∀x y z,o≠.cells x y z) (hm:∀x y,o≠.map x y):fF (fY P G w0 F0 β0 jd) F β s.lv w:=by
 refine⟨λk=>?_,h.inj,λ_=>trivial,rfl,rfl,h.tC,h.F0,λb hb hW=>?_,h.ge,h.uX,h.keep,h.Ls,h.Hs⟩
 ·have hb:=h.dj k
  have key:∀ow,iM (Qy P G w0 F0 β0 jd n l) ow (β k)->β k≠l->iM { fY P G w0 F0 β0 jd with n:=0 } ow (β k):=by
   intro ow ho hne;unfold iM at ho ⊢
   cases ow with
   |true=>exact ho
   |false=>
    rcases ho with h1|h1|h1
    ·exact .inl h1
    ·exact .inr h1
    ·exact absurd h1 hne
  unfold Vw.dj at hb ⊢
  cases e:s.lv k with
  |cells own fz T cs=>
   simp only[e]at hb⊢;obtain⟨arr,b1,b2,b3,b4,b5⟩:=hb;exact⟨arr,b1,b2,b3,b4,key _ b5 (λhe=>by rw[he,hl]at b1;simp only[aj]at b1;exact hc _ _ _ b1)⟩
  |map own es=>
   simp only[e]at hb⊢;obtain⟨x,y,b1,b2,b3,b4,b5⟩:=hb;exact⟨x,y,b1,b2,b3,b4,key _ b5 (λhe=>by rw[he,hl]at b1;simp only[aj]at b1;exact hm _ _ b1)⟩
  |hole=>simp only[e]
  |dead=>simp only[e]
  |nils=>simp only[e]
 ·by_cases e:b=l
  ·subst e;show w.heap[b]?=w0.heap[b]?;rw[hl,hl0]
  ·refine h.old b hb ?_;rintro(h1|h1)
   ·exact hW h1
   ·exact e h1
theorem iN.yield{w1:World}{ops:Array Oper}{o:Oper}{cl:Call}{fo:Operand}{xs:List AV}(hd:∀d,o.dst=some d->d<n)
 (hg:o.guard=none) (ho:o.op=.call cl) (hcal:cl.callee=.value fo) (hfo:(aJ.mk fr lv).val G fo=.c (.d (.func (.yield l) [] [])))
 (hxs:cl.args.toList.map ((aJ.mk fr lv).val G)=xs) (hps:rec.params.size=xs.length) (hl:w1.heap[l]?=some (.loop rec)) (hnl:∀k,(jd k).live=true->β0 k≠l) (hok:nj lv)
 (hround:∀(F:Nat->Prop) (β:Key->Nat) (w:World) (vs:Array Value),fF (fY P G w1 F0 β0 jd) F β lv w->fF (fY P G w F β lv) F β lv w->w.heap[l]?=some (.loop rec)->vs.size=xs.length->(∀i (h:i<xs.length) (h':i<vs.size),(Vw.mk F β lv w).av vs[i] xs[i]) ->
  RoundIn (wg none) 0 P l rec.fn ((rec.params.zip vs).foldl (λtmps (t,a)=>tmps.setIfInBounds t a) rec.tmps) rec.assign rec.body w λe w'=>e=.returned (.bool true)/\∃F' β',fF (fY P G w F β lv) F' β' lv' w') :
 iN { fY P G w1 F0 β0 jd with n:=n } none ops o ⟨fr,lv⟩ (aJ.put ⟨fr,lv'⟩ o.dst (.c (.d (.bool true)))):=by
 intro F β a w K Q hs hK;have hw:Region.wanted o (yielded ops a.tmps)=true:=by unfold Region.wanted;rw[hg]
 rw[if_pos hw];have hS:fF (fY P G w1 F0 β0 jd) F β lv w:=aR.ux hs
 have hlw:w.heap[l]?=some (.loop rec):=by
  rw[<-hl];have hlt:=(Array.getElem?_eq_some_iff.1 hl).1;exact hs.old l hlt (λ⟨k,hk,he⟩=>hnl k hk he)
 have hv0:=hs.val fo
 have EM:a.eval fo=.func (.yield l) #[] #[]:=by
  have h1:(Vw.mk F β lv w).av (a.eval fo) (.c (.d (.func (.yield l) [] []))):=hfo▸hv0;obtain⟨h1,_⟩:=h1;generalize a.eval fo=u at h1
  cases h1 with
  |func _ fs cs _ _ hf hc _ _=>
   grind
 have hsz:(cl.args.map a.eval).size=xs.length:=by rw[<-hxs];simp
 have hav:∀i (h:i<xs.length) (h':i<(cl.args.map a.eval).size),(Vw.mk F β lv w).av (cl.args.map a.eval)[i] xs[i]:=by
  intro i p q;subst hxs;simp only[agq,rP,afu];exact hs.val _
 have hr:(execOp a.eval o).run P w=.ok (.round l rec.fn ((rec.params.zip (cl.args.map a.eval)).foldl (λtmps (t,a)=>tmps.setIfInBounds t a) rec.tmps) rec.assign rec.body) w:=by
  simp only[execOp,ho,resolve,hcal,EM,Deferred.ofValue,cy,ad6,nZ,invoke];have:=run_yield (P:=P) (args:=cl.args.map a.eval) hlw zd;simpa using this
 refine⟨λ_ _=>trivial,?_⟩;rw[Oper.semAt_eq _ _ _ (λc h=>by grind)];show o.uponIn (wg none) 0 P a K Q ((execOp a.eval o).run P w);rw[hr,Oper.uponIn_round];refine⟨λh=>by simp[wg,Fence.wide]at h,?_⟩;refine(hround F β w _ hS (hs.Dv hok) hlw hsz hav).mono λe w' he=>?_;obtain⟨rfl,F',β',hX⟩:=he;exact hK F' β' _ _ (aR.IE (hs.KE hX) hd (Vw.o7 _ _))
theorem Gj{lv1:Key->LB}{tmps:Array Value}{fr2:Nat->AV}(hS:fF (fY P G w F β lv) F β lv w)(hok:nj lv)(hok1:nj lv1)
 (hlw:w.heap[l]?=some (.loop rec)) (hst:rec.state=.ready) (hpe:rec.pending=none) (hn:tmps.size=n) (hfr:∀t,(Vw.mk F β lv w).av (tmps.getD t undef) (fr t)) (hFl:¬F l)
 (h1:∀c:Ctx,c.P=P->c.G=G->c.n=n->c.jd=lv->AW c (some l) rec.assign ⟨fr,lv⟩ κ (λx s _=>x=.normal/\s=⟨fr2,lv1⟩))
 (h2:∀c:Ctx,c.P=P->c.G=G->c.n=n->c.jd=lv1->AW c (some l) rec.body ⟨fr2,lv1⟩ κ (λx s _=>x=.normal/\s.lv=lv')) :
 RoundIn (wg none) 0 P l rec.fn tmps rec.assign rec.body w λe w'=>e=.returned (.bool true)/\∃F' β',fF (fY P G w F β lv) F' β' lv' w':=by
 have hlt:l<w.heap.size:=(Array.getElem?_eq_some_iff.1 hlw).1
 have hnot:∀(F:Nat->Prop) (β:Key->Nat) (lv:Key->LB) (c:Ctx) (s:aJ) (a:Act) (w:World) (r:Loop),aR c F β s a w->w.heap[l]?=some (.loop r)->∀k,(s.lv k).live=true->β k≠l:=by
  intro F β lv c s a w r h hl k hk he;have hb:=h.dj k;unfold Vw.dj at hb
  cases e:s.lv k with
  |cells own fz T cs=>grind
  |map own es=>grind
  |hole=>rw[e]at hk;cases hk
  |dead=>rw[e]at hk;cases hk
  |nils=>rw[e]at hk;cases hk
 have s0:aR (Qy P G w F β lv n l) F β ⟨fr,lv⟩ ⟨tmps,[]⟩ w:=aR.toR l (fF.enter hS (a:=⟨tmps,[]⟩) hn rfl hfr);refine roundIn_of_wpIn trivial ?_;show rec.assign.wpIn (wg (some l)) 0 P _ _ w;refine wpIn_mono (AW.fresh (r:=some l) s0 hok (h1 ·)) ?_;rintro e a1 w1 ⟨x,s1,κ1,F1,β1,⟨rfl,rfl⟩,s1',hx,z1,z2,z2b,z3⟩
 cases hx
 have hl1:w1.heap[l]?=some (.loop rec):=by rw[z3 l hlt (hnot F β lv _ _ _ w rec s0 hlw)];exact hlw
 refine⟨_,run_beginRound hl1 hst,?_⟩
 have hF1:¬F1 l:=λh=>by
  grind
 have s2:=s1'.Ey (.loop { rec with state:=.busy }) hl1 (λ_ _ _ h=>by cases h) hF1 (hnot _ _ lv _ _ _ _ _ s1' hl1) (.inr (.inr rfl));have hl2:(w1.putObj l (.loop { rec with state:=.busy })).heap[l]?=some (.loop { rec with state:=.busy }):=World.putObj_heap_same zd;show rec.body.wpIn (wg (some l)) 0 P _ _ _;refine wpIn_mono (AW.fresh (r:=some l) s2 hok1 (h2 ·)) ?_;rintro e a3 w3 ⟨x,s3,κ3,F3,β3,⟨rfl,hlv⟩,s3',hx,y1,y2,y2b,y3⟩
 cases hx
 have hl3:w3.heap[l]?=some (.loop { rec with state:=.busy }):=by rw[y3 l yv (hnot _ _ lv _ _ _ _ _ s2 hl2)];exact hl2
 have hF3:¬F3 l:=λh=>by
  grind
 have hrec:({ { rec with state:=.busy } with state:=.ready,pending:=none }:Loop)=rec:=by
  cases rec;simp only at hst hpe;subst hst;subst hpe;rfl
 have s4:=s3'.Ey (.loop rec) hl3 (λ_ _ _ h=>by cases h) hF3 (hnot _ _ lv _ _ _ _ _ s3' hl3) (.inr (.inr rfl));have hl4:(w3.putObj l (.loop rec)).heap[l]?=some (.loop rec):=World.putObj_heap_same (Array.getElem?_eq_some_iff.1 hl3).1;have hS4:=s4.ofR hlw hl4 (λ_ _ _ h=>by cases h) (λ_ _ h=>by cases h);refine⟨.bool true,w3.putObj l (.loop rec),?_,rfl,F3,β3,hlv▸hS4⟩;have:=run_endRound (P:=P) none hl3
 grind
end Go.Am
namespace Go.Am
open Go.Am.Ty Go.Proofs N
variable {c:Ctx}{r:Option Nat}{ops:Array Oper}{s:aJ}{j:Nat}
def bg:List UInt8->Nat->Nat
 |[],n=>n
 |c::l,n=>bg l (10*n+(c.toNat-48))
def zn(l:List UInt8):Prop:=∀c∈l,48<=c.toNat/\c.toNat<=57
theorem m8:∀(a b:List UInt8) (n:Nat),bg (a++b) n=bg b (bg a n)
 |[],b,n=>rfl
 |c::a,b,n=>by simp[bg,m8 a b]
theorem iw:∀(l:List UInt8) (n:Nat),bg l n=n*10^l.length+bg l 0
 |[],n=>by simp[bg]
 |c::l,n=>by
  simp only[bg,aeq,adk];rw[iw l (10*n+_),iw l (10*0+_)]
  grind
theorem pL:∀{l:List UInt8},zn l->bg l 0<10^l.length
 |[],_=>by simp[bg]
 |c::l,h=>by
  have h1:=h c (afm ..);have ih:=pL (l:=l) (λx hx=>h x (afd _ hx));simp only[bg,aeq,adk];rw[iw];have h2:(10*0+(c.toNat-48))*10^l.length<=9*10^l.length:=adh _ zd;omega
theorem iN.plain{o:Oper}{κ:Key}{x:AV}{vc:Prop}(hd:∀d,o.dst=some d->d<c.n)(hg:o.guard=none)
 (h:dg c.P o.op (o.op.operands.toList.map (s.val c.G)) s.lv κ=some (x,[],[],vc)) (hvc:vc) {s1:aJ}(h1:s1=s.put o.dst x):iN c r ops o s s1:=by
 subst h1;exact iN.OQ (dh.plain hd ca h hvc)
def oO(st:Bool)(n:Nat):Option (List Nat):=if st then some (aL 4294967296 n)else none
def nD:Option (List Nat)->DV
 |none=>.nilsl
 |some l=>.sl (dK .u32 l)
theorem Tu(o:Option (List Nat)):(AV.c (.d (nD o)))=nK .u32 o:=by cases o<;>rfl
theorem AW.qD{κ:Nat}{Q:Ex->aJ->Nat->Prop}{id:Nat}(h:∃s',tR c r ops ops.toList s s'/\Q .normal s' κ):AW c r (.region id ops false) s κ Q:=
 let ⟨_,h1,h2⟩:=h;AW.J1 h1 h2
@[simp]theorem Xe(u:List UInt8)(d:DV):mI u d 0=.cells false false 9 [.d (.str u)]:=xr
@[simp]theorem TQ(u:List UInt8)(d:DV):mI u d 1=.cells false false 32 [.d d]:=xr
@[simp]theorem Yp(u u':List UInt8)(d:DV):aM (mI u d) 0 (.cells false false 9 [.d (.str u')])=mI u' d:=by
 funext k;unfold mI aM
 grind
theorem rR(u:List UInt8)(d:DV):nt (mI u d):=by
 intro k own es h;rcases MY u d k with h1|⟨T,cs,h1⟩<;>rw[h1]at h<;>cases h
theorem M8(G:List (List DV))(v sz:Nat)(lv:Key->LB)(r:Option Nat)(fr:Nat->AV)(f8:fr 8=.c (.d (.int .u32 v)))(f9:fr 9=.c (.d (.int .u32 sz))):
 ∀c:Ctx,c.P=prog->c.G=G->c.n=20->AW c r CL ⟨fr,lv⟩ 0 (λx s _=>x=.normal/\s=⟨aM (aM fr 4 (.c (.d (.int .u32 v)))) 5 (.c (.d (.int .u32 sz))),lv⟩):=by
 rintro⟨_,Gc,w0,F0,W0,_,jd,β0⟩ rfl rfl rfl;unfold CL;refine aaN f8 ?_;refine aai ?_;simp[f9]
noncomputable def H6:Code:=match Tryz.f232.body with|some b=>b|_=>.skip
def Rv(c:Ctx)(Y:AV):Prop:=
 ∀(u:List UInt8) (n:Nat) (st:Bool) (v sz L:Nat) (fr:Nat->AV) (ops:Array Oper) (o:Oper) (cl:Call),v<4294967296->sz<4294967296->(st=false->n=0)->L<=10000000000->n<4294967296^L ->
  o.dst=some 32->o.guard=none->o.op=.call cl->cl.callee=.value (.tmp 29)->cl.args=#[.tmp 30,.tmp 31]->fr 29=Y->fr 30=.c (.d (.int .u32 v))->fr 31=.c (.d (.int .u32 sz)) ->
  iN c none ops o ⟨fr,mI u (nD (oO st n))⟩ (aJ.put ⟨fr,mI u (nD (oO true (n*sz+v)))⟩ (some 32) (.c (.d (.bool true))))
def pw(j:Nat):Nat:=10^j
theorem QA(j:Nat):pw (j+1)=10*pw j:=by unfold pw;omega
theorem Q6:pw 0=1:=rfl
theorem p10(h:j<=9):pw j<=1000000000:=by
 unfold pw;have:=adK (n:=10) zr h;omega
theorem IT{u:List UInt8}{ch:UInt8}{rest:List UInt8}(h:u.drop j=ch::rest):u.take (j+1)=u.take j++[ch]/\u.drop (j+1)=rest/\j<u.length:=by
 have hlt:j<u.length:=by
  apply ad0;intro hc;rw[aeQ zd]at h;cases h
 have e:u.drop j=u[j]::u.drop (j+1):=adP hlt
 grind
theorem SX(G:List (List DV))(s0:List UInt8)(hD:zn s0)(hlen:s0.length<=1000000000)(Y:AV)(hY:Y.cG=true):
 ∀c:Ctx,c.P=prog->c.G=G->c.n=34->Rv c Y->AW c none H6 ⟨λt=>[Y,.c (.ptr 0 0)].getD t .undef,mI s0 .nilsl⟩ 0 (λx s _=>x=.normal/\s.lv=mI [] (nD (oO (!s0.isEmpty) (bg s0 0)))):=by
 rintro⟨_,Gc,w0,F0,W0,_,jd,β0⟩ rfl rfl rfl hy;unfold H6;refine aaw ?_
 refine aaY (λ(p:List UInt8×Nat×Bool×Nat)=>⟨aT [(0,Y),(1,.c (.ptr 0 0))],mI p.1 (nD (oO p.2.2.1 p.2.1))⟩) 0
  (λp=>zn p.1/\p.2.2.2+p.1.length<=1000000000/\p.2.1<4294967296^p.2.2.2/\bg p.1 p.2.1=bg s0 0/\(p.2.2.1=false->p.2.1=0/\p.1=s0)/\(p.2.2.1=true->s0≠[]))
  (λp=>p.1.length) (s0,0,false,0) (Le.mk' _ xr (rR _ _) (by simp[hY])) yn ?_
 rintro⟨u,n,st,L⟩ ⟨h1,h2,h3,h4,h5,h6⟩;simp only at h1 h2 h3 h4 h5 h6;refine aac λK hK=>aah ?_
 by_cases hu:u=[]
 ·subst hu;refine aax (aaR ?_);simp;have e1:n=bg s0 0:=h4
  have e2:st = !s0.isEmpty:=by
   cases st with
   |true=>grind
   |false=>grind
  grind
 have hu0:0<u.length:=List.length_pos_iff.2 hu
 have hs0:s0≠[]:=by
  cases st with
  |true=>exact h6 rfl
  |false=>rw[<-(h5 rfl).2];exact hu
 refine aaB yk (aan (hK _ _ (aaw (aah ?_))));refine aac λK hK=>?_
 have fin:∀(j:Nat) (fr:Nat->AV) (κ:Nat),0<j->j<=9->j<=u.length->fr 0=Y->fr 1=.c (.ptr 0 0)->fr 3=.c (.d (.int .u32 (bg (u.take j) 0)))->fr 4=.c (.d (.int .u32 (pw j)))->K ⟨fr,mI (u.drop j) (nD (oO st n))⟩ κ:=by
  intro j fr κ hj0 hj9 hju f0 f1 f3 f4
  have hvj:bg (u.take j) 0<pw j:=by
   unfold pw;have:=pL (l:=u.take j) (λc hc=>h1 c (afw hc))
   rwa[acM,aea hju]at this
  have hpj:=p10 hj9
  have hdec:bg (u.drop j) (n*pw j+bg (u.take j) 0)=bg s0 0:=by
   rw[<-h4]
   conv=>rhs;rw[<-afX j u]
   rw[m8,iw (u.take j) n,acM,aea hju];rfl
  have hbig:n*pw j+bg (u.take j) 0<4294967296^(L+1):=by
   rw[adk];have g1:n*pw j+bg (u.take j) 0<(n+1)*pw j:=by rw[adn];omega
   exact adA g1 (ae3 zd zd)
  generalize bg (u.take j) 0=v at*
  generalize hpw:pw j=q at*
  apply hK;refine aac λK2 hK2=>?_;have hd:∀t:Nat,t<34->∀d,some t=some d->d<34:=λt ht d h=>by grind
  refine AW.J1 (s':=⟨aM (aM (aM (aM (aM fr 29 Y) 30 (.c (.d (.int .u32 v)))) 31 (.c (.d (.int .u32 q)))) 32 (.c (.d (.bool true)))) 33 (.c (.d (.bool false))),mI (u.drop j) (nD (oO true (n*q+v)))⟩) ?_ ?_
  ·refine⟨⟨aM fr 29 Y,mI (u.drop j) (nD (oO st n))⟩,?_,⟨aM (aM fr 29 Y) 30 (.c (.d (.int .u32 v))),mI (u.drop j) (nD (oO st n))⟩,?_,⟨aM (aM (aM fr 29 Y) 30 (.c (.d (.int .u32 v)))) 31 (.c (.d (.int .u32 q))),mI (u.drop j) (nD (oO st n))⟩,?_,
    ⟨aM (aM (aM (aM fr 29 Y) 30 (.c (.d (.int .u32 v)))) 31 (.c (.d (.int .u32 q)))) 32 (.c (.d (.bool true))),mI (u.drop j) (nD (oO true (n*q+v)))⟩,?_,⟨aM (aM (aM (aM (aM fr 29 Y) 30 (.c (.d (.int .u32 v)))) 31 (.c (.d (.int .u32 q)))) 32 (.c (.d (.bool true)))) 33 (.c (.d (.bool false))),mI (u.drop j) (nD (oO true (n*q+v)))⟩,?_,rfl⟩
   ·exact iN.plain (κ:=0) (x:=fr 0) (hd 29 zr) rfl rfl trivial yk
   ·exact iN.plain (κ:=0) (x:=fr 3) (hd 30 zr) rfl rfl trivial yk
   ·exact iN.plain (κ:=0) (x:=fr 4) (hd 31 zr) rfl rfl trivial yk
   ·exact hy (u.drop j) n st v q L _ _ _ _ zd zd (λh=>(h5 h).1) zd h3 rfl rfl rfl rfl rfl zp zp zp
   ·exact iN.plain (κ:=0) (x:=.c (.d (.bool false))) (hd 33 zr) rfl rfl trivial rfl
  ·simp only[nH];apply hK2;refine aax (aan ?_);simp only[og,nH];refine⟨(u.drop j,n*q+v,true,L+1),Le.mk' _ rfl (rR _ _) yk,⟨λc hc=>h1 c (afj hc),yv,hbig,hdec,zp,(λ_=>hs0)⟩,yv⟩
 refine aah ?_;refine aaw ?_
 refine aaY (λ(j:Nat)=>⟨aT [(0,Y),(1,.c (.ptr 0 0)),(3,.c (.d (.int .u32 (bg (u.take j) 0)))),(4,.c (.d (.int .u32 (pw j:Int)))),(5,.c (.d (.int .i64 j)))],mI (u.drop j) (nD (oO st n))⟩) 0
  (λj=>j<=9/\j<=u.length) (λj=>9-j) 0 (Le.mk' _ zp (rR _ _) (by simp[hY,bg,Q6])) zp ?_
 rintro j ⟨hj,hju⟩
 have hvj:bg (u.take j) 0<pw j:=by
  unfold pw;have:=pL (l:=u.take j) (λc hc=>h1 c (afw hc))
  rwa[acM,aea hju]at this
 have hpj:=p10 hj;refine aac λK2 hK2=>aac λK3 hK3=>?_
 by_cases hj9:j<9
 ·have hj9':(j:Int)<9:=by omega
  by_cases hje:j=u.length
  ·subst hje;refine abG hj9 hj9' (hK3 _ _ ?_);refine aax (aaR ?_);simp;have:=fin u.length;simp at this;refine this _ _ hu0 hj zp zp zp zp
  ·have hlt:j<u.length:=by omega
   obtain⟨ch,rest,hcr⟩:∃ch rest,u.drop j=ch::rest:=⟨u[j],u.drop (j+1),adP hlt⟩
   obtain⟨t1,t2,_⟩:=IT hcr;have hch:48<=ch.toNat/\ch.toNat<=57:=h1 ch (afj (by rw[hcr];simp));have hlt':0<u.length-j:=zd
   refine AW.l4 hj9 hj9' hlt hlt' (hK3 _ _ ?_);refine aaB xr (aan (hK2 _ _ (aac λK2 hK2=>aaw (aac λK3 hK3=>?_))));have hpj':=p10 (j:=j+1) zd;have hps:=QA j;obtain⟨x,hx⟩:∃x,ch.toNat-48=x:=⟨_,rfl⟩
   obtain⟨v,hv⟩:∃v,bg (u.take j) 0=v:=⟨_,rfl⟩
   obtain⟨v',hv'⟩:∃v',bg (u.take (j+1)) 0=v':=⟨_,rfl⟩
   obtain⟨q',hq'⟩:∃q',pw (j+1)=q':=⟨_,rfl⟩
   have hvv:v'=10*v+x:=by rw[<-hv',t1,m8,hv,<-hx];rfl
   rw[hq']at hps hpj';rw[hv]at hvj
   have w1:u8.wrap ((ch.toNat:Int)-48)=(x:Int):=by
    rw[eG ⟨vd,un⟩];omega
   have w2:u32.wrap (x:Int)=(x:Int):=lR zd zd;have w3:u32.wrap (10*(v:Int))=10*(v:Int):=lR zd zd;have w4:u32.wrap (10*(v:Int)+(x:Int))=(v':Int):=by rw[lR zd zd];omega
   have w5:u32.wrap (10*(pw j:Int))=(q':Int):=by rw[lR zd zd];omega
   have w6:i64.wrap ((j:Int)+1)=((j+1:Nat):Int):=by rw[eG ⟨vd,un⟩];omega
   refine aai ?_;simp[hcr,hv,w1,w2,w3,w4,w5];apply hK3;refine abG hcr @ai.eq_1 (hK2 _ _ ?_);refine abP 0 ?_;refine aai ?_;simp[w6];refine⟨j+1,Le.mk' _ (by simp[t2]) (rR _ _) (by simp[hY,hv',hq']),?_,?_⟩
   ·omega
   ·omega
 ·have hj':j=9:=by omega
  subst hj';refine abS (hK3 _ _ ?_);refine aax (aaR ?_)
  simp_all
end Go.Am
namespace Go.Am
open Go.Proofs Go.Am.Ty N
variable {P:Program}{G:List (List DV)}{lv:Key->LB}{F:Nat->Prop}{β:Key->Nat}{w:World}
theorem MB:Tryz.f232.body=some H6:=rfl
theorem HC(s:ByteArray)(w:World):Calls prog 177 #[.string s] w λe w'=>e=.returned (.func (.func 232) #[] #[.pointer (some ⟨w.heap.size,0,none⟩)])/\w'=w.alloc (.cells #[.string s] 9):=by
 have hmf:∀(fn:Fn) (first cap:Array Value) (w:World),(Instr.makeFunc fn first cap).run prog w=.ok (.func fn first cap) w:=λ_ _ _ _=>rfl
 go_enter func177,Tryz.ntmps177
 go_wp2
 go_ret
 simp
def T6(s:ByteArray)(w:World):World:=(w.alloc (.cells #[.slice none 0 0] 32)).alloc (.cells #[.string s] 9)
def Re(s:ByteArray)(w:World):Array Value:=#[.string s,undef,.slice none 0 0,.pointer (some ⟨w.heap.size,0,none⟩),undef,undef,.string s,.func (.func 232) #[] #[.pointer (some ⟨w.heap.size+1,0,none⟩)],undef,undef,undef,undef,undef,undef,undef,undef,undef,undef,undef,undef]
theorem M5(s:ByteArray)(w:World)(R:Ending->World->Prop)
 (h:(Code.rangeFunc (.tmp 7) #[8,9] CL Ad).wpIn Fence.wide 0 prog (λe a' W=>e=.normal/\∃D v,a'={ tmps:=Re s w,defers:=[{ target:=.collected D,args:=#[] }] }/\W.heap[D]?=some (.deferred (some []))/\W.cell? ⟨w.heap.size,0,none⟩=some v/\R (.returned v) (W.putObj D (.deferred none))) ⟨Re s w,[]⟩ (T6 s w)) :
 Calls prog 102 #[.string s] w R:=by
 refine(callsIn_wide (n:=0)).1 ?_;refine callsIn_of_wp_marks func102 rfl trivial ?_ rfl;simp only[Tryz.ntmps102,afz,aeq,List.length_nil,Nat.reduceAdd,Nat.reduceSub,Array.replicate_succ,Array.replicate_zero,List.push_toArray,List.append_toArray,aew,afB]
 gi_wp2
 refine⟨trivial,rfl,((callsIn_wide (n:=0)).2 (HC s _)).mono ?_⟩;rintro e w' ⟨rfl,rfl⟩
 gi_wp2
 refine wpIn_mono (show(Code.rangeFunc (.tmp 7) #[8,9] CL Ad).wpIn Fence.wide 0 prog _ _ _ from h) ?_;rintro e a' W ⟨rfl,D,v,rfl,hD,hc,hR⟩;simp only[Exit.inBlock,Exit.then]
 apply_assumption
 unfold Re
 gi_wp2
 refine⟨zp,.inl ⟨_,_,rfl,run_takeDeferred hD,?_⟩⟩;exact⟨_,results_tmp rfl _ _ _,yk⟩
theorem Pe{f:FuncId}{fn:Func}{code:Code}{args:List AV}{lv':Key->LB}{κ:Nat}(hf:P.funcs[f]?=some fn)(hb:fn.body=some code)(hl:args.length<=fn.ntmps)(hres:fn.results=#[]){vs:Array Value}(hS:fF (fY P G w F β lv) F β lv w)(hvl:vs.size=args.length)(hv:∀i (h:i<args.length) (h':i<vs.size),(Vw.mk F β lv w).av vs[i] args[i])
 (h:AW { fY P G w F β lv with n:=fn.ntmps } none code ⟨λt=>args.getD t .undef,lv⟩ κ (λx s _=>x=.normal/\s.lv=lv')) :
 Calls P f vs w λe w'=>(∃v,e=.returned v)/\∃F' β',fF (fY P G w F β lv) F' β' lv' w':=by
 refine calls_of_wp hf hb ?_
 let a:Act:={ tmps:=vs++Array.replicate (fn.ntmps-vs.size) undef,defers:=[] }
 have hst:aR { fY P G w F β lv with n:=fn.ntmps } F β ⟨λt=>args.getD t .undef,lv⟩ a w:=by
  refine fF.with (c:={ fY P G w F β lv with n:=fn.ntmps }) hS ?_ rfl (λt=>?_)
  ·grind
  ·show(Vw.mk F β lv w).av ((vs++Array.replicate (fn.ntmps-vs.size) undef).getD t undef) (args.getD t .undef)
   by_cases ht:t<args.length
   ·have h1:args.getD t .undef=args[t]:=iy ht
    have h2:(vs++Array.replicate (fn.ntmps-vs.size) undef).getD t undef=vs[t]' zd:=by
     rw[aeK,agu zd,ae0 zd];rfl
    grind
   ·have h1:args.getD t .undef=.undef:=nN ht
    have h2:(vs++Array.replicate (fn.ntmps-vs.size) undef).getD t undef=undef:=by
     rw[aeK,agH zd,agb];split<;>rfl
    rw[h1,h2];rfl
 have hw:=(wpIn_wide (n:=0)).1 (h F β a w hst);refine wp_mono hw λe a' w' hp=>?_;obtain⟨e',s',κ',F',β',⟨rfl,hq⟩,hs',he⟩:=hp
 cases he
 exact⟨hs'.defers,.tuple #[],by simp[results,hres],⟨_,rfl⟩,F',β',hq▸hs'.ux⟩
theorem rU(u:List UInt8)(d:DV):nj (mI u d):=by
 intro k;rcases MY u d k with h|⟨T,cs,h⟩<;>rw[h]<;>rfl
theorem Nq(s:List UInt8)(d:DV):aM (aM (aM (aM (λ_=>LB.hole) 1 (.cells true false 32 [.d d])) 1 (.cells false false 32 [.d d])) 0 (.cells true false 9 [.d (.str s)])) 0 (.cells false false 9 [.d (.str s)])=mI s d:=by
 funext k;unfold mI aM
 grind
theorem Pn{s:List UInt8}(hlv:lv=λ_=>.hole)(hS:fF (fY P G w F β lv) F β lv w)(hs:s.length<=9223372036854775807):
 ∃β2:Key->Nat,fF (fY P G w F β lv) F β2 (mI s .nilsl) (T6 ⟨s.toArray⟩ w)/\β2 1=w.heap.size/\β2 0=w.heap.size+1:=by
 subst hlv
 have h1:=aR.alloc (κ:=1) hS rfl (arr:=#[.slice none 0 0]) 32 (cs:=[.d .nilsl]) zp (λi p q=>by
  have:i=0:=by simp at p;omega
  subst this;exact⟨.nilsl,rfl⟩)
 have h2:=h1.Jt (k:=1) (T:=32) (cs:=[.d .nilsl]) false xr
 have h3:=aR.alloc (κ:=0) h2 np (arr:=#[.string ⟨s.toArray⟩]) 9 (cs:=[.d (.str s)]) zp (λi p q=>by
  have:i=0:=by simp at p;omega
  subst this;refine⟨?_,rfl⟩;have:=Rd.str (M:=(Vw.mk F (aM β 1 w.heap.size) (aM (aM (λ_=>LB.hole) 1 (.cells true false 32 [.d .nilsl])) 1 (.cells false false 32 [.d .nilsl])) (w.alloc (.cells #[.slice none 0 0] 32))).mem) ⟨s.toArray⟩ zd
  grind)
 have h4:=h3.Jt (k:=0) (T:=9) (cs:=[.d (.str s)]) false xr;refine⟨aM (aM β 1 w.heap.size) 0 (w.alloc (.cells #[.slice none 0 0] 32)).heap.size,?_,?_,?_⟩
 ·have:=h4.ux;rw[<-Nq s .nilsl];exact this
 ·simp[aM]
 simp
theorem BG(G:List (List DV))(s:List UInt8)(hD:zn s)(hlen:s.length<=1000000000):aa prog G 102 [.c (.d (.str s))] (nK .u32 (oO (!s.isEmpty) (bg s 0))):=by
 intro F β w vs hS hl hv;have hlv:cY [] []=λ_=>LB.hole:=mK
 obtain⟨u,rfl,hu⟩:=args1 hl hv;rw[Vw.pY hu];obtain⟨β2,hS2,e1,e0⟩:=Pn hlv hS (s:=s) zd;refine M5 _ w _ ?_;refine wpIn_rangeFunc ?_;intro fn hfn;obtain⟨rec,hrec⟩:∃rec:Loop,rec={ state:=.ready,pending:=none,fn,tmps:=Re ⟨s.toArray⟩ w,params:=#[8,9],assign:=CL,body:=Ad,defers:=(T6 ⟨s.toArray⟩ w).heap.size }:=⟨_,rfl⟩
 have hsz:(T6 ⟨s.toArray⟩ w).heap.size=w.heap.size+2:=by simp[T6]
 obtain⟨w1,hw1⟩:∃w1,((T6 ⟨s.toArray⟩ w).alloc (.deferred (some []))).alloc (.loop rec)=w1:=⟨_,rfl⟩
 have hD1:w1.heap[w.heap.size+2]?=some (.deferred (some [])):=by
  rw[<-hw1,heap_alloc,if_neg (by simp[hsz]),heap_alloc,if_pos hsz.symm]
 have hL1:w1.heap[w.heap.size+3]?=some (.loop rec):=by
  rw[<-hw1,heap_alloc,if_pos (by simp[hsz])]
 have hw1s:w1.heap.size=w.heap.size+4:=by rw[<-hw1];simp[hsz]
 have hS3:fF (fY prog G w F β (cY [] [])) F β2 (mI s .nilsl) w1:=by
  rw[<-hw1];exact(hS2.FJ _).FJ _
 have hS4:fF (fY prog G w1 F β2 (mI s .nilsl)) F β2 (mI s .nilsl) w1:=aR.Dv hS3 (rU _ _);have hFw:∀b,F b->b<w.heap.size:=λb hb=>(hS.tC b hb).1
 have hnot:∀b,w.heap.size+2<=b->∀k,(mI s .nilsl k).live=true->β2 k≠b:=by
  intro b hb k hk he
  by_cases h1:k=1
  ·grind
  ·by_cases h0:k=0
   ·grind
   ·rw[show mI s .nilsl k=.hole by unfold mI aM;grind]at hk;cases hk
 refine⟨w.heap.size+3,[{ target:=.collected (w.heap.size+2),args:=#[] }],w1,{ target:=.fn (.func 232) #[.pointer (some ⟨w.heap.size+1,0,none⟩)],args:=#[.func (.yield (w.heap.size+3)) #[] #[]] },w1,232,
  #[.func (.yield (w.heap.size+3)) #[] #[]]++#[.pointer (some ⟨w.heap.size+1,0,none⟩)],w1,?_,?_,λ_ _=>trivial,?_,(λh=>by simp[Fence.wide]at h),?_⟩
 ·have:=run_enterLoop_outer (P:=prog) (w:=T6 ⟨s.toArray⟩ w) fn (Re ⟨s.toArray⟩ w) #[8,9] CL Ad
  simp_all
 ·have hg:(Act.eval ⟨Re ⟨s.toArray⟩ w,[]⟩ (.tmp 7))=.func (.func 232) #[] #[.pointer (some ⟨w.heap.size+1,0,none⟩)]:=rfl;simp only[resolve,hg];simp[go_sem]
 ·have:=o4 (P:=prog) (f:=232) zt (#[.func (.yield (w.heap.size+3)) #[] #[]]++#[.pointer (some ⟨w.heap.size+1,0,none⟩)]) w1;simpa[invoke,go_sem]using this
 ·refine(callsIn_wide (n:=0)).2 ?_
  let Y:AV:=.c (.d (.func (.yield (w.heap.size+3)) [] []))
  have hit:=Pe (κ:=0) (lv':=mI [] (nD (oO (!s.isEmpty) (bg s 0)))) (args:=[Y,.c (.ptr 0 0)]) (vs:=#[.func (.yield (w.heap.size+3)) #[] #[]]++#[.pointer (some ⟨w.heap.size+1,0,none⟩)]) func232 MB zp rfl hS4 rfl (λi p q=>by
   have:i=0\/i=1:=by simp at p;omega
   rcases this with rfl|rfl
   ·exact⟨.func _ _ _ _ _ rfl rfl (λi h=>absurd h (aer i)) (λi h=>absurd h (aer i)),rfl⟩
   ·refine⟨?_,rfl⟩;simp only[Vw.ff,Xe,e0];rfl) (SX G s hD hlen Y rfl _ rfl rfl rfl ?_)
  ·refine hit.mono λe w3 he=>?_;obtain⟨⟨v,rfl⟩,F3,β3,hX⟩:=he;have hold:∀b,w.heap.size+2<=b->b<w1.heap.size->w3.heap[b]?=w1.heap[b]?:=λb h1 h2=>hX.old b h2 (λ⟨k,hk,he⟩=>hnot b h1 k hk he)
   have hL3:w3.heap[w.heap.size+3]?=some (.loop rec):=(hold _ zd zd).trans hL1;have hD3:w3.heap[w.heap.size+2]?=some (.deferred (some [])):=(hold _ zd zd).trans hD1
   have hF3:∀b,w.heap.size+2<=b->b<w1.heap.size->¬F3 b:=by
    intro b h1 h2 hb;rcases(hX.tC _ hb).2 with h|h
    ·have:=hFw _ h;omega
    ·have:w1.heap.size<=b:=h;omega
   have hlv3:∀b,w.heap.size+2<=b->b<w1.heap.size->∀k,(mI [] (nD (oO (!s.isEmpty) (bg s 0))) k).live=true->β3 k≠b:=by
    intro b h1 h2 k hk he;rcases hX.jk (k:=k) hk with h|⟨j,hj,hj2⟩
    ·have:w1.heap.size<=β3 k:=h;omega
    ·grind
   have hc1:β3 1=w.heap.size:=by
    have h0:mI s DV.nilsl 1≠.hole:=zp
    rcases hX.keep 1 h0 with h|⟨h,_⟩
    ·simp at h
    ·rw[h];exact e1
   have q1:aR { fY prog G w F β (cY [] [])with n:=0 } F3 β3 ⟨λ_=>.junk,mI [] (nD (oO (!s.isEmpty) (bg s 0)))⟩ ⟨#[],[]⟩ w3:=hS3.KE hX;have q2:=q1.Ey (.loop { rec with state:=.exhausted }) hL3 (λ_ _ _ h=>by cases h) (hF3 _ zd zd) (hlv3 _ zd zd) (.inl (by show w.heap.size<=_;omega));have hD4:(w3.putObj (w.heap.size+3) (.loop { rec with state:=.exhausted })).heap[w.heap.size+2]?=some (.deferred (some [])):=(agC zd).trans hD3;have q3:=q2.Ey (.deferred none) hD4 (λ_ _ _ h=>by cases h) (hF3 _ zd zd) (hlv3 _ zd zd) (.inl (by show w.heap.size<=_;omega));have hb:=q2.dj 1;unfold Vw.dj at hb;simp only[TQ]at hb;obtain⟨arr,b1,b2,b3,_⟩:=hb;have hpos:0<arr.size:=by simp at b2;omega
   have h0:=b3 0 zp hpos;simp only[aeC]at h0;refine⟨none,w3.putObj (w.heap.size+3) (.loop { rec with state:=.exhausted }),?_,rfl,w.heap.size+2,arr[0],rfl,hD4,?_,arr[0],F3,β3,rfl,?_,?_⟩
   ·have:=run_endLoop (P:=prog) hL3 yn
    grind
   ·rw[hc1]at b1;simp only[World.cell?]
    grind
   ·refine⟨λk=>?_,λk k' h=>?_,λ_=>trivial,rfl,rfl,q3.tC,q3.F0,q3.old,q3.ge,q3.uX,λk h=>?_,q3.Ls,q3.Hs⟩
    ·unfold Vw.dj;grind
    ·rw[hlv]at h;cases h
    ·exact absurd (by rw[hlv];rfl) h
   ·have hR:∀x,(Vw.mk F3 β3 (mI [] (nD (oO (!s.isEmpty) (bg s 0)))) (w3.putObj (w.heap.size+3) (.loop { rec with state:=.exhausted }))).cv arr[0] (.d x)->(Vw.mk F3 β3 (cY [] []) ((w3.putObj (w.heap.size+3) (.loop { rec with state:=.exhausted })).putObj (w.heap.size+2) (.deferred none))).av arr[0] (.c (.d x)):=by
     rintro x ⟨g1,g2⟩;refine⟨Rd.mono (lz (λ_ h=>h) (λb hb=>?_)) g1,g2⟩;refine agC (λe=>?_);subst e;exact hF3 _ zd zd hb
    rw[<-Tu]
    grind
  ·intro u n st v sz L fr ops o cl hv hz hst hL hn hdst hg ho hcal hargs f29 f30 f31;rw[<-hdst];refine iN.yield (xs:=[.c (.d (.int .u32 v)),.c (.d (.int .u32 sz))]) (λd hd=>?_) hg ho hcal f29 yk yn hL1 (λk hk=>hnot _ zd k hk) (rU _ _) ?_
   ·rw[hdst]at hd;cases hd;simp
   intro F' β' w' vs' hX hXe hl' hvs hav;obtain⟨x,y,rfl,hx,hy⟩:=args2 hvs hav;have ht:(rec.params.zip #[x,y]).foldl (λtmps (t,a)=>tmps.setIfInBounds t a) rec.tmps=((Re ⟨s.toArray⟩ w).setIfInBounds 8 x).setIfInBounds 9 y:=by rw[hrec];simp only[List.zip_toArray,List.zip_cons_cons,List.zip_nil_right,List.foldl_toArray,afU,List.foldl_nil]
   rw[ht]
   have hb1:β' 1=w.heap.size:=by
    have h0:mI s DV.nilsl 1≠.hole:=zp
    rcases hX.keep 1 h0 with h|⟨h,_⟩
    ·simp at h
    ·rw[h];exact e1
   have hFl:¬F' (w.heap.size+3):=by
    intro hb;rcases(hX.tC _ hb).2 with h|h
    ·have:=hFw _ h;omega
    ·have:w1.heap.size<=w.heap.size+3:=h;omega
   let fr0:Nat->AV:=λt=>if t=3 then .c (.ptr 1 0)else if t=8 then .c (.d (.int .u32 v))else if t=9 then .c (.d (.int .u32 sz))else .junk
   have hval:val 4294967296 (dO (oO st n))=n:=by
    cases st with
    |false=>have:=hst rfl;subst this;rfl
    |true=>exact bE zr n
   have hlenO:(dO (oO st n)).length<=L:=by
    cases st with
    |false=>simp[oO,dO]
    |true=>exact cE zr hn
   refine Gj (lv1:=mI u (nD (oO st n))) (n:=20) (κ:=0) (fr:=fr0) (fr2:=aM (aM fr0 4 (.c (.d (.int .u32 v)))) 5 (.c (.d (.int .u32 sz)))) hXe (rU _ _) (rU _ _) hl' (by rw[hrec]) (by rw[hrec]) (by simp[Re]) (λt=>?_) hFl ?_ ?_
   ·show(Vw.mk F' β' _ w').av _ (if t=3 then .c (.ptr 1 0)else if t=8 then .c (.d (.int .u32 v))else if t=9 then .c (.d (.int .u32 sz))else .junk)
    by_cases h3:t=3
    ·subst h3;simp only[if_true];have:(((Re ⟨s.toArray⟩ w).setIfInBounds 8 x).setIfInBounds 9 y).getD 3 undef=.pointer (some ⟨w.heap.size,0,none⟩):=rfl;rw[this];refine⟨?_,rfl⟩;simp only[Vw.ff,TQ,hb1]
    ·by_cases h8:t=8
     ·subst h8;exact hx
     ·by_cases h9:t=9
      ·subst h9;exact hy
      ·simp only[h3,h8,h9,if_false];trivial
   ·intro c hP hG hn' _;rw[hrec];exact M8 G v sz _ _ fr0 rfl rfl c hP hG hn'
   ·intro c hP hG hn' _;rw[hrec];have:=K0 G v sz hv hz (oO st n) (nD (oO st n)) (Tu _) zd L zd zd u (some (w.heap.size+3)) (aM (aM fr0 4 (.c (.d (.int .u32 v)))) 5 (.c (.d (.int .u32 sz)))) xr np np c hP hG hn';rw[hval]at this;exact this
end Go.Am
namespace Go.Am
open Go.Proofs N
end Go.Am
namespace Go.Am
open Go.Proofs
variable {ks:List Key}{x y:AV}{lv lv':Key->LB}{v:Value}
def gq(lv:Key->LB):AV->Option (AV×List Key)
 |.tup l=>(l8 lv l).map λp=>(.tup p.1,p.2)
 |x=>fO lv x
theorem Cw(h:gq lv x=some (y,ks)):∀k∈ks,∃own fz T cs,lv k=.cells own fz T cs:=by
 cases x with
 |tup l=>
  simp only[gq,adY]at h;obtain⟨⟨ys,ks'⟩,h1,h2⟩:=h;simp only[rK]at h2;obtain⟨rfl,rfl⟩:=h2;exact tL h1
 |c x=>exact xD (x:=.c x) h
 |agg x=>exact xD (x:=.agg x) h
 |undef=>cases h
 |junk=>cases h
theorem NI{V:Vw}(h:fO lv x=some (y,ks))(hv:V.av v y):V.wj v y:=by
 cases x with
 |c x=>
  simp only[fO,adY]at h;obtain⟨p,_,h2⟩:=h;simp only[rK]at h2;obtain⟨rfl,rfl⟩:=h2;exact hv
 |agg cs=>
  simp only[fO,adY]at h;obtain⟨p,_,h2⟩:=h;simp only[rK]at h2;obtain⟨rfl,rfl⟩:=h2;exact hv
 |_=>cases h
theorem fF.gq{c:Ctx}{F Fz:Nat->Prop}{β:Key->Nat}{s:aJ}{w:World}(h:fF c F β s.lv w)(hF:∀b,F b->Fz b){β':Key->Nat}(ht:Am.gq s.lv x=some (y,ks))
 (hk:∀k∈ks,Fz (β k)) (hv:(Vw.mk F β s.lv w).av v x):(Vw.mk Fz β' lv' w).av v y:=by
 cases x with
 |tup l=>
  simp only[Am.gq,adY]at ht;obtain⟨⟨ys,ks'⟩,h1,h2⟩:=ht;simp only[rK]at h2;obtain⟨rfl,rfl⟩:=h2;obtain⟨g1,g2⟩:=w8 h1;obtain⟨arr,a1,a2,a3⟩:=hv;refine⟨arr,a1,zd,λi p q=>?_⟩;obtain⟨k,h3,h4⟩:=g2 i p zd
  have hx:(Vw.mk F β s.lv w).av arr[i] (l[i]' zd):=by
   have:=a3 i zd q;generalize l[i]' zd=z at this h3
   cases z with
   |tup l=>cases h3
   |_=>exact this
  exact NI h3 (h.fO hF h3 (λk' hk'=>hk k' (h4 k' hk')) hx)
 |c x=>exact h.fO (x:=.c x) hF ht hk hv
 |agg cs=>exact h.fO (x:=.agg cs) hF ht hk hv
 |undef=>cases ht
 |junk=>cases ht
theorem aa.PS{P:Program}{G:List (List DV)}{f:FuncId}{us:List AV}{X X':AV}(h:kL P G f us (λ_=>.hole) (.ret X lv'))(hd:gq lv' X=some (X',ks)):aa P G f us X':=by
 intro F β w vs hS hl hv;have hlv:cY [] []=λ_=>LB.hole:=mK
 rw[hlv]at hS hv;refine(h F β w vs hS hl hv).mono λe w' he=>?_;obtain⟨v,F',β',rfl,hX,hav⟩:=he;have hFz:∀b,F' b->(F' b\/∃k∈ks,b=β' k):=λb hb=>.inl hb
 refine⟨v,λb=>F' b\/∃k∈ks,b=β' k,β',rfl,?_,?_⟩
 ·rw[hlv];refine⟨λk=>trivial,λk k' h=>(by cases h),λ_=>trivial,rfl,rfl,λb hb=>?_,λb hb=>.inl (hX.F0 b hb),λb hb hW=>hX.old b hb zd,hX.ge,λg cs hg=>Rd.mono (lz hFz (λ_ _=>rfl)) (hX.uX g cs hg),λk hk=>absurd rfl hk,hX.Ls,hX.Hs⟩;rcases hb with hb|⟨k,hk,rfl⟩
  ·exact hX.tC b hb
  ·obtain⟨own,fz,T,cs',e⟩:=Cw hd k hk;have hlt:β' k<w'.heap.size:=aR.vI hX e
   cases fz with
   |false=>
    refine⟨hlt,?_⟩;rcases hX.jk (k:=k) (by show(lv' k).live=true;rw[e];rfl)with h1|⟨j,hj,_⟩
    ·omega
    ·cases hj
   |true=>
    have hb:=hX.dj k;unfold Vw.dj at hb;simp only[e]at hb;obtain⟨arr,b1,b2,b3,b4,b5⟩:=hb;simp only[if_true]at b4;exact hX.tC _ b4
 ·exact fF.gq (s:=⟨λ_=>.junk,lv'⟩) hX hFz hd (λk hk=>.inr ⟨k,hk,rfl⟩) hav
end Go.Am
namespace Go.Am
variable {fn:Func}{x:AV}{P:Program}{G:List (List DV)}{f:FuncId}{code:Code}{args:List AV}
def aF(c:Ctx)(fn:Func)(x:AV):Ex->aJ->Nat->Prop
 |.normal,s,_|.ret,s,_=>fq c.P s fn.results.toList=some x
 |_,_,_=>False
def cq(c:Ctx)(fn:Func)(x:AV):Ex->aJ->Nat->Prop
 |.normal,s,_|.ret,s,_=>∃X ks,fq c.P s fn.results.toList=some X/\gq s.lv X=some (x,ks)
 |_,_,_=>False
theorem aa.MU(hf:P.funcs[f]?=some fn)(hb:fn.body=some code)(hl:args.length<=fn.ntmps)
 (h:∀c:Ctx,c.P=P->c.G=G->c.n=fn.ntmps->c.jd=(λ_=>.hole)->AW c none code ⟨λt=>args.getD t .undef,λ_=>.hole⟩ 0 (cq c fn x)):aa P G f args x:=by
 intro F β w vs hS hvl hv;have hlv:cY [] []=λ_=>LB.hole:=mK
 rw[hlv]at hS hv;refine A2 hf hb hl hS hvl hv (h _ rfl rfl rfl rfl) (λe s κ hq=>by cases e<;>first|exact .inl rfl|exact .inr rfl|exact hq.elim) λe s' κ F' β' a' w' hq hX0=>?_;obtain⟨X,ks,h0,hd⟩:∃X ks,fq P s' fn.results.toList=some X/\gq s'.lv X=some (x,ks):=by cases e<;>first|exact hq|exact hq.elim
 obtain⟨v,h4,hav⟩:=vG hX0 h0;have hX:fF (fY P G w F β (λ_=>.hole)) F' β' s'.lv w':=hX0.ux;have hFz:∀b,F' b->(F' b\/∃k∈ks,b=β' k):=λb hb=>.inl hb
 refine⟨hX0.defers,v,h4,v,λb=>F' b\/∃k∈ks,b=β' k,β',rfl,?_,?_⟩
 ·rw[hlv];refine⟨λk=>trivial,λk k' h=>(by cases h),λ_=>trivial,rfl,rfl,λb hb=>?_,λb hb=>.inl (hX.F0 b hb),λb hb hW=>hX.old b hb zd,hX.ge,λg cs hg=>Rd.mono (lz hFz (λ_ _=>rfl)) (hX.uX g cs hg),λk hk=>absurd rfl hk,hX.Ls,hX.Hs⟩;rcases hb with hb|⟨k,hk,rfl⟩
  ·exact hX.tC b hb
  ·obtain⟨own,fz,T,cs',e⟩:=Cw hd k hk;have hlt:β' k<w'.heap.size:=aR.vI hX e
   cases fz with
   |false=>
    refine⟨hlt,?_⟩;rcases hX.jk (k:=k) (by show(s'.lv k).live=true;rw[e];rfl)with h1|⟨j,hj,_⟩
    ·omega
    ·cases hj
   |true=>
    have hb:=hX.dj k;unfold Vw.dj at hb;simp only[e]at hb;obtain⟨arr,b1,b2,b3,b4,b5⟩:=hb;simp only[if_true]at b4;exact hX.tC _ b4
 ·rw[hlv];exact fF.gq (s:=⟨λ_=>.junk,s'.lv⟩) hX hFz hd (λk hk=>.inr ⟨k,hk,rfl⟩) hav
theorem aF.d{c:Ctx}{e:Ex}{s:aJ}{κ:Nat}(hx:gq s.lv x=some (x,[]))(h:aF c fn x e s κ):cq c fn x e s κ:=by
 cases e<;>first|exact⟨x,[],h,hx⟩|exact h.elim
theorem aa.V3(hf:P.funcs[f]?=some fn)(hb:fn.body=some code)(hl:args.length<=fn.ntmps)
 (hx:∀lv,gq lv x=some (x,[]))
 (h:∀c:Ctx,c.P=P->c.G=G->c.n=fn.ntmps->AW c none code ⟨λt=>args.getD t .undef,λ_=>.hole⟩ 0 (aF c fn x)):aa P G f args x:=
 aa.MU hf hb hl λc h1 h2 h3 _=>(h c h1 h2 h3).mono λe s κ hq=>aF.d (hx _) hq
theorem aa.enc(hf:P.funcs[f]?=some fn)(hb:fn.body=some code)(hx:∀lv,gq lv x=some (x,[]))
 (h:∀z:Ev,AW ⟨P,G,z.w,z.F,z.W,fn.ntmps,z.q,z.b,z.d⟩ none code ⟨λt=>args.getD t .undef,λ_=>.hole⟩ 0 (aF ⟨P,G,z.w,z.F,z.W,fn.ntmps,z.q,z.b,z.d⟩ fn x)) (hl:Nat.ble args.length fn.ntmps=true:=by kernel_rfl):aa P G f args x:=
 aa.V3 hf hb (ae2 hl) hx λ⟨_,_,w,F,W,_,q,b,d⟩ h1 h2 h3=>by cases h1;cases h2;cases h3;exact h ⟨w,F,W,q,b,d⟩
end Go.Am
namespace Go.Am
open Go.Am.Ty Go.Proofs N
variable {c:Ctx}{fn:Func}{x:AV}{t k off κ:Nat}{T U:TypeId}{own fz:Bool}{cs:List CV}{s:aJ}
def nC:Option (List Nat)->CV
 |none=>.d .nilsl
 |some l=>.d (.sl (dK .u32 l))
theorem iX(o:Option (List Nat)):nK .u32 o=.c (nC o):=by cases o<;>rfl
@[simp]theorem bZ(lv:Key->LB)(b:Bool)(p q:Option (List Nat)):gq lv (.agg [.d (.bool b),nC p,nC q])=some (.agg [.d (.bool b),nC p,nC q],[]):=by
 cases p<;>cases q<;>rfl
@[simp]theorem ZH(o:Option (List Nat)):(nC o).pure=true:=by cases o<;>rfl
@[simp]theorem Xr(o:Option (List Nat)):(AV.c (nC o)).pure=true:=by cases o<;>rfl
theorem aF.cell(hr:fn.results=#[.cell t T])(ht:s.fr t=.c (.ptr k off))(hk:s.lv k=.cells own fz U cs)
 (hx:iq c.P T (cs.drop off)=some x):aF c fn x .ret s κ:=by
 show fq c.P s fn.results.toList=some x;rw[hr];simp[fq,kH,mj,ht,hk,hx]
theorem aF.ox{y:AV}{u:Nat}(hr:fn.results=#[.cell t T,.tmp u])(ht:s.fr t=.c (.ptr k off))(hk:s.lv k=.cells own fz U cs)
 (hx:iq c.P T (cs.drop off)=some x) (hy:s.fr u=y) (hn:x.eK=true) (hm:y.eK=true):aF c fn (.tup [x,y]) .ret s κ:=by
 show fq c.P s fn.results.toList=some _;rw[hr];simp[fq,kH,mj,ht,hk,hx,hy,hn,hm]
attribute [local irreducible] aF
theorem Cx:bM prog 34 [] []=some (.agg [.d (.bool false),.d .nilsl,.d .nilsl],[],[],True):=zt
theorem Il(b p q:CV):bM prog 34 [0,1,2] [.c b,.c p,.c q]=some (.agg [b,p,q],[],[],True):=zt
theorem j5(b p q:CV):iq prog 34 [b,p,q]=some (.agg [b,p,q]):=zt
abbrev p7(neg:Bool)(p q:Option (List Nat)):AV:=.agg [.d (.bool neg),nC p,nC q]
def gO(p q:Option (List Nat)):Option (List Nat):=kY p q (val 4294967296 (dO q))
def mP(p q:Option (List Nat)):Option (List Nat):=if val 4294967296 (dO q)=1 then p else if val 4294967296 (dO (gO p q))=1 then p else qG p (gO p q)
def TT(p q:Option (List Nat)):Option (List Nat):=if val 4294967296 (dO q)=1 then q else if val 4294967296 (dO (gO p q))=1 then q else qG q (gO p q)
def mQ(p q:Option (List Nat)):Option (List Nat):=if val 4294967296 (dO (TT p q))=1 then none else TT p q
def l7(neg:Bool)(p q:Option (List Nat)):AV:=if dO p=[]then p7 false none none else p7 neg (mP p q) (mQ p q)
theorem HJ(lv:Key->LB)(neg:Bool)(p q:Option (List Nat)):gq lv (l7 neg p q)=some (l7 neg p q,[]):=by
 unfold l7;split<;>exact bZ ..
theorem tr(G:List (List DV))(neg:Bool)(p q:Option (List Nat))(hp:can 4294967296 (dO p))(hq:can 4294967296 (dO q))(hq0:dO q≠[])(hl:(dO p).length<1000000000000)(hl':(dO q).length<1000000000000):
 aa prog G 101 [.c (.d (.bool neg)),nK .u32 p,nK .u32 q] (l7 neg p q):=by
 have hgd:=AO hp hq;have hgc:can 4294967296 (dO (gO p q)):=by unfold gO;rw[hgd];exact bO zr _
 have hqv:0<val 4294967296 (dO q):=jC hq hq0
 have hg0:dO (gO p q)≠[]:=by
  unfold gO;rw[hgd];intro h;have:=(cL zr).1 h;have:=Nat.gcd_pos_of_pos_right (val 4294967296 (dO p)) hqv;omega
 refine aa.enc func101 rfl (λlv=>HJ lv _ _ _) λ_=>aah ?_;refine aac λK hK=>aah ?_
 by_cases hpe:dO p=[]
 ·refine aaB yk (aaN Cx ?_);refine aal ?_;refine aF.cell (T:=34) (t:=6) (k:=0) (off:=0) (own:=true) (fz:=false) (U:=34) (cs:=[.d (.bool false),.d .nilsl,.d .nilsl]) rfl ?_ ?_ ?_
  ·simp
  ·rfl
  ·rw[ady,j5];simp[l7,hpe,nC]
 refine aaD yk (aan (hK _ _ (aac λK hK=>?_)))
 have rest:∀(fr:Nat->AV) (κ:Nat) (p' q':Option (List Nat)),fr 0=.c (.d (.bool neg))->fr 1=nK .u32 p'->fr 2=nK .u32 q'->fr 6=.c (.ptr 0 0)->can 4294967296 (dO q')->mP p q=p'->TT p q=q' ->
  K ⟨fr,aM (λ_=>.hole) 0 (.cells true false 34 [.d (.bool false),.d .nilsl,.d .nilsl])⟩ κ:=by
  intro fr κ p' q' z0 z1 z2 z6 hc e1 e2;apply hK;refine aac λK1 hK1=>aaF λK2 hK2=>?_;simp[z2];refine ag.pure κ 9 (mB _ _ hc) rfl zp zp ?_;simp;apply hK2
  by_cases h1:val 4294967296 (dO q')=1
  ·refine aaB yk (abS (hK1 _ _ ?_));refine AW.f5 z0 z1 z6 @iX @Il ?_;refine aal ?_;refine aF.cell (T:=34) (t:=6) (k:=0) (off:=0) (own:=true) (fz:=false) (U:=34) (cs:=[.d (.bool neg),nC p',.d .nilsl]) rfl ?_ ?_ ?_
   ·simp[z6]
   ·rfl
   ·rw[ady,j5];simp[l7,hpe,e1,mQ,e2,h1,nC]
  ·refine aaD yk (aan (hK1 _ _ (AW.f6 z0 z1 z2 z6 @iX @Il ?_)));refine aal ?_;refine aF.cell (T:=34) (t:=6) (k:=0) (off:=0) (own:=true) (fz:=false) (U:=34) (cs:=[.d (.bool neg),nC p',nC q']) rfl ?_ ?_ ?_
   ·simp[z6]
   ·rfl
   ·rw[ady,j5];simp[l7,hpe,e1,mQ,e2,h1]
 refine aaF λK1 hK1=>?_;simp;refine ag.pure 1 9 (mB _ _ hq) rfl zp zp ?_;simp;apply hK1
 by_cases h1:val 4294967296 (dO q)=1
 ·refine aaD yk (aan ?_);simp;exact rest _ _ p q zp zp zp zp hq (by simp[mP,h1]) (by simp[TT,h1])
 refine aaB yk (aaF λK1 hK1=>?_);simp;refine ag.pure 1 9 (uA _ _ _ hp hq hl hl') zp zp zp ?_;simp;apply hK1;refine aaF λK1 hK1=>?_;simp;refine ag.pure 1 9 (mB _ (kY p q (val 4294967296 (dO q))) hgc) rfl zp zp ?_;simp;apply hK1
 by_cases h2:val 4294967296 (dO (gO p q))=1
 ·have h2':val 4294967296 (dO (kY p q (val 4294967296 (dO q))))=1:=h2;refine aaD yk (aan ?_);simp;exact rest _ _ p q zp zp zp zp hq (by simp[mP,h2]) (by simp[TT,h2])
 have h2':¬val 4294967296 (dO (kY p q (val 4294967296 (dO q))))=1:=h2;refine aaB yk (aaF λK1 hK1=>?_);simp;refine ag.pure 1 9 (ke _ _ (kY p q (val 4294967296 (dO q))) hp hgc hg0 hl) (oW _ _) zp zp ?_;simp;apply hK1;refine aai ?_;simp;refine ag.pure 1 9 (ke _ _ (kY p q (val 4294967296 (dO q))) hq hgc hg0 hl') (oW _ _) zp zp ?_;simp;exact rest _ _ (qG p (gO p q)) (qG q (gO p q)) zp wr wr zp (by rw[Hw];exact bO zr _) (by simp[mP,h1,h2]) (by simp[TT,h1,h2])
end Go.Am
namespace Go.Am
open Go.Am.Ty Go.Proofs N
variable {n a L b m:Nat}{x:Rat}{q p:Option (List Nat)}{k:Int}{neg neg':Bool}
theorem Tf(q:Option (List Nat)):aU prog .eql 32 (.c (nC q)) (.c (.d .nilsl))=some (.c (.d (.bool q.isNone)),[],[],True):=by
 cases q with
 |none=>kernel_rfl
 |some l=>exact(show ∀es,aU prog .eql 32 (.c (.d (.sl es))) (.c (.d .nilsl))=some (.c (.d (.bool false)),[],[],True) from λes=>by kernel_rfl) _
theorem WS(lv:Key->LB)(o:Option (List Nat)):eT prog 32 lv (.c (nC o))=some (.c (.d (.int .i64 (dO o).length)),[],[],True):=by
 rw[<-iX];simp
@[simp]theorem W3(neg:Bool)(p q:Option (List Nat)):(AV.agg [.d (.bool neg),nC p,nC q]).pure=true:=by cases p<;>cases q<;>rfl
def ou(neg:Bool)(p:Option (List Nat)):Int:=if dO p=[]then 0 else if neg then -1 else 1
def gZ:Option (List Nat)->Option (List Nat)
 |none=>some (aL 4294967296 1)
 |some l=>some l
theorem dr(G:List (List DV))(neg:Bool)(p q:Option (List Nat)):aa prog G 82 [p7 neg p q] (.c (.d (.int .i64 (ou neg p)))):=by
 refine aa.en func82 rfl λ_=>aah ?_;refine aac λK hK=>aaw (aaN @WS ?_)
 by_cases hp:dO p=[]
 ·refine aaB yk (aah ?_);exact aaq (aD.rt rfl 2 (by simp[ou,hp]))
 ·refine aaD yk (aah ?_)
  cases neg with
  |true=>
   refine aaE (aah ?_);exact aaq (aD.rt rfl 2 (by simp[ou,hp]))
  |false=>
   refine aax (aan (hK _ _ (aah ?_)));exact aaq (aD.rt rfl 2 (by simp[ou,hp]))
theorem cx(G:List (List DV))(neg:Bool)(p q:Option (List Nat)):aa prog G 137 [p7 neg p q] (.c (nC (gZ q))):=by
 have hof:=fK G 1 zr;simp only[iX]at hof;refine aa.en func137 rfl λ_=>aah ?_;refine aac λK hK=>aaF λK1 hK1=>?_;simp[Tf];apply hK1
 cases q with
 |none=>
  refine aaE (aaF λK1 hK1=>?_);simp;refine ag.pure 1 9 hof zp zp zp ?_;simp;apply hK1;exact aaq (aD.rt rfl 2 (by simp[gZ]))
 |some l=>
  refine aax (aan (hK _ _ (aah ?_)));exact aaq (aD.rt rfl 2 (by simp[gZ]))
theorem Dz(G:List (List DV))(neg:Bool)(p q:Option (List Nat)):aa prog G 215 [p7 neg p q] (.c (.d (.bool q.isNone))):=by
 refine aa.en func215 rfl λ_=>aah ?_;refine aaF λK hK=>?_;simp[Tf];apply hK;exact aaq (aD.rt rfl 2 zp)
theorem zw(G:List (List DV))(neg:Bool)(p q:Option (List Nat)):aa prog G 142 [p7 neg p q] (p7 false p q):=by
 refine aa.enc func142 rfl (λlv=>bZ lv _ _ _) λ_=>aah ?_;refine aaN @Il ?_;refine aal ?_;refine aF.cell (κ:=0) (T:=34) (t:=2) (k:=1) (off:=0) (own:=true) (fz:=false) (U:=34) (cs:=[.d (.bool false),nC p,nC q]) rfl ?_ ?_ ?_
 ·simp
 ·simp[ai]
 ·rw[ady,j5]
def VL(neg:Bool)(p q:Option (List Nat))(neg':Bool)(p' q':Option (List Nat)):Int:=
 if ou neg p=ou neg' p' then ou neg p*eO (val 4294967296 (dO p)*val 4294967296 (dO (gZ q'))) (val 4294967296 (dO p')*val 4294967296 (dO (gZ q)))
 else if ou neg p<ou neg' p' then -1 else 1
theorem F2(a b:Nat):-1<=eO a b/\eO a b<=1:=ir
theorem VO(neg:Bool)(p:Option (List Nat))(a b:Nat):i64.wrap (ou neg p*eO a b)=ou neg p*eO a b:=by
 have h1:=F2 a b;have h2:ou neg p=0\/ou neg p=1\/ou neg p = -1:=by unfold ou;split<;>(try split)<;>simp
 rcases h2 with h|h|h<;>rw[h]<;>exact bP zd zd
theorem vi(h:(dO q).length<=n)(hn:1<=n):(dO (gZ q)).length<=n:=by
 cases q with
 |none=>exact HQ (cE (m:=1) zr zr) hn
 |some l=>exact h
theorem HU(G:List (List DV))(neg neg':Bool)(p q p' q':Option (List Nat))(h1:(dO p).length<=100000000000)(h2:(dO q).length<=100000000000)(h3:(dO p').length<=100000000000)(h4:(dO q').length<=100000000000):
 aa prog G 154 [p7 neg p q,p7 neg' p' q'] (.c (.d (.int .i64 (VL neg p q neg' p' q')))):=by
 have b1:=vi h2 zr;have b2:=vi h4 zr;have m1:=eI G p (gZ q') zd zd;have m2:=eI G p' (gZ q) zd zd;have m3:=gk (G:=G) (a:=some (aL 4294967296 (val 4294967296 (dO p)*val 4294967296 (dO (gZ q'))))) (b:=some (aL 4294967296 (val 4294967296 (dO p')*val 4294967296 (dO (gZ q))))) (bO zr _) (bO zr _);simp only[aS,bE (zr:2<=4294967296)]at m3;simp only[iX]at m1 m2 m3;refine aa.en func154 rfl λ_=>aah ?_;refine aac λK hK=>?_;refine aaT mixed zt rfl ?_;simp;refine ag.pure 2 9 (dr _ neg p q) zp zp rfl ?_;simp;refine ag.pure 2 9 (dr _ neg' p' q') zp zp rfl ?_;simp;refine⟨zt,?_⟩;apply hK;refine aac λK hK=>aah ?_
 by_cases hs:ou neg p=ou neg' p'
 ·refine aaD yk (aan (hK _ _ (aac λK hK=>?_)));refine aaT mixed zt rfl ?_;simp[hs];refine ag.pure 2 9 (cx _ neg' p' q') zp zp rfl ?_;simp;refine ag.pure 2 9 m1 zp zp rfl ?_;simp;refine ag.pure 2 9 (cx _ neg p q) zp zp rfl ?_;simp;refine ag.pure 2 9 m2 zp zp rfl ?_;simp;refine ag.pure 2 9 m3 zp zp rfl ?_;simp[VO];refine⟨zt,?_⟩;apply hK;exact aaq (aD.rt rfl 4 (by simp[VL,hs]))
 ·refine aaB yk (aac λK1 hK1=>aah ?_)
  by_cases hlt:ou neg p<ou neg' p'
  ·refine aaB yk (aah ?_);exact aaq (aD.rt rfl 4 (by simp[VL,hs,hlt]))
  ·refine aaD yk (aan (hK1 _ _ (aah ?_)));exact aaq (aD.rt rfl 4 (by simp[VL,hs,hlt]))
def aW(n:Nat):Option (List Nat):=if n=0 then none else some (aL 4294967296 n)
def bB(n:Nat):Option (List Nat):=if n=1 then none else some (aL 4294967296 n)
abbrev bu(x:Rat):AV:=p7 (decide (x.num<0)) (aW x.num.natAbs) (bB x.den)
def ei(neg:Bool)(a:Nat):Int:=if neg then -(a:Int)else a
theorem jG(n:Nat):dO (aW n)=(aL 4294967296 n):=by
 unfold aW;split
 ·simp_all
 ·rfl
theorem tH(n:Nat):gZ (bB n)=some (aL 4294967296 n):=by
 unfold bB;split
 ·rename_i h;subst h;rfl
 ·rfl
theorem b7(n:Nat):val 4294967296 (aL 4294967296 n)=n:=bE zr n
theorem eR(n:Nat):can 4294967296 (aL 4294967296 n):=bO zr n
theorem kW(n:Nat):(val 4294967296 (dO (aW n)))=n:=by rw[jG,b7]
theorem wo(n:Nat):(val 4294967296 (dO (gZ (bB n))))=n:=by rw[tH,aS,b7]
theorem lC(n:Nat):can 4294967296 (dO (aW n)):=by rw[jG];exact eR n
theorem Ge(n:Nat):can 4294967296 (dO (gZ (bB n))):=by rw[tH];exact eR n
theorem iF(h:n≠0):(aL 4294967296 n)≠[]:=λe=>h ((cL zr).1 e)
theorem Br{o:Option (List Nat)}(hc:can 4294967296 (dO o))(h:dO o≠[]):o=some (aL 4294967296 (val 4294967296 (dO o))):=by
 cases o with
 |none=>simp_all
 |some l=>exact congrArg some (iT zr hc rfl)
theorem jY(neg:Bool)(hb:b≠0):(mkRat (ei neg a) b).num=ei neg (a/Nat.gcd a b)/\(mkRat (ei neg a) b).den=b/Nat.gcd a b:=by
 have h1:(ei neg a).natAbs=a:=by unfold ei;split<;>omega
 rw[Rat.num_mkRat,Rat.den_mkRat,if_neg hb,if_neg hb,h1,afL b a];refine⟨?_,rfl⟩
 cases neg with
 |false=>rfl
 |true=>
  show -(a:Int)/((Nat.gcd a b:Nat):Int) = -((a/Nat.gcd a b:Nat):Int)
  rw[Int.neg_ediv_of_dvd (Int.ofNat_dvd.2 (agk a b))];rfl
theorem rX(neg:Bool)(a:Nat):(ei neg a).natAbs=a:=by unfold ei;omega
theorem KL(neg:Bool)(h:a≠0):decide (ei neg a<0)=neg:=by
 cases neg<;>simp[ei]<;>omega
theorem YH(hp:can 4294967296 (dO p))(hq:can 4294967296 (dO q))(h0:dO p≠[]):mP p q=aW ((val 4294967296 (dO p))/Nat.gcd (val 4294967296 (dO p)) (val 4294967296 (dO q))):=by
 have ha:0<(val 4294967296 (dO p)):=jC hp h0;have ep:=Br hp h0;have hgv:(val 4294967296 (dO (gO p q)))=Nat.gcd (val 4294967296 (dO p)) (val 4294967296 (dO q)):=by unfold gO;rw[AO hp hq,b7]
 have hgp:0<Nat.gcd (val 4294967296 (dO p)) (val 4294967296 (dO q)):=af0 _ ha;have hle:Nat.gcd (val 4294967296 (dO p)) (val 4294967296 (dO q))<=(val 4294967296 (dO p)):=Nat.le_of_dvd ha (agk _ _);have hag:(val 4294967296 (dO p))/Nat.gcd (val 4294967296 (dO p)) (val 4294967296 (dO q))≠0:=aeg (Nat.div_pos hle hgp);unfold aW;rw[if_neg hag];unfold mP;split
 ·rename_i h;rw[h,af1,afb];exact ep
 ·split
  ·grind
  ·unfold qG;grind
theorem YG(hp:can 4294967296 (dO p))(hq:can 4294967296 (dO q))(h0:dO q≠[]):mQ p q=bB ((val 4294967296 (dO q))/Nat.gcd (val 4294967296 (dO p)) (val 4294967296 (dO q))):=by
 have hb:0<(val 4294967296 (dO q)):=jC hq h0;have eq:=Br hq h0;have hgv:(val 4294967296 (dO (gO p q)))=Nat.gcd (val 4294967296 (dO p)) (val 4294967296 (dO q)):=by unfold gO;rw[AO hp hq,b7]
 have hle:Nat.gcd (val 4294967296 (dO p)) (val 4294967296 (dO q))<=(val 4294967296 (dO q)):=Nat.le_of_dvd hb (Nat.gcd_dvd_right _ _)
 have e:TT p q=some (aL 4294967296 ((val 4294967296 (dO q))/Nat.gcd (val 4294967296 (dO p)) (val 4294967296 (dO q)))):=by
  unfold TT;split
  ·rename_i h;rw[h,af1,afb,<-h];exact eq
  ·split
   ·grind
   ·unfold qG;grind
 unfold mQ bB;rw[e,aS,b7]
theorem BX(neg:Bool)(hp:can 4294967296 (dO p))(hq:can 4294967296 (dO q))(hq0:dO q≠[]):l7 neg p q=bu (mkRat (ei neg (val 4294967296 (dO p))) (val 4294967296 (dO q))):=by
 have hb:(val 4294967296 (dO q))≠0:=aeg (jC hq hq0);unfold l7
 by_cases h0:dO p=[]
 ·have e:ei neg (val 4294967296 (dO p))=0:=by rw[h0,uz];cases neg<;>rfl
  rw[if_pos h0,e,Rat.zero_mkRat];rfl
 ·have ha:0<(val 4294967296 (dO p)):=jC hp h0;have hgp:0<Nat.gcd (val 4294967296 (dO p)) (val 4294967296 (dO q)):=af0 _ ha;have hle:Nat.gcd (val 4294967296 (dO p)) (val 4294967296 (dO q))<=(val 4294967296 (dO p)):=Nat.le_of_dvd ha (agk _ _);have hag:(val 4294967296 (dO p))/Nat.gcd (val 4294967296 (dO p)) (val 4294967296 (dO q))≠0:=aeg (Nat.div_pos hle hgp);obtain⟨n1,n2⟩:=jY neg (a:=(val 4294967296 (dO p))) hb;rw[if_neg h0,YH hp hq h0,YG hp hq hq0];show p7 neg _ _=p7 (decide (_<0)) (aW _) (bB _);rw[n1,n2,rX,KL neg hag]
theorem pU(x:Rat):ei (decide (x.num<0)) x.num.natAbs=x.num:=by
 unfold ei
 grind
def nl(n:Nat):Nat:=(aL 4294967296 n).length
theorem GQ(h:n<4294967296^m):nl n<=m:=cE zr h
theorem zO(n:Nat):n<4294967296^nl n:=oe zr
theorem dZ(h:m<=n):nl m<=nl n:=eE zr h
theorem cK(a b:Nat):nl (a*b)<=nl a+nl b:=by
 refine GQ ?_;rw[aee];exact Nat.mul_lt_mul'' (zO a) (zO b)
theorem lY(a b:Nat):nl (a+b)<=max (nl a) (nl b)+1:=by
 refine GQ ?_;have h1:a<4294967296^max (nl a) (nl b):=adA (zO a) (adK zr zd);have h2:b<4294967296^max (nl a) (nl b):=adA (zO b) (adK zr zd);omega
theorem Tk(m:Nat):(2:Nat)^(32*m)=4294967296^m:=by rw[aeT]
theorem oo(k:Nat):nl (2^k)<=k/32+1:=by
 refine GQ ?_;rw[<-Tk];exact Nat.pow_lt_pow_right zr zd
theorem cR:nl 1=1:=xr
theorem NW(h:n≠0):1<=nl n:=by rw[<-cR];exact dZ zd
theorem Jh(h:a<10^L):nl a<=(L+8)/9:=by
 refine GQ (adA h ?_);have h1:(10:Nat)^L<=10^(9*((L+8)/9)):=adK zr zd;rw[aeT]at h1;exact HQ h1 (afq zr _)
theorem r6(h:n≠0):bk n<=32*nl n:=by
 have h1:=zO n;rw[<-Tk]at h1;have h2:=iY h;have h3:bk n-1<32*nl n:=(agd zr).1 (aeR h2 h1);omega
def bF(x:Rat)(L:Nat):Prop:=nl x.num.natAbs<=L/\nl x.den<=L
theorem au{M:Nat}(h:bF x L)(hm:L<=M):bF x M:=⟨HQ h.1 hm,HQ h.2 hm⟩
theorem jF(neg:Bool)(hb:b≠0)(h1:nl a<=L)(h2:nl b<=L):bF (mkRat (ei neg a) b) L:=by
 obtain⟨n1,n2⟩:=jY neg (a:=a) hb;unfold bF;rw[n1,n2,rX];exact⟨HQ (dZ (aeB _ _)) h1,HQ (dZ (aeB _ _)) h2⟩
theorem fk(h:bF x L):bF (-x) L:=by
 unfold bF at*;simp_all
theorem pO(n:Int)(L:Nat)(h:nl n.natAbs<=L)(h1:1<=L):bF (n:Rat) L:=⟨by rw[afM];exact h,by rw[agl,cR];exact h1⟩
def aH(x:Rat)(k:Int):Rat:=if k<0 then mkRat x.num (x.den*2^(-k).toNat)else mkRat (x.num*2^k.toNat) x.den
theorem tF(x:Rat)(k:Nat):x.den*2^k≠0:=aeg (adJ x.den_pos (adR zr))
theorem jE(h:k<0):aH x k=mkRat (ei (decide (x.num<0)) x.num.natAbs) (x.den*2^(-k).toNat):=by rw[pU];unfold aH;grind
theorem vB(neg:Bool)(a b:Nat):ei neg a*(b:Int)=ei neg (a*b):=by
 unfold ei;grind
theorem jK(h:¬k<0):aH x k=mkRat (ei (decide (x.num<0)) (x.num.natAbs*2^k.toNat)) x.den:=by
 unfold aH;rw[if_neg h,<-vB,pU];congr 2
theorem cZ(h:bF x L)(k:Int):bF (aH x k) (L+k.natAbs/32+1):=by
 by_cases hk:k<0
 ·rw[jE hk];refine jF _ (tF _ _) (by have:=h.1;omega) ?_;have h1:=cK x.den (2^(-k).toNat);have h2:=oo (-k).toNat;have h3:(-k).toNat=k.natAbs:=by omega
  have:=h.2;omega
 ·rw[jK hk];refine jF _ x.den_nz ?_ (by have:=h.2;omega);have h1:=cK x.num.natAbs (2^k.toNat);have h2:=oo k.toNat;have h3:k.toNat=k.natAbs:=by omega
  have:=h.1;omega
theorem CT(x y:Rat):x+y=mkRat (ei (decide (x.num<0)) (x.num.natAbs*y.den)+ei (decide (y.num<0)) (y.num.natAbs*x.den)) (x.den*y.den):=by
 rw[Rat.add_def',<-vB,<-vB,pU,pU]
theorem ze(neg:Bool)(a b:Nat):ei neg a+ei neg b=ei neg (a+b):=by unfold ei;grind
theorem DP(h:neg≠neg')(hab:a<b):ei neg a+ei neg' b=ei neg' (b-a):=by
 unfold ei;grind
theorem DL(h:neg≠neg')(hab:¬a<b):ei neg a+ei neg' b=ei neg (a-b):=by
 unfold ei;grind
theorem JB{y:Rat}(hx:bF x L)(hy:bF y L):bF (x+y) (2*L+1):=by
 have hd:x.den*y.den≠0:=aeg (adJ x.den_pos y.den_pos);have e1:=cK x.num.natAbs y.den;have e2:=cK y.num.natAbs x.den;have e3:=cK x.den y.den;obtain⟨a1,a2⟩:=hx;obtain⟨b1,b2⟩:=hy;rw[CT]
 by_cases h:decide (x.num<0)=decide (y.num<0)
 ·rw[h,ze];refine jF _ hd ?_ zd;have:=lY (x.num.natAbs*y.den) (y.num.natAbs*x.den);omega
 ·by_cases hab:x.num.natAbs*y.den<y.num.natAbs*x.den
  ·rw[DP h hab];refine jF _ hd ?_ zd;have:=dZ (afr (y.num.natAbs*x.den) (x.num.natAbs*y.den));omega
  ·rw[DL h hab];refine jF _ hd ?_ zd;have:=dZ (afr (x.num.natAbs*y.den) (y.num.natAbs*x.den));omega
def bS(x y:Rat):Int:=if x<y then -1 else if y<x then 1 else 0
end Go.Am
namespace Go.Am
open Go.Am.Ty Go.Proofs
variable {P:Program}{T:TypeId}{lv:Key->LB}{o:Option (List (List DV))}
def dc:Option (List (List DV))->CV
 |none=>.d .nilsl
 |some es=>.d (.sl es)
abbrev Ry(o:Option (List (List DV))):AV:=.c (dc o)
def sO(o:Option (List (List DV))):List (List DV):=o.getD []
@[simp]theorem Xx(o:Option (List (List DV))):(AV.c (dc o)).pure=true:=by cases o<;>rfl
theorem fP(h:(fU P T).isSome=true):eT P T lv (Ry o)=some (.c (.d (.int .i64 (sO o).length)),[],[],True):=by
 obtain⟨⟨e,z⟩,h⟩:=Option.isSome_iff_exists.1 h
 cases o<;>simp[eT,Ry,dc,sO,jU,h,keyOf]
theorem D9{k':IntKind}{i sz:Nat}(h:(fU P T).map (·.2)=some sz)(hi:i<(sO o).length)(hs:(sO o)[i].length=sz):
 aq P T lv (Ry o) (.c (.d (.int k' (i:Int))))=some (.c (.d (.ptr (sO o)[i])),[],[],True):=by
 obtain⟨⟨e,z⟩,h0,rfl⟩:=Option.map_eq_some_iff.1 h
 cases o with
 |none=>cases hi
 |some es=>
  have hi':i<es.length:=hi;have hs':(es[i]'hi').length=z:=hs;have e1:es.getD i []=es[i]'hi':=by rw[ab6,fy hi'];rfl
  have e2:((0:Int)<=(i:Int)/\(i:Int)<(es.length:Int)/\(es.getD i []).length=z)=True:=by
   rw[e1,eq_iff_iff];exact⟨λ_=>trivial,λ_=>⟨zd,zd,hs'⟩⟩
  show aq P T lv (.c (.d (.sl es))) (.c (.d (.int k' (i:Int))))=some (.c (.d (.ptr (es[i]'hi'))),[],[],True)
  simp_all
def Xo(e:List DV):Prop:=∃a b,e=[.int .i64 a,.int .i64 b]
def ZL(e:List DV):Prop:=∃a s t,e=[.int .i64 a,.str s,.str t]
def is7(e:List DV):Prop:=∃a1 a2 a3 a4 a5 a6 s,e=[.int .i64 a1,.int .i64 a2,.int .i64 a3,.int .i64 a4,.int .i64 a5,.int .i64 a6,.str s]
end Go.Am
namespace Go.Am
open Go.Am.Ty Go.Proofs N
variable {x:Rat}{c:Ctx}{fn:Func}{y z:AV}{t u v:Nat}{s:aJ}
theorem UH(a b:Bool):aU prog .eql 4 (.c (.d (.bool a))) (.c (.d (.bool b)))=some (.c (.d (.bool (a==b))),[],[],True):=by
 rfl
theorem vT(G:List (List DV))(neg:Bool)(p q:Option (List Nat))(hp:can 4294967296 (dO p))(hq:can 4294967296 (dO q))(hq0:dO q≠[])(hl:(dO p).length<1000000000000)(hl':(dO q).length<1000000000000):
 aa prog G 101 [.c (.d (.bool neg)),.c (nC p),.c (nC q)] (bu (mkRat (ei neg (val 4294967296 (dO p))) (val 4294967296 (dO q)))):=by
 have:=tr G neg p q hp hq hq0 hl hl';rw[BX neg hp hq hq0]at this;simp only[iX]at this;omega
theorem mJ(G:List (List DV))(neg:Bool)(a b:Nat)(hb:b≠0)(hl:nl a<1000000000000)(hl':nl b<1000000000000):
 aa prog G 101 [.c (.d (.bool neg)),.c (nC (some (aL 4294967296 a))),.c (nC (some (aL 4294967296 b)))] (bu (mkRat (ei neg a) b)):=by
 have:=vT G neg (some (aL 4294967296 a)) (some (aL 4294967296 b)) (eR a) (eR b) (iF hb) hl hl';simp only[aS,b7]at this;omega
theorem IU(G:List (List DV))(neg:Bool)(p q:Option (List Nat)):aa prog G 71 [p7 neg p q] (p7 (!neg&&decide (dO p≠[])) p q):=by
 cases neg with
 |true=>
  show aa prog G 71 [p7 true p q] (p7 false p q);refine aa.enc func71 rfl (λlv=>bZ lv _ _ _) λ_=>aah ?_;refine aaN @Il ?_;refine aal ?_;rfl
 |false=>
  by_cases hp:dO p=[]
  ·rw[show(!false&&decide (dO p≠[]))=false by simp[hp]];refine aa.enc func71 rfl (λlv=>bZ lv _ _ _) λ_=>aah ?_;refine abN @Il @WS hp ?_;refine aal ?_;rfl
  ·rw[show(!false&&decide (dO p≠[]))=true by simp[hp]];refine aa.enc func71 rfl (λlv=>bZ lv _ _ _) λ_=>aah ?_;refine aac λK hK=>?_;have hp':=List.length_pos_iff.2 hp;refine AW.l4 @Il @WS hp hp' (hK _ _ ?_);refine aal ?_;rfl
theorem zo(G:List (List DV))(x:Rat):aa prog G 71 [bu x] (bu (-x)):=by
 have h:=IU G (decide (x.num<0)) (aW x.num.natAbs) (bB x.den)
 have e:(!decide (x.num<0)&&decide (dO (aW x.num.natAbs)≠[]))=decide ((-x).num<0):=by
  rw[afc,jG]
  by_cases h0:x.num=0
  ·simp_all
  ·have h1:(aL 4294967296 x.num.natAbs)≠[]:=iF zd
   grind
 rw[e]at h;show aa _ _ _ _ (p7 (decide ((-x).num<0)) (aW (-x).num.natAbs) (bB (-x).den));rw[show(-x).num.natAbs=x.num.natAbs by simp,afN];exact h
theorem k7(neg:Bool)(a:Nat):mkRat (ei neg a) 1=((ei neg a:Int):Rat):=by
 rw[Rat.mkRat_one]
theorem mD(G:List (List DV))(n:Int)(h1:-9223372036854775808<=n)(h2:n<=9223372036854775807):aa prog G 49 [.c (.d (.int .i64 n))] (bu (n:Rat)):=by
 have hof1:=fK G 1 zr;have hofn:=fK G n.natAbs zd
 have hl:nl n.natAbs<1000000000000:=by
  have e2:(4294967296:Nat)^2=18446744073709551616:=zr
  have:=GQ (n:=n.natAbs) (m:=2) zd;omega
 have hm:=λneg=>mJ G neg n.natAbs 1 zr hl sc
 simp only[iX]at hof1 hofn;simp only[k7]at hm
 by_cases hn:n<0
 ·have e:ei true n.natAbs=n:=by unfold ei;rw[if_pos rfl];omega
  have hm1:=hm true;rw[e]at hm1;have ew:u64.wrap (-u64.wrap n)=(n.natAbs:Int):=by rw[Cj,Cj];omega
  refine aa.enc func49 rfl (λlv=>bZ lv _ _ _) λ_=>aah ?_;refine aac λK hK=>aaN hn ?_;refine aaB xr (aaF λK1 hK1=>?_);simp[ew];refine ag.p 1 9 hofn ?_;simp;refine ag.p 1 9 hof1 ?_;simp;refine ag.p 1 9 hm1 ?_;simp;apply hK1;refine aal ?_;rfl
 ·have e:ei false n.natAbs=n:=by unfold ei;rw[if_neg zr];omega
  have hm1:=hm false;rw[e]at hm1;have ew:u64.wrap n=(n.natAbs:Int):=by rw[Cj];omega
  refine aa.enc func49 rfl (λlv=>bZ lv _ _ _) λ_=>aah ?_;refine aac λK hK=>aaN hn ?_;refine aaD xr (aan (hK _ _ (aaF λK hK=>?_)));simp[ew];refine ag.p 1 9 hofn ?_;simp;refine ag.p 1 9 hof1 ?_;simp;refine ag.p 1 9 hm1 ?_;simp;apply hK;refine aal ?_;rfl
def Dc(neg:Bool)(a:Nat)(neg':Bool)(b q:Nat):Rat:=
 if neg=neg' then mkRat (ei neg (a+b)) q else if a<b then mkRat (ei neg' (b-a)) q else mkRat (ei neg (a-b)) q
theorem qM{a b:Nat}:(eO a b<0)↔a<b:=ir
theorem IF(G:List (List DV))(neg neg':Bool)(p q p' q':Option (List Nat))(h1:(dO p).length<=10000000000)(h2:(dO q).length<=10000000000)(h3:(dO p').length<=10000000000)(h4:(dO q').length<=10000000000)
 (c1:can 4294967296 (dO p)) (c2:can 4294967296 (dO (gZ q))) (c3:can 4294967296 (dO p')) (c4:can 4294967296 (dO (gZ q'))) (z2:(val 4294967296 (dO (gZ q)))≠0) (z4:(val 4294967296 (dO (gZ q')))≠0) :
 aa prog G 66 [p7 neg p q,p7 neg' p' q'] (bu (Dc neg ((val 4294967296 (dO p))*(val 4294967296 (dO (gZ q')))) neg' ((val 4294967296 (dO p'))*(val 4294967296 (dO (gZ q)))) ((val 4294967296 (dO (gZ q)))*(val 4294967296 (dO (gZ q')))))):=by
 have b1:=vi h2 zr;have b2:=vi h4 zr;have m1:=eI G p (gZ q') zd zd;have m2:=eI G p' (gZ q) zd zd;have m3:=eI G (gZ q) (gZ q') zd zd;have hQ:(val 4294967296 (dO (gZ q)))*(val 4294967296 (dO (gZ q')))≠0:=aeg (adJ (aeJ z2) (aeJ z4));have lv:∀{o:Option (List Nat)},can 4294967296 (dO o)->nl (val 4294967296 (dO o))=(dO o).length:=λ{o} hc=>by unfold nl;rw[<-iT zr hc rfl]
 have l1:nl ((val 4294967296 (dO p))*(val 4294967296 (dO (gZ q'))))<=20000000000:=by
  have:=cK (val 4294967296 (dO p)) (val 4294967296 (dO (gZ q')));rw[lv c1,lv c4]at this;omega
 have l2:nl ((val 4294967296 (dO p'))*(val 4294967296 (dO (gZ q))))<=20000000000:=by
  have:=cK (val 4294967296 (dO p')) (val 4294967296 (dO (gZ q)));rw[lv c3,lv c2]at this;omega
 have l3:nl ((val 4294967296 (dO (gZ q)))*(val 4294967296 (dO (gZ q'))))<=20000000000:=by
  have:=cK (val 4294967296 (dO (gZ q))) (val 4294967296 (dO (gZ q')));rw[lv c2,lv c4]at this;omega
 generalize (val 4294967296 (dO p))*(val 4294967296 (dO (gZ q')))=a at*
 generalize (val 4294967296 (dO p'))*(val 4294967296 (dO (gZ q)))=b at*
 generalize (val 4294967296 (dO (gZ q)))*(val 4294967296 (dO (gZ q')))=Q at*
 have la:(dO (some (aL 4294967296 a))).length<=20000000000:=l1;have lb:(dO (some (aL 4294967296 b))).length<=20000000000:=l2;have k1:=kE G (some (aL 4294967296 a)) (some (aL 4294967296 b)) zd zd;have k2:=gk (G:=G) (a:=some (aL 4294967296 a)) (b:=some (aL 4294967296 b)) (eR _) (eR _);have k3:=λh=>uR G (some (aL 4294967296 a)) (some (aL 4294967296 b)) zd h
 have k4:=λh=>uR G (some (aL 4294967296 b)) (some (aL 4294967296 a)) zd h
 simp only[aS,b7]at k1 k2 k3 k4;simp only[iX,IV]at m1 m2 m3 k1 k2 k3 k4;have mk1:=λneg n (h:nl n<=20000000001)=>mJ G neg n Q hQ zd zd
 have hsum:nl (a+b)<=20000000001:=by have:=lY a b;omega
 have hs1:nl (a-b)<=20000000001:=by have:=dZ (afr a b);omega
 have hs2:nl (b-a)<=20000000001:=by have:=dZ (afr b a);omega
 refine aa.enc func66 rfl (λlv=>bZ lv _ _ _) λ_=>aah ?_;refine aac λK hK=>?_;refine aaT mixed zt rfl ?_;simp;refine ag.p 3 9 (cx _ neg' p' q') ?_;simp;refine ag.p 3 9 m1 ?_;simp;refine ag.p 3 9 (cx _ neg p q) ?_;simp;refine ag.p 3 9 m2 ?_;simp;refine ag.p 3 9 (cx _ neg p q) ?_;simp;refine ag.p 3 9 (cx _ neg' p' q') ?_;simp;refine ag.p 3 9 m3 ?_;simp;refine⟨zt,?_⟩;apply hK;refine aac λK hK=>aaw (aaN @UH ?_)
 by_cases hn:neg=neg'
 ·subst hn;have e:Dc neg a neg b Q=mkRat (ei neg (a+b)) Q:=by unfold Dc;rw[if_pos rfl]
  rw[e];refine aaE (aac λK1 hK1=>?_);refine aaT mixed zt rfl ?_;simp;refine ag.p 3 9 k1 ?_;simp;refine ag.p 3 9 (mk1 neg _ hsum) ?_;simp;refine⟨zt,?_⟩;apply hK1;refine aal ?_;rfl
 have hn':(neg==neg')=false:=by cases neg<;>cases neg'<;>simp_all
 refine aaD yk (abi 3 k2 ?_)
 by_cases hab:a<b
 ·have e:Dc neg a neg' b Q=mkRat (ei neg' (b-a)) Q:=by unfold Dc;rw[if_neg hn,if_pos hab]
  rw[e];have hc:=qM.2 hab;refine aaB yk (aac λK1 hK1=>?_);refine aaT mixed zt rfl ?_;simp;refine ag.p 3 9 (k4 zd) ?_;simp;refine ag.p 3 9 (mk1 neg' _ hs2) ?_;simp;refine⟨zt,?_⟩;apply hK1;refine aal ?_;rfl
 ·have e:Dc neg a neg' b Q=mkRat (ei neg (a-b)) Q:=by unfold Dc;rw[if_neg hn,if_neg hab]
  have hc:¬eO a b<0:=λh=>hab (qM.1 h)
  refine aaD yk (aan (hK _ _ (aac λK hK=>?_)));refine aaT mixed zt rfl ?_;simp;refine ag.p 3 9 (k3 zd) ?_;simp;refine ag.p 3 9 (mk1 neg _ hs1) ?_;simp;refine⟨zt,?_⟩;apply hK;refine aal ?_;refine aF.cell (κ:=0) (T:=34) (t:=4) (k:=2) (off:=0) (own:=true) (fz:=false) (U:=34) (cs:=[.d (.bool (decide ((mkRat (ei neg (a-b)) Q).num<0))),nC (aW (mkRat (ei neg (a-b)) Q).num.natAbs),nC (bB (mkRat (ei neg (a-b)) Q).den)]) rfl ?_ ?_ ?_
  ·simp
  ·rfl
  simp_all
theorem gp(n:Nat):(dO (aW n)).length=nl n:=by rw[jG];rfl
theorem uQ(n:Nat):(dO (bB n)).length<=nl n:=by
 unfold bB;split
 ·simp
 ·exact bf _
theorem gL(G:List (List DV))(x y:Rat)(hx:bF x 10000000000)(hy:bF y 10000000000):aa prog G 66 [bu x,bu y] (bu (x+y)):=by
 have h:=IF G (decide (x.num<0)) (decide (y.num<0)) (aW x.num.natAbs) (bB x.den) (aW y.num.natAbs) (bB y.den)
  (by rw[gp];exact hx.1) (HQ (uQ _) hx.2) (by rw[gp];exact hy.1) (HQ (uQ _) hy.2) (lC _) (Ge _) (lC _) (Ge _) (by rw[wo];exact x.den_nz) (by rw[wo];exact y.den_nz)
 simp only[kW,wo]at h
 have e:Dc (decide (x.num<0)) (x.num.natAbs*y.den) (decide (y.num<0)) (y.num.natAbs*x.den) (x.den*y.den)=x+y:=by
  rw[CT];unfold Dc;split
  ·rename_i hh;rw[hh,ze]
  ·split
   ·rename_i hh hl;rw[DP hh hl]
   ·rename_i hh hl;rw[DL hh hl]
 grind
theorem r9(G:List (List DV))(x y:Rat)(hx:bF x 10000000000)(hy:bF y 10000000000):aa prog G 109 [bu x,bu y] (bu (x-y)):=by
 have h1:=zo G y;have h2:=gL G x (-y) hx (fk hy);rw[<-afs]at h2;refine aa.enc func109 rfl (λlv=>bZ lv _ _ _) λ_=>aah ?_;refine aac λK hK=>?_;refine aaT mixed zt rfl ?_;simp;refine ag.p 3 9 h1 ?_;simp;refine ag.p 3 9 h2 ?_;simp;refine⟨zt,?_⟩;apply hK;refine aal ?_;rfl
theorem jP(G:List (List DV))(x:Rat)(k:Int)(hx:bF x 10000000000)(h1:-1000000<=k)(h2:k<=1000000):aa prog G 197 [bu x,.c (.d (.int .i64 k))] (bu (aH x k)):=by
 have hbot:=cx G (decide (x.num<0)) (aW x.num.natAbs) (bB x.den);rw[tH]at hbot;have hw:i64.wrap (-k) = -k:=bP zd zd
 by_cases hk:k<0
 ·have e:=jE (x:=x) hk;have ht:((-k).toNat:Int) = -k:=by omega
  have hs:=iz G (some (aL 4294967296 x.den)) (-k).toNat (by have:=hx.2;show nl _<=_;omega) zd;simp only[aS,iF x.den_nz,if_false,b7,iX,ht]at hs
  have hm:=vT G (decide (x.num<0)) (aW x.num.natAbs) (some (aL 4294967296 (x.den*2^(-k).toNat))) (lC _) (eR _) (iF (tF _ _)) ut (by
   have h3:=cK x.den (2^(-k).toNat);have h4:=oo (-k).toNat;have:=hx.2;show nl _<_;omega)
  rw[kW,aS,b7,<-e]at hm;generalize aH x k=r at*
  refine aa.enc func197 rfl (λlv=>bZ lv _ _ _) λ_=>aah ?_;refine aac λK hK=>aaN hk ?_;refine aaB xr (aac λK1 hK1=>?_);refine aaT mixed zt rfl ?_;simp;refine ag.p 2 9 hbot ?_;simp[hw];refine ag.p 2 9 hs ?_;simp;refine ag.p 2 9 hm ?_;simp;refine⟨zt,?_⟩;apply hK1;refine aal ?_;rfl
 ·have e:=jK (x:=x) hk;have ht:(k.toNat:Int)=k:=by omega
  have hs:=iz G (aW x.num.natAbs) k.toNat ut zd
  have hs':aa prog G 228 [.c (nC (aW x.num.natAbs)),.c (.d (.int .i64 k))] (.c (nC (aW (x.num.natAbs*2^k.toNat)))):=by
   simp only[kW]at hs;simp only[jG,ht,iX]at hs
   by_cases h0:x.num.natAbs=0
   ·have:(aL 4294967296 x.num.natAbs)=[]:=by rw[h0];rfl
    rw[if_pos this]at hs;rw[h0,Nat.zero_mul];rw[h0]at hs;exact hs
   ·rw[if_neg (iF h0)]at hs;unfold aW at hs⊢;rw[if_neg h0]at hs;rw[if_neg h0,if_neg (aeg (adJ (aeJ h0) (adR zr)))];exact hs
  have hm:=vT G (decide (x.num<0)) (aW (x.num.natAbs*2^k.toNat)) (some (aL 4294967296 x.den)) (lC _) (eR _) (iF x.den_nz) (by
   rw[gp];have h3:=cK x.num.natAbs (2^k.toNat);have h4:=oo k.toNat;have:=hx.1;omega) (by have:=hx.2;show nl _<_;omega)
  rw[kW,aS,b7,<-e]at hm;generalize aH x k=r at*
  refine aa.enc func197 rfl (λlv=>bZ lv _ _ _) λ_=>aah ?_;refine aac λK hK=>aaN hk ?_;refine aaD xr (aan (hK _ _ (aac λK hK=>?_)));refine aaT mixed zt rfl ?_;simp;refine ag.p 2 9 hs' ?_;simp;refine ag.p 2 9 hbot ?_;simp;refine ag.p 2 9 hm ?_;simp;refine⟨zt,?_⟩;apply hK;refine aal ?_;rfl
theorem iL(lv:Key->LB)(b:Bool)(p q:Option (List Nat))(n:Int):gq lv (.tup [p7 b p q,.c (.d (.int .i64 n))])=some (.tup [p7 b p q,.c (.d (.int .i64 n))],[]):=by
 cases p<;>cases q<;>rfl
@[simp]theorem RA(b:Bool)(p q:Option (List Nat))(n:Int):(AV.tup [.agg [.d (.bool b),nC p,nC q],.c (.d (.int .i64 n))]).pure=true:=by
 cases p<;>cases q<;>rfl
theorem xj(G:List (List DV))(x:Rat)(k:Int)(hx:bF x 10000000000)(h1:-20000<=k)(h2:k<=20000):aa prog G 141 [bu x,.c (.d (.int .i64 k))] (.tup [bu (aH x k),.c (.d (.int .i64 0))]):=by
 have h:=jP G x k hx zd zd;generalize aH x k=r at*
 have i1:¬k < -20000:=zd
 have i2:¬20000<k:=zd
 refine aa.enc func141 rfl (λlv=>iL lv _ _ _ _) λ_=>aah ?_;refine aac λK hK=>abk i1 i2 ?_;refine aax (aan (hK _ _ (abi 2 h ?_)));refine aal ?_;rfl
theorem Rq(G:List (List DV))(k:Int)(h1:-20000<=k)(h2:k<=20000):aa prog G 282 [.c (.d (.int .i64 k))] (.tup [bu (aH 1 k),.c (.d (.int .i64 0))]):=by
 have hi:=mD G 1 zr zr;have h:=xj G 1 k ⟨wd,wd⟩ h1 h2;change aa _ _ _ _ (bu (1:Rat))at hi;generalize aH 1 k=r at*
 generalize (1:Rat)=o at*
 refine aa.enc func282 rfl (λlv=>iL lv _ _ _ _) λ_=>aah ?_;refine aaF λK hK=>?_;simp;refine ag.p 1 9 hi ?_;simp;refine ag.p 1 9 h ?_;simp;apply hK;refine aal ?_;rfl
def dm(x:Rat):Int:=
 let k:=(bk x.num.natAbs:Int)-bk x.den
 if x.num.natAbs*2^(max (-k) 0).toNat<x.den*2^(max k 0).toNat then k-1 else k
theorem jv(hx:x≠0){L:Nat}(h:bF x L):-(32*(L:Int))<=dm x/\dm x<=32*L:=by
 have h0:x.num.natAbs≠0:=by intro e;exact hx (Rat.num_eq_zero.1 zd)
 have h1:=r6 h0;have h2:=r6 x.den_nz;have h3:1<=bk x.num.natAbs:=by unfold bk;rw[if_neg h0];omega
 have h4:1<=bk x.den:=by unfold bk;rw[if_neg x.den_nz];omega
 have:=h.1;have:=h.2;unfold dm
 grind
theorem D8(G:List (List DV))(x:Rat)(hx:x≠0)(hs:bF x 10000000):aa prog G 234 [bu x] (.c (.d (.int .i64 (dm x)))):=by
 have h0:x.num.natAbs≠0:=by intro e;exact hx (Rat.num_eq_zero.1 zd)
 have hbot:=cx G (decide (x.num<0)) (aW x.num.natAbs) (bB x.den);rw[tH]at hbot;have l1:=hs.1;have l2:=hs.2;have b1:=r6 h0;have b2:=r6 x.den_nz;have p1:=oq G (aW x.num.natAbs) (lC _) (by rw[gp];omega);have p2:=oq G (some (aL 4294967296 x.den)) (eR _) ub;rw[kW]at p1;rw[aS,b7]at p2;have ek:∃k:Int,(bk x.num.natAbs:Int)-bk x.den=k/\-320000000<=k/\k<=320000000:=⟨_,rfl,zd,zd⟩
 obtain⟨k,hk,k1,k2⟩:=ek;have ew:i64.wrap ((bk x.num.natAbs:Int)-bk x.den)=k:=by rw[hk];exact bP zd zd
 have ew2:i64.wrap (-k) = -k:=bP zd zd;have mx1:(List.foldl (λa b:Int=>if a<b then b else a) (-k) [0])=((max (-k) 0).toNat:Int):=vx
 have mx2:(List.foldl (λa b:Int=>if a<b then b else a) k [0])=((max k 0).toNat:Int):=vx
 have hlog:dm x=if x.num.natAbs*2^(max (-k) 0).toNat<x.den*2^(max k 0).toNat then k-1 else k:=by unfold dm;simp only[hk]
 have s1:=iz G (aW x.num.natAbs) (max (-k) 0).toNat (by rw[gp];omega) zd;have s2:=iz G (some (aL 4294967296 x.den)) (max k 0).toNat ub zd;rw[jG,if_neg (iF h0),b7]at s1;rw[aS,if_neg (iF x.den_nz),b7]at s2;have cm:=gk (G:=G) (a:=some (aL 4294967296 (x.num.natAbs*2^(max (-k) 0).toNat))) (b:=some (aL 4294967296 (x.den*2^(max k 0).toNat))) (eR _) (eR _);simp only[aS,b7]at cm;generalize x.num.natAbs*2^(max (-k) 0).toNat=a at*
 generalize x.den*2^(max k 0).toNat=b at*
 generalize (max (-k) 0).toNat=u at*
 generalize (max k 0).toNat=v at*
 simp only[iX]at p1 p2 s1 s2 cm;have ew3:i64.wrap (k-1)=k-1:=bP zd zd;refine aa.en func234 rfl λ_=>aah ?_;refine abi 1 hbot ?_;refine aaF λK hK=>?_;simp;refine ag.p 1 9 p1 ?_;simp;refine ag.p 1 9 p2 ?_;simp[ew];apply hK;refine aac λK hK=>aaF λK1 hK1=>?_;simp[ew2,eN,mx1,-List.foldl_cons,-List.foldl_nil];refine ag.p 1 9 s1 ?_;simp[eN,mx2,-List.foldl_cons,-List.foldl_nil];refine ag.p 1 9 s2 ?_;simp[-List.foldl_cons,-List.foldl_nil];refine ag.p 1 9 cm ?_;simp;apply hK1
 by_cases hab:a<b
 ·have hc:=qM.2 hab;rw[if_pos hab]at hlog;refine aaB yk (aby ew3 (hK _ _ ?_));refine aah ?_;exact aaq (aD.rt rfl 2 bm)
 ·have hc:¬eO a b<0:=λh=>hab (qM.1 h)
  rw[if_neg hab]at hlog;refine aaD yk (aan (hK _ _ (aah ?_)));exact aaq (aD.rt rfl 2 bm)
theorem En(hx:x≠0):ou (decide (x.num<0)) (aW x.num.natAbs)≠0:=by
 have h0:x.num.natAbs≠0:=by intro e;exact hx (Rat.num_eq_zero.1 zd)
 unfold ou;rw[jG,if_neg (iF h0)];omega
theorem vD(hx:x=0):ou (decide (x.num<0)) (aW x.num.natAbs)=0:=by subst hx;rfl
theorem R3(G:List (List DV))(x:Rat)(hx:x≠0)(hs:bF x 10000000):aa prog G 257 [bu x] (.tup [.c (.d (.int .i64 (dm x))),.c (.d (.int .i64 0))]):=by
 have h:=D8 G x hx hs;have hg:=dr G (decide (x.num<0)) (aW x.num.natAbs) (bB x.den);have hne:=En hx;refine aa.en func257 rfl λ_=>aah ?_;refine aac λK hK=>abx 1 hg hne ?_;refine aaD xr (aan (hK _ _ (abi 1 h ?_)));exact aaq (aD.t2 rfl 9 zp zp)
theorem IX{y:Rat}:x<y↔ei (decide (x.num<0)) (x.num.natAbs*y.den)<ei (decide (y.num<0)) (y.num.natAbs*x.den):=by
 rw[Rat.lt_iff,<-vB,<-vB,pU,pU]
theorem Jo(x y:Rat):VL (decide (x.num<0)) (aW x.num.natAbs) (bB x.den) (decide (y.num<0)) (aW y.num.natAbs) (bB y.den)=bS x y:=by
 unfold bS;simp only[IX];unfold VL;simp only[kW,wo];have hx:0<x.den:=x.den_pos;have hy:0<y.den:=y.den_pos
 have sx:ou (decide (x.num<0)) (aW x.num.natAbs)=if x.num.natAbs=0 then 0 else if x.num<0 then -1 else 1:=by
  unfold ou;rw[jG];simp only[cL (zr:2<=4294967296),decide_eq_true_eq]
 have sy:ou (decide (y.num<0)) (aW y.num.natAbs)=if y.num.natAbs=0 then 0 else if y.num<0 then -1 else 1:=by
  unfold ou;rw[jG];simp only[cL (zr:2<=4294967296),decide_eq_true_eq]
 rw[sx,sy];have ha:x.num.natAbs*y.den=0↔x.num.natAbs=0:=by rw[Nat.mul_eq_zero];omega
 have hb:y.num.natAbs*x.den=0↔y.num.natAbs=0:=by rw[Nat.mul_eq_zero];omega
 generalize x.num.natAbs*y.den=a at*
 generalize y.num.natAbs*x.den=b at*
 unfold ei eO
 grind
theorem iZ(G:List (List DV))(x y:Rat)(hx:bF x 10000000000)(hy:bF y 10000000000):aa prog G 154 [bu x,bu y] (.c (.d (.int .i64 (bS x y)))):=by
 have h:=HU G (decide (x.num<0)) (decide (y.num<0)) (aW x.num.natAbs) (bB x.den) (aW y.num.natAbs) (bB y.den)
  ut (HQ (uQ _) (by have:=hx.2;omega)) le (HQ (uQ _) (by have:=hy.2;omega))
 rw[Jo]at h;exact h
def lO(c:UInt8):Bool:=decide (48<=c.toNat/\c.toNat<=57)
def G2:List DV:=(List.range 256).map λc=>.bool (decide (48<=c/\c<=57))
theorem Df:G2.length=256:=by simp[G2]
theorem OS(c:UInt8):G2.drop c.toNat=.bool (lO c)::G2.drop (c.toNat+1):=by
 have h:c.toNat<G2.length:=by rw[Df];exact c.toNat_lt
 rw[adP h];congr 1;simp[G2,lO]
theorem xU(G:List (List DV))(c:UInt8):aa prog G 263 [.c (.d (.ptr G2)),.c (.d (.int .u8 c.toNat))] (.c (.d (.bool (lO c)))):=by
 have hc:=c.toNat_lt;have hl:=Df;have ha:=OS c;refine aa.en func263 rfl λ_=>aah ?_;refine aaF λK hK=>?_;simp[aq,ha,hl]
 repeat refine az ?_
 apply hK;exact aaq (aD.rt rfl 4 zp)
theorem Gx(G:List (List DV))(s:List UInt8):aa prog G 223 [.c (.d (.str s)),.c (.d (.ptr G2))] (.c (.d (.str (s.dropWhile lO)))):=by
 refine aa.en func223 rfl λ_=>aah ?_;refine aac λK hK=>aaw ?_;refine aaY (λ(p:List UInt8)=>⟨aT [(0,.c (.d (.str p))),(1,.c (.d (.ptr G2)))],λ_=>.hole⟩) 0 (λp=>p.dropWhile lO=s.dropWhile lO) (λp=>p.length) s (Le.mk' _ rfl zp zp) rfl ?_;rintro p hp;refine aac λK3 hK3=>aah ?_
 cases p with
 |nil=>
  refine aax (aaR (hK _ _ (aah ?_)));have hp':s.dropWhile lO=[]:=by rw[<-hp];rfl
  exact aaq (aD.rt rfl 4 (by simp[hp']))
 |cons c l=>
  refine aaE (aan (hK3 _ _ (aaw (aac λK5 hK5=>aaF λK6 hK6=>?_))));simp;refine ag.pure 0 9 (xU _ c) zp zp rfl ?_;simp;apply hK6
  cases hd:lO c with
  |false=>
   refine aaB xr (aaR (hK _ _ ?_));simp only[List.dropWhile,hd]at hp;refine aah ?_;exact aaq (aD.rt rfl 4 (by simp[hp]))
  |true=>
   refine aaD xr (aan (hK5 _ _ (aai ?_)));simp;simp only[List.dropWhile,hd]at hp;exact⟨zd,l,Le.mk' _ rfl zp zp,hp,zp⟩
def lT(s:List UInt8):List UInt8:=(s.reverse.dropWhile lO).reverse
theorem DT(G:List (List DV))(s:List UInt8):aa prog G 224 [.c (.d (.str s)),.c (.d (.ptr G2))] (.c (.d (.str (lT s)))):=by
 refine aQ.nc 0 zp (λV v h=>(show s.length<=9223372036854775807 by cases h.1 with|str _ hl=>exact hl)) λhr=>?_;refine aa.en func224 rfl λ_=>aah ?_;refine aac λK hK=>aaw ?_;refine aaY (λ(p:List UInt8)=>⟨aT [(0,.c (.d (.str p))),(1,.c (.d (.ptr G2)))],λ_=>.hole⟩) 0 (λp=>p.reverse.dropWhile lO=s.reverse.dropWhile lO/\p.length<=s.length) (λp=>p.length) s (Le.mk' _ rfl zp zp) ⟨rfl,bf _⟩ ?_;rintro p ⟨hp,hpl⟩;refine aac λK3 hK3=>aah ?_;rcases afF p with rfl|⟨l,c,rfl⟩
 ·refine aax (aaR (hK _ _ (aah ?_)));have hp':lT s=[]:=by unfold lT;rw[<-hp];rfl
  exact aaq (aD.rt rfl 4 (by simp[hp']))
 ·rw[afG]at*
  have hn:0<(l++[c]).length:=zp
  have hlen:(l++[c]).length=l.length+1:=zp
  have e2:i64.wrap (l.length:Int)=(l.length:Int):=bP zd zd;have hr1:(l++[c]).reverse=c::l.reverse:=zp
  rw[hr1]at hp;refine aaE (aan (hK3 _ _ (aaw (aac λK5 hK5=>aaF λK6 hK6=>?_))));simp[e2];refine⟨zd,?_⟩;refine ag.pure 0 9 (xU _ c) zp zp rfl ?_;simp;apply hK6
  cases hd:lO c with
  |false=>
   refine aaB xr (aaR (hK _ _ ?_));simp only[List.dropWhile,hd]at hp;refine aah ?_;have hp':lT s=l++[c]:=by unfold lT;rw[<-hp];simp
   exact aaq (aD.rt rfl 4 (by simp[hp']))
  |true=>
   refine aaD xr (aan (hK5 _ _ (aai ?_)));simp[e2];simp only[List.dropWhile,hd]at hp;exact⟨zd,l,Le.mk' _ rfl zp zp,⟨hp,zd⟩,zp⟩
def ZT:List UInt8:=[48,49,50,51,52,53,54,55,56,57]
def Ht(i:Nat):List CV:=(List.range 256).map λc=>.d (.bool (decide (48<=c/\c<48+i)))
theorem QX(i:Nat)(hi:i<10):ai (Ht i) (48+i) [.d (.bool true)]=Ht (i+1):=by
 have:i=0\/i=1\/i=2\/i=3\/i=4\/i=5\/i=6\/i=7\/i=8\/i=9:=zd
 rcases this with rfl|rfl|rfl|rfl|rfl|rfl|rfl|rfl|rfl|rfl<;>(show _=_;kernel_rfl)
theorem OA(m:Int):aa prog (GG m) 222 [.c (.d (.str [48,49,50,51,52,53,54,55,56,57]))] (.tup [.agg (G2.map .d),.c (.d (.bool true))]):=by
 have hdl:ZT.length=10:=rfl;have hdg:∀i:Nat,i<10->(ZT[i]?.getD 0).toNat=48+i:=zr
 have h0:List.replicate 256 (CV.d (.bool false))=Ht 0:=zt
 have h1:(Ht 10)=G2.map .d:=zt
 show aa _ _ _ [.c (.d (.str ZT))] _;generalize ZT=D at*
 rw[<-h1];refine aa.enc func222 rfl (λlv=>by kernel_rfl) λ_=>?_;refine aau mixed trivial h0 ?_
 refine aaY (λ(i:Nat)=>⟨aT [(0,.c (.d (.str D))),(2,.c (.ptr 0 0)),(4,.c (.d (.int .i64 (i:Int))))],aM (λ_=>.hole) 0 (.cells true false 247 (Ht i))⟩) 1
  (λi=>i<=10) (λi=>10-i) 0 (Le.fJ _ zt) (ab5 _) ?_
 intro i hi
 try simp only at hi ⊢
 by_cases hlt:i<10
 ·have h2:(i:Int)<10:=by omega
  have h3:=hdg i hlt;have h4:=QX i hlt;have h5:¬(128:Int)<=48+i:=zd
  have h7:=bP (n:=(i:Int)+1) zd zd;have h8:(48+(i:Int)).toNat=48+i:=zd
  have h9:(Ht i).length=256:=by simp[Ht]
  refine aau mixed trivial (me hdl h2 h3 h4 h5 (lD h7 h8 h9)) ?_;exact⟨i+1,Le.fJ _,zd,zd⟩
 ·have h2:i=10:=by omega
  subst h2;have h3:(Ht 10).length=256:=zt
  have h4:iq prog 247 (Ht 10)=some (.agg (Ht 10)):=zt
  have h5:ai (Ht 10) 0 (Ht 10)=Ht 10:=zt
  have h6:(Ht 10).take 256=Ht 10:=zt
  refine aau mixed trivial (mo hdl h3 h4 h5) ?_;exact aal (aF.ox (κ:=0) (T:=247) (t:=2) (u:=3) (k:=0) (off:=0) (own:=true) (fz:=false) (U:=247) (cs:=Ht 10) rfl zp (by simp[h5,h6]) h4 zp rfl rfl)
abbrev Yc:List UInt8:=[48,49,50,51,52,53,54,55,56,57]
def xR(s:List UInt8):List UInt8:=(lT s).dropWhile lO
def Ta:List CV:=List.replicate 256 (.d (.bool false))
def Ee:List CV:=G2.map .d
theorem Uz(m:Int):aa prog (GG m) 222 [.c (.d (.str Yc))] (.tup [.agg Ee,.c (.d (.bool true))]):=OA m
theorem TV:(AV.tup [.agg Ee,.c (.d (.bool true))]).pure=true:=zt
abbrev lvS:Key->LB:=aM (λ_=>LB.hole) 0 (.cells true false 247 Ee)
theorem Tl(s:List UInt8):l8 lvS [.c (.d (.str s)),.c (.ptr 0 0)]=some ([.c (.d (.str s)),.c (.d (.ptr G2))],[0]):=zt
theorem aaS:ql lvS (.c (.ptr 0 0))=[0]:=zt
theorem rdS(s:List UInt8):∀a∈[AV.c (.d (.str s)),AV.c (.ptr 0 0)],∀k∈ql lvS a,k∈[0]:=by
 intro a ha k hk;simp only[aZ,bw,or_false]at ha;rcases ha with rfl|rfl
 ·cases hk
 ·rw[aaS]at hk;exact hk
theorem zcS:dI prog 247=some Ta:=zt
theorem stS:aG prog 247 (aM (λ_=>.hole) 0 (.cells true false 247 Ta)) (.c (.ptr 0 0)) (.agg Ee)=some (.undef,[(0,.cells true false 247 Ee)],[],True):=by
 have hl:Ee.length=256:=by unfold Ee;simp[Df]
 have hz:Ta.length=256:=List.length_replicate
 have hs:ai Ta 0 Ee=Ee:=by
  unfold ai;rw[hl,List.take_zero,aew,aej,aeQ (Nat.le_of_eq hz),ad5]
 simp_all
theorem ag.flat{f:FuncId}{xs us:List AV}{ks rds:List Key}{x:AV}{lv:Key->LB}{K:AV->List (Key×LB)->List Key->Nat->Prop}(κ:Nat)(ha:l8 lv xs=some (us,ks))(hc:aa c.P c.G f us x)(hx:x.flat=true)
 (hr:∀a∈xs,∀k∈ql lv a,k∈rds) (hK:K x [] rds κ):ag c f xs lv K:=⟨x,[],rds,κ,dS.flat us ks rds x ha hc hx hr,hK⟩
theorem zg(s:List UInt8):aU prog .eql 9 (.c (.d (.str s))) (.c (.d (.str [])))=some (.c (.d (.bool (decide (s=[])))),[],[],True):=by
 cases s with
 |nil=>kernel_rfl
 |cons a l=>rfl
theorem CR(m:Int)(s:List UInt8):aa prog (GG m) 175 [.c (.d (.str s)),.c (.d (.str Yc))] (.c (.d (.str (xR s)))):=by
 refine aa.en func175 rfl λ_=>aah ?_;refine aac λK hK=>aac λK1 hK1=>?_
 by_cases hs:s=[]
 ·refine abG @zg hs (hK1 _ _ ?_);refine aaE (aah ?_);exact aaq (aD.rt rfl 4 (by simp[hs,xR,lT]))
 refine abG @zg hs (hK1 _ _ ?_);refine aax (aan (hK _ _ (aac λK hK=>aah ?_)));refine aax (aan (hK _ _ (aac λK hK=>aaF λK1 hK1=>?_)));simp;refine ag.pure 0 9 (Uz m) TV zp rfl ?_;simp[zcS,stS,-aG];apply hK1;refine aah ?_;refine aaE (aaF λK1 hK1=>?_);simp;refine ag.flat 2 (us:=[.c (.d (.str s)),.c (.d (.ptr G2))]) (ks:=[0]) (rds:=[0]) (Tl s) (DT _ s) rfl (rdS s) ?_;simp;refine ag.flat 2 (us:=[.c (.d (.str (lT s))),.c (.d (.ptr G2))]) (ks:=[0]) (rds:=[0]) (Tl _) (Gx _ (lT s)) rfl (rdS _) ?_;simp;apply hK1;exact aaq (aD.rt rfl 9 xr)
theorem QH(s t:List UInt8):(s==t)=decide (s=t):=by
 grind
theorem eqStr(s t:List UInt8):aU prog .eql 9 (.c (.d (.str s))) (.c (.d (.str t)))=some (.c (.d (.bool (decide (s=t)))),[],[],True):=by
 rw[<-QH];rfl
theorem xH(s t:List UInt8):aU prog .neq 9 (.c (.d (.str s))) (.c (.d (.str t)))=some (.c (.d (.bool (!decide (s=t)))),[],[],True):=by
 rw[<-QH];rfl
def gP(s:List UInt8):Bool:=!decide (s=[])&&decide (xR s=[])&&(decide (s=[48]) || !decide (s.getD 0 0=48))
theorem N2(m:Int)(s:List UInt8):aa prog (GG m) 100 [.c (.d (.str s))] (.c (.d (.bool (gP s)))):=by
 refine aa.en func100 rfl λ_=>aah ?_;refine aac λK hK=>?_
 cases s with
 |nil=>
  refine aby @xH (hK _ _ ?_);exact aaq (aD.rt rfl 2 (by simp[gP]))
 |cons a l=>
  refine aai ?_;simp[xH];refine ag.pure 0 9 (CR m (a::l)) zp zp rfl ?_
  by_cases ht:xR (a::l)=[]
  ·by_cases h0:a::l=[48]
   ·have ht':xR [48]=[]:=h0▸ht;simp[eqStr,h0,ht'];apply hK;exact aaq (aD.rt rfl 2 (by simp[gP,h0,ht']))
   ·simp[eqStr,ht,h0];apply hK
    have ha:((a.toNat:Int)=48)↔a=48:=by
     constructor
     ·intro h;exact UInt8.toNat_inj.1 yn
     ·simp_all
    have hr:gP (a::l) = !decide ((a.toNat:Int)=48):=by
     have h1:decide ((a.toNat:Int)=48)=decide (a=48):=by simp only[ha]
     rw[h1];simp[gP,ht,h0]
    exact aaq (aD.rt rfl 2 xf)
  ·simp[eqStr,ht];apply hK;exact aaq (aD.rt rfl 2 (by simp[gP,ht]))
def ur(s p:List UInt8):Bool:=decide (p.length<=s.length)&&decide (s.take p.length=p)
def nM(s p:List UInt8):List UInt8:=if ur s p=true then s.drop p.length else s
theorem uv(G:List (List DV))(s p:List UInt8):aa prog G 218 [.c (.d (.str s)),.c (.d (.str p))] (.c (.d (.bool (ur s p)))):=by
 refine aa.en func218 rfl λ_=>aah ?_;refine aac λK hK=>?_
 by_cases h:p.length<=s.length
 ·have h':(p.length:Int)<=(s.length:Int):=by omega
  refine acm @eqStr h h' (hK _ _ ?_);exact aaq (aD.rt rfl 4 (by simp[ur,h]))
 ·have h':¬(p.length:Int)<=(s.length:Int):=by omega
  refine acm @eqStr h h' (hK _ _ ?_);exact aaq (aD.rt rfl 4 (by simp[ur,h]))
theorem BJ(G:List (List DV))(s p:List UInt8):aa prog G 173 [.c (.d (.str s)),.c (.d (.str p))] (.tup [.c (.d (.str (nM s p))),.c (.d (.bool (ur s p)))]):=by
 refine aa.en func173 rfl λ_=>aah ?_;refine aac λK hK=>aaF λK1 hK1=>?_;simp;refine ag.pure 0 9 (uv _ s p) zp zp rfl ?_;simp;apply hK1
 by_cases h:ur s p=true
 ·refine aaD yk (aan (hK _ _ (aac λK hK=>?_)))
  have hl:p.length<=s.length:=by
   unfold ur at h;simp only[adS,decide_eq_true_eq]at h;exact h.1
  refine aby hl (hK _ _ ?_);exact aaq (aD.t2 rfl 5 (by simp[nM,h]) pi)
 ·refine aaB yk (aah ?_);exact aaq (aD.t2 rfl 5 (by simp[nM,h]) pi)
theorem Ec(G:List (List DV))(s p:List UInt8):aa prog G 98 [.c (.d (.str s)),.c (.d (.str p))] (.tup [.c (.d (.str (nM s p))),.c (.d (.bool (ur s p)))]):=by
 refine aa.en func98 rfl λ_=>aah ?_;refine aaF λK hK=>?_;simp;refine ag.pure 0 9 (BJ _ s p) rfl zp rfl ?_;simp;apply hK;exact aaq (aD.t2 rfl 6 zp zp)
theorem aD.abQ{x:AV}{κ:Nat}(hr:fn.results=#[.tmp t,.tmp u,.tmp v])(kh:Key)(hx:s.fr t=x)(hy:s.fr u=y)(hz:s.fr v=z)(hp:x.pure=true)(hq:y.pure=true)(hw:z.pure=true)(hh:s.lv kh=.hole)
 (hn:x.eK=true) (hm:y.eK=true) (hl:z.eK=true) (htu:t≠u) (htv:t≠v) (huv:u≠v):aD c fn (.tup [x,y,z]) .ret s κ:=by
 refine⟨[(t,x),(u,y),(v,z)],kh,yn,hh,?_⟩;rw[hr];have h1:¬u=t:=λh=>htu h.symm
 have h2:¬v=t:=λh=>htv h.symm
 have h3:¬v=u:=λh=>huv h.symm
 simp[fq,kH,mj,aT,h1,h2,h3,hn,hm,hl]
theorem aD.t3{x:AV}(hr:fn.results=#[.tmp t,.tmp u,.tmp v])(kh:Key)(hx:s.fr t=x:=by simp)(hy:s.fr u=y:=by simp)(hz:s.fr v=z:=by simp)(hp:x.pure=true:=by first|rfl|simp)(hq:y.pure=true:=by first|rfl|simp)(hw:z.pure=true:=by first|rfl|simp)
 (hh:s.lv kh=.hole:=by first|rfl|simp) (h1:x.eK=true:=by first|rfl|simp) (h2:y.eK=true:=by first|rfl|simp) (h3:z.eK=true:=by first|rfl|simp) (d1:t≠u:=by decide) (d2:t≠v:=by decide) (d3:u≠v:=by decide):aD c fn (.tup [x,y,z]) .ret s 0:=aD.abQ hr kh hx hy hz hp hq hw hh h1 h2 h3 d1 d2 d3
def nI(s t:List UInt8):Int:=Lib.index s t
def wh(s t:List UInt8):List UInt8:=if 0<=nI s t then s.take (nI s t).toNat else s
def vM(s t:List UInt8):List UInt8:=if 0<=nI s t then s.drop ((nI s t).toNat+t.length)else[]
theorem MP(s t:List UInt8)(h:s.length<=9223372036854775807):-9223372036854775808<=Lib.index s t/\Lib.index s t<=9223372036854775807:=by
 have h1:=Lib.index_ge s t
 have h2:Lib.index s t<=s.length:=by
  clear h h1
  induction s with
  |nil=>simp only[Lib.index];omega
  |cons a s ih=>
   simp only[Lib.index]
   grind
 omega
theorem LH(G:List (List DV))(s:List UInt8)(c:Nat)(hc:c<256):aa prog G 259 [.c (.d (.str s)),.c (.d (.int .u8 (c:Int)))] (.c (.d (.int .i64 (nI s [UInt8.ofNat c])))):=by
 refine aQ.nc 0 zp (λV v h=>(show s.length<=9223372036854775807 by cases h.1 with|str _ hl=>exact hl)) λhs=>?_;refine aa.PS (X:=.c (.d (.int .i64 (nI s [UInt8.ofNat c])))) (lv':=λ_=>.hole) (ks:=[]) ?_ rfl;refine kL.of_same xr λF β w vs hS hl hv=>?_;obtain⟨u,v,rfl,hu,hv⟩:=args2 hl hv;have:=Tryz.stringslite_IndexByte ⟨s.toArray⟩ c w;refine⟨.int .i64 (nI s [UInt8.ofNat c]),Vp (MP s _ hs),?_⟩;rw[Vw.pY hu,Vw.gR hv];simpa[nI,<-index_one]using this
theorem Ok(c:UInt8):nI [c] [c]=0:=by simp[nI,Lib.index,List.isPrefixOf]
theorem Lb(G:List (List DV))(s:List UInt8)(c:UInt8):aa prog G 219 [.c (.d (.str s)),.c (.d (.str [c]))] (.c (.d (.int .i64 (nI s [c])))):=by
 have hb:=LH G s c.toNat c.toNat_lt;rw[show UInt8.ofNat c.toNat=c from UInt8.ofNat_toNat]at hb;refine aa.en func219 rfl λ_=>aah ?_;refine aah ?_;refine aac λK hK=>aaw (aac λK1 hK1=>?_)
 by_cases hs:[c]=s
 ·have h0:nI s [c]=0:=by rw[<-hs];exact Ok c
  refine abG @eqStr hs (hK1 _ _ ?_);refine aaE (aah ?_);exact aaq (aD.rt rfl 4 cf)
 ·refine abG @eqStr hs (hK1 _ _ ?_);refine aax (aah ?_);refine aaE (aaF λK1 hK1=>?_);simp;refine ag.pure 0 9 hb zp zp rfl ?_;simp;apply hK1;exact aaq (aD.rt rfl 4 zp)
theorem NP(m:Int)(s t:List UInt8)(h:s.length<=9223372036854775807)(hix:aa prog (GG m) 219 [.c (.d (.str s)),.c (.d (.str t))] (.c (.d (.int .i64 (nI s t))))):aa prog (GG m) 174 [.c (.d (.str s)),.c (.d (.str t))] (.tup [.c (.d (.str (wh s t))),.c (.d (.str (vM s t))),.c (.d (.bool (decide (0<=nI s t))))]):=by
 refine aa.en func174 rfl λ_=>aah ?_;refine aac λK hK=>aaF λK1 hK1=>?_;simp;refine ag.pure 0 9 hix zp zp rfl ?_;simp;apply hK1;refine aah ?_
 by_cases hi:0<=nI s t
 ·refine aaB yk ?_;obtain⟨n,hn⟩:∃n:Nat,nI s t=n:=⟨(nI s t).toNat,(Int.toNat_of_nonneg hi).symm⟩
  have hr:=Lib.index_room s t (by unfold nI at hi;exact hi);have hr':n+t.length<=s.length:=by unfold nI at hn;rw[hn]at hr;omega
  have hw:i64.wrap ((n:Int)+t.length)=((n+t.length:Nat):Int):=by rw[bP zd zd];omega
  have hn1:n<=s.length:=zd
  refine aac λK1 hK1=>?_;refine abT mixed zt rfl rfl ?_;simp[hn,hw,hn1,hr',-Int.natCast_add];apply hK1;exact aaq (aD.t3 rfl 9 (by simp[wh,hn]) (by simp[vM,hn]) co)
 ·refine aaD yk (aan (hK _ _ (aah ?_)));exact aaq (aD.t3 rfl 9 (by simp[wh,hi]) (by simp[vM,hi]) (by simp[hi]))
theorem Sl(m:Int)(s t:List UInt8)(h:s.length<=9223372036854775807)(hix:aa prog (GG m) 219 [.c (.d (.str s)),.c (.d (.str t))] (.c (.d (.int .i64 (nI s t))))):aa prog (GG m) 99 [.c (.d (.str s)),.c (.d (.str t))] (.tup [.c (.d (.str (wh s t))),.c (.d (.str (vM s t))),.c (.d (.bool (decide (0<=nI s t))))]):=by
 refine aa.en func99 rfl λ_=>aah ?_;refine aaF λK hK=>?_;simp;refine ag.pure 0 9 (NP m s t h hix) rfl zp rfl ?_;simp;apply hK;exact aaq (aD.t3 rfl 9 zp zp zp)
theorem R4(m:Int)(s:List UInt8)(c:UInt8):aa prog (GG m) 99 [.c (.d (.str s)),.c (.d (.str [c]))] (.tup [.c (.d (.str (wh s [c]))),.c (.d (.str (vM s [c]))),.c (.d (.bool (decide (0<=nI s [c]))))]):=by
 refine aQ.nc 0 zp (λV v h=>(show s.length<=9223372036854775807 by cases h.1 with|str _ hl=>exact hl)) λhs=>?_;exact Sl m s [c] hs (Lb (GG m) s c)
end Go.Am
