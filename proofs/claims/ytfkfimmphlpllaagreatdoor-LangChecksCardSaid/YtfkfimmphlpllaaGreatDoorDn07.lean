/- Helpers: an abstract machine for Go functions, and walks of functions of the program. -/
import Derived.Test.YtfkfimmphlpllaaGreatDoorDn06
import Derived.Shelf.Strings.Search1
import Derived.Shelf.Strings.Search2
import Derived.Shelf.Strings.Search3
import Derived.Shelf.Strings.Cut
import Derived.Shelf.Strings.Count
import Derived.Test.YtfkfimmphlpllaaGreatDoorProg
import Derived.Lib.Builder
import Derived.Defers
import Derived.Recover
import Derived.WalkKit
import Derived.TacticsIn
import Derived.TacticsInMore
import Derived.RegionIn
import Derived.OwnWalkIn
import Derived.RangeFuncOwn

set_option linter.all false

namespace Go.Am
open Go.Am.Ty Go.Proofs N
abbrev DX:=nK .u32
theorem cZ (G:List (List DV))(l:List Nat):aj Tryz.prog G 281 [DX (some l)] (DX (some (cN l))):=by
 refine aj.aH Tryz.func281 rfl (by rw [Tryz.ntmps281];simp) ?_;rintro⟨_,_,w0,F0,W0,_,bq,β0⟩ rfl rfl rfl;refine aac fun K hK=>?_;refine aad rfl ?_;simp;apply hK;clear hK K;refine aac fun K hK=>?_;refine aad rfl ?_;simp [GP];refine ai.pure 0 0 (xz _ l) rfl (by simp [DX]) rfl ?_;simp;apply hK;clear hK K;exact aag (au.tmp rfl 0 (by simp;rfl) rfl rfl rfl)
theorem qR (G:List (List DV))(a b:Option (List Nat))(ha:(dO a).length≤1000000000000)(hb:(dO b).length≤1000000000000) :
 aj Tryz.prog G 280 [DX a,DX b] (DX (some (aI 4294967296 (val 4294967296 (dO a)+val 4294967296 (dO b))))):=by
 refine aZ.iQ 0 (by simp) (fun V v h=>gA h) fun hra=>?_;refine aZ.iQ 1 (by simp) (fun V v h=>gA h) fun hrb=>?_;refine aj.aH Tryz.func280 rfl (by rw [Tryz.ntmps280];simp) ?_;rintro⟨_,_,w0,F0,W0,_,bq,β0⟩ rfl rfl rfl;refine aac fun K hK=>?_;refine aad rfl ?_;simp;apply hK;clear hK K;refine aac fun K hK=>?_;refine aac fun K2 hK2=>?_;refine aad rfl ?_;simp [lz fQ];apply hK2;clear hK2 K2
 have main:∀ (a' b':Option (List Nat)) (fr:Nat→AV) (κ:Nat),fr 0=DX a'→fr 1=DX b'→(dO b').length≤(dO a').length→(dO a').length≤1000000000000 →
  ok 4294967296 (dO a')→ok 4294967296 (dO b')→val 4294967296 (dO a')+val 4294967296 (dO b')=val 4294967296 (dO a)+val 4294967296 (dO b)→K ⟨fr,fun _=>.hole⟩ κ:=by
  intro a' b' fr κ f0 f1 hle hla oka okb hv;apply hK;clear hK;refine aac fun K hK=>?_;refine aad rfl ?_;have e1:=bK (n:=((dO a').length:Int)+1) (by omega) (by omega);simp [f0,lz fQ,e1,fQ,CG,Dh,Bh];refine⟨by omega,?_⟩;apply hK;clear hK K;refine aaA 1 ?_;generalize hκ:κ=κ0;refine aac fun K hK=>?_;refine aad rfl ?_;simp;apply hK;clear hK K;refine aac fun K hK=>aac fun K1 hK1=>?_;refine aad rfl ?_;simp [f0,lz fQ];apply hK1;clear hK1 K1;refine aak ?_
  refine aax (fun (p:List Nat × Nat)=>⟨bt [(0,DX a'),(1,DX b'),(5,.c (.aX κ0 0 ((dO a').length+1) 1)),(6,.c (.d (.int .u64 p.2))),(20,DX a'),(21,.c (.d (.int .i64 (dO a').length))),(22,.c (.d (.int .i64 p.1.length)))],
   aJ (fun _=>.hole) κ0 (.cells true false 322 (wK .u32 (p.1++List.replicate ((dO a').length+1 - p.1.length) 0)))⟩) (κ0+1)
   (fun p=>p.1.length≤(dO a').length∧ok 4294967296 p.1∧p.2≤1∧val 4294967296 p.1+4294967296 ^ p.1.length*p.2=val 4294967296 ((dO a').take p.1.length)+val 4294967296 ((dO b').take p.1.length))
   (fun p=>(dO a').length - p.1.length) ([],0) (Le.mk' _ (by simp [fu]) (by simp) (by simp [f0,f1])) (by simp [cg]) ?_
  rintro⟨pre,c⟩ ⟨h1,h2,h3,h4⟩;simp only at h1 h2 h3 h4;refine aac fun K3 hK3=>?_;refine aad rfl ?_;simp;apply hK3;clear hK3 K3;refine aac fun K2 hK2=>?_
  by_cases hlt:pre.length<(dO a').length
  ·refine aaB (b:=true) (by simp [hlt]) (aah ?_);simp;apply hK2;have hz:(dO a').length+1 - pre.length=((dO a').length - pre.length)+1:=by omega
   refine aac fun K3 hK3=>aak ?_;refine aac fun K4 hK4=>?_;refine aad rfl ?_;simp [Jl fQ hlt,kI];apply hK4;clear hK4 K4;refine aac fun K4 hK4=>?_;refine aad rfl ?_;simp [qd,qN];have hx:(dO a')[pre.length]<4294967296:=oka _ (List.getElem_mem hlt);generalize hxe:(dO a')[pre.length]=x at hx;have e3:=c7 (n:=(x:Int)) (by omega) (by omega);have e4:=c7 (n:=(c:Int)+x) (by omega) (by omega);simp only [e3,e4];apply hK4;clear hK4 K4;refine aac fun K5 hK5=>aac fun K6 hK6=>?_
   have fin:∀ (y:Nat) (fr:Nat→AV) (κ:Nat),y<4294967296→val 4294967296 ((dO b').take (pre.length+1))=val 4294967296 ((dO b').take pre.length)+4294967296 ^ pre.length*y →
    fr 0=DX a'→fr 1=DX b'→fr 5=.c (.aX κ0 0 ((dO a').length+1) 1)→fr 6=.c (.d (.int .u64 ((c:Int)+x+y)))→fr 7=.c (.d (.int .i64 pre.length)) →
    fr 20=DX a'→fr 21=.c (.d (.int .i64 (dO a').length))→fr 22=.c (.d (.int .i64 pre.length)) →
    K5 ⟨fr,aJ (fun _=>.hole) κ0 (.cells true false 322 (wK .u32 (pre++List.replicate ((dO a').length+1 - pre.length) 0)))⟩ κ:=by
    intro y fr κ hy hbv q0 q1 q5 q6 q7 q20 q21 q22;apply hK5;refine aaA (κ0+2) ?_;refine aac fun K5 hK5=>?_;refine aad rfl ?_;have e5:IntKind.u32.wrap ((c:Int)+x+y)=((c+x+y) % 4294967296:Nat):=by rw [og];omega
    have e6:ak (wK .u32 (pre++List.replicate ((dO a').length+1 - pre.length) 0)) pre.length [CV.d (.int .u32 (((c+x+y) % 4294967296:Nat):Int))]=wK .u32 (pre++[(c+x+y) % 4294967296]++List.replicate ((dO a').length - pre.length) 0):=by
     rw [hz,eR _ (by simp),jg]
    have e7:(pre.length:Int)<((dO a').length:Int)+1:=by omega
    simp [q5,q6,q7,fQ,kI,qd,qN,e5,e6,e7,xU,Ej,-Int.natCast_emod,-Int.natCast_add];refine⟨by omega,by omega,?_⟩;apply hK5;clear hK5 K5;refine aad rfl ?_;have e8:(((c:Int)+x+y) / 4294967296)=(((c+x+y) / 4294967296:Nat):Int):=by omega
    have e8':Int.fdiv ((c:Int)+x+y) 4294967296=(((c+x+y) / 4294967296:Nat):Int):=by rw [Int.fdiv_eq_ediv_of_nonneg _ (by omega)];exact e8
    simp [q6,IntKind.bits,e8',-Int.natCast_ediv,-Int.natCast_add];apply hK3;refine aad rfl ?_;have e9:=bK (n:=(pre.length:Int)+1) (by omega) (by omega);simp [q22,e9];have e10:(dO a').length - pre.length=(dO a').length+1 - (pre.length+1):=by omega
    refine⟨pre++[(c+x+y) % 4294967296],(c+x+y) / 4294967296,Le.mk' _ (by simp) (by simp) (by simp [q0,q1,q5,q20,q21]),⟨by simp;omega,?_,by omega,?_⟩,by simp;omega⟩
    ·exact b8.2 ⟨h2,bB.2 ⟨by omega,cg _⟩⟩
    ·have:=lU 4294967296 pre (c+x+y);rw [List.length_append,List.length_singleton,this,br hlt,hxe,hbv,Nat.mul_add,Nat.mul_add];omega
   refine aad rfl ?_;simp [lz fQ];apply hK6;clear hK6 K6
   by_cases hlb:pre.length<(dO b').length
   ·refine aaB (b:=true) (by simp [hlb]) ?_;refine aad rfl ?_;have hy:(dO b')[pre.length]<4294967296:=okb _ (List.getElem_mem hlb);have e5:=c7 (n:=((dO b')[pre.length]:Int)) (by omega) (by omega);have e6:=c7 (n:=(c:Int)+x+(dO b')[pre.length]) (by omega) (by omega);simp [Jl fQ hlb,kI,qd,qN,e5,e6];exact fin _ _ _ hy (br hlb) (by simp) (by simp) (by simp) (by simp) (by simp) (by simp) (by simp) (by simp)
   ·refine aaB (b:=false) (by simp [hlb]) (aah ?_);simp;exact fin 0 _ _ (by omega) (by rw [aL (by omega),aL (by omega)];rfl) (by simp) (by simp) (by simp) (by simp) (by simp) (by simp) (by simp) (by simp)
  ·refine aaB (b:=false) (by simp [hlt]) (aav ?_);simp;have e2:pre.length=(dO a').length:=by omega
   apply hK;refine aac fun K hK=>?_;refine aad rfl ?_;have e3:=rT (n:=(c:Int)) (by omega) (by omega)
   have e4:ak (wK .u32 (pre++[0])) pre.length [CV.d (.int .u32 (c:Int))]=wK .u32 (pre++[c]):=by
    rw [eR _ (by simp)];simp
   simp only [← e2];simp [lz fQ,← e2,fQ,kI,qd,qN,e3,e4,xU,Ej];refine⟨by omega,?_⟩;apply hK;clear hK K;refine aac fun K hK=>?_;refine aad rfl ?_;simp [HZ];have hl:pre.length+1=(pre++[c]).length:=by simp
   rw [hl]
   have hout:cN (pre++[c])=aI 4294967296 (val 4294967296 (dO a)+val 4294967296 (dO b)):=by
    refine di (by decide) (b8.2 ⟨h2,bB.2 ⟨by omega,cg _⟩⟩) ?_;rw [ey,h4,aL (by omega),aL (by omega),hv]
   refine fq.n7 0 (κ0+1) κ0 (by simp;rfl) (by simp;omega) (cZ _ _) (by simp) (by simp) (by simp) ?_;simp;apply hK;clear hK K;exact aag (au.tmp rfl (κ0+1) (by simp [hout]) (by simp) (by simp) (by simp))
 have oka:ok 4294967296 (dO a):=fun d hd=>by have:=hra.2 d hd;simp only [nV] at this;omega
 have okb:ok 4294967296 (dO b):=fun d hd=>by have:=hrb.2 d hd;simp only [nV] at this;omega
 by_cases hlt:(dO a).length<(dO b).length
 ·refine aaB (b:=true) (by simp [hlt]) ?_;refine aad rfl ?_;simp;exact main b a _ _ (by simp) (by simp) (by omega) hb okb oka (by omega)
 ·refine aaB (b:=false) (by simp [hlt]) (aah ?_);simp;exact main a b _ _ (by simp) (by simp) (by omega) ha oka okb rfl
end Go.Am

namespace Go.Am
open Go.Am.Ty Go.Proofs N
theorem I1 {x c y:Nat}(hx:x<4294967296) (hc:c≤1) (hy:y<4294967296) :
 ∃ v b:Nat,v<4294967296∧b≤1∧v+c+y=x+4294967296*b∧IntKind.u32.wrap (IntKind.u64.wrap (IntKind.u64.wrap ((x:Int) - c) - y))=v∧Int.fdiv (IntKind.u64.wrap (IntKind.u64.wrap ((x:Int) - c) - y)) 9223372036854775808=b:=by
 simp only [og,ye]
 by_cases h:c+y≤x
 ·refine⟨x - c - y,0,by omega,by omega,by omega,by omega,?_⟩;rw [Int.fdiv_eq_ediv_of_nonneg _ (by omega)];omega
 ·refine⟨x+4294967296 - c - y,1,by omega,by omega,by omega,by omega,?_⟩;rw [Int.fdiv_eq_ediv_of_nonneg _ (by omega)];omega
theorem Gj {x c:Nat}(hx:x<4294967296) (hc:c≤1):IntKind.u64.wrap (IntKind.u64.wrap ((x:Int) - c) - (0:Nat))=IntKind.u64.wrap ((x:Int) - c):=by
 simp only [ye];omega
theorem pO (G:List (List DV))(a b:Option (List Nat))(ha:(dO a).length≤1000000000000)(hv:val 4294967296 (dO b)≤val 4294967296 (dO a)) :
 aj Tryz.prog G 359 [nK .u32 a,nK .u32 b] (nK .u32 (some (aI 4294967296 (val 4294967296 (dO a) - val 4294967296 (dO b))))):=by
 refine aZ.iQ 0 (by simp) (fun V v h=>gA h) fun hra=>?_;refine aZ.iQ 1 (by simp) (fun V v h=>gA h) fun hrb=>?_;have oka:ok 4294967296 (dO a):=fun d hd=>by have:=hra.2 d hd;simp only [nV] at this;omega
 have okb:ok 4294967296 (dO b):=fun d hd=>by have:=hrb.2 d hd;simp only [nV] at this;omega
 refine aj.aH Tryz.func359 rfl (by rw [Tryz.ntmps359];simp) ?_;rintro⟨_,_,w0,F0,W0,_,bq,β0⟩ rfl rfl rfl;refine aac fun K hK=>?_;refine aad rfl ?_;simp;apply hK;clear hK K;refine aac fun K hK=>?_;refine aad rfl ?_;simp
 repeat refine ag ?_
 apply hK;clear hK K;refine aac fun K hK=>?_;refine aad rfl ?_;simp;apply hK;clear hK K;refine aac fun K hK=>aac fun K1 hK1=>?_;refine aad rfl ?_;simp;apply hK1;clear hK1 K1;refine aak ?_
 refine aax (fun (p:List Nat × Nat)=>⟨bt [(0,nK .u32 a),(1,nK .u32 b),(5,.c (.aX 0 0 (dO a).length 1)),(6,.c (.d (.int .u64 p.2))),(13,nK .u32 a),(14,.c (.d (.int .i64 (dO a).length))),(15,.c (.d (.int .i64 p.1.length)))],
  aJ (fun _=>.hole) 0 (.cells true false 322 (wK .u32 (p.1++List.replicate ((dO a).length - p.1.length) 0)))⟩) 1
  (fun p=>p.1.length≤(dO a).length∧ok 4294967296 p.1∧p.2≤1∧val 4294967296 p.1+val 4294967296 ((dO b).take p.1.length)=val 4294967296 ((dO a).take p.1.length)+4294967296 ^ p.1.length*p.2)
  (fun p=>(dO a).length - p.1.length) ([],0) (Le.mk' _ (by simp [fu]) (by simp) (by simp)) (by simp [cg]) ?_
 rintro⟨pre,c⟩ ⟨h1,h2,h3,h4⟩;simp only at h1 h2 h3 h4;refine aac fun K3 hK3=>?_;refine aad rfl ?_;simp;apply hK3;clear hK3 K3;refine aac fun K2 hK2=>?_
 by_cases hlt:pre.length<(dO a).length
 ·refine aap (by simp [hlt] <;> omega) ?_;refine aah ?_;simp;apply hK2;have hz:(dO a).length - pre.length=((dO a).length - pre.length - 1)+1:=by omega
  refine aac fun K3 hK3=>?_;refine aak ?_;refine aac fun K4 hK4=>?_;refine aad rfl ?_;simp [hlt];apply hK4;clear hK4 K4;refine aac fun K4 hK4=>?_;refine aad rfl ?_;simp;have hx:(dO a)[pre.length]<4294967296:=oka _ (List.getElem_mem hlt);generalize hxe:(dO a)[pre.length]=x at hx;have e3:=c7 (n:=(x:Int)) (by omega) (by omega);simp only [e3];apply hK4;clear hK4 K4;refine aac fun K5 hK5=>aac fun K6 hK6=>?_
  have fin:∀ (y:Nat) (fr:Nat→AV) (κ:Nat),y<4294967296→val 4294967296 ((dO b).take (pre.length+1))=val 4294967296 ((dO b).take pre.length)+4294967296 ^ pre.length*y →
   fr 0=nK .u32 a→fr 1=nK .u32 b→fr 5=.c (.aX 0 0 (dO a).length 1)→fr 9=.c (.d (.int .u64 (IntKind.u64.wrap (IntKind.u64.wrap ((x:Int) - c) - y))))→fr 7=.c (.d (.int .i64 pre.length)) →
   fr 13=nK .u32 a→fr 14=.c (.d (.int .i64 (dO a).length))→fr 15=.c (.d (.int .i64 pre.length)) →
   K5 ⟨fr,aJ (fun _=>.hole) 0 (.cells true false 322 (wK .u32 (pre++List.replicate ((dO a).length - pre.length) 0)))⟩ κ:=by
   intro y fr κ hy hbv q0 q1 q5 q9 q7 q13 q14 q15;obtain⟨v,bb,g1,g2,g3,g4,g5⟩:=I1 hx h3 hy;apply hK5;refine aaA 2 ?_
   have e6:ak (wK .u32 (pre++List.replicate ((dO a).length - pre.length) 0)) pre.length [CV.d (.int .u32 (v:Int))]=wK .u32 (pre++[v]++List.replicate ((dO a).length - pre.length - 1) 0):=by
    rw [hz,eR _ (by simp),jg];simp
   have e7:(pre.length:Int)<((dO a).length:Int):=by omega
   refine aac fun K7 hK7=>?_;refine aad rfl ?_;simp [q5,q9,q7,g4,e6,e7,hlt]
   repeat refine ag ?_
   apply hK7;clear hK7 K7;refine aad rfl ?_;simp [q9,IntKind.bits,g5];apply hK3;have e9:=bK (n:=(pre.length:Int)+1) (by omega) (by omega);refine aad rfl ?_;simp [q15,e9];have e10:(dO a).length - pre.length - 1=(dO a).length - (pre.length+1):=by omega
   refine⟨pre++[v],bb,Le.mk' _ (by simp [e10]) (by simp) (by simp [q0,q1,q5,q13,q14]),⟨by simp;omega,b8.2 ⟨h2,bB.2 ⟨g1,cg _⟩⟩,g2,?_⟩,by simp;omega⟩;rw [List.length_append,List.length_singleton,ey,br hlt,hxe,hbv,Nat.pow_succ];have g6:4294967296 ^ pre.length*(v+c+y)=4294967296 ^ pre.length*(x+4294967296*bb):=by rw [g3]
   rw [Nat.mul_add,Nat.mul_add,Nat.mul_add,← Nat.mul_assoc] at g6;omega
  refine aad rfl ?_;simp;apply hK6;clear hK6 K6
  by_cases hlb:pre.length<(dO b).length
  ·refine aap (by simp [hlb] <;> omega) ?_;have hy:(dO b)[pre.length]<4294967296:=okb _ (List.getElem_mem hlb);have e5:=c7 (n:=((dO b)[pre.length]:Int)) (by omega) (by omega);refine aad rfl ?_;simp [hlb,e5];exact fin _ _ _ hy (br hlb) (by simp) (by simp) (by simp) (by simp) (by simp) (by simp) (by simp) (by simp)
  ·refine aao (by simp [hlb] <;> omega) ?_;refine aah ?_;simp;exact fin 0 _ _ (by omega) (by rw [aL (by omega),aL (by omega)];rfl) (by simp) (by simp) (by simp) (by rw [Gj hx h3];simp) (by simp) (by simp) (by simp) (by simp)
 ·refine aao (by simp [hlt] <;> omega) ?_;refine aav ?_;simp;have e2:pre.length=(dO a).length:=by omega
  apply hK;refine aac fun K hK=>?_;refine aad rfl ?_;simp
  have hlb:val 4294967296 ((dO b).take pre.length)=val 4294967296 (dO b):=by
   by_cases hb:(dO b).length≤pre.length
   ·exact aL hb
   ·have g1:=bW (B:=4294967296) (dO b) pre.length (by omega);have g2:=eC oka;rw [← e2] at g2
    have g3:val 4294967296 ((dO b).drop pre.length)=0:=by
     apply Classical.byContradiction;intro hne;have:4294967296 ^ pre.length*1≤4294967296 ^ pre.length*val 4294967296 ((dO b).drop pre.length):=Nat.mul_le_mul_left _ (by omega);omega
    rw [g3] at g1;omega
  have hva:val 4294967296 ((dO a).take pre.length)=val 4294967296 (dO a):=aL (by omega)
  have hc:c=0:=by
   apply Classical.byContradiction;intro hne;have:c=1:=by omega
   subst this;have:=eC h2;rw [hlb,hva] at h4;omega
  subst hc
  have hout:cN pre=aI 4294967296 (val 4294967296 (dO a) - val 4294967296 (dO b)):=by
   refine di (by decide) h2 ?_;rw [hlb,hva] at h4;omega
  rw [← e2];simp only [Nat.sub_self,List.replicate_zero,List.append_nil];refine fq.n7 0 1 0 (by simp;rfl) (by omega) (cZ _ _) (by simp) (by simp) (by simp) ?_;simp;apply hK;clear hK K;exact aag (κ:=0) (au.t (κ:=0) rfl 1 (by simp [hout]))
end Go.Am

namespace Go.Am
open Go.Am.Ty Go.Proofs N
theorem BK {B i j T x y V o c L L':Nat}(h1:L+B ^ (i+j)*c=T+B ^ i*(x*V)) (h2:L'+B ^ (i+j)*o=L+B ^ (i+j)*((c+(x*y+o)) % B)) :
 L'+B ^ (i+j+1)*((c+(x*y+o)) / B)=T+B ^ i*(x*(V+B ^ j*y)):=by
 have h3:=mm B (i+j) (c+(x*y+o));have h4:B ^ i*(x*(V+B ^ j*y))=B ^ i*(x*V)+B ^ (i+j)*(x*y):=by rw [Nat.pow_add];grind
 rw [Nat.mul_add,Nat.mul_add] at h3;omega
theorem fK (G:List (List DV))(a b:Option (List Nat))(ha:(dO a).length≤1000000000000)(hb:(dO b).length≤1000000000000) :
 aj Tryz.prog G 238 [nK .u32 a,nK .u32 b] (nK .u32 (some (aI 4294967296 (val 4294967296 (dO a)*val 4294967296 (dO b))))):=by
 refine aZ.iQ 0 (by simp) (fun V v h=>gA h) fun hra=>?_;refine aZ.iQ 1 (by simp) (fun V v h=>gA h) fun hrb=>?_;have oka:ok 4294967296 (dO a):=fun d hd=>by have:=hra.2 d hd;simp only [nV] at this;omega
 have okb:ok 4294967296 (dO b):=fun d hd=>by have:=hrb.2 d hd;simp only [nV] at this;omega
 refine aj.aH Tryz.func238 rfl (by rw [Tryz.ntmps238];simp) ?_;rintro⟨_,_,w0,F0,W0,_,bq,β0⟩ rfl rfl rfl;refine aac fun K hK=>?_;refine aad rfl ?_;simp;apply hK;clear hK K;refine aac fun K hK=>?_;have e0:IntKind.i64.wrap (((dO a).length:Int)+(dO b).length)=(((dO a).length+(dO b).length:Nat):Int):=by rw [bK (by omega) (by omega)];omega
 refine aad rfl ?_;simp [e0,-Int.natCast_add]
 repeat refine ag ?_
 apply hK;clear hK K;refine aac fun K hK=>aac fun K1 hK1=>?_;refine aad rfl ?_;simp;apply hK1;clear hK1 K1;refine aak ?_
 refine aax (fun (p:Nat × List Nat)=>⟨bt [(0,nK .u32 a),(1,nK .u32 b),(5,.c (.aX 0 0 ((dO a).length+(dO b).length) 1)),(17,nK .u32 a),(18,.c (.d (.int .i64 (dO a).length))),(19,.c (.d (.int .i64 p.1)))],
  aJ (fun _=>.hole) 0 (.cells true false 322 (wK .u32 (p.2++List.replicate ((dO a).length - p.1) 0)))⟩) 1
  (fun p=>p.1≤(dO a).length∧p.2.length=p.1+(dO b).length∧ok 4294967296 p.2∧val 4294967296 p.2=val 4294967296 ((dO a).take p.1)*val 4294967296 (dO b))
  (fun p=>(dO a).length - p.1) (0,List.replicate (dO b).length 0) (Le.mk' _ (by simp [fu,Nat.add_comm]) (by simp) (by simp)) ⟨by simp,by simp,pM (by omega) _,by simp [nJ]⟩ ?_
 rintro⟨i,lo⟩ ⟨h1,h2,h3,h4⟩;simp only at h1 h2 h3 h4;refine aac fun K3 hK3=>?_;refine aad rfl ?_;simp;apply hK3;clear hK3 K3;refine aac fun K2 hK2=>?_
 by_cases hlt:i<(dO a).length
 ·refine aap (by simp [hlt] <;> omega) ?_;refine aah ?_;simp;apply hK2;refine aac fun K3 hK3=>?_;refine aak ?_;refine aac fun K4 hK4=>?_;refine aad rfl ?_;simp [hlt];apply hK4;clear hK4 K4;refine aac fun K4 hK4=>?_;refine aad rfl ?_;simp;have hx:(dO a)[i]<4294967296:=oka _ (List.getElem_mem hlt);generalize hxe:(dO a)[i]=x at hx;apply hK4;clear hK4 K4;refine aac fun K4 hK4=>aac fun K5 hK5=>?_;refine aad rfl ?_;simp;apply hK5;clear hK5 K5;refine aak ?_
  refine aax (fun (p:Nat × List Nat × Nat)=>⟨bt [(0,nK .u32 a),(1,nK .u32 b),(5,.c (.aX 0 0 ((dO a).length+(dO b).length) 1)),(17,nK .u32 a),(18,.c (.d (.int .i64 (dO a).length))),(19,.c (.d (.int .i64 i))),
   (6,.c (.d (.int .i64 i))),(7,.c (.d (.int .u32 x))),(8,.c (.d (.int .u64 p.2.2))),(24,nK .u32 b),(25,.c (.d (.int .i64 (dO b).length))),(26,.c (.d (.int .i64 p.1)))],
   aJ (fun _=>.hole) 0 (.cells true false 322 (wK .u32 (p.2.1++List.replicate ((dO a).length - i) 0)))⟩) 2
   (fun p=>p.1≤(dO b).length∧p.2.1.length=i+(dO b).length∧ok 4294967296 p.2.1∧p.2.2<4294967296∧val 4294967296 p.2.1+4294967296 ^ (i+p.1)*p.2.2=val 4294967296 ((dO a).take i)*val 4294967296 (dO b)+4294967296 ^ i*(x*val 4294967296 ((dO b).take p.1)))
   (fun p=>(dO b).length - p.1) (0,lo,0) (Le.mk' _ (by simp) (by simp) (by simp)) ⟨by simp,h2,h3,by simp,by simp [h4]⟩ ?_
  rintro⟨j,lo2,c⟩ ⟨g1,g2,g3,g4,g5⟩;simp only at g1 g2 g3 g4 g5;refine aac fun K6 hK6=>?_;refine aad rfl ?_;simp;apply hK6;clear hK6 K6;refine aac fun K7 hK7=>?_
  by_cases hlj:j<(dO b).length
  ·refine aap (by simp [hlj] <;> omega) ?_;refine aah ?_;simp;apply hK7;refine aac fun K8 hK8=>?_;refine aak ?_;refine aac fun K9 hK9=>?_;refine aad rfl ?_;simp [hlj];apply hK9;clear hK9 K9;refine aac fun K9 hK9=>?_;have hy:(dO b)[j]<4294967296:=okb _ (List.getElem_mem hlj);have hij:i+j<lo2.length:=by omega
   have hij2:i+j<(lo2++List.replicate ((dO a).length - i) 0).length:=by simp;omega
   have hij3:i+j<lo2.length+((dO a).length - i):=by omega
   have ho:lo2[i+j]<4294967296:=g3 _ (List.getElem_mem hij);have ho2:(lo2++List.replicate ((dO a).length - i) 0)[i+j]=lo2[i+j]:=List.getElem_append_left hij;have hb2:val 4294967296 ((dO b).take (j+1))=val 4294967296 ((dO b).take j)+4294967296 ^ j*(dO b)[j]:=br hlj;have hset:=tN (B:=4294967296) hij;generalize (dO b)[j]=y at hy hb2;generalize lo2[i+j]=o at ho ho2 hset;have hxy:x*y≤4294967295*4294967295:=Nat.mul_le_mul (by omega) (by omega);have e1:IntKind.i64.wrap ((i:Int)+j)=((i+j:Nat):Int):=by rw [bK (by omega) (by omega)];omega
   have e2:=c7 (n:=(x:Int)) (by omega) (by omega);have e3:=c7 (n:=(y:Int)) (by omega) (by omega)
   have e4:IntKind.u64.wrap ((x:Int)*y)=((x*y:Nat):Int):=by
    rw [← Int.natCast_mul];generalize x*y=p at hxy;exact c7 (by omega) (by omega)
   have e5:=c7 (n:=(o:Int)) (by omega) (by omega)
   have e6:IntKind.u64.wrap (((x*y:Nat):Int)+o)=((x*y+o:Nat):Int):=by
    generalize x*y=p at hxy;rw [c7 (by omega) (by omega)];omega
   have e7:IntKind.u64.wrap ((c:Int)+((x*y+o:Nat):Int))=((c+(x*y+o):Nat):Int):=by
    generalize x*y=p at hxy;rw [c7 (by omega) (by omega)];omega
   refine aad rfl ?_;simp [e1,e2,e3,e4,e5,e6,e7,hij3,ho2,-Int.natCast_add,-Int.natCast_mul]
   repeat refine ag ?_
   apply hK9;clear hK9 K9;have hbd:c+(x*y+o)<18446744073709551616:=by generalize x*y=p at hxy;omega
   generalize hm:c+(x*y+o)=m at hbd;have f1:IntKind.u32.wrap (m:Int)=((m % 4294967296:Nat):Int):=by rw [og];omega
   have f2:ak (wK .u32 (lo2++List.replicate ((dO a).length - i) 0)) (i+j) [CV.d (.int .u32 ((m % 4294967296:Nat):Int))]=wK .u32 (lo2.set (i+j) (m % 4294967296)++List.replicate ((dO a).length - i) 0):=by
    rw [eR _ hij2,List.set_append_left _ _ hij]
   have f3:Int.fdiv (m:Int) 4294967296=((m / 4294967296:Nat):Int):=by rw [Int.fdiv_eq_ediv_of_nonneg _ (by omega)];omega
   have f4:(i+j:Int)<(dO a).length+(dO b).length:=by omega
   refine aac fun K9 hK9=>?_;refine aad rfl ?_;simp [e1,f1,f2,hij3,-Int.natCast_add,-Int.natCast_emod]
   repeat refine ag ?_
   apply hK9;clear hK9 K9;refine aad rfl ?_;simp [IntKind.bits,f3,-Int.natCast_ediv];apply hK8;have f5:=bK (n:=(j:Int)+1) (by omega) (by omega);refine aad rfl ?_;simp [f5];refine⟨j+1,lo2.set (i+j) (m % 4294967296),m / 4294967296,Le.mk' _ (by simp) (by simp) (by simp),⟨by omega,by simp [g2],CU g3 _ (Nat.mod_lt _ (by omega)),?_,?_⟩,by omega⟩
   ·generalize x*y=p at hxy hm;omega
   ·rw [hb2,← hm,← Nat.add_assoc i j 1];exact BK g5 (by rw [hm];exact hset _)
  ·refine aao (by simp [hlj] <;> omega) ?_;refine aav ?_;simp;apply hK4;have ej:j=(dO b).length:=by omega
   subst ej;rw [aL (Nat.le_refl _)] at g5;have e1:IntKind.i64.wrap ((i:Int)+(dO b).length)=((i+(dO b).length:Nat):Int):=by rw [bK (by omega) (by omega)];omega
   have e2:=rT (n:=(c:Int)) (by omega) (by omega);have hz:(dO a).length - i=((dO a).length - i - 1)+1:=by omega
   have f2:ak (wK .u32 (lo2++List.replicate ((dO a).length - i) 0)) (i+(dO b).length) [CV.d (.int .u32 (c:Int))]=wK .u32 (lo2++[c]++List.replicate ((dO a).length - i - 1) 0):=by
    rw [eR _ (by simp;omega),hz,← g2,jg];simp
   have f6:i+(dO b).length<lo2.length+((dO a).length - i):=by omega
   refine aad rfl ?_;simp [e1,e2,f2,f6,-Int.natCast_add]
   repeat refine ag ?_
   apply hK3;have f5:=bK (n:=(i:Int)+1) (by omega) (by omega);refine aad rfl ?_;simp [f5];have f7:(dO a).length - (i+1)=(dO a).length - i - 1:=by omega
   refine⟨i+1,lo2++[c],Le.mk' _ (by simp [f7]) (by simp) (by simp),⟨by omega,by simp;omega,b8.2 ⟨g3,bB.2 ⟨g4,cg _⟩⟩,?_⟩,by omega⟩;rw [ey,g2,g5,br hlt,hxe,Nat.add_mul,Nat.mul_assoc]
 ·refine aao (by simp [hlt] <;> omega) ?_;refine aav ?_;simp;apply hK;have e2:i=(dO a).length:=by omega
  subst e2;refine aac fun K hK=>?_;refine aad rfl ?_;simp;rw [← h2]
  have hout:cN lo=aI 4294967296 (val 4294967296 (dO a)*val 4294967296 (dO b)):=by
   refine di (by decide) h3 ?_;rw [h4,aL (Nat.le_refl _)]
  refine fq.n7 0 1 0 (by simp;rfl) (by omega) (cZ _ _) (by simp) (by simp) (by simp) ?_;simp;apply hK;clear hK K;exact aag (κ:=0) (au.t (κ:=0) rfl 1 (by simp [hout]))
end Go.Am

namespace Go.Am
open Go.Am.Ty Go.Proofs N
theorem uO (G:List (List DV))(a:Option (List Nat))(b:Nat)(hb:b≠0)(ha:(dO a).length≤1000000000000) :
 aj Tryz.prog G 314 [nK .u32 a,.c (.d (.int .u32 b))] (.tup [nK .u32 (some (aI 4294967296 (val 4294967296 (dO a) / b))),.c (.d (.int .u32 ((val 4294967296 (dO a) % b:Nat):Int)))]):=by
 refine aZ.iQ 0 (by simp) (fun V v h=>gA h) fun hra=>?_;refine aZ.iQ 1 (by simp) (fun V v h=>Vw.qo h) fun hrb=>?_;have oka:ok 4294967296 (dO a):=fun d hd=>by have:=hra.2 d hd;simp only [nV] at this;omega
 rw [mX] at hrb;simp only [yz,nV] at hrb;refine aj.aH Tryz.func314 rfl (by rw [Tryz.ntmps314];simp) ?_;rintro⟨_,_,w0,F0,W0,_,bq,β0⟩ rfl rfl rfl;refine aac fun K hK=>?_;refine aad rfl ?_;simp;apply hK;clear hK K;refine aac fun K hK=>?_;refine aad rfl ?_;simp
 repeat refine ag ?_
 apply hK;clear hK K;refine aac fun K hK=>?_;refine aad rfl ?_;simp;apply hK;clear hK K;refine aac fun K hK=>aac fun K1 hK1=>?_;have e1:=bK (n:=((dO a).length:Int) - 1) (by omega) (by omega);refine aad rfl ?_;simp [e1];apply hK1;clear hK1 K1;refine aak ?_
 refine aax (fun (p:Nat × List Nat × Nat)=>⟨bt [(0,nK .u32 a),(1,.c (.d (.int .u32 b))),(4,.c (.aX 0 0 (dO a).length 1)),(6,.c (.d (.int .u64 p.2.2))),(7,.c (.d (.int .i64 ((p.1:Int) - 1))))],
  aJ (fun _=>.hole) 0 (.cells true false 322 (wK .u32 (List.replicate p.1 0++p.2.1)))⟩) 1
  (fun p=>p.1+p.2.1.length=(dO a).length∧ok 4294967296 p.2.1∧p.2.2<b∧val 4294967296 ((dO a).drop p.1)=val 4294967296 p.2.1*b+p.2.2)
  (fun p=>p.1) ((dO a).length,[],0) (Le.mk' _ (by simp [fu]) (by simp) (by simp)) (by simp [cg];omega) ?_
 rintro⟨k,qs,r⟩ ⟨h1,h2,h3,h4⟩;simp only at h1 h2 h3 h4;refine aac fun K3 hK3=>aac fun K4 hK4=>?_;refine aad rfl ?_;simp;apply hK4;clear hK4 K4
 cases k with
 | zero=>
  refine aat ?_;refine aav ?_;simp;apply hK;refine aac fun K hK=>?_;refine aad rfl ?_;simp;have e2:(dO a).length=qs.length:=by omega
  have e3:=rT (n:=(r:Int)) (by omega) (by omega);rw [e2];simp only [List.replicate_zero,List.nil_append,List.drop_zero] at *
  have hq:val 4294967296 (dO a) / b=val 4294967296 qs:=by
   rw [h4,Nat.add_comm,Nat.add_mul_div_right _ _ (by omega),Nat.div_eq_of_lt h3];omega
  have hr:val 4294967296 (dO a) % b=r:=by
   rw [h4,Nat.add_comm,Nat.add_mul_mod_self_right,Nat.mod_eq_of_lt h3]
  have hout:cN qs=aI 4294967296 (val 4294967296 (dO a) / b):=di (by decide) h2 hq.symm;refine fq.n7 0 1 0 (by simp;rfl) (by omega) (cZ _ _) (by simp) (by simp) (by simp) ?_;simp [e3];apply hK;clear hK K;exact aag (κ:=0) (au.o7 (κ:=0) rfl 1 (by simp [hout]) (by simp [hr]) (by simp) (by simp) (by simp) (by simp) rfl (by decide))
 | succ k=>
  have hk:k<(dO a).length:=by omega
  have e2:((k+1:Nat):Int) - 1=k:=by omega
  simp only [e2];refine aaq ?_;refine aah ?_;simp;apply hK3;refine aac fun K5 hK5=>?_;refine aak ?_;refine aac fun K6 hK6=>?_;have hx:(dO a)[k]<4294967296:=oka _ (List.getElem_mem hk);have hd:val 4294967296 ((dO a).drop k)=(dO a)[k]+4294967296*val 4294967296 ((dO a).drop (k+1)):=cz hk;generalize hxe:(dO a)[k]=x at hx hd;have f1:IntKind.u64.wrap ((r:Int)*4294967296)=((r*4294967296:Nat):Int):=by rw [c7 (by omega) (by omega)];omega
  have f2:=c7 (n:=(x:Int)) (by omega) (by omega);have f3:=qk (m:=r) (y:=x) (by omega) hx;refine aad rfl ?_;simp [hk,hxe,f1,f2,f3,IntKind.bits,-Int.natCast_add,-Int.natCast_mul];apply hK6;clear hK6 K6
  have hb1:r*4294967296+x<b*4294967296:=by
   have:(r+1)*4294967296≤b*4294967296:=Nat.mul_le_mul_right _ h3;omega
  generalize hm:r*4294967296+x=m at hb1;have g1:=c7 (n:=(b:Int)) (by omega) (by omega);have g2:m / b<4294967296:=by rw [Nat.div_lt_iff_lt_mul (by omega),Nat.mul_comm];exact hb1
  have hdm:=Nat.div_add_mod m b;have hml:m % b<b:=Nat.mod_lt _ (by omega);have g3:Int.tdiv (m:Int) b=((m / b:Nat):Int):=by rw [Int.tdiv_eq_ediv_of_nonneg (Int.natCast_nonneg m),← Int.natCast_ediv]
  have g8:Int.tmod (m:Int) b=((m % b:Nat):Int):=by rw [Int.tmod_eq_emod_of_nonneg (Int.natCast_nonneg m),← Int.natCast_emod]
  generalize m / b=q at g2 g3 hdm;generalize m % b=r' at g8 hdm hml;have g3':=c7 (n:=(q:Int)) (by omega) (by omega);have g4:=rT (n:=(q:Int)) (by omega) (by omega)
  have g5:ak (wK .u32 (List.replicate (k+1) 0++qs)) k [CV.d (.int .u32 (q:Int))]=wK .u32 (List.replicate k 0++(q::qs)):=by
   rw [eR _ (by simp;omega),nO]
  have g6:¬ ((b:Int)=0):=by omega
  have g7:(k:Int)<(dO a).length:=by omega
  refine aac fun K6 hK6=>?_;refine aad rfl ?_;simp [g1,g3,g3',g4,g5,hb,hk];apply hK6;clear hK6 K6;refine aad rfl ?_;simp [g1,g8,hb];apply hK5;have g9:=bK (n:=(k:Int) - 1) (by omega) (by omega);refine aad rfl ?_;simp [g9];refine⟨k,q::qs,r',Le.mk' _ (by simp) (by simp) (by simp),⟨by simp;omega,bB.2 ⟨g2,h2⟩,hml,?_⟩,by omega⟩;rw [hd,h4,bJ];have e9:4294967296*(val 4294967296 qs*b+r)=4294967296*val 4294967296 qs*b+r*4294967296:=by rw [Nat.mul_add,Nat.mul_assoc];omega
  rw [e9,Nat.add_mul,Nat.mul_comm q b];omega
end Go.Am

namespace Go.Am
open Go.Am.Ty Go.Proofs N
theorem fD (G:List (List DV))(n:Nat)(hn:n<18446744073709551616):aj Tryz.prog G 227 [.c (.d (.int .u64 n))] (nK .u32 (some (aI 4294967296 n))):=by
 refine aj.aH Tryz.func227 rfl (by rw [Tryz.ntmps227];simp) ?_;rintro⟨_,_,w0,F0,W0,_,bq,β0⟩ rfl rfl rfl;refine aac fun K hK=>?_;refine aad rfl ?_;simp;apply hK;clear hK K;refine aac fun K hK=>?_;have e1:IntKind.u32.wrap (n:Int)=((n % 4294967296:Nat):Int):=by rw [og];omega
 have e2:Int.fdiv (n:Int) 4294967296=((n / 4294967296:Nat):Int):=by rw [Int.fdiv_eq_ediv_of_nonneg _ (by omega)];omega
 have e3:IntKind.u32.wrap ((n / 4294967296:Nat):Int)=((n / 4294967296:Nat):Int):=rT (by omega) (by omega);have hok:ok 4294967296 [n % 4294967296,n / 4294967296]:=bB.2 ⟨by omega,bB.2 ⟨by omega,cg _⟩⟩;have hout:cN [n % 4294967296,n / 4294967296]=aI 4294967296 n:=di (by decide) hok (by simp;omega);generalize hq:n / 4294967296=q at *
 generalize hr:n % 4294967296=r at *
 refine aad rfl ?_;simp [IntKind.bits,e1,e2,e3,aq,iX,ak,mg];refine fq.n7 (l:=[r,q]) 0 1 0 (by simp [wK];rfl) (by simp) (cZ _ _) (by simp) (by simp) (by simp) ?_;simp;apply hK;clear hK K;exact aag (κ:=0) (au.t (κ:=0) rfl 1 (by simp [hout]))
theorem jc (G:List (List DV))(a:Option (List Nat))(ha:can 4294967296 (dO a)):aj Tryz.prog G 228 [nK .u32 a] (.c (.d (.bool (decide (val 4294967296 (dO a)=1))))):=by
 refine aj.aH Tryz.func228 rfl (by rw [Tryz.ntmps228];simp) ?_;rintro⟨_,_,w0,F0,W0,_,bq,β0⟩ rfl rfl rfl;refine aac fun K hK=>?_;refine aad rfl ?_;simp;apply hK;clear hK K;refine aac fun K hK=>?_
 have h0:(dO a).length=1↔∃ x,dO a=[x]:=by
  constructor
  ·intro h;match hd:dO a,h with|[x],_=>exact⟨x,rfl⟩
  ·rintro⟨x,h⟩;simp [h]
 by_cases hl:(dO a).length=1
 ·obtain⟨x,hx⟩:=h0.1 hl;have h1:0<(dO a).length:=by omega
  have h2:(dO a)[0]=x:=by simp [hx]
  have h3:val 4294967296 (dO a)=x:=by simp [hx]
  have h4:=fE (P:=Tryz.prog) (T:=222) (lv:=fun _=>.hole) (k:=.u32) (k':=.i64) (o:=a) (i:=0) (by simp) h1;simp only [Int.natCast_zero,h2] at h4;refine aad rfl ?_;simp [hl,h4];apply hK;clear hK K;have h5:(x:Int)=1↔x=1:=by omega
  exact aag (κ:=0) (au.t (κ:=0) rfl 0 (by simp [h3,h5]))
 ·have h3:¬ val 4294967296 (dO a)=1:=by
   intro h;have:=fV (by decide:2≤4294967296) ha h;rw [this] at hl;exact hl rfl
  have h4:¬ ((dO a).length:Int)=1:=by omega
  refine aad rfl ?_;simp [hl,h4];apply hK;clear hK K;exact aag (κ:=0) (au.t (κ:=0) rfl 0 (by simp [h3]))
end Go.Am

namespace Go.Am
open Go.Am.Ty Go.Proofs N
noncomputable def wj:Code:=match Tryz.f226.body with|some (.seq _ (.seq _ (.seq (.seq _ (.block _ (.rangeFunc _ _ _ b))) _)))=>b|_=>.skip
noncomputable def yt:Code:=match Tryz.f226.body with|some (.seq _ (.seq _ (.seq (.seq _ (.block _ (.rangeFunc _ _ b _))) _)))=>b|_=>.skip
def ja (u:List UInt8)(d:DV):Key→LB:=aJ (aJ (fun _=>.hole) 0 (.cells false false 9 [.d (.str u)])) 1 (.cells false false 222 [.d d])
theorem GQ (u:List UInt8)(d:DV):∀ k,ja u d k=.hole∨∃ T cs,ja u d k=.cells false false T cs:=by
 intro k;unfold ja aJ
 by_cases h1:k=1
 ·simp [h1]
 ·by_cases h0:k=0 <;> simp [h0,h1]
theorem LP (u:List UInt8)(d d':DV):aJ (ja u d) 1 (.cells false false 222 [.d d'])=ja u d':=by
 funext k;unfold ja aJ
 by_cases h1:k=1 <;> simp [h1]
set_option maxHeartbeats 2000000 in
theorem FN (G:List (List DV))(v sz:Nat)(hv:v<4294967296)(hz:sz<4294967296)(o:Option (List Nat))(dv:DV)(hdv:(.c (.d dv):AV)=nK .u32 o)(hl:(dO o).length≤100000000000)(L:Nat)(hL:L≤100000000000)(hval:val 4294967296 (dO o)<4294967296 ^ L)(u:List UInt8)(r:Option Nat)(fr:Nat→AV)
 (f3:fr 3=.c (.ptr 1 0)) (f4:fr 4=.c (.d (.int .u32 v))) (f5:fr 5=.c (.d (.int .u32 sz))) :
 ∀ c:Ctx,c.P=Tryz.prog→c.G=G→c.n=20→AW c r wj ⟨fr,ja u dv⟩ 0 (fun x s _=>x=.normal∧s.lv=ja u (.sl (dK .u32 (aI 4294967296 (val 4294967296 (dO o)*sz+v))))):=by
 rintro⟨_,Gc,w0,F0,W0,_,bq,β0⟩ rfl hG rfl;have hG:Gc=G:=hG;subst hG;have g1:ja u dv 1=.cells false false 222 [.d dv]:=by simp [ja]
 have g5:ja u dv 5=.hole:=by simp [ja,aJ]
 have w1:IntKind.u64.wrap (sz:Int)=sz:=c7 (by omega) (by omega);have w2:IntKind.u64.wrap (v:Int)=v:=c7 (by omega) (by omega);have hp:(AV.c (.d dv)).pure=true:=by rw [hdv];cases o <;> rfl
 have b1:(aI 4294967296 sz).length≤1:=cB (by decide) (by omega);have b2:(aI 4294967296 v).length≤1:=cB (by decide) (by omega)
 have b3:(aI 4294967296 (val 4294967296 (dO o)*sz)).length≤L+1:=cB (by decide) (by
  rw [Nat.pow_succ];exact Nat.lt_of_le_of_lt (Nat.mul_le_mul_left _ (Nat.le_of_lt hz)) (Nat.mul_lt_mul_of_pos_right hval (by decide)))
 have m1:aj Tryz.prog Gc 238 [.c (.d dv),nK .u32 (some (aI 4294967296 sz))] (nK .u32 (some (aI 4294967296 (val 4294967296 (dO o)*sz)))):=by
  have:=fK Gc o (some (aI 4294967296 sz)) (by omega) (by simp;omega);rw [← hdv] at this;simpa [bg] using this
 have m2:aj Tryz.prog Gc 280 [nK .u32 (some (aI 4294967296 (val 4294967296 (dO o)*sz))),nK .u32 (some (aI 4294967296 v))] (nK .u32 (some (aI 4294967296 (val 4294967296 (dO o)*sz+v)))):=by
  have:=qR Gc (some (aI 4294967296 (val 4294967296 (dO o)*sz))) (some (aI 4294967296 v)) (by simp;omega) (by simp;omega);simpa [bg] using this
 refine aak ?_;refine aay mixed (by kernel_rfl) rfl ?_;simp [f3,f4,f5,g1,w1,w2];refine ai.pure 0 5 (fD _ sz (by omega)) (by simp) (by simp) g5 ?_;simp;refine ai.pure 0 5 m1 (by simp) (by simp [hp]) g5 ?_;simp [f4,w2];refine ai.pure 0 5 (fD _ v (by omega)) (by simp) (by simp) g5 ?_;simp;refine ai.pure 0 5 m2 (by simp) (by simp) g5 ?_;generalize aI 4294967296 (val 4294967296 (dO o)*sz+v)=ds at *
 have e1:nK .u32 (some ds)=.c (.d (.sl (dK .u32 ds))):=rfl;simp [f3,g1,e1,ak];refine⟨by kernel_rfl,?_⟩;exact LP u dv (.sl (dK .u32 ds))
end Go.Am

namespace Go.Proofs
open Go.Shelf
def Tryz.Cp:Go.Shelf.Ren:=⟨fun|217=>255|266=>301|n=>n,fun|9=>9|5=>5|3=>3|n=>n,fun|n=>n⟩
theorem Tryz.J0:Go.Proofs.Lays.n217 Tryz.prog Tryz.Cp:={
 mixed:=by kernel_rfl
 f217:=Tryz.func255.trans (congrArg some (by kernel_rfl))
 f266:=Tryz.func301.trans (congrArg some (by kernel_rfl))
 t3:=Tryz.underlying3
 a3:=Tryz.isAgg3
 z3:=Tryz.sizeOf3
 v3:=Tryz.zeroValue3
 t5:=Tryz.underlying5
 a5:=Tryz.isAgg5
 z5:=Tryz.sizeOf5
 v5:=Tryz.zeroValue5
 t9:=Tryz.underlying9
 a9:=Tryz.isAgg9
 z9:=Tryz.sizeOf9
 v9:=Tryz.zeroValue9 }
def Tryz.Bt:Go.Shelf.Ren:=⟨fun|219=>253|217=>255|225=>298|224=>299|267=>300|266=>301|314=>341|n=>n,fun|9=>9|3=>3|4=>4|5=>5|46=>324|146=>371|51=>322|n=>n,fun|1=>4|n=>n⟩
theorem Tryz.JO:Go.Proofs.Lays.n219 Tryz.prog Tryz.Bt:={
 mixed:=by kernel_rfl
 f217:=Tryz.func255.trans (congrArg some (by kernel_rfl))
 f219:=Tryz.func253.trans (congrArg some (by kernel_rfl))
 f224:=Tryz.func299.trans (congrArg some (by kernel_rfl))
 f225:=Tryz.func298.trans (congrArg some (by kernel_rfl))
 f266:=Tryz.func301.trans (congrArg some (by kernel_rfl))
 f267:=Tryz.func300.trans (congrArg some (by kernel_rfl))
 f314:=Tryz.func341.trans (congrArg some (by kernel_rfl))
 t3:=Tryz.underlying3
 a3:=Tryz.isAgg3
 z3:=Tryz.sizeOf3
 v3:=Tryz.zeroValue3
 t4:=Tryz.underlying4
 a4:=Tryz.isAgg4
 z4:=Tryz.sizeOf4
 v4:=Tryz.zeroValue4
 t5:=Tryz.underlying5
 a5:=Tryz.isAgg5
 z5:=Tryz.sizeOf5
 v5:=Tryz.zeroValue5
 t9:=Tryz.underlying9
 a9:=Tryz.isAgg9
 z9:=Tryz.sizeOf9
 v9:=Tryz.zeroValue9
 t46:=Tryz.underlying324
 a46:=Tryz.isAgg324
 z46:=Tryz.sizeOf324
 v46:=Tryz.zeroValue324
 t51:=Tryz.underlying322
 a51:=Tryz.isAgg322
 z51:=Tryz.sizeOf322
 v51:=Tryz.zeroValue322
 t146:=Tryz.underlying371
 a146:=Tryz.isAgg371
 z146:=Tryz.sizeOf371
 v146:=Tryz.zeroValue371
 g1:=by kernel_rfl }
def Tryz.AR:Go.Shelf.Ren:=⟨fun|138=>175|195=>250|218=>252|143=>176|219=>253|217=>255|225=>298|224=>299|267=>300|266=>301|314=>341|n=>n,fun|9=>9|3=>3|4=>4|5=>5|0=>0|46=>324|146=>371|51=>322|n=>n,fun|1=>4|n=>n⟩
theorem Tryz.KG:Go.Proofs.Lays.n138 Tryz.prog Tryz.AR:={
 mixed:=by kernel_rfl
 f138:=Tryz.func175.trans (congrArg some (by kernel_rfl))
 f143:=Tryz.func176.trans (congrArg some (by kernel_rfl))
 f195:=Tryz.func250.trans (congrArg some (by kernel_rfl))
 f217:=Tryz.func255.trans (congrArg some (by kernel_rfl))
 f218:=Tryz.func252.trans (congrArg some (by kernel_rfl))
 f219:=Tryz.func253.trans (congrArg some (by kernel_rfl))
 f224:=Tryz.func299.trans (congrArg some (by kernel_rfl))
 f225:=Tryz.func298.trans (congrArg some (by kernel_rfl))
 f266:=Tryz.func301.trans (congrArg some (by kernel_rfl))
 f267:=Tryz.func300.trans (congrArg some (by kernel_rfl))
 f314:=Tryz.func341.trans (congrArg some (by kernel_rfl))
 t0:=Tryz.underlying0
 a0:=Tryz.isAgg0
 z0:=Tryz.sizeOf0
 v0:=Tryz.zeroValue0
 t3:=Tryz.underlying3
 a3:=Tryz.isAgg3
 z3:=Tryz.sizeOf3
 v3:=Tryz.zeroValue3
 t4:=Tryz.underlying4
 a4:=Tryz.isAgg4
 z4:=Tryz.sizeOf4
 v4:=Tryz.zeroValue4
 t5:=Tryz.underlying5
 a5:=Tryz.isAgg5
 z5:=Tryz.sizeOf5
 v5:=Tryz.zeroValue5
 t9:=Tryz.underlying9
 a9:=Tryz.isAgg9
 z9:=Tryz.sizeOf9
 v9:=Tryz.zeroValue9
 t46:=Tryz.underlying324
 a46:=Tryz.isAgg324
 z46:=Tryz.sizeOf324
 v46:=Tryz.zeroValue324
 t51:=Tryz.underlying322
 a51:=Tryz.isAgg322
 z51:=Tryz.sizeOf322
 v51:=Tryz.zeroValue322
 t146:=Tryz.underlying371
 a146:=Tryz.isAgg371
 z146:=Tryz.sizeOf371
 v146:=Tryz.zeroValue371
 g1:=by kernel_rfl }
open Go.RowKit Go.Lib in
theorem Tryz.stringslite_IndexByte (s:ByteArray)(c:Int)(w:World) :
 Calls Tryz.prog 255 #[.string s,.int .u8 c] w fun e w'=>e=.returned (.int .i64 (Lib.indexByte s.data.toList c.toNat.toUInt8))∧w'=w:=Any.stringslite_IndexByte Tryz.J0 s c w
open Go.RowKit Go.Lib in
theorem Tryz.stringslite_Index (s sub:ByteArray)(m:Int)(w:World)(hs:s.size<4294967281)(hm:w.cell? ⟨4,0,none⟩=some (.int .i64 m)) :
 Calls Tryz.prog 253 #[.string s,.string sub] w fun e w'=>e=.returned (.int .i64 (Lib.index s.data.toList sub.data.toList))∧w'=w:=Any.stringslite_Index Tryz.JO s sub m w hs hm
open Go.RowKit Go.Lib in
theorem Tryz.strings_Count_one (s:ByteArray)(c:UInt8)(w:World) :
 Calls Tryz.prog 175 #[.string s,.string ⟨#[c]⟩] w fun e w'=>e=.returned (.int .i64 (Lib.countByte s.data.toList c))∧w'=w:=Any.strings_Count_one Tryz.KG s c w
end Go.Proofs

namespace Go.Am
open Go.Proofs Go.Lib
def JG (T off len:Nat):Bool:=(Nat.beq T 140 && (Nat.beq off 0 && Nat.ble 2 len)) || (Nat.beq T 142 && (Nat.beq off 8 && Nat.ble 10 len))
theorem EI {T off len:Nat}(h:JG T off len=true):(T=140∧off=0∧2≤len)∨(T=142∧off=8∧10≤len):=by
 simp only [JG,Bool.or_eq_true,Bool.and_eq_true] at h;rcases h with ⟨h1,h2,h3⟩|⟨h1,h2,h3⟩
 ·exact .inl ⟨Nat.eq_of_beq_eq_true h1,Nat.eq_of_beq_eq_true h2,Nat.le_of_ble_eq_true h3⟩
 ·exact .inr ⟨Nat.eq_of_beq_eq_true h1,Nat.eq_of_beq_eq_true h2,Nat.le_of_ble_eq_true h3⟩
theorem MH:(Tryz.prog.info? 140).map (·.size)=some 2:=by kernel_rfl
theorem OL:Tryz.prog.cellsOf 140=2:=by kernel_rfl
theorem KE:Tryz.prog.cellsOf 142=10:=by kernel_rfl
theorem OM:∃ d,Tryz.prog.depth=d+1:=⟨Tryz.prog.depth - 1,by kernel_rfl⟩
theorem YE:rowAt Tryz.prog (sameLayout Tryz.prog Tryz.prog.depth · 140) Tryz.prog.depth 140 1 0 1=true:=by kernel_rfl
theorem Th:rowAt Tryz.prog (sameLayout Tryz.prog Tryz.prog.depth · 140) Tryz.prog.depth 142 1 8 1=true:=by kernel_rfl
theorem uN {p:Program}{fits:TypeId→Bool}{d:Nat}{e:TypeId}{c c' off n:Nat}(h:rowAt p fits d e c off n=true) (hc:c≤c'):rowAt p fits d e c' off n=true:=by
 cases d with
 | zero=>simp [rowAt] at h
 | succ d=>
  unfold rowAt at h ⊢;simp only at h ⊢;split at h
  ·cases h
  ·rename_i h0
   rw [if_neg h0];rw [Bool.or_eq_true] at h ⊢;rcases h with h|h
   ·left;simp only [Bool.and_eq_true,decide_eq_true_eq] at h ⊢;exact⟨⟨h.1.1,by omega⟩,h.2⟩
   ·right;rw [Bool.and_eq_true] at h ⊢;refine⟨?_,h.2⟩;have:=h.1;simp only [decide_eq_true_eq] at this ⊢;omega
theorem Su {T off n:Nat}(h:JG T off n=true):liesAt Tryz.prog Tryz.prog.depth T (n / Tryz.prog.cellsOf T) off 140 1=true:=by
 obtain⟨d,hd⟩:=OM
 have key:∀ T off c,rowAt Tryz.prog (sameLayout Tryz.prog Tryz.prog.depth · 140) Tryz.prog.depth T c off 1=true→liesAt Tryz.prog Tryz.prog.depth T c off 140 1=true:=by
  intro T off c h;rw [hd] at h ⊢;unfold liesAt;rw [hd,h];simp
 rcases EI h with ⟨rfl,rfl,h3⟩|⟨rfl,rfl,h3⟩
 ·rw [OL];exact key _ _ _ (uN YE (by omega))
 ·rw [KE];exact key _ _ _ (uN Th (by omega))
set_option maxHeartbeats 1000000 in
set_option maxRecDepth 100000 in
theorem KH (b off:Nat)(w:World)(h0:w.cell? ⟨b,off,none⟩=some (.pointer (some ⟨b,off,none⟩))) :
 Calls Tryz.prog 215 #[.pointer (some ⟨b,off,none⟩)] w fun e w'=>e=.returned (.tuple #[])∧w'=w:=by
 obtain⟨j,hj,_⟩:=Option.map_eq_some_iff.1 MH
 go_enter Tryz.func215,Tryz.ntmps215
 go_wp2
 rw [Lib.run_neq_ptr_same w _ Tryz.underlying137 hj]
 go_wp2
 go_end0
 exact⟨rfl,rfl⟩
set_option maxHeartbeats 1000000 in
set_option maxRecDepth 100000 in
theorem H8 (b off n:Nat)(T:TypeId)(w:World)(h0:w.cell? ⟨b,off,none⟩=some (.pointer none))(hn:JG T off n=true)(hsh:w.shape? b=some (T,n))(hfz:w.frozen? ⟨b,off,none⟩=false) :
 Calls Tryz.prog 215 #[.pointer (some ⟨b,off,none⟩)] w fun e w'=>e=.returned (.tuple #[])∧w'=w.setCell ⟨b,off,none⟩ (.pointer (some ⟨b,off,none⟩)):=by
 obtain⟨j,hj,hjs⟩:=Option.map_eq_some_iff.1 MH;have hlt:off<n:=by rcases EI hn with ⟨_,h1,h2⟩|⟨_,h1,h2⟩ <;> omega
 go_enter Tryz.func215,Tryz.ntmps215
 go_wp2
 rw [Lib.run_to_unsafe w ⟨b,off,none⟩ Tryz.underlying137 Tryz.underlying311 hj (by rw [hjs];decide) hsh hlt];simp only [Result.andThen];rw [Oper.upon_value]
 go_wp2
 rw [run_callFunc_extern Tryz.func271 (by kernel_rfl) (by kernel_rfl) (by kernel_rfl) (e:=Extern.AbiNoEscape.same) (by kernel_rfl)];rw [Lib.run_noEscape];simp only [Result.andThen];rw [Oper.upon_value]
 go_wp2
 rw [Lib.run_from_unsafe w ⟨b,off,none⟩ Tryz.underlying311 Tryz.underlying137 hj hsh (Su hn)];simp only [Result.andThen];rw [Oper.upon_value]
 go_wp2
 go_end0
 exact⟨rfl,rfl⟩
end Go.Am

namespace Go.Am
open Go.Proofs Go.Lib
theorem bS.of_same {P:Program}{G:List (List DV)}{f:FuncId}{us:List AV}{lv:Key→LB}{x:AV}(hx:x.flat=true)
 (h:∀ (F:Nat→Prop) (β:Key→Nat) (w:World) (vs:Array Value),cu (cH P G w F β lv) F β lv w→vs.size=us.length→(∀ i (h:i<us.length) (h':i<vs.size),(Vw.mk F β lv w).av vs[i] us[i]) →
  ∃ v,(Vw.mk F β lv w).av v x∧Calls P f vs w fun e w'=>e=.returned v∧w'=w):bS P G f us lv (.ret x lv):=by
 intro F β w vs hS hl hv;obtain⟨v,h1,h2⟩:=h F β w vs hS hl hv;refine h2.mono fun e w' he=>?_;obtain⟨rfl,rfl⟩:=he;exact⟨v,F,β,rfl,hS,h1⟩
theorem args1 {V:Vw}{vs:Array Value}{x:AV}(hl:vs.size=[x].length) (hv:∀ i (h:i < [x].length) (h':i<vs.size),V.av vs[i] [x][i]):∃ u,vs=#[u]∧V.av u x:=by
 have h1:vs.size=1:=hl;refine⟨vs[0],?_,hv 0 (by simp) (by omega)⟩;apply Array.ext
 ·simpa using h1
 ·intro i p q;have:i=0:=by omega
  subst this;rfl
theorem args2 {V:Vw}{vs:Array Value}{x y:AV}(hl:vs.size=[x,y].length) (hv:∀ i (h:i < [x,y].length) (h':i<vs.size),V.av vs[i] [x,y][i]):∃ u v,vs=#[u,v]∧V.av u x∧V.av v y:=by
 have h1:vs.size=2:=hl;refine⟨vs[0],vs[1],?_,hv 0 (by simp) (by omega),hv 1 (by simp) (by omega)⟩;apply Array.ext
 ·simpa using h1
 ·intro i p q;have:i=0∨i=1:=by omega
  rcases this with rfl|rfl <;> rfl
def vA:List UInt8→List UInt8→Bool
 | [],_=>true
 | a::l,b::m=>Nat.beq a.toNat b.toNat && vA l m
 | _::_,[]=>false
theorem BA (a b:UInt8):Nat.beq a.toNat b.toNat=(a == b):=by
 rw [Bool.eq_iff_iff];constructor
 ·intro h;have:=Nat.eq_of_beq_eq_true h;simpa using UInt8.toNat_inj.1 this
 ·intro h;have:a=b:=by simpa using h
  rw [this];exact Nat.beq_refl _
theorem uR:∀ (l m:List UInt8),vA l m=l.isPrefixOf m
 | [],m=>by simp [vA]
 | a::l,b::m=>by simp only [vA,List.isPrefixOf,BA,uR l m]
 | a::l,[]=>by simp [vA]
def yS (t:List UInt8):List UInt8→Nat→Option Nat
 | [],i=>bif vA t [] then some i else none
 | a::l,i=>bif vA t (a::l) then some i else yS t l (Nat.succ i)
def zI:Option Nat→Int
 | some i=>Int.ofNat i
 | none=>Int.negSucc 0
theorem EP (t:List UInt8):∀ (s:List UInt8) (i:Nat),zI (yS t s i)=if Lib.index s t = -1 then -1 else Lib.index s t+i
 | [],i=>by
  simp only [yS,uR,Lib.index]
  cases t with
  | nil=>simp [zI]
  | cons a t=>simp [zI]
 | a::l,i=>by
  have ih:=EP t l (Nat.succ i);have e:Lib.index (a::l) t=if t.isPrefixOf (a::l) then 0 else (if Lib.index l t == -1 then -1 else Lib.index l t+1):=by simp only [Lib.index]
  simp only [yS,uR]
  cases hp:t.isPrefixOf (a::l) with
  | true=>
   have e2:Lib.index (a::l) t=0:=by rw [e,if_pos hp]
   rw [e2];simp [zI]
  | false=>
   have e2:Lib.index (a::l) t=if Lib.index l t == -1 then -1 else Lib.index l t+1:=by rw [e,if_neg (by simp [hp])]
   rw [e2];simp only [cond_false];rw [ih]
   by_cases h:Lib.index l t = -1
   ·simp [h]
   ·have hge:=index_ge l t;have h2:¬ (Lib.index l t+1 = -1):=by omega
    have h3:(Lib.index l t == -1)=false:=by simpa using h
    rw [h3,if_neg h];simp only [Bool.false_eq_true,if_false];rw [if_neg h2];omega
theorem lA (s t:List UInt8):Lib.index s t=zI (yS t s 0):=by
 rw [EP];split
 ·assumption
 ·simp
theorem index_one (s:List UInt8)(c:UInt8):Lib.indexByte s c=Lib.index s [c]:=by
 induction s with
 | nil=>simp [Lib.indexByte,Lib.index]
 | cons a s ih=>
  simp only [Lib.indexByte,Lib.index,ih]
  have:[c].isPrefixOf (a::s)=(a == c):=by
   simp only [List.isPrefixOf,Bool.and_true];exact BEq.comm
  rw [this]
def zu:List AV→Option AV
 | [.c (.d (.str s)),.c (.d (.str t))]=>bif Nat.blt s.length 4294967281 then some (.c (.d (.int .i64 (zI (yS t s 0))))) else none
 | _=>none
def uo:List AV→Option AV
 | [.c (.d (.str s)),.c (.d (.int .u8 (.ofNat n)))]=>bif Nat.blt s.length 4294967281 then some (.c (.d (.int .i64 (zI (yS [UInt8.ofNat n] s 0))))) else none
 | _=>none
def ze (c:Nat):List UInt8→Nat
 | []=>0
 | a::l=>bif Nat.beq a.toNat c then Nat.succ (ze c l) else ze c l
theorem zM (c:UInt8):∀ l:List UInt8,ze c.toNat l=Lib.countByte l c
 | []=>rfl
 | a::l=>by
  have ih:=zM c l;unfold Lib.countByte at *
  simp only [ze,BA,List.count_cons]
  cases (a == c) <;> simp [ih]
def zA:List AV→Option AV
 | [.c (.d (.str s)),.c (.d (.str [t]))]=>bif Nat.blt s.length 4294967281 then some (.c (.d (.int .i64 (.ofNat (ze t.toNat s))))) else none
 | _=>none
theorem Aq {V:Vw}{n:Int}(h:-9223372036854775808≤n∧n≤9223372036854775807):V.av (.int .i64 n) (.c (.d (.int .i64 n))):=
 Vw.iT _ _ _ (cA (by simpa [yz,nV] using h))
theorem xE (s t:List UInt8)(h:s.length<4294967281):-9223372036854775808≤Lib.index s t∧Lib.index s t≤9223372036854775807:=by
 have h1:=index_ge s t
 have h2:Lib.index s t≤s.length:=by
  clear h h1
  induction s with
  | nil=>simp only [Lib.index];split <;> simp
  | cons a s ih=>
   simp only [Lib.index];split
   ·simp;omega
   ·split <;> simp <;> omega
 omega
theorem Gw {P:Program}{G:List (List DV)}{w:World}{F:Nat→Prop}{β:Key→Nat}{lv:Key→LB}{g:Nat}{k:IntKind}{n:Int}(hS:cu (cH P G w F β lv) F β lv w) (hg:G[g]?=some [.int k n]):w.cell? ⟨g,0,none⟩=some (.int k n):=by
 have:=hS.mH g _ hg
 cases this with
 | ptr b off vs cs hm ho hr=>
  have h1:=hm 0 (by simp);have h2:=hr 0 (by simp);simp only [List.getElem_cons_zero] at h2;have h3:=h1.2;generalize vs 0=u at h2 h3
  cases h2
  exact h3
theorem Gb (m:Int){us:List AV}{x:AV}(h:zu us=some x) (lv:Key→LB):bS Tryz.prog (GG m) 253 us lv (.ret x lv):=by
 unfold zu at h;split at h
 ·rename_i s t
  cases hb:Nat.blt s.length 4294967281 with
  | false=>rw [hb] at h;cases h
  | true=>
   rw [hb] at h;simp only [cond_true,Option.some.injEq] at h;subst h;have hs:s.length<4294967281:=Nat.le_of_ble_eq_true hb;refine bS.of_same (by rfl) fun F β w vs hS hl hv=>?_;obtain⟨u,v,rfl,hu,hv⟩:=args2 hl hv;have:=Tryz.stringslite_Index ⟨s.toArray⟩ ⟨t.toArray⟩ m w (by rw [cM];exact hs) (Gw hS rfl);refine⟨.int .i64 (zI (yS t s 0)),?_,?_⟩
   ·rw [← lA];exact Aq (xE s t hs)
   ·rw [Vw.hO hu,Vw.hO hv];simpa [lA] using this
 ·cases h
theorem D6 (m:Int){us:List AV}{x:AV}(h:uo us=some x) (lv:Key→LB):bS Tryz.prog (GG m) 255 us lv (.ret x lv):=by
 unfold uo at h;split at h
 ·rename_i s n
  cases hb:Nat.blt s.length 4294967281 with
  | false=>rw [hb] at h;cases h
  | true=>
   rw [hb] at h;simp only [cond_true,Option.some.injEq] at h;subst h;have hs:s.length<4294967281:=Nat.le_of_ble_eq_true hb;refine bS.of_same (by rfl) fun F β w vs hS hl hv=>?_;obtain⟨u,v,rfl,hu,hv⟩:=args2 hl hv;have:=Tryz.stringslite_IndexByte ⟨s.toArray⟩ n w;refine⟨.int .i64 (zI (yS [UInt8.ofNat n] s 0)),?_,?_⟩
   ·rw [← lA];exact Aq (xE s _ hs)
   ·rw [Vw.hO hu,Vw.eM hv];simpa [← lA,index_one] using this
 ·cases h
theorem FA (m:Int){us:List AV}{x:AV}(h:zA us=some x) (lv:Key→LB):bS Tryz.prog (GG m) 175 us lv (.ret x lv):=by
 unfold zA at h;split at h
 ·rename_i s t
  cases hb:Nat.blt s.length 4294967281 with
  | false=>rw [hb] at h;cases h
  | true=>
   rw [hb] at h;simp only [cond_true,Option.some.injEq] at h;subst h;have hs:s.length<4294967281:=Nat.le_of_ble_eq_true hb;refine bS.of_same (by rfl) fun F β w vs hS hl hv=>?_;obtain⟨u,v,rfl,hu,hv⟩:=args2 hl hv;have:=Tryz.strings_Count_one ⟨s.toArray⟩ t w;have hle:ze t.toNat s≤s.length:=by rw [zM];exact List.count_le_length
   refine⟨.int .i64 (.ofNat (ze t.toNat s)),?_,?_⟩
   ·exact Aq ⟨by show _≤((ze t.toNat s:Nat):Int);omega,by show ((ze t.toNat s:Nat):Int)≤_;omega⟩
   ·rw [Vw.hO hu,Vw.hO hv];simpa [zM] using this
 ·cases h
end Go.Am

namespace Go.Am
open Go.Proofs Go.Lib
theorem tf {w:World}{b:Nat}{arr:Array Value}{T:TypeId}{v:Value}{fr:Nat × Nat}(hb:w.heap[b]?=some (.cells arr T fr)) (off:Nat) :
 w.setCell ⟨b,off,none⟩ v=w.setRow b (arr.setIfInBounds off v):=by
 unfold World.setCell World.setRow
 have:(w.heap.modify b fun
  | .cells c elem frozen=>.cells (c.setIfInBounds off v) elem frozen
  | o=>o)=w.heap.modify b fun
  | .cells _ elem frozen=>.cells (arr.setIfInBounds off v) elem frozen
  | o=>o:=by
  apply Array.ext
  ·simp
  ·intro i p q;simp only [Array.getElem_modify];split
   ·rename_i hi
    subst hi;obtain⟨h1,h2⟩:=Array.getElem?_eq_some_iff.1 hb;rw [h2]
   ·rfl
 simp only [Option.isSome_none,Bool.false_eq_true,if_false];exact congrArg (fun h=>({ w with heap:=h }:World)) this
theorem G1 {T off n m:Nat}(h:JG T off n=true) (hm:n≤m):JG T off m=true:=by
 have key:∀ k,n≤m→Nat.ble k n=true→Nat.ble k m=true:=fun k h1 h2=>Nat.ble_eq_true_of_le (Nat.le_trans (Nat.le_of_ble_eq_true h2) h1)
 simp only [JG,Bool.or_eq_true,Bool.and_eq_true] at h ⊢;rcases h with ⟨h1,h2,h3⟩|⟨h1,h2,h3⟩
 ·exact .inl ⟨h1,h2,key _ hm h3⟩
 ·exact .inr ⟨h1,h2,key _ hm h3⟩
theorem Fc {α:Type}{cs r:List α}{x:α}{off:Nat}(h:cs.drop off=x::r):∃ hlt:off<cs.length,cs[off]=x:=by
 have hlt:off<cs.length:=by
  apply Classical.byContradiction;intro hc;rw [List.drop_eq_nil_of_le (by omega)] at h;cases h
 rw [List.drop_eq_getElem_cons hlt] at h;simp only [List.cons.injEq] at h;exact⟨hlt,h.1⟩
theorem F6 (m:Int)(lv:Key→LB)(k off T:Nat)(cs r:List CV)(hk:lv k=.cells false false T cs)(hc:cs.drop off=.ptr k off::r) :
 bS Tryz.prog (GG m) 215 [.c (.ptr k off)] lv (.ret (.tup []) lv):=by
 intro F β w vs hS hl hv;obtain⟨u,rfl,hu⟩:=args1 hl hv
 have hu1:u=.pointer (some ⟨β k,off,none⟩):=by
  obtain⟨h1,_⟩:=hu;simpa only [Vw.cO,hk] using h1
 subst hu1;have hb:=hS.bG k;unfold Vw.bG at hb;simp only [hk] at hb;obtain⟨arr,b1,b2,b3,_⟩:=hb;obtain⟨hlt,hx⟩:=Fc hc;have hpos:off<arr.size:=by omega
 have h0:=b3 off hlt hpos;rw [hx] at h0;obtain⟨h0,_⟩:=h0;simp only [Vw.cO,hk] at h0
 have hcell:w.cell? ⟨β k,off,none⟩=some (.pointer (some ⟨β k,off,none⟩)):=by
  rw [cell_of_heap b1];simp [hpos,h0]
 refine (KH _ _ w hcell).mono fun e w' he=>?_;obtain⟨rfl,rfl⟩:=he;exact⟨_,F,β,rfl,hS,⟨#[],rfl,rfl,fun i h=>absurd h (by simp)⟩⟩
theorem DO (m:Int)(lv:Key→LB)(k off T:Nat)(cs r:List CV)(hok:JG T off cs.length=true)(hk:lv k=.cells false false T cs)(hc:cs.drop off=.d .nilp::r) :
 bS Tryz.prog (GG m) 215 [.c (.ptr k off)] lv (.ret (.tup []) (aJ lv k (.cells false false T (ak cs off [.ptr k off])))):=by
 intro F β w vs hS hl hv;obtain⟨u,rfl,hu⟩:=args1 hl hv
 have hu1:u=.pointer (some ⟨β k,off,none⟩):=by
  obtain⟨h1,_⟩:=hu;simpa only [Vw.cO,hk] using h1
 subst hu1;have hb:=hS.bG k;unfold Vw.bG at hb;simp only [hk] at hb;obtain⟨arr,b1,b2,b3,_⟩:=hb;obtain⟨hlt,hx⟩:=Fc hc;have hpos:off<arr.size:=by omega
 have h0:=b3 off hlt hpos;rw [hx] at h0
 have h0':arr[off]=.pointer none:=by
  obtain⟨h0,_⟩:=h0;have h0:Rd _ arr[off] .nilp:=h0;generalize arr[off]=v at h0
  cases h0;rfl
 have hcell:w.cell? ⟨β k,off,none⟩=some (.pointer none):=by
  rw [cell_of_heap b1];simp [hpos,h0']
 refine (H8 _ off arr.size T w hcell (G1 hok b2) (by simp [World.shape?,b1]) (frozen_of_heap b1 off)).mono fun e w' he=>?_;obtain⟨rfl,rfl⟩:=he;have hset:=tf (v:=.pointer (some ⟨β k,off,none⟩)) b1 off;have hle:off+[CV.ptr k off].length≤cs.length:=by simp;omega
 have hS2:=hS.setRow (arr:=arr.setIfInBounds off (.pointer (some ⟨β k,off,none⟩))) (cs':=ak cs off [.ptr k off]) hk b1 (by simp) (by rw [aQ _ _ _ hle];simpa using b2) (by
  intro i p q;rw [Array.getElem_setIfInBounds (by simpa using q),cS _ _ _ hle i p]
  by_cases hi:off=i
  ·subst hi;rw [if_pos rfl,dif_pos ⟨Nat.le_refl _,by simp⟩];simp only [Nat.sub_self,List.getElem_cons_zero];refine⟨?_,rfl⟩;simp only [Vw.cO,hk]
  ·rw [if_neg hi,dif_neg (by simp;omega)];exact b3 i _ _)
 rw [hset];exact⟨_,F,β,rfl,hS2,⟨#[],rfl,rfl,fun i h=>absurd h (by simp)⟩⟩
end Go.Am

namespace Go.Am
open Go.Proofs Go.Lib Go.RowKit
set_option maxHeartbeats 1000000 in
set_option maxRecDepth 100000 in
theorem CF (p:Addr)(w:World) :
 CallsD Tryz.prog 110 #[.pointer (some p)] .returning w fun e u' w'=>e=.returned (.tuple #[])∧u'=.returning∧w'=w:=by
 refine callsD_of_wpS Tryz.func110 rfl fun c₀ cs hu=>?_;apply wpS_seq;apply wpS_region;simp [wpOpsS,go_sem,recoverD,hu,Tryz.ntmps110,Exit.thenS];refine wpS_of_wp ?_
 go_wp2
 cases c₀
 simp_all [bodyPostS,results,Tryz.results110]
set_option maxHeartbeats 1000000 in
set_option maxRecDepth 100000 in
theorem Gr (b:Nat)(n m:Int)(w:World)(hc:w.cell? ⟨b,0,none⟩=some (.int .i64 m))(hz:w.frozen? ⟨b,0,none⟩=false) :
 CallsD Tryz.prog 110 #[.pointer (some ⟨b,0,none⟩)] (.panicking [{ v:=.iface 179 (.agg #[.int .i64 n]),recovered:=false }]) w fun e u' w'=>e=.returned (.tuple #[])∧u'=.panicking [{ v:=.iface 179 (.agg #[.int .i64 n]),recovered:=true }]∧w'=(w.setCell ⟨b,0,none⟩ (.int .i64 n)).alloc (.cells #[.int .i64 n] 179):=by
 have ha:∀ (d:Value) (w:World),(Instr.typeAssert (.iface 179 d) 20 179 true).run Tryz.prog w=.ok (.tuple #[d,.bool true]) w:=by
  intro d w;simp [Instr.typeAssert,run_underlying Tryz.underlying179]
 have hlt:b<w.heap.size:=by
  rcases Nat.lt_or_ge b w.heap.size with h'|h'
  ·exact h'
  ·simp [World.cell?,Array.getElem?_eq_none h'] at hc
 have hcA:(w.alloc (.cells #[.int .i64 n] 179)).cell? ⟨b,0,none⟩=some (.int .i64 m):=by rw [World.cell?_alloc_lt _ _ ⟨b,0,none⟩ hlt];exact hc
 have hzA:(w.alloc (.cells #[.int .i64 n] 179)).frozen? ⟨b,0,none⟩=false:=by
  unfold World.frozen? at hz ⊢;rw [heap_alloc,if_neg (by simp;omega)];exact hz
 refine callsD_of_wpS Tryz.func110 rfl fun c₀ cs hu=>?_;apply wpS_seq;apply wpS_region;simp [wpOpsS,go_sem,recoverD,hu,Tryz.ntmps110,Exit.thenS];refine wpS_of_wp ?_
 go_wp2
 cases c₀
 simp_all [bodyPostS,results,Tryz.results110]
end Go.Am

namespace Go.Am
open Go.Proofs Go.Lib Go.RowKit
set_option maxRecDepth 100000 in
theorem DB (t:FuncId)(fs cs:Array Value)(w:World)(Q:World→Prop)(hf:aK Tryz.prog t=true)
 (h:Calls Tryz.prog t (fs++cs) (w.alloc (.cells #[.int .i64 0] 31)) fun e w2=>(∃ v,e=.returned v)∧Q w2∧w2.cell? ⟨w.heap.size,0,none⟩=some (.int .i64 0)∧w2.frozen? ⟨w.heap.size,0,none⟩=false) :
 Calls Tryz.prog 59 #[.func (.func t) fs cs] w fun e w'=>∃ w2,Q w2∧w2.cell? ⟨w.heap.size,0,none⟩=some (.int .i64 0)∧e=.returned (.int .i64 0)∧w'=w2.setCell ⟨w.heap.size,0,none⟩ (.int .i64 0):=by
 have hmf:∀ (fn:Fn) (first cap:Array Value) (w:World),(Instr.makeFunc fn first cap).run Tryz.prog w=.ok (.func fn first cap) w:=fun _ _ _ _=>rfl
 have hcall:∀ (args:Array Value) (w:World),(callFunc t args).run Tryz.prog w=.ok (.enter t args) w:=fun args w=>gV hf args w
 go_enter_defers Tryz.func59,Tryz.ntmps59
 go_wp2
 refine h.mono ?_;rintro e w2 ⟨⟨v,rfl⟩,hQ,hc,hz⟩;simp only
 go_wp2
 refine leaves_cons (f:=110) (args:=#[.pointer (some ⟨w.heap.size,0,none⟩)]) (by simp) (by simp [go_sem]) ?_;refine (CF ⟨w.heap.size,0,none⟩ _).mono ?_;rintro e u' w'' ⟨rfl,rfl,rfl⟩;simp [Leaves,settle,results,Tryz.results59,go_sem,hc];exact⟨w2,hQ,hc,rfl⟩
set_option maxRecDepth 100000 in
theorem CC (t:FuncId)(fs cs:Array Value)(w:World)(Q:World→Prop)(n:Int)(hf:aK Tryz.prog t=true)
 (h:Calls Tryz.prog t (fs++cs) (w.alloc (.cells #[.int .i64 0] 31)) fun e w2=>e=.panicked [{ v:=.iface 179 (.agg #[.int .i64 n]),recovered:=false }]∧Q w2∧w2.cell? ⟨w.heap.size,0,none⟩=some (.int .i64 0)∧w2.frozen? ⟨w.heap.size,0,none⟩=false) :
 Calls Tryz.prog 59 #[.func (.func t) fs cs] w fun e w'=>∃ w2,Q w2∧w2.cell? ⟨w.heap.size,0,none⟩=some (.int .i64 0)∧e=.returned (.int .i64 n)∧w'=(w2.setCell ⟨w.heap.size,0,none⟩ (.int .i64 n)).alloc (.cells #[.int .i64 n] 179):=by
 have hmf:∀ (fn:Fn) (first cap:Array Value) (w:World),(Instr.makeFunc fn first cap).run Tryz.prog w=.ok (.func fn first cap) w:=fun _ _ _ _=>rfl
 have hcall:∀ (args:Array Value) (w:World),(callFunc t args).run Tryz.prog w=.ok (.enter t args) w:=fun args w=>gV hf args w
 go_enter_defers Tryz.func59,Tryz.ntmps59
 go_wp2
 refine h.mono ?_;rintro e w2 ⟨rfl,hQ,hc,hz⟩;simp only;refine leaves_cons (f:=110) (args:=#[.pointer (some ⟨w.heap.size,0,none⟩)]) (by simp) (by simp [go_sem]) ?_;refine (Gr w.heap.size n 0 _ hc hz).mono ?_;rintro e u' w'' ⟨rfl,rfl,rfl⟩
 have hlt:w.heap.size<w2.heap.size:=by
  rcases Nat.lt_or_ge w.heap.size w2.heap.size with h'|h'
  ·exact h'
  ·simp [World.cell?,Array.getElem?_eq_none h'] at hc
 have hc2:((w2.setCell ⟨w.heap.size,0,none⟩ (.int .i64 n)).alloc (.cells #[.int .i64 n] 179)).cell? ⟨w.heap.size,0,none⟩=some (.int .i64 n):=by
  rw [World.cell?_alloc_lt _ _ ⟨w.heap.size,0,none⟩ (by simpa [World.setCell] using hlt)];exact World.cell?_setCell_same _ _ _ hc
 simp [Leaves,settle,results,Tryz.results59,go_sem,hc2];exact⟨w2,hQ,hc,rfl⟩
end Go.Am

namespace Go.Am
open Go.Proofs Go.Lib
theorem aE.far {c:Ctx}{F:Nat→Prop}{β:Key→Nat}{s:aG}{a:Act}{w w':World}(h:aE c F β s a w) (B:Nat→Prop)
 (hs:∀ b,¬ B b→b<w.heap.size→w'.heap[b]?=w.heap[b]?) (hF:∀ b,B b→¬ F b) (hL:∀ k,(s.lv k).live=true→¬ B (β k)) (hW:∀ b,B b→c.w0.heap.size≤b)
 (hsz:w.heap.size≤w'.heap.size) (ha:∀ b,b9 w b≤b9 w' b) (hoo:w'.os=w.os∧w'.output=w.output:=by exact⟨rfl,rfl⟩):aE c F β s a w':=by
 have hm:∀ b,F b→w'.heap[b]?=w.heap[b]?:=fun b hb=>hs b (fun hB=>hF b hB hb) (h.kH b hb).1
 have:=h.step (hoo:=hoo) (F':=F) (β':=β) (lv':=s.lv) (w':=w') (fun _ h=>h) hm (fun k=>LB.bz _) (fun _ _ _=>rfl) ha ?_ h.inj (fun b hb=>.inl hb) hsz ?_
 ·exact this
 ·intro k hK;have hb:=h.bG k
  have key:(s.lv k).live=true→(Vw.mk F β s.lv w').bG c k:=fun hl=>
   Vw.bD hb hK rfl rfl (hs _ (hL k hl) (h.eZ hl)) (fun _ h=>h)
  cases e:s.lv k with
  | cells own fz T cs=>
   cases fz with
   | false=>exact key (by rw [e];rfl)
   | true=>
    refine Vw.bD hb hK rfl rfl (hm _ ?_) (fun _ h=>h);unfold Vw.bG at hb;simp only [e] at hb;obtain⟨x,h1,h2,h3,h4,h5⟩:=hb;simpa using h4
  | map own es=>exact key (by rw [e];rfl)
  | hole=>unfold Vw.bG;simp only [e]
  | dead=>unfold Vw.bG;simp only [e]
  | nils=>unfold Vw.bG;simp only [e]
 ·intro b hb hW0;exact hs b (fun hB=>by have:=hW b hB;omega) (Nat.lt_of_lt_of_le hb h.ge)
theorem aE.qL {c:Ctx}{F:Nat→Prop}{β:Key→Nat}{s:aG}{a:Act}{w:World}(h:aE c F β s a w) (o:Obj):aE c F β s a (w.alloc o):=
 h.far (fun _=>False) (fun b _ hb=>by rw [heap_alloc,if_neg (by omega)]) (fun _ h=>h.elim) (fun _ _ h=>h.elim) (fun _ h=>h.elim) (by simp) (gT w o)
theorem aE.HS {c:Ctx}{F:Nat→Prop}{β:Key→Nat}{s:aG}{a:Act}{w:World}(h:aE c F β s a w) {b:Nat}{arr:Array Value}{T:TypeId}{fr:Nat × Nat}(hb:w.heap[b]?=some (.cells arr T fr)) (v:Value)
 (hF:¬ F b) (hL:∀ k,(s.lv k).live=true→β k≠b) (hW:c.w0.heap.size≤b):aE c F β s a (w.setCell ⟨b,0,none⟩ v):=by
 rw [tf hb];refine h.far (fun x=>x=b) (fun x hx _=>setRow_other _ _ _ _ hx) (fun x hx=>hx ▸ hF) (fun k hk=>hL k hk) (fun x hx=>hx ▸ hW) (by simp) (fun x=>?_);rw [fT w b arr _ T fr hb (by simp)];exact Nat.le_refl _
theorem xC {P:Program}{G:List (List DV)}{t:FuncId}{us:List AV}{lv:Key→LB}{o:HW}(ho:cD lv) (hc:bS P G t us lv o) {F:Nat→Prop}{β:Key→Nat}{w:World}{vs:Array Value}
 (hS:cu (cH P G w F β lv) F β lv w) (hl:vs.size=us.length) (hv:∀ i (h:i<us.length) (h':i<vs.size),(Vw.mk F β lv w).av vs[i] us[i]) (ob:Obj) :
 Calls P t vs (w.alloc ob) fun e w2=>w2.heap[w.heap.size]?=some ob∧match o with
  | .ret _ lv'=>(∃ v,e=.returned v)∧∃ F' β',cu (cH P G w F β lv) F' β' lv' w2∧¬ F' w.heap.size∧∀ k,(lv' k).live=true→β' k≠w.heap.size
  | .p7 d lv'=>∃ v,e=.panicked [{ v:=v,recovered:=false }]∧∃ F' β',cu (cH P G w F β lv) F' β' lv' w2∧¬ F' w.heap.size∧(∀ k,(lv' k).live=true→β' k≠w.heap.size)∧Rd (kA w2 F') v d:=by
 have h1:=aE.qL hS ob;have h2:cu (cH P G (w.alloc ob) F β lv) F β lv (w.alloc ob):=h1.sB ho
 have OS:∀ i (h:i<us.length) (h':i<vs.size),(Vw.mk F β lv (w.alloc ob)).av vs[i] us[i]:=fun i p q=>
  (Vw.gZ (V:=Vw.mk F β lv w) (V':=Vw.mk F β lv (w.alloc ob)) (fun _ h=>h) (fun b hb=>by
   have:=(hS.kH b hb).1;show (w.alloc ob).heap[b]?=_;rw [heap_alloc,if_neg (by omega)]) (fun k=>LB.bz _) (fun _ _ _=>rfl) (gT w ob)).av (hv i p q)
 have key:∀ F' β' lv' w2,cu (cH P G (w.alloc ob) F β lv) F' β' lv' w2→w2.heap[w.heap.size]?=some ob∧cu (cH P G w F β lv) F' β' lv' w2∧¬ F' w.heap.size∧∀ k,(lv' k).live=true→β' k≠w.heap.size:=by
  intro F' β' lv' w2 hX;have hsz:(w.alloc ob).heap.size=w.heap.size+1:=by show (w.heap.push ob).size=_;exact Array.size_push _
  refine⟨?_,?_,?_,?_⟩
  ·have:=hX.old w.heap.size (by show w.heap.size<(w.alloc ob).heap.size;omega) (by
    rintro⟨k,hk,he⟩;have:=hS.eZ (k:=k) hk;omega)
   rw [this];show (w.alloc ob).heap[w.heap.size]?=_;rw [heap_alloc,if_pos rfl]
  ·exact h1.yu hX
  ·intro hb;rcases (hX.kH _ hb).2 with h3|h3
   ·have:=(hS.kH _ h3).1;omega
   ·have:(w.alloc ob).heap.size≤w.heap.size:=h3;omega
  ·intro k hk he;rcases hX.dY (k:=k) hk with h3|⟨j,hj,hj2⟩
   ·have:(w.alloc ob).heap.size≤β' k:=h3;omega
   ·have:=hS.eZ (k:=j) hj;omega
 refine (hc F β (w.alloc ob) vs h2 hl OS).mono fun e w2 he=>?_
 cases o with
 | ret x lv'=>
  obtain⟨v,F',β',rfl,hX,_⟩:=he;obtain⟨k1,k2,k3,k4⟩:=key _ _ _ _ hX;exact⟨k1,⟨v,rfl⟩,F',β',k2,k3,k4⟩
 | p7 d lv'=>
  obtain⟨v,F',β',rfl,hX,hr⟩:=he;obtain⟨k1,k2,k3,k4⟩:=key _ _ _ _ hX;exact⟨k1,v,rfl,F',β',k2,k3,k4,hr⟩
theorem Dx (m:Int)(v:AV)(t:FuncId)(fs cs:List AV)(lv lv':Key→LB)(x:AV)(ht:b7 v=some (t,fs,cs))(hf:aK Tryz.prog t=true)(ho:cD lv)(hc:bS Tryz.prog (GG m) t (fs++cs) lv (.ret x lv')) :
 bS Tryz.prog (GG m) 59 [v] lv (.ret (.c (.d (.int .i64 0))) lv'):=by
 intro F β w vs hS hl hv;obtain⟨u,rfl,hu⟩:=args1 hl hv;obtain⟨fs',cs',h1,h2,h3,h4,h5⟩:=jY hu ht;subst h1;have hv':=nQ (V:=Vw.mk F β lv w) (args':=#[]) h2 (show (#[]:Array Value).size=([]:List AV).length from rfl) h3 h4 (fun i p q=>absurd p (by simp)) h5;simp only [List.append_nil,Array.append_empty] at hv';have hcall:=xC ho hc hS hv'.1 hv'.2 (.cells #[.int .i64 0] 31)
 have:=DB t fs' cs' w (fun w2=>∃ F' β',cu (cH Tryz.prog (GG m) w F β lv) F' β' lv' w2∧¬ F' w.heap.size∧(∀ k,(lv' k).live=true→β' k≠w.heap.size)∧w2.heap[w.heap.size]?=some (.cells #[.int .i64 0] 31)) hf
  (hcall.mono fun e w2 he=>⟨he.2.1,(let ⟨F',β',k2,k3,k4⟩:=he.2.2;⟨F',β',k2,k3,k4,he.1⟩),by simp [World.cell?,he.1],by simp [World.frozen?,he.1]⟩)
 refine this.mono fun e w' he=>?_;obtain⟨w2,⟨F',β',k2,k3,k4,k5⟩,_,rfl,rfl⟩:=he;exact⟨_,F',β',rfl,aE.HS k2 k5 _ k3 k4 (Nat.le_refl _),Vw.iT _ _ _ (by decide)⟩
theorem Du (m:Int)(v:AV)(t:FuncId)(fs cs:List AV)(lv lv':Key→LB)(n:Int)(ht:b7 v=some (t,fs,cs))(hf:aK Tryz.prog t=true)(ho:cD lv)(hc:bS Tryz.prog (GG m) t (fs++cs) lv (.p7 (.iface 179 (.agg [.int .i64 n])) lv')) :
 bS Tryz.prog (GG m) 59 [v] lv (.ret (.c (.d (.int .i64 n))) lv'):=by
 intro F β w vs hS hl hv;obtain⟨u,rfl,hu⟩:=args1 hl hv;obtain⟨fs',cs',h1,h2,h3,h4,h5⟩:=jY hu ht;subst h1;have hv':=nQ (V:=Vw.mk F β lv w) (args':=#[]) h2 (show (#[]:Array Value).size=([]:List AV).length from rfl) h3 h4 (fun i p q=>absurd p (by simp)) h5;simp only [List.append_nil,Array.append_empty] at hv';have hcall:=xC ho hc hS hv'.1 hv'.2 (.cells #[.int .i64 0] 31)
 have hval:∀ (M:Mem) (v:Value),Rd M v (.iface 179 (.agg [.int .i64 n]))→v=.iface 179 (.agg #[.int .i64 n])∧IntKind.i64.wrap n=n:=by
  intro M v h
  cases h with
  | iface _ u _ hu=>
   cases hu with
   | agg arr _ hl _ hr=>
    have h0:=hr 0 (by simp);have hl1:arr.size=1:=hl;simp only [List.getElem_cons_zero] at h0
    have:arr=#[arr[0]]:=by
     apply Array.ext
     ·simpa using hl1
     ·intro i p q;have:i=0:=by simp at q;omega
      subst this;rfl
    generalize arr[0]=z at h0 this
    cases h0 with
    | int _ _ hw=>exact⟨by rw [this],hw⟩
 have:=CC t fs' cs' w (fun w2=>IntKind.i64.wrap n=n∧∃ F' β',cu (cH Tryz.prog (GG m) w F β lv) F' β' lv' w2∧¬ F' w.heap.size∧(∀ k,(lv' k).live=true→β' k≠w.heap.size)∧w2.heap[w.heap.size]?=some (.cells #[.int .i64 0] 31)) n hf
  (hcall.mono fun e w2 he=>by
   obtain⟨he1,v,rfl,F',β',k2,k3,k4,hr⟩:=he;obtain⟨rfl,hw⟩:=hval _ _ hr;exact⟨rfl,⟨hw,F',β',k2,k3,k4,he1⟩,by simp [World.cell?,he1],by simp [World.frozen?,he1]⟩)
 refine this.mono fun e w' he=>?_;obtain⟨w2,⟨hw,F',β',k2,k3,k4,k5⟩,_,rfl,rfl⟩:=he;exact⟨_,F',β',rfl,aE.qL (aE.HS k2 k5 _ k3 k4 (Nat.le_refl _)) _,Vw.iT _ _ _ hw⟩
end Go.Am

namespace Go.Am
section
variable {c:Ctx}{r:Option Nat}{F:Nat→Prop}{β:Key→Nat}{s:aG}{a:Act}{w w':World}
theorem AW.fresh {fr:Nat→AV}{lv:Key→LB}{code:Code}{κ:Nat}{Q:Ex→aG→Nat→Prop}(h:aE c F β ⟨fr,lv⟩ a w) (ho:cD lv)
 (hA:∀ c':Ctx,c'.P=c.P→c'.G=c.G→c'.n=c.n→c'.bq=lv→AW c' r code ⟨fr,lv⟩ κ Q) :
 code.wpIn (nG r) 0 c.P (fun e a' w'=>∃ x s' κ' F' β',Q x s' κ'∧aE c F' β' s' a' w'∧Bc x e F' w'∧w.heap.size≤w'.heap.size∧(∀ b,F' b→F b∨w.heap.size≤b)∧(∀ k,(s'.lv k).live=true→w.heap.size≤β' k∨∃ j,(lv j).live=true∧β j=β' k) ∧
  ∀ b,b<w.heap.size→(∀ k,(lv k).live=true→β k≠b)→w'.heap[b]?=w.heap[b]?) a w:=by
 let c':Ctx:={ cH c.P c.G w F β lv with n:=c.n }
 have h1:aE c' F β ⟨fr,lv⟩ a w:=cu.with (c:=c') (h.sB ho) h.size h.defers h.fr;refine wpIn_mono (hA c' rfl rfl rfl rfl F β a w h1) ?_;rintro e a' w' ⟨x,s',κ',F',β',hQ,h2,hx⟩;have hx0:cu (cH c.P c.G w F β lv) F' β' s'.lv w':=aE.tj (c:=c') h2;have h3:aE c F' β' ⟨fr,s'.lv⟩ a w':=h.yu hx0;have h4:aE c F' β' s' a' w':=cu.with (c:=c) (aE.tj h3) h2.size h2.defers h2.fr;refine⟨x,s',κ',F',β',hQ,h4,hx,h2.ge,fun b hb=>(h2.kH b hb).2,fun k hk=>h2.dY hk,fun b hb hn=>?_⟩;exact h2.old b hb (fun⟨k,hk,he⟩=>hn k hk he)
theorem aE.Zd (h:aE c F β s a w)(B:Nat→Prop)
 (hs:∀ b,¬ B b→b<w.heap.size→w'.heap[b]?=w.heap[b]?) (hF:∀ b,B b→¬ F b) (hL:∀ k,(s.lv k).live=true→¬ B (β k)) (hW:∀ b,B b→c.w0.heap.size≤b∨c.W0 b)
 (hsz:w.heap.size≤w'.heap.size) (ha:∀ b,b9 w b≤b9 w' b) (hoo:w'.os=w.os∧w'.output=w.output:=by exact⟨rfl,rfl⟩):aE c F β s a w':=by
 have hm:∀ b,F b→w'.heap[b]?=w.heap[b]?:=fun b hb=>hs b (fun hB=>hF b hB hb) (h.kH b hb).1
 have:=h.step (hoo:=hoo) (F':=F) (β':=β) (lv':=s.lv) (w':=w') (fun _ h=>h) hm (fun k=>LB.bz _) (fun _ _ _=>rfl) ha ?_ h.inj (fun b hb=>.inl hb) hsz ?_
 ·exact this
 ·intro k hK;have hb:=h.bG k
  have key:(s.lv k).live=true→(Vw.mk F β s.lv w').bG c k:=fun hl=>
   Vw.bD hb hK rfl rfl (hs _ (hL k hl) (h.eZ hl)) (fun _ h=>h)
  cases e:s.lv k with
  | cells own fz T cs=>
   cases fz with
   | false=>exact key (by rw [e];rfl)
   | true=>
    refine Vw.bD hb hK rfl rfl (hm _ ?_) (fun _ h=>h);unfold Vw.bG at hb;simp only [e] at hb;obtain⟨x,h1,h2,h3,h4,h5⟩:=hb;simpa using h4
  | map own es=>exact key (by rw [e];rfl)
  | hole=>unfold Vw.bG;simp only [e]
  | dead=>unfold Vw.bG;simp only [e]
  | nils=>unfold Vw.bG;simp only [e]
 ·intro b hb hW0;exact hs b (fun hB=>(hW b hB).elim (fun h1=>by omega) hW0) (Nat.lt_of_lt_of_le hb h.ge)
theorem aE.zk (h:aE c F β s a w){l:Nat}{o:Obj}(o':Obj) (hl:w.heap[l]?=some o) (hc:∀ x y z,o≠.cells x y z) (hF:¬ F l) (hL:∀ k,(s.lv k).live=true→β k≠l) (hW:c.w0.heap.size≤l∨c.W0 l):aE c F β s a (w.putObj l o'):=by
 refine h.Zd (fun x=>x=l) (fun x hx _=>World.putObj_heap_other hx) (fun x hx=>hx ▸ hF) (fun k hk=>hL k hk) (fun x hx=>hx ▸ hW) (by simp) (fun b=>?_)
 by_cases e:b=l
 ·subst e;unfold b9;rw [hl]
  cases o with
  | cells x y z=>exact absurd rfl (hc x y z)
  | _=>exact Nat.zero_le _
 ·unfold b9;rw [World.putObj_heap_other e];exact Nat.le_refl _
end
def LX (P:Program)(G:List (List DV))(w:World)(F:Nat→Prop)(β:Key→Nat)(lv:Key→LB)(n l:Nat):Ctx:=
 ⟨P,G,w,F,fun b=>(∃ k,(lv k).live=true∧β k=b)∨b=l,n,lv,β⟩
theorem aE.toR {P:Program}{G:List (List DV)}{F0 F:Nat→Prop}{β0 β:Key→Nat}{bq:Key→LB}{s:aG}{a:Act}{w0 w:World}{n:Nat}(l:Nat) (h:aE { cH P G w0 F0 β0 bq with n:=n } F β s a w) :
 aE (LX P G w0 F0 β0 bq n l) F β s a w:=by
 refine⟨fun k=>Vw.Es ?_ (h.bG k),h.inj,h.fr,h.size,h.defers,h.kH,h.F0,fun b hb hW=>h.old b hb (fun hx=>hW (.inl hx)),h.ge,h.mH,h.keep,h.C1,h.Av⟩;intro o ho;unfold dR at ho ⊢
 cases o with
 | true=>exact ho
 | false=>exact ho.imp id .inl
theorem aE.ofR {P:Program}{G:List (List DV)}{F0 F:Nat→Prop}{β0 β:Key→Nat}{bq:Key→LB}{s:aG}{a:Act}{w0 w:World}{n l:Nat}{o:Obj}(h:aE (LX P G w0 F0 β0 bq n l) F β s a w)
 (hl0:w0.heap[l]?=some o) (hl:w.heap[l]?=some o) (hc:∀ x y z,o≠.cells x y z) (hm:∀ x y,o≠.map x y):cu (cH P G w0 F0 β0 bq) F β s.lv w:=by
 refine⟨fun k=>?_,h.inj,fun _=>trivial,rfl,rfl,h.kH,h.F0,fun b hb hW=>?_,h.ge,h.mH,h.keep,h.C1,h.Av⟩
 ·have hb:=h.bG k
  have key:∀ ow,dR (LX P G w0 F0 β0 bq n l) ow (β k)→β k≠l→dR { cH P G w0 F0 β0 bq with n:=0 } ow (β k):=by
   intro ow ho hne;unfold dR at ho ⊢
   cases ow with
   | true=>exact ho
   | false=>
    rcases ho with h1|h1|h1
    ·exact .inl h1
    ·exact .inr h1
    ·exact absurd h1 hne
  unfold Vw.bG at hb ⊢
  cases e:s.lv k with
  | cells own fz T cs=>
   simp only [e] at hb ⊢;obtain⟨arr,b1,b2,b3,b4,b5⟩:=hb;exact⟨arr,b1,b2,b3,b4,key _ b5 (fun he=>by rw [he,hl] at b1;simp only [Option.some.injEq] at b1;exact hc _ _ _ b1)⟩
  | map own es=>
   simp only [e] at hb ⊢;obtain⟨x,y,b1,b2,b3,b4,b5⟩:=hb;exact⟨x,y,b1,b2,b3,b4,key _ b5 (fun he=>by rw [he,hl] at b1;simp only [Option.some.injEq] at b1;exact hm _ _ b1)⟩
  | hole=>simp only [e]
  | dead=>simp only [e]
  | nils=>simp only [e]
 ·by_cases e:b=l
  ·subst e;show w.heap[b]?=w0.heap[b]?;rw [hl,hl0]
  ·refine h.old b hb ?_;rintro (h1|h1)
   ·exact hW h1
   ·exact e h1
end Go.Am

namespace Go.Am
theorem qV.yield {P:Program}{G:List (List DV)}{w1:World}{F0:Nat→Prop}{β0:Key→Nat}{bq lv lv':Key→LB}{n l:Nat}{fr:Nat→AV}{ops:Array Oper}{o:Oper}{cl:Call}{fo:Operand}{rec:Loop}{xs:List AV}(hd:∀ d,o.dst=some d→d<n)
 (hg:o.guard=none) (ho:o.op=.call cl) (hcal:cl.callee=.value fo) (hfo:(aG.mk fr lv).val G fo=.c (.d (.func (.yield l) [] [])))
 (hxs:cl.args.toList.map ((aG.mk fr lv).val G)=xs) (hps:rec.params.size=xs.length) (hl:w1.heap[l]?=some (.loop rec)) (hnl:∀ k,(bq k).live=true→β0 k≠l) (hok:cD lv)
 (hround:∀ (F:Nat→Prop) (β:Key→Nat) (w:World) (vs:Array Value),cu (cH P G w1 F0 β0 bq) F β lv w→cu (cH P G w F β lv) F β lv w→w.heap[l]?=some (.loop rec)→vs.size=xs.length→(∀ i (h:i<xs.length) (h':i<vs.size),(Vw.mk F β lv w).av vs[i] xs[i]) →
  RoundIn (nG none) 0 P l rec.fn ((rec.params.zip vs).foldl (fun tmps (t,a)=>tmps.setIfInBounds t a) rec.tmps) rec.assign rec.body w fun e w'=>e=.returned (.bool true)∧∃ F' β',cu (cH P G w F β lv) F' β' lv' w') :
 qV { cH P G w1 F0 β0 bq with n:=n } none ops o ⟨fr,lv⟩ (aG.put ⟨fr,lv'⟩ o.dst (.c (.d (.bool true)))):=by
 intro F β a w K Q hs hK;have hw:Region.wanted o (yielded ops a.tmps)=true:=by unfold Region.wanted;rw [hg]
 rw [if_pos hw];have hS:cu (cH P G w1 F0 β0 bq) F β lv w:=aE.tj hs
 have hlw:w.heap[l]?=some (.loop rec):=by
  rw [← hl];have hlt:=(Array.getElem?_eq_some_iff.1 hl).1;exact hs.old l hlt (fun⟨k,hk,he⟩=>hnl k hk he)
 have hv0:=hs.val fo
 have Aw:a.eval fo=.func (.yield l) #[] #[]:=by
  have h1:(Vw.mk F β lv w).av (a.eval fo) (.c (.d (.func (.yield l) [] []))):=hfo ▸ hv0;obtain⟨h1,_⟩:=h1;generalize a.eval fo=u at h1
  cases h1 with
  | func _ fs cs _ _ hf hc _ _=>
   have e1:fs=#[]:=Array.size_eq_zero_iff.1 (by simpa using hf);have e2:cs=#[]:=Array.size_eq_zero_iff.1 (by simpa using hc);rw [e1,e2]
 have hsz:(cl.args.map a.eval).size=xs.length:=by rw [← hxs];simp
 have hav:∀ i (h:i<xs.length) (h':i<(cl.args.map a.eval).size),(Vw.mk F β lv w).av (cl.args.map a.eval)[i] xs[i]:=by
  intro i p q;subst hxs;simp only [Array.getElem_map,List.getElem_map,Array.getElem_toList];exact hs.val _
 have hr:(execOp a.eval o).run P w=.ok (.round l rec.fn ((rec.params.zip (cl.args.map a.eval)).foldl (fun tmps (t,a)=>tmps.setIfInBounds t a) rec.tmps) rec.assign rec.body) w:=by
  simp only [execOp,ho,resolve,hcal,Aw,Deferred.ofValue,Sem.run_bind,Sem.run_pure,Result.andThen_ok,invoke];have:=run_yield (P:=P) (args:=cl.args.map a.eval) hlw (by rw [hsz,hps]);simpa using this
 refine⟨fun _ _=>trivial,?_⟩;rw [Oper.semAt_eq _ _ _ (fun c h=>by rw [ho] at h;cases h)];show o.uponIn (nG none) 0 P a K Q ((execOp a.eval o).run P w);rw [hr,Oper.uponIn_round];refine⟨fun h=>by simp [nG,Fence.wide] at h,?_⟩;refine (hround F β w _ hS (hs.sB hok) hlw hsz hav).mono fun e w' he=>?_;obtain⟨rfl,F',β',hX⟩:=he;exact hK F' β' _ _ (aE.Aj (hs.yu hX) hd (Vw.lI _ _))
theorem BM {P:Program}{G:List (List DV)}{F:Nat→Prop}{β:Key→Nat}{lv lv':Key→LB}{w:World}{tmps:Array Value}{n l:Nat}{rec:Loop}{fr fr2:Nat→AV}{κ:Nat}(hS:cu (cH P G w F β lv) F β lv w) (hok:cD lv)
 (hlw:w.heap[l]?=some (.loop rec)) (hst:rec.state=.ready) (hpe:rec.pending=none) (hn:tmps.size=n) (hfr:∀ t,(Vw.mk F β lv w).av (tmps.getD t undef) (fr t)) (hFl:¬ F l)
 (h1:∀ c:Ctx,c.P=P→c.G=G→c.n=n→c.bq=lv→AW c (some l) rec.assign ⟨fr,lv⟩ κ (fun x s _=>x=.normal∧s=⟨fr2,lv⟩))
 (h2:∀ c:Ctx,c.P=P→c.G=G→c.n=n→c.bq=lv→AW c (some l) rec.body ⟨fr2,lv⟩ κ (fun x s _=>x=.normal∧s.lv=lv')) :
 RoundIn (nG none) 0 P l rec.fn tmps rec.assign rec.body w fun e w'=>e=.returned (.bool true)∧∃ F' β',cu (cH P G w F β lv) F' β' lv' w':=by
 have hlt:l<w.heap.size:=(Array.getElem?_eq_some_iff.1 hlw).1
 have hnot:∀ (F:Nat→Prop) (β:Key→Nat) (lv:Key→LB) (c:Ctx) (s:aG) (a:Act) (w:World) (r:Loop),aE c F β s a w→w.heap[l]?=some (.loop r)→∀ k,(s.lv k).live=true→β k≠l:=by
  intro F β lv c s a w r h hl k hk he;have hb:=h.bG k;unfold Vw.bG at hb
  cases e:s.lv k with
  | cells own fz T cs=>simp only [e] at hb;obtain⟨arr,b1,_⟩:=hb;rw [he,hl] at b1;cases b1
  | map own es=>simp only [e] at hb;obtain⟨x,y,b1,_⟩:=hb;rw [he,hl] at b1;cases b1
  | hole=>rw [e] at hk;cases hk
  | dead=>rw [e] at hk;cases hk
  | nils=>rw [e] at hk;cases hk
 have s0:aE (LX P G w F β lv n l) F β ⟨fr,lv⟩ ⟨tmps,[]⟩ w:=aE.toR l (cu.enter hS (a:=⟨tmps,[]⟩) hn rfl hfr);refine roundIn_of_wpIn trivial ?_;show rec.assign.wpIn (nG (some l)) 0 P _ _ w;refine wpIn_mono (AW.fresh (r:=some l) s0 hok (h1 ·)) ?_;rintro e a1 w1 ⟨x,s1,κ1,F1,β1,⟨rfl,rfl⟩,s1',hx,z1,z2,z2b,z3⟩
 cases hx
 have hl1:w1.heap[l]?=some (.loop rec):=by rw [z3 l hlt (hnot F β lv _ _ _ w rec s0 hlw)];exact hlw
 refine⟨_,run_beginRound hl1 hst,?_⟩
 have hF1:¬ F1 l:=fun h=>by
  rcases z2 l h with h|h
  ·exact hFl h
  ·omega
 have s2:=s1'.zk (.loop { rec with state:=.busy }) hl1 (fun _ _ _ h=>by cases h) hF1 (hnot _ _ lv _ _ _ _ _ s1' hl1) (.inr (.inr rfl));have hl2:(w1.putObj l (.loop { rec with state:=.busy })).heap[l]?=some (.loop { rec with state:=.busy }):=World.putObj_heap_same (by omega);show rec.body.wpIn (nG (some l)) 0 P _ _ _;refine wpIn_mono (AW.fresh (r:=some l) s2 hok (h2 ·)) ?_;rintro e a3 w3 ⟨x,s3,κ3,F3,β3,⟨rfl,hlv⟩,s3',hx,y1,y2,y2b,y3⟩
 cases hx
 have hl3:w3.heap[l]?=some (.loop { rec with state:=.busy }):=by rw [y3 l (by simp;omega) (hnot _ _ lv _ _ _ _ _ s2 hl2)];exact hl2
 have hF3:¬ F3 l:=fun h=>by
  rcases y2 l h with h|h
  ·exact hF1 h
  ·simp at h;omega
 have hrec:({ { rec with state:=.busy } with state:=.ready,pending:=none }:Loop)=rec:=by
  cases rec;simp only at hst hpe;subst hst;subst hpe;rfl
 have s4:=s3'.zk (.loop rec) hl3 (fun _ _ _ h=>by cases h) hF3 (hnot _ _ lv _ _ _ _ _ s3' hl3) (.inr (.inr rfl));have hl4:(w3.putObj l (.loop rec)).heap[l]?=some (.loop rec):=World.putObj_heap_same (Array.getElem?_eq_some_iff.1 hl3).1;have hS4:=s4.ofR hlw hl4 (fun _ _ _ h=>by cases h) (fun _ _ h=>by cases h);refine⟨.bool true,w3.putObj l (.loop rec),?_,rfl,F3,β3,hlv ▸ hS4⟩;have:=run_endRound (P:=P) none hl3;simp only [Option.isNone_none,if_true] at this;rw [this];rw [hrec]
end Go.Am

namespace Go.Am
open Go.Am.Ty Go.Proofs N
def aP:List UInt8→Nat→Nat
 | [],n=>n
 | c::l,n=>aP l (10*n+(c.toNat - 48))
def tK (l:List UInt8):Prop:=∀ c∈l,48≤c.toNat∧c.toNat≤57
theorem ju:∀ (a b:List UInt8) (n:Nat),aP (a++b) n=aP b (aP a n)
 | [],b,n=>rfl
 | c::a,b,n=>by simp [aP,ju a b]
theorem eI:∀ (l:List UInt8) (n:Nat),aP l n=n*10 ^ l.length+aP l 0
 | [],n=>by simp [aP]
 | c::l,n=>by
  simp only [aP,List.length_cons,Nat.pow_succ];rw [eI l (10*n+_),eI l (10*0+_)];simp only [Nat.mul_zero,Nat.zero_add,Nat.add_mul,Nat.mul_assoc];rw [show 10*(n*10 ^ l.length)=n*(10 ^ l.length*10) by rw [Nat.mul_comm 10,Nat.mul_assoc]];omega
theorem lq:∀ {l:List UInt8},tK l→aP l 0<10 ^ l.length
 | [],_=>by simp [aP]
 | c::l,h=>by
  have h1:=h c (List.mem_cons_self ..);have ih:=lq (l:=l) (fun x hx=>h x (List.mem_cons_of_mem _ hx));simp only [aP,List.length_cons,Nat.pow_succ];rw [eI];have h2:(10*0+(c.toNat - 48))*10 ^ l.length≤9*10 ^ l.length:=Nat.mul_le_mul_right _ (by omega);omega
theorem qV.plain {c:Ctx}{r:Option Nat}{ops:Array Oper}{o:Oper}{s:aG}{κ:Key}{x:AV}{vc:Prop}(hd:∀ d,o.dst=some d→d<c.n) (hg:o.guard=none)
 (h:bC c.P o.op (o.op.operands.toList.map (s.val c.G)) s.lv κ=some (x,[],[],vc)) (hvc:vc) {s1:aG}(h1:s1=s.put o.dst x):qV c r ops o s s1:=by
 subst h1;exact qV.N8 (cJ.plain hd (by unfold dx;rw [hg]) h hvc)
def oO (st:Bool)(n:Nat):Option (List Nat):=if st then some (aI 4294967296 n) else none
def nD:Option (List Nat)→DV
 | none=>.nilsl
 | some l=>.sl (dK .u32 l)
theorem Mf (o:Option (List Nat)):(AV.c (.d (nD o)))=nK .u32 o:=by cases o <;> rfl
@[simp] theorem Vk (u:List UInt8)(d:DV):ja u d 0=.cells false false 9 [.d (.str u)]:=by simp [ja,aJ]
@[simp] theorem Mv (u:List UInt8)(d:DV):ja u d 1=.cells false false 222 [.d d]:=by simp [ja,aJ]
@[simp] theorem UA (u u':List UInt8)(d:DV):aJ (ja u d) 0 (.cells false false 9 [.d (.str u')])=ja u' d:=by
 funext k;unfold ja aJ
 by_cases h0:k=0
 ·subst h0;simp
 ·simp [h0]
theorem nU (u:List UInt8)(d:DV):kW (ja u d):=by
 intro k own es h;rcases GQ u d k with h1|⟨T,cs,h1⟩ <;> rw [h1] at h <;> cases h
theorem Ho (G:List (List DV))(v sz:Nat)(lv:Key→LB)(r:Option Nat)(fr:Nat→AV)(f8:fr 8=.c (.d (.int .u32 v)))(f9:fr 9=.c (.d (.int .u32 sz))) :
 ∀ c:Ctx,c.P=Tryz.prog→c.G=G→c.n=20→AW c r yt ⟨fr,lv⟩ 0 (fun x s _=>x=.normal∧s=⟨aJ (aJ fr 4 (.c (.d (.int .u32 v)))) 5 (.c (.d (.int .u32 sz))),lv⟩):=by
 rintro⟨_,Gc,w0,F0,W0,_,bq,β0⟩ rfl rfl rfl;unfold yt;refine aac fun K hK=>?_;refine aad rfl ?_;simp [f8];apply hK;clear hK K;refine aad rfl ?_;simp [f9]
noncomputable def CI:Code:=match Tryz.f330.body with|some b=>b|_=>.skip
def Kb (c:Ctx)(Y:AV):Prop:=
 ∀ (u:List UInt8) (n:Nat) (st:Bool) (v sz L:Nat) (fr:Nat→AV) (ops:Array Oper) (o:Oper) (cl:Call),v<4294967296→sz<4294967296→(st=false→n=0)→L≤10000000000→n<4294967296 ^ L →
  o.dst=some 32→o.guard=none→o.op=.call cl→cl.callee=.value (.tmp 29)→cl.args=#[.tmp 30,.tmp 31]→fr 29=Y→fr 30=.c (.d (.int .u32 v))→fr 31=.c (.d (.int .u32 sz)) →
  qV c none ops o ⟨fr,ja u (nD (oO st n))⟩ (aG.put ⟨fr,ja u (nD (oO true (n*sz+v)))⟩ (some 32) (.c (.d (.bool true))))
def pw (j:Nat):Nat:=10 ^ j
theorem Ku (j:Nat):pw (j+1)=10*pw j:=by unfold pw;rw [Nat.pow_succ,Nat.mul_comm]
theorem JL:pw 0=1:=rfl
theorem ZD {j:Nat}(h:j≤9):pw j≤1000000000:=by
 unfold pw;have:=Nat.pow_le_pow_right (n:=10) (by decide) h;simpa using this
theorem CD {u:List UInt8}{j:Nat}{ch:UInt8}{rest:List UInt8}(h:u.drop j=ch::rest):u.take (j+1)=u.take j++[ch]∧u.drop (j+1)=rest∧j<u.length:=by
 have hlt:j<u.length:=by
  apply Classical.byContradiction;intro hc;rw [List.drop_eq_nil_of_le (by omega)] at h;cases h
 have e:u.drop j=u[j]::u.drop (j+1):=List.drop_eq_getElem_cons hlt;rw [e] at h;simp only [List.cons.injEq] at h;refine⟨?_,h.2,hlt⟩;rw [List.take_add_one,List.getElem?_eq_getElem hlt,h.1];rfl
set_option maxHeartbeats 4000000 in
theorem JT (G:List (List DV))(s0:List UInt8)(hD:tK s0)(hlen:s0.length≤1000000000)(Y:AV)(hY:Y.cw=true) :
 ∀ c:Ctx,c.P=Tryz.prog→c.G=G→c.n=34→Kb c Y→AW c none CI ⟨fun t=>[Y,.c (.ptr 0 0)].getD t .undef,ja s0 .nilsl⟩ 0 (fun x s _=>x=.normal∧s.lv=ja [] (nD (oO (!s0.isEmpty) (aP s0 0)))):=by
 rintro⟨_,Gc,w0,F0,W0,_,bq,β0⟩ rfl rfl rfl hy;unfold CI;refine aak ?_
 refine aax (fun (p:List UInt8 × Nat × Bool × Nat)=>⟨bt [(0,Y),(1,.c (.ptr 0 0))],ja p.1 (nD (oO p.2.2.1 p.2.1))⟩) 0
  (fun p=>tK p.1∧p.2.2.2+p.1.length≤1000000000∧p.2.1<4294967296 ^ p.2.2.2∧aP p.1 p.2.1=aP s0 0∧(p.2.2.1=false→p.2.1=0∧p.1=s0)∧(p.2.2.1=true→s0≠[]))
  (fun p=>p.1.length) (s0,0,false,0) (Le.mk' _ (by simp [oO,nD]) (nU _ _) (by simp [hY])) (by simp;exact⟨hD,hlen⟩) ?_
 rintro⟨u,n,st,L⟩ ⟨h1,h2,h3,h4,h5,h6⟩;simp only at h1 h2 h3 h4 h5 h6;refine aac fun K hK=>?_;refine aac fun K1 hK1=>?_;refine aad rfl ?_;simp;apply hK1;clear hK1 K1
 by_cases hu:u=[]
 ·subst hu;refine aat ?_;refine aav ?_;simp;have e1:n=aP s0 0:=h4
  have e2:st = !s0.isEmpty:=by
   cases st with
   | true=>have:=h6 rfl;cases s0 <;> simp_all
   | false=>have:=(h5 rfl).2;simp [← this]
  rw [← e1,← e2]
 have hu0:0<u.length:=List.length_pos_iff.2 hu
 have hs0:s0≠[]:=by
  cases st with
  | true=>exact h6 rfl
  | false=>rw [← (h5 rfl).2];exact hu
 refine aap (by simp [hu0] <;> omega) ?_;refine aah ?_;simp;apply hK;clear hK K;refine aak ?_;refine aac fun K hK=>?_;refine aad rfl ?_;simp;apply hK;clear hK K;refine aac fun K hK=>?_
 have fin:∀ (j:Nat) (fr:Nat→AV) (κ:Nat),0<j→j≤9→j≤u.length→fr 0=Y→fr 1=.c (.ptr 0 0)→fr 3=.c (.d (.int .u32 (aP (u.take j) 0)))→fr 4=.c (.d (.int .u32 (pw j)))→K ⟨fr,ja (u.drop j) (nD (oO st n))⟩ κ:=by
  intro j fr κ hj0 hj9 hju f0 f1 f3 f4
  have hvj:aP (u.take j) 0<pw j:=by
   unfold pw;have:=lq (l:=u.take j) (fun c hc=>h1 c (List.mem_of_mem_take hc))
   rwa [List.length_take,Nat.min_eq_left hju] at this
  have hpj:=ZD hj9
  have hdec:aP (u.drop j) (n*pw j+aP (u.take j) 0)=aP s0 0:=by
   rw [← h4]
   conv=>rhs;rw [← List.take_append_drop j u]
   rw [ju,eI (u.take j) n,List.length_take,Nat.min_eq_left hju];rfl
  have hbig:n*pw j+aP (u.take j) 0<4294967296 ^ (L+1):=by
   rw [Nat.pow_succ];have g1:n*pw j+aP (u.take j) 0<(n+1)*pw j:=by rw [Nat.add_mul];omega
   exact Nat.lt_of_lt_of_le g1 (Nat.mul_le_mul (by omega) (by omega))
  generalize aP (u.take j) 0=v at *
  generalize hpw:pw j=q at *
  apply hK;refine aac fun K2 hK2=>?_;have hd:∀ t:Nat,t<34→∀ d,some t=some d→d<34:=fun t ht d h=>by cases h;exact ht
  refine AW.J5 (s':=⟨aJ (aJ (aJ (aJ (aJ fr 29 Y) 30 (.c (.d (.int .u32 v)))) 31 (.c (.d (.int .u32 q)))) 32 (.c (.d (.bool true)))) 33 (.c (.d (.bool false))),ja (u.drop j) (nD (oO true (n*q+v)))⟩) ?_ ?_
  ·refine⟨⟨aJ fr 29 Y,ja (u.drop j) (nD (oO st n))⟩,?_,⟨aJ (aJ fr 29 Y) 30 (.c (.d (.int .u32 v))),ja (u.drop j) (nD (oO st n))⟩,?_,⟨aJ (aJ (aJ fr 29 Y) 30 (.c (.d (.int .u32 v)))) 31 (.c (.d (.int .u32 q))),ja (u.drop j) (nD (oO st n))⟩,?_,
    ⟨aJ (aJ (aJ (aJ fr 29 Y) 30 (.c (.d (.int .u32 v)))) 31 (.c (.d (.int .u32 q)))) 32 (.c (.d (.bool true))),ja (u.drop j) (nD (oO true (n*q+v)))⟩,?_,⟨aJ (aJ (aJ (aJ (aJ fr 29 Y) 30 (.c (.d (.int .u32 v)))) 31 (.c (.d (.int .u32 q)))) 32 (.c (.d (.bool true)))) 33 (.c (.d (.bool false))),ja (u.drop j) (nD (oO true (n*q+v)))⟩,?_,rfl⟩
   ·exact qV.plain (κ:=0) (x:=fr 0) (hd 29 (by decide)) rfl rfl trivial (by rw [f0];rfl)
   ·exact qV.plain (κ:=0) (x:=fr 3) (hd 30 (by decide)) rfl rfl trivial (by rw [f3];rfl)
   ·exact qV.plain (κ:=0) (x:=fr 4) (hd 31 (by decide)) rfl rfl trivial (by rw [f4];rfl)
   ·exact hy (u.drop j) n st v q L _ _ _ _ (by omega) (by omega) (fun h=>(h5 h).1) (by omega) h3 rfl rfl rfl rfl rfl (by simp) (by simp) (by simp)
   ·exact qV.plain (κ:=0) (x:=.c (.d (.bool false))) (hd 33 (by decide)) rfl rfl trivial rfl
  ·simp only [oo];apply hK2;refine aat ?_;refine aah ?_;simp only [rR,oo];refine⟨(u.drop j,n*q+v,true,L+1),Le.mk' _ rfl (nU _ _) (by simp [hY,f0,f1]),⟨fun c hc=>h1 c (List.mem_of_mem_drop hc),by simp;omega,hbig,hdec,(by intro h;cases h),(fun _=>hs0)⟩,by simp;omega⟩
 refine aac fun K1 hK1=>?_;refine aad rfl ?_;simp;apply hK1;clear hK1 K1;refine aak ?_
 refine aax (fun (j:Nat)=>⟨bt [(0,Y),(1,.c (.ptr 0 0)),(3,.c (.d (.int .u32 (aP (u.take j) 0)))),(4,.c (.d (.int .u32 (pw j:Int)))),(5,.c (.d (.int .i64 j)))],ja (u.drop j) (nD (oO st n))⟩) 0
  (fun j=>j≤9∧j≤u.length) (fun j=>9 - j) 0 (Le.mk' _ (by simp) (nU _ _) (by simp [hY,aP,JL])) (by simp) ?_
 rintro j ⟨hj,hju⟩
 have hvj:aP (u.take j) 0<pw j:=by
  unfold pw;have:=lq (l:=u.take j) (fun c hc=>h1 c (List.mem_of_mem_take hc))
  rwa [List.length_take,Nat.min_eq_left hju] at this
 have hpj:=ZD hj;refine aac fun K2 hK2=>?_;refine aac fun K3 hK3=>?_
 by_cases hj9:j<9
 ·have hj9':(j:Int)<9:=by omega
  by_cases hje:j=u.length
  ·subst hje;refine aad rfl ?_;simp [hj9,hj9'];apply hK3;clear hK3 K3;refine aat ?_;refine aav ?_;simp;have:=fin u.length;simp at this;refine this _ _ hu0 hj (by simp) (by simp) (by simp) (by simp)
  ·have hlt:j<u.length:=by omega
   obtain⟨ch,rest,hcr⟩:∃ ch rest,u.drop j=ch::rest:=⟨u[j],u.drop (j+1),List.drop_eq_getElem_cons hlt⟩
   obtain⟨t1,t2,_⟩:=CD hcr;have hch:48≤ch.toNat∧ch.toNat≤57:=h1 ch (List.mem_of_mem_drop (by rw [hcr];exact List.mem_cons_self ..));have hlt':0<u.length - j:=by omega
   refine aad rfl ?_;simp [hj9,hj9',hlt,hlt'];apply hK3;clear hK3 K3;refine aap (by simp [hlt,hlt'] <;> omega) ?_;refine aah ?_;simp;apply hK2;clear hK2 K2;refine aac fun K2 hK2=>?_;refine aak ?_;refine aac fun K3 hK3=>?_;have hpj':=ZD (j:=j+1) (by omega);have hps:=Ku j;obtain⟨x,hx⟩:∃ x,ch.toNat - 48=x:=⟨_,rfl⟩
   obtain⟨v,hv⟩:∃ v,aP (u.take j) 0=v:=⟨_,rfl⟩
   obtain⟨v',hv'⟩:∃ v',aP (u.take (j+1)) 0=v':=⟨_,rfl⟩
   obtain⟨q',hq'⟩:∃ q',pw (j+1)=q':=⟨_,rfl⟩
   have hvv:v'=10*v+x:=by rw [← hv',t1,ju,hv,← hx];rfl
   rw [hq'] at hps hpj';rw [hv] at hvj
   have w1:IntKind.u8.wrap ((ch.toNat:Int) - 48)=(x:Int):=by
    rw [cA ⟨by simp only [yz];omega,by simp only [nV];omega⟩];omega
   have w2:IntKind.u32.wrap (x:Int)=(x:Int):=rT (by omega) (by omega);have w3:IntKind.u32.wrap (10*(v:Int))=10*(v:Int):=rT (by omega) (by omega);have w4:IntKind.u32.wrap (10*(v:Int)+(x:Int))=(v':Int):=by rw [rT (by omega) (by omega)];omega
   have w5:IntKind.u32.wrap (10*(pw j:Int))=(q':Int):=by rw [rT (by omega) (by omega)];omega
   have w6:IntKind.i64.wrap ((j:Int)+1)=((j+1:Nat):Int):=by rw [cA ⟨by simp only [yz];omega,by simp only [nV];omega⟩];omega
   refine aad rfl ?_;simp [hcr,hv,w1,w2,w3,w4,w5];apply hK3;clear hK3 K3;refine aad rfl ?_;simp [hcr,ak]
   repeat refine ag ?_
   apply hK2;clear hK2 K2;refine aaA 0 ?_;refine aad rfl ?_;simp [w6];refine⟨j+1,Le.mk' _ (by simp [t2]) (nU _ _) (by simp [hY,hv',hq']),?_,?_⟩
   ·omega
   ·omega
 ·have hj':j=9:=by omega
  subst hj';refine aad rfl ?_;simp;apply hK3;clear hK3 K3;refine aat ?_;refine aav ?_;simp;refine fin 9 _ _ (by omega) (by omega) hju (by simp) (by simp) (by simp) (by simp)
end Go.Am

namespace Go.Am
open Go.Proofs Go.Am.Ty N
theorem Fl:Tryz.f330.body=some CI:=rfl
set_option maxRecDepth 100000 in
theorem Di (s:ByteArray)(w:World):Calls Tryz.prog 279 #[.string s] w fun e w'=>e=.returned (.func (.func 330) #[] #[.pointer (some ⟨w.heap.size,0,none⟩)])∧w'=w.alloc (.cells #[.string s] 9):=by
 have hmf:∀ (fn:Fn) (first cap:Array Value) (w:World),(Instr.makeFunc fn first cap).run Tryz.prog w=.ok (.func fn first cap) w:=fun _ _ _ _=>rfl
 go_enter Tryz.func279,Tryz.ntmps279
 go_wp2
 go_ret
 exact⟨rfl,rfl⟩
def O2 (s:ByteArray)(w:World):World:=(w.alloc (.cells #[.slice none 0 0] 222)).alloc (.cells #[.string s] 9)
def La (s:ByteArray)(w:World):Array Value:=#[.string s,undef,.slice none 0 0,.pointer (some ⟨w.heap.size,0,none⟩),undef,undef,.string s,.func (.func 330) #[] #[.pointer (some ⟨w.heap.size+1,0,none⟩)],undef,undef,undef,undef,undef,undef,undef,undef,undef,undef,undef,undef]
set_option maxRecDepth 100000 in
set_option maxHeartbeats 2000000 in
theorem II (s:ByteArray)(w:World)(R:Ending→World→Prop)
 (h:(Code.rangeFunc (.tmp 7) #[8,9] yt wj).wpIn Fence.wide 0 Tryz.prog (fun e a' W=>e=.normal∧∃ D v,a'={ tmps:=La s w,defers:=[{ target:=.collected D,args:=#[] }] }∧W.heap[D]?=some (.deferred (some []))∧W.cell? ⟨w.heap.size,0,none⟩=some v∧R (.returned v) (W.putObj D (.deferred none))) ⟨La s w,[]⟩ (O2 s w)) :
 Calls Tryz.prog 226 #[.string s] w R:=by
 refine (callsIn_wide (n:=0)).1 ?_;refine callsIn_of_wp_marks Tryz.func226 rfl trivial ?_ rfl;simp only [Tryz.ntmps226,List.size_toArray,List.length_cons,List.length_nil,Nat.reduceAdd,Nat.reduceSub,Array.replicate_succ,Array.replicate_zero,List.push_toArray,List.append_toArray,List.nil_append,List.cons_append]
 gi_wp2
 refine⟨trivial,rfl,((callsIn_wide (n:=0)).2 (Di s _)).mono ?_⟩;rintro e w' ⟨rfl,rfl⟩
 gi_wp2
 refine wpIn_mono (show (Code.rangeFunc (.tmp 7) #[8,9] yt wj).wpIn Fence.wide 0 Tryz.prog _ _ _ from h) ?_;rintro e a' W ⟨rfl,D,v,rfl,hD,hc,hR⟩;simp only [Exit.inBlock,Exit.then]
 apply_assumption
 unfold La
 gi_wp2
 refine⟨by simp,.inl ⟨_,_,rfl,run_takeDeferred hD,?_⟩⟩;exact⟨_,results_tmp rfl _ _ _,by simpa using hR⟩
theorem Jd {P:Program}{G:List (List DV)}{f:FuncId}{fn:Func}{code:Code}{args:List AV}{lv lv':Key→LB}{κ:Nat}(hf:P.funcs[f]?=some fn) (hb:fn.body=some code) (hl:args.length≤fn.ntmps) (hres:fn.results=#[])
 {F:Nat→Prop}{β:Key→Nat}{w:World}{vs:Array Value}(hS:cu (cH P G w F β lv) F β lv w) (hvl:vs.size=args.length) (hv:∀ i (h:i<args.length) (h':i<vs.size),(Vw.mk F β lv w).av vs[i] args[i])
 (h:AW { cH P G w F β lv with n:=fn.ntmps } none code ⟨fun t=>args.getD t .undef,lv⟩ κ (fun x s _=>x=.normal∧s.lv=lv')) :
 Calls P f vs w fun e w'=>(∃ v,e=.returned v)∧∃ F' β',cu (cH P G w F β lv) F' β' lv' w':=by
 refine calls_of_wp hf hb ?_
 let a:Act:={ tmps:=vs++Array.replicate (fn.ntmps - vs.size) undef,defers:=[] }
 have hst:aE { cH P G w F β lv with n:=fn.ntmps } F β ⟨fun t=>args.getD t .undef,lv⟩ a w:=by
  refine cu.with (c:={ cH P G w F β lv with n:=fn.ntmps }) hS ?_ rfl (fun t=>?_)
  ·show (vs++Array.replicate (fn.ntmps - vs.size) undef).size=fn.ntmps;simp;omega
  ·show (Vw.mk F β lv w).av ((vs++Array.replicate (fn.ntmps - vs.size) undef).getD t undef) (args.getD t .undef)
   by_cases ht:t<args.length
   ·have h1:args.getD t .undef=args[t]:=cC ht
    have h2:(vs++Array.replicate (fn.ntmps - vs.size) undef).getD t undef=vs[t]'(by omega):=by
     rw [Array.getD_eq_getD_getElem?,Array.getElem?_append_left (by omega),Array.getElem?_eq_getElem (by omega)];rfl
    rw [h1,h2];exact hv t ht (by omega)
   ·have h1:args.getD t .undef=.undef:=cY ht
    have h2:(vs++Array.replicate (fn.ntmps - vs.size) undef).getD t undef=undef:=by
     rw [Array.getD_eq_getD_getElem?,Array.getElem?_append_right (by omega),Array.getElem?_replicate];split <;> rfl
    rw [h1,h2];rfl
 have hw:=(wpIn_wide (n:=0)).1 (h F β a w hst);refine wp_mono hw fun e a' w' hp=>?_;obtain⟨e',s',κ',F',β',⟨rfl,hq⟩,hs',he⟩:=hp
 cases he
 exact⟨hs'.defers,.tuple #[],by simp [results,hres],⟨_,rfl⟩,F',β',hq ▸ hs'.tj⟩
end Go.Am

namespace Go.Am
open Go.Proofs Go.Am.Ty N
theorem su (u:List UInt8)(d:DV):cD (ja u d):=by
 intro k;rcases GQ u d k with h|⟨T,cs,h⟩ <;> rw [h] <;> rfl
theorem H9 (s:List UInt8)(d:DV):aJ (aJ (aJ (aJ (fun _=>LB.hole) 1 (.cells true false 222 [.d d])) 1 (.cells false false 222 [.d d])) 0 (.cells true false 9 [.d (.str s)])) 0 (.cells false false 9 [.d (.str s)])=ja s d:=by
 funext k;unfold ja aJ
 by_cases h0:k=0
 ·subst h0;simp
 ·by_cases h1:k=1 <;> simp [h0,h1]
theorem Jc {P:Program}{G:List (List DV)}{F:Nat→Prop}{β:Key→Nat}{w:World}{s:List UInt8}{lv:Key→LB}(hlv:lv=fun _=>.hole) (hS:cu (cH P G w F β lv) F β lv w) (hs:s.length≤9223372036854775807) :
 ∃ β2:Key→Nat,cu (cH P G w F β lv) F β2 (ja s .nilsl) (O2 ⟨s.toArray⟩ w)∧β2 1=w.heap.size∧β2 0=w.heap.size+1:=by
 subst hlv
 have h1:=aE.alloc (κ:=1) hS rfl (arr:=#[.slice none 0 0]) 222 (cs:=[.d .nilsl]) (by simp) (fun i p q=>by
  have:i=0:=by simp at p;omega
  subst this;exact⟨.nilsl,rfl⟩)
 have h2:=h1.l6 (k:=1) (T:=222) (cs:=[.d .nilsl]) false (by simp only [aB])
 have h3:=aE.alloc (κ:=0) h2 (by simp [aJ]) (arr:=#[.string ⟨s.toArray⟩]) 9 (cs:=[.d (.str s)]) (by simp) (fun i p q=>by
  have:i=0:=by simp at p;omega
  subst this;refine⟨?_,rfl⟩;have:=Rd.str (M:=(Vw.mk F (aJ β 1 w.heap.size) (aJ (aJ (fun _=>LB.hole) 1 (.cells true false 222 [.d .nilsl])) 1 (.cells false false 222 [.d .nilsl])) (w.alloc (.cells #[.slice none 0 0] 222))).mem) ⟨s.toArray⟩ (by simpa using hs);simpa using this)
 have h4:=h3.l6 (k:=0) (T:=9) (cs:=[.d (.str s)]) false (by simp only [aB]);refine⟨aJ (aJ β 1 w.heap.size) 0 (w.alloc (.cells #[.slice none 0 0] 222)).heap.size,?_,?_,?_⟩
 ·have:=h4.tj;rw [← H9 s .nilsl];exact this
 ·simp [aJ]
 ·simp [aJ]
theorem n8 (G:List (List DV))(s:List UInt8)(hD:tK s)(hlen:s.length≤1000000000):aj Tryz.prog G 226 [.c (.d (.str s))] (nK .u32 (oO (!s.isEmpty) (aP s 0))):=by
 intro F β w vs hS hl hv;have hlv:bV [] []=fun _=>LB.hole:=fN
 obtain⟨u,rfl,hu⟩:=args1 hl hv;rw [Vw.hO hu];obtain⟨β2,hS2,e1,e0⟩:=Jc hlv hS (s:=s) (by omega);refine II _ w _ ?_;refine wpIn_rangeFunc ?_;intro fn hfn;obtain⟨rec,hrec⟩:∃ rec:Loop,rec={ state:=.ready,pending:=none,fn,tmps:=La ⟨s.toArray⟩ w,params:=#[8,9],assign:=yt,body:=wj,defers:=(O2 ⟨s.toArray⟩ w).heap.size }:=⟨_,rfl⟩
 have hsz:(O2 ⟨s.toArray⟩ w).heap.size=w.heap.size+2:=by simp [O2]
 obtain⟨w1,hw1⟩:∃ w1,((O2 ⟨s.toArray⟩ w).alloc (.deferred (some []))).alloc (.loop rec)=w1:=⟨_,rfl⟩
 have hD1:w1.heap[w.heap.size+2]?=some (.deferred (some [])):=by
  rw [← hw1,heap_alloc,if_neg (by simp [hsz]),heap_alloc,if_pos hsz.symm]
 have hL1:w1.heap[w.heap.size+3]?=some (.loop rec):=by
  rw [← hw1,heap_alloc,if_pos (by simp [hsz])]
 have hw1s:w1.heap.size=w.heap.size+4:=by rw [← hw1];simp [hsz]
 have hS3:cu (cH Tryz.prog G w F β (bV [] [])) F β2 (ja s .nilsl) w1:=by
  rw [← hw1];exact (hS2.qL _).qL _
 have hS4:cu (cH Tryz.prog G w1 F β2 (ja s .nilsl)) F β2 (ja s .nilsl) w1:=aE.sB hS3 (su _ _);have hFw:∀ b,F b→b<w.heap.size:=fun b hb=>(hS.kH b hb).1
 have hnot:∀ b,w.heap.size+2≤b→∀ k,(ja s .nilsl k).live=true→β2 k≠b:=by
  intro b hb k hk he
  by_cases h1:k=1
  ·subst h1;omega
  ·by_cases h0:k=0
   ·subst h0;omega
   ·rw [show ja s .nilsl k=.hole by unfold ja aJ;simp [h0,h1]] at hk;cases hk
 refine⟨w.heap.size+3,[{ target:=.collected (w.heap.size+2),args:=#[] }],w1,{ target:=.fn (.func 330) #[.pointer (some ⟨w.heap.size+1,0,none⟩)],args:=#[.func (.yield (w.heap.size+3)) #[] #[]] },w1,330,
  #[.func (.yield (w.heap.size+3)) #[] #[]]++#[.pointer (some ⟨w.heap.size+1,0,none⟩)],w1,?_,?_,fun _ _=>trivial,?_,(fun h=>by simp [Fence.wide] at h),?_⟩
 ·have:=run_enterLoop_outer (P:=Tryz.prog) (w:=O2 ⟨s.toArray⟩ w) fn (La ⟨s.toArray⟩ w) #[8,9] yt wj;rw [← hrec,hw1,hsz] at this;exact this
 ·have hg:(Act.eval ⟨La ⟨s.toArray⟩ w,[]⟩ (.tmp 7))=.func (.func 330) #[] #[.pointer (some ⟨w.heap.size+1,0,none⟩)]:=rfl;simp only [resolve,hg];simp [go_sem]
 ·have:=gV (P:=Tryz.prog) (f:=330) (by kernel_rfl) (#[.func (.yield (w.heap.size+3)) #[] #[]]++#[.pointer (some ⟨w.heap.size+1,0,none⟩)]) w1;simpa [invoke,go_sem] using this
 ·refine (callsIn_wide (n:=0)).2 ?_
  let Y:AV:=.c (.d (.func (.yield (w.heap.size+3)) [] []))
  have hit:=Jd (κ:=0) (lv':=ja [] (nD (oO (!s.isEmpty) (aP s 0)))) (args:=[Y,.c (.ptr 0 0)]) (vs:=#[.func (.yield (w.heap.size+3)) #[] #[]]++#[.pointer (some ⟨w.heap.size+1,0,none⟩)]) Tryz.func330 Fl (by rw [Tryz.ntmps330];simp) rfl hS4 rfl (fun i p q=>by
   have:i=0∨i=1:=by simp at p;omega
   rcases this with rfl|rfl
   ·exact⟨.func _ _ _ _ _ rfl rfl (fun i h=>absurd h (Nat.not_lt_zero i)) (fun i h=>absurd h (Nat.not_lt_zero i)),rfl⟩
   ·refine⟨?_,rfl⟩;simp only [Vw.cO,Vk,e0];rfl) (JT G s hD hlen Y rfl _ rfl rfl rfl ?_)
  ·refine hit.mono fun e w3 he=>?_;obtain⟨⟨v,rfl⟩,F3,β3,hX⟩:=he;have hold:∀ b,w.heap.size+2≤b→b<w1.heap.size→w3.heap[b]?=w1.heap[b]?:=fun b h1 h2=>hX.old b h2 (fun⟨k,hk,he⟩=>hnot b h1 k hk he)
   have hL3:w3.heap[w.heap.size+3]?=some (.loop rec):=(hold _ (by omega) (by omega)).trans hL1;have hD3:w3.heap[w.heap.size+2]?=some (.deferred (some [])):=(hold _ (by omega) (by omega)).trans hD1
   have hF3:∀ b,w.heap.size+2≤b→b<w1.heap.size→¬ F3 b:=by
    intro b h1 h2 hb;rcases (hX.kH _ hb).2 with h|h
    ·have:=hFw _ h;omega
    ·have:w1.heap.size≤b:=h;omega
   have hlv3:∀ b,w.heap.size+2≤b→b<w1.heap.size→∀ k,(ja [] (nD (oO (!s.isEmpty) (aP s 0))) k).live=true→β3 k≠b:=by
    intro b h1 h2 k hk he;rcases hX.dY (k:=k) hk with h|⟨j,hj,hj2⟩
    ·have:w1.heap.size≤β3 k:=h;omega
    ·exact hnot b h1 j hj (hj2.trans he)
   have hc1:β3 1=w.heap.size:=by
    have h0:ja s DV.nilsl 1≠.hole:=by simp
    rcases hX.keep 1 h0 with h|⟨h,_⟩
    ·simp at h
    ·rw [h];exact e1
   have q1:aE { cH Tryz.prog G w F β (bV [] []) with n:=0 } F3 β3 ⟨fun _=>.junk,ja [] (nD (oO (!s.isEmpty) (aP s 0)))⟩ ⟨#[],[]⟩ w3:=hS3.yu hX;have q2:=q1.zk (.loop { rec with state:=.exhausted }) hL3 (fun _ _ _ h=>by cases h) (hF3 _ (by omega) (by omega)) (hlv3 _ (by omega) (by omega)) (.inl (by show w.heap.size≤_;omega));have hD4:(w3.putObj (w.heap.size+3) (.loop { rec with state:=.exhausted })).heap[w.heap.size+2]?=some (.deferred (some [])):=(World.putObj_heap_other (by omega)).trans hD3;have q3:=q2.zk (.deferred none) hD4 (fun _ _ _ h=>by cases h) (hF3 _ (by omega) (by omega)) (hlv3 _ (by omega) (by omega)) (.inl (by show w.heap.size≤_;omega));have hb:=q2.bG 1;unfold Vw.bG at hb;simp only [Mv] at hb;obtain⟨arr,b1,b2,b3,_⟩:=hb;have hpos:0<arr.size:=by simp at b2;omega
   have h0:=b3 0 (by simp) hpos;simp only [List.getElem_cons_zero] at h0;refine⟨none,w3.putObj (w.heap.size+3) (.loop { rec with state:=.exhausted }),?_,rfl,w.heap.size+2,arr[0],rfl,hD4,?_,arr[0],F3,β3,rfl,?_,?_⟩
   ·have:=run_endLoop (P:=Tryz.prog) hL3 (by rw [hrec];simp);rw [this,hrec]
   ·rw [hc1] at b1;simp only [World.cell?];rw [b1];simp [hpos]
   ·refine⟨fun k=>?_,fun k k' h=>?_,fun _=>trivial,rfl,rfl,q3.kH,q3.F0,q3.old,q3.ge,q3.mH,fun k h=>?_,q3.C1,q3.Av⟩
    ·unfold Vw.bG;simp only [hlv]
    ·rw [hlv] at h;cases h
    ·exact absurd (by rw [hlv];rfl) h
   ·have hR:∀ x,(Vw.mk F3 β3 (ja [] (nD (oO (!s.isEmpty) (aP s 0)))) (w3.putObj (w.heap.size+3) (.loop { rec with state:=.exhausted }))).cv arr[0] (.d x)→(Vw.mk F3 β3 (bV [] []) ((w3.putObj (w.heap.size+3) (.loop { rec with state:=.exhausted })).putObj (w.heap.size+2) (.deferred none))).av arr[0] (.c (.d x)):=by
     rintro x ⟨g1,g2⟩;refine⟨Rd.mono (fI (fun _ h=>h) (fun b hb=>?_)) g1,g2⟩;refine World.putObj_heap_other (fun e=>?_);subst e;exact hF3 _ (by omega) (by omega) hb
    rw [← Mf];exact hR _ h0
  ·intro u n st v sz L fr ops o cl hv hz hst hL hn hdst hg ho hcal hargs f29 f30 f31;rw [← hdst];refine qV.yield (xs:=[.c (.d (.int .u32 v)),.c (.d (.int .u32 sz))]) (fun d hd=>?_) hg ho hcal f29 (by rw [hargs];simp [aG.val,f30,f31]) (by rw [hrec];rfl) hL1 (fun k hk=>hnot _ (by omega) k hk) (su _ _) ?_
   ·rw [hdst] at hd;cases hd;rw [Tryz.ntmps330];decide
   intro F' β' w' vs' hX hXe hl' hvs hav;obtain⟨x,y,rfl,hx,hy⟩:=args2 hvs hav;have ht:(rec.params.zip #[x,y]).foldl (fun tmps (t,a)=>tmps.setIfInBounds t a) rec.tmps=((La ⟨s.toArray⟩ w).setIfInBounds 8 x).setIfInBounds 9 y:=by rw [hrec];simp only [List.zip_toArray,List.zip_cons_cons,List.zip_nil_right,List.foldl_toArray,List.foldl_cons,List.foldl_nil]
   rw [ht]
   have hb1:β' 1=w.heap.size:=by
    have h0:ja s DV.nilsl 1≠.hole:=by simp
    rcases hX.keep 1 h0 with h|⟨h,_⟩
    ·simp at h
    ·rw [h];exact e1
   have hFl:¬ F' (w.heap.size+3):=by
    intro hb;rcases (hX.kH _ hb).2 with h|h
    ·have:=hFw _ h;omega
    ·have:w1.heap.size≤w.heap.size+3:=h;omega
   let fr0:Nat→AV:=fun t=>if t=3 then .c (.ptr 1 0) else if t=8 then .c (.d (.int .u32 v)) else if t=9 then .c (.d (.int .u32 sz)) else .junk
   have hval:val 4294967296 (dO (oO st n))=n:=by
    cases st with
    | false=>have:=hst rfl;subst this;rfl
    | true=>exact bg (by decide) n
   have hlenO:(dO (oO st n)).length≤L:=by
    cases st with
    | false=>simp [oO,dO]
    | true=>exact cB (by decide) hn
   refine BM (n:=20) (κ:=0) (fr:=fr0) (fr2:=aJ (aJ fr0 4 (.c (.d (.int .u32 v)))) 5 (.c (.d (.int .u32 sz)))) hXe (su _ _) hl' (by rw [hrec]) (by rw [hrec]) (by simp [La]) (fun t=>?_) hFl ?_ ?_
   ·show (Vw.mk F' β' _ w').av _ (if t=3 then .c (.ptr 1 0) else if t=8 then .c (.d (.int .u32 v)) else if t=9 then .c (.d (.int .u32 sz)) else .junk)
    by_cases h3:t=3
    ·subst h3;simp only [if_true];have:(((La ⟨s.toArray⟩ w).setIfInBounds 8 x).setIfInBounds 9 y).getD 3 undef=.pointer (some ⟨w.heap.size,0,none⟩):=rfl;rw [this];refine⟨?_,rfl⟩;simp only [Vw.cO,Mv,hb1]
    ·by_cases h8:t=8
     ·subst h8;exact hx
     ·by_cases h9:t=9
      ·subst h9;exact hy
      ·simp only [h3,h8,h9,if_false];trivial
   ·intro c hP hG hn' _;rw [hrec];exact Ho G v sz _ _ fr0 rfl rfl c hP hG hn'
   ·intro c hP hG hn' _;rw [hrec];have:=FN G v sz hv hz (oO st n) (nD (oO st n)) (Mf _) (by omega) L (by omega) (by rw [hval];exact hn) u (some (w.heap.size+3)) (aJ (aJ fr0 4 (.c (.d (.int .u32 v)))) 5 (.c (.d (.int .u32 sz)))) (by simp [aJ,fr0]) (by simp [aJ]) (by simp [aJ]) c hP hG hn';rw [hval] at this;exact this
end Go.Am

namespace Go.Am
open Go.Proofs N
theorem sM {V V':Vw}(hm:∀ a v,V.mem a v→V'.mem a v) {v:Value}{x:CV}(hx:x.pure=true) (h:V.cv v x):V'.cv v x:=by
 cases x with
 | d x=>exact⟨Rd.mono hm h.1,h.2⟩
 | junk=>exact h
 | _=>cases hx
theorem lC {V V':Vw}(hm:∀ a v,V.mem a v→V'.mem a v) {v:Value}{x:AV}(hx:x.jy=true) (h:V.l7 v x):V'.l7 v x:=by
 cases x with
 | c x=>exact sM hm hx h
 | agg cs=>
  obtain⟨arr,h1,h2,h3⟩:=h;refine⟨arr,h1,h2,fun i p q=>sM hm ?_ (h3 i p q)⟩;simp only [AV.jy,List.all_eq_true] at hx;exact hx _ (List.getElem_mem p)
 | tup l=>exact h.elim
 | undef=>exact h
 | junk=>trivial
theorem sR {V V':Vw}(hm:∀ a v,V.mem a v→V'.mem a v) {v:Value}{x:AV}(hx:x.pure=true) (h:V.av v x):V'.av v x:=by
 cases x with
 | tup l=>
  obtain⟨arr,h1,h2,h3⟩:=h;refine⟨arr,h1,h2,fun i p q=>lC hm ?_ (h3 i p q)⟩;simp only [AV.pure,List.all_eq_true] at hx;exact hx _ (List.getElem_mem p)
 | c x=>
  have hx':(AV.c x).jy=true:=hx;exact lC (x:=.c x) hm hx' h
 | agg cs=>
  have hx':(AV.agg cs).jy=true:=hx;exact lC (x:=.agg cs) hm hx' h
 | undef=>exact h
 | junk=>trivial
theorem bS.r7 {P:Program}{G:List (List DV)}{f:FuncId}{us:List AV}{lv:Key→LB}{x:AV}(hus:∀ u∈us,u.pure=true) (hx:x.pure=true) (h:aj P G f us x):bS P G f us lv (.ret x lv):=by
 intro F β w vs hS hl hv;have hlv:bV [] []=fun _=>LB.hole:=fN
 have hS0:cu (cH P G w F β (bV [] [])) F β (bV [] []) w:=by
  rw [hlv];exact⟨fun k=>trivial,fun k k' h=>(by cases h),fun _=>trivial,rfl,rfl,fun b hb=>⟨(hS.kH b hb).1,.inl hb⟩,fun _ hb=>hb,fun _ _ _=>rfl,Nat.le_refl _,hS.mH,fun k hk=>absurd rfl hk,fun _=>Nat.le_refl _,⟨rfl,rfl⟩⟩
 refine (h F β w vs hS0 hl (fun i p q=>sR (V:=Vw.mk F β lv w) (V':=Vw.mk F β (bV [] []) w) (fun _ _ h=>h) (hus _ (List.getElem_mem p)) (hv i p q))).mono fun e w' he=>?_;obtain⟨v,F',β',rfl,hX,hav⟩:=he
 have hold:∀ b,b<w.heap.size→w'.heap[b]?=w.heap[b]?:=fun b hb=>hX.old b hb (by
  rintro⟨k,hk,_⟩;rw [hlv] at hk;cases hk)
 have hFl:∀ b,F' b→F b∨w.heap.size≤b:=fun b hb=>(hX.kH b hb).2
 refine⟨v,F',β,rfl,?_,sR (V:=Vw.mk F' β' (bV [] []) w') (V':=Vw.mk F' β lv w') (fun _ _ h=>h) hx hav⟩;refine aE.step (hoo:=hX.Av) (c:={ cH P G w F β lv with n:=0 }) (s:=⟨fun _=>.junk,lv⟩) hS hX.F0 (fun b hb=>hold b (hS.kH b hb).1) (fun k=>LB.bz _) (fun _ _ _=>rfl) hX.C1 ?_ hS.inj (fun b hb=>(hFl b hb).imp id fun h=>⟨(hX.kH b hb).1,h⟩) hX.ge (fun b hb _=>hold b hb);intro k hK;have hb:=hS.bG k
 have key:(lv k).live=true→(Vw.mk F' β lv w').bG { cH P G w F β lv with n:=0 } k:=fun hl=>
  Vw.bD hb hK rfl rfl (hold _ (hS.eZ hl)) (fun _ hf=>by
   rcases hFl _ hf with h|h
   ·exact h
   ·have:=hS.eZ (k:=k) hl;exact absurd h (by show ¬ w.heap.size≤β k;omega))
 cases e:lv k with
 | cells own fz T cs=>
  cases fz with
  | false=>exact key (by rw [e];rfl)
  | true=>
   unfold Vw.bG at hb ⊢;simp only [e] at hb ⊢;obtain⟨arr,b1,b2,b3,b4,b5⟩:=hb;simp only [if_true] at b4 ⊢;exact⟨arr,by rw [hold _ (hS.kH _ b4).1];exact b1,b2,fun i p q=>hK.cv (b3 i p q),hX.F0 _ b4,b5⟩
 | map own es=>exact key (by rw [e];rfl)
 | hole=>unfold Vw.bG;simp only [e]
 | dead=>unfold Vw.bG;simp only [e]
 | nils=>unfold Vw.bG;simp only [e]
end Go.Am

namespace Go.Am
open Go.Proofs N
noncomputable def xj (f:Nat)(x:Spec)(t:Tb Spec):Tb Spec:=t.set .body x (pathOf f)
theorem kL (f j:Nat)(x:Spec)(t:Tb Spec):(xj f x t).get .body (pathOf j)=if j=f then x else t.get .body (pathOf j):=by
 have:Decidable (pathOf j=pathOf f):=Classical.propDecidable _;unfold xj;rw [Tb.j6]
 by_cases e:j=f
 ·subst e;simp
 ·rw [if_neg e,if_neg (fun h=>e (pq h))]
def G4:List UInt8→Bool
 | []=>true
 | c::l=>(Nat.ble 48 c.toNat && Nat.ble c.toNat 57) && G4 l
theorem AX:∀ {l:List UInt8},G4 l=true→tK l
 | [],_=>fun c hc=>by cases hc
 | c::l,h=>by
  simp only [G4,Bool.and_eq_true] at h;intro d hd;rcases List.mem_cons.1 hd with rfl|hd
  ·exact⟨Nat.le_of_ble_eq_true h.1.1,Nat.le_of_ble_eq_true h.1.2⟩
  ·exact AX h.2 d hd
def Fe:List AV→Option AV
 | [.c (.d (.str s))]=>bif G4 s && Nat.ble s.length 1000000000 then some (nK .u32 (oO (!s.isEmpty) (aP s 0))) else none
 | _=>none
theorem GZ (m:Int){us:List AV}{x:AV}(h:Fe us=some x) (lv:Key→LB):bS Tryz.prog (GG m) 226 us lv (.ret x lv):=by
 unfold Fe at h;split at h
 ·rename_i s
  cases hb:G4 s && Nat.ble s.length 1000000000 with
  | false=>rw [hb] at h;cases h
  | true=>
   rw [hb] at h;simp only [cond_true,Option.some.injEq] at h;subst h;simp only [Bool.and_eq_true] at hb;exact bS.r7 (fun u hu=>by simp at hu;subst hu;rfl) (by simp) (n8 (GG m) s (AX hb.1) (Nat.le_of_ble_eq_true hb.2))
 ·cases h
noncomputable def Ro:Tb Spec:=xj 59 .caught (xj 215 (.self JG) (xj 253 (.pure zu) (xj 255 (.pure uo) (xj 175 (.pure zA) (xj 226 (.pure Fe) .leaf)))))
theorem qW (f:Nat):Ro.get .body (pathOf f)=if f=59 then .caught else if f=215 then .self JG else if f=253 then .pure zu else if f=255 then .pure uo else if f=175 then .pure zA else if f=226 then .pure Fe else .body:=by
 unfold Ro;simp only [kL,Tb.dL]
theorem G2 (m:Int):vp Tryz.prog (GG m) Ro 179 where
 pure:=by
  intro f g us x h hg lv ho;rw [qW] at h;split at h
  ·cases h
  split at h
  ·cases h
  split at h
  ·rename_i e;subst e;cases h;exact Gb m hg lv
  split at h
  ·rename_i e;subst e;cases h;exact D6 m hg lv
  split at h
  ·rename_i e;subst e;cases h;exact FA m hg lv
  split at h
  ·rename_i e;subst e;cases h;exact GZ m hg lv
  ·cases h
 uk:=by
  intro f h v t fs cs lv lv' x ht hf ho hc;rw [qW] at h;split at h
  ·rename_i e;subst e;exact Dx m v t fs cs lv lv' x ht hf ho hc
  ·repeat (split at h;· cases h)
   cases h
 um:=by
  intro f h v t fs cs lv lv' n ht hf ho hc;rw [qW] at h;split at h
  ·rename_i e;subst e;exact Du m v t fs cs lv lv' n ht hf ho hc
  ·repeat (split at h;· cases h)
   cases h
 EX:=by
  intro f g h lv k off T cs r ho hok hk hc;rw [qW] at h;split at h
  ·cases h
  split at h
  ·rename_i e;subst e;cases h;exact DO m lv k off T cs r hok hk hc
  ·repeat (split at h;· cases h)
   cases h
 Ey:=by
  intro f g h lv k off T cs r ho hok hk hc;rw [qW] at h;split at h
  ·cases h
  split at h
  ·rename_i e;subst e;cases h;exact F6 m lv k off T cs r hk hc
  ·repeat (split at h;· cases h)
   cases h
theorem zP (m:Int)(n:Nat):jw Tryz.prog (GG m) (Qe Tryz.prog (GG m) Ro 179 n):=DD mixed (G2 m) n
end Go.Am

namespace Go.Am
open Go.Proofs
def gH (lv:Key→LB):AV→Option (AV × List Key)
 | .tup l=>(jI lv l).map fun p=>(.tup p.1,p.2)
 | x=>fH lv x
theorem xX {lv:Key→LB}{x y:AV}{ks:List Key}(h:gH lv x=some (y,ks)):∀ k∈ks,∃ own fz T cs,lv k=.cells own fz T cs:=by
 cases x with
 | tup l=>
  simp only [gH,Option.map_eq_some_iff] at h;obtain⟨⟨ys,ks'⟩,h1,h2⟩:=h;simp only [Prod.mk.injEq] at h2;obtain⟨rfl,rfl⟩:=h2;exact oJ h1
 | c x=>exact rF (x:=.c x) h
 | agg x=>exact rF (x:=.agg x) h
 | undef=>cases h
 | junk=>cases h
theorem Hz {V:Vw}{lv:Key→LB}{x y:AV}{ks:List Key}{v:Value}(h:fH lv x=some (y,ks)) (hv:V.av v y):V.l7 v y:=by
 cases x with
 | c x=>
  simp only [fH,Option.map_eq_some_iff] at h;obtain⟨p,_,h2⟩:=h;simp only [Prod.mk.injEq] at h2;obtain⟨rfl,rfl⟩:=h2;exact hv
 | agg cs=>
  simp only [fH,Option.map_eq_some_iff] at h;obtain⟨p,_,h2⟩:=h;simp only [Prod.mk.injEq] at h2;obtain⟨rfl,rfl⟩:=h2;exact hv
 | _=>cases h
theorem cu.gH {c:Ctx}{F Fz:Nat→Prop}{β:Key→Nat}{s:aG}{w:World}(h:cu c F β s.lv w) (hF:∀ b,F b→Fz b) {β':Key→Nat}{lv':Key→LB}{x y:AV}{ks:List Key}{v:Value}(ht:Am.gH s.lv x=some (y,ks))
 (hk:∀ k∈ks,Fz (β k)) (hv:(Vw.mk F β s.lv w).av v x):(Vw.mk Fz β' lv' w).av v y:=by
 cases x with
 | tup l=>
  simp only [Am.gH,Option.map_eq_some_iff] at ht;obtain⟨⟨ys,ks'⟩,h1,h2⟩:=ht;simp only [Prod.mk.injEq] at h2;obtain⟨rfl,rfl⟩:=h2;obtain⟨g1,g2⟩:=sC h1;obtain⟨arr,a1,a2,a3⟩:=hv;refine⟨arr,a1,by omega,fun i p q=>?_⟩;obtain⟨k,h3,h4⟩:=g2 i p (by omega)
  have hx:(Vw.mk F β s.lv w).av arr[i] (l[i]'(by omega)):=by
   have:=a3 i (by omega) q;generalize l[i]'(by omega)=z at this h3
   cases z with
   | tup l=>cases h3
   | _=>exact this
  exact Hz h3 (h.fH hF h3 (fun k' hk'=>hk k' (h4 k' hk')) hx)
 | c x=>exact h.fH (x:=.c x) hF ht hk hv
 | agg cs=>exact h.fH (x:=.agg cs) hF ht hk hv
 | undef=>cases ht
 | junk=>cases ht
theorem aj.BS {P:Program}{G:List (List DV)}{f:FuncId}{us:List AV}{X X':AV}{lv':Key→LB}{ks:List Key}(h:bS P G f us (fun _=>.hole) (.ret X lv')) (hd:gH lv' X=some (X',ks)):aj P G f us X':=by
 intro F β w vs hS hl hv;have hlv:bV [] []=fun _=>LB.hole:=fN
 rw [hlv] at hS hv;refine (h F β w vs hS hl hv).mono fun e w' he=>?_;obtain⟨v,F',β',rfl,hX,hav⟩:=he;have hFz:∀ b,F' b→(F' b∨∃ k∈ks,b=β' k):=fun b hb=>.inl hb
 refine⟨v,fun b=>F' b∨∃ k∈ks,b=β' k,β',rfl,?_,?_⟩
 ·rw [hlv];refine⟨fun k=>trivial,fun k k' h=>(by cases h),fun _=>trivial,rfl,rfl,fun b hb=>?_,fun b hb=>.inl (hX.F0 b hb),fun b hb hW=>hX.old b hb (by rintro⟨k,hk,_⟩;cases hk),hX.ge,fun g cs hg=>Rd.mono (fI hFz (fun _ _=>rfl)) (hX.mH g cs hg),fun k hk=>absurd rfl hk,hX.C1,hX.Av⟩;rcases hb with hb|⟨k,hk,rfl⟩
  ·exact hX.kH b hb
  ·obtain⟨own,fz,T,cs',e⟩:=xX hd k hk;have hlt:β' k<w'.heap.size:=aE.qF hX e
   cases fz with
   | false=>
    refine⟨hlt,?_⟩;rcases hX.dY (k:=k) (by show (lv' k).live=true;rw [e];rfl) with h1|⟨j,hj,_⟩
    ·exact .inr h1
    ·cases hj
   | true=>
    have hb:=hX.bG k;unfold Vw.bG at hb;simp only [e] at hb;obtain⟨arr,b1,b2,b3,b4,b5⟩:=hb;simp only [if_true] at b4;exact hX.kH _ b4
 ·exact cu.gH (s:=⟨fun _=>.junk,lv'⟩) hX hFz hd (fun k hk=>.inr ⟨k,hk,rfl⟩) hav
noncomputable def EM:CK:=fun x lv nx lg=>.done x lv nx []
noncomputable def Zp (r:cF):Option AV:=
 cF.rec (motive:=fun _=>Option AV) (fun _ _=>none) (fun x lv _ _=>(gH (aW lv) x).map (·.1)) (fun _ _ _ _=>none) r
theorem aj.Cg {P:Program}{G:List (List DV)}{ev:dD}(hc:jw P G ev) {f:FuncId}{us:List AV}{X':AV}(h:Zp (ev f us .leaf 0 [] EM .p7)=some X'):aj P G f us X':=by
 have h0:cD (aW .leaf):=fun k=>by simp [aW,Tb.dL,LB.okB]
 have e0:aW .leaf=fun _=>LB.hole:=by funext k;simp [aW,Tb.dL]
 generalize hr:ev f us .leaf 0 [] EM .p7=r at h
 cases r with
 | bad n o=>cases h
 | p7 d lv nx lg=>cases h
 | done X LV nx lg=>
  rcases hc f us .leaf 0 [] EM .p7 _ hr (fun n o h=>by cases h) h0 with ⟨x,lv',nx',l,q1,q2,_⟩|⟨d,lv',nx',l,q1,_⟩
  ·simp only [EM,cF.done.injEq] at q1;obtain⟨rfl,rfl,_,_⟩:=q1;rw [e0] at q2;have h1:(gH (aW lv') x).map (·.1)=some X':=h;obtain⟨⟨y,ks⟩,h2,h3⟩:=Option.map_eq_some_iff.1 h1;simp only at h3;subst h3;exact aj.BS q2 h2
  ·cases q1
end Go.Am

namespace Go.Am
def bM (c:Ctx)(fn:Func)(x:AV):Ex→aG→Nat→Prop
 | .normal,s,_|.ret,s,_=>dH c.P s fn.results.toList=some x
 | _,_,_=>False
theorem aj.bH {P:Program}{G:List (List DV)}{f:FuncId}{fn:Func}{code:Code}{args:List AV}{x:AV}(hf:P.funcs[f]?=some fn) (hb:fn.body=some code) (hl:args.length≤fn.ntmps)
 (hx:∀ lv,gH lv x=some (x,[]))
 (h:∀ c:Ctx,c.P=P→c.G=G→c.n=fn.ntmps→AW c none code ⟨fun t=>args.getD t .undef,fun _=>.hole⟩ 0 (bM c fn x)):aj P G f args x:=by
 intro F β w vs hS hvl hv;have hlv:bV [] []=fun _=>LB.hole:=fN
 rw [hlv] at hS hv;refine calls_of_wp hf hb ?_
 let c:Ctx:={ cH P G w F β (fun _=>.hole) with n:=fn.ntmps }
 have hS':cu c F β (fun _=>.hole) w:=hS
 let a:Act:={ tmps:=vs++Array.replicate (fn.ntmps - vs.size) undef,defers:=[] }
 have hst:aE c F β ⟨fun t=>args.getD t .undef,fun _=>.hole⟩ a w:=by
  refine hS'.with ?_ rfl (fun t=>?_)
  ·show (vs++Array.replicate (fn.ntmps - vs.size) undef).size=fn.ntmps;simp;omega
  ·show (Vw.mk F β (fun _=>.hole) w).av ((vs++Array.replicate (fn.ntmps - vs.size) undef).getD t undef) (args.getD t .undef)
   by_cases ht:t<args.length
   ·have h1:args.getD t .undef=args[t]:=cC ht
    have h2:(vs++Array.replicate (fn.ntmps - vs.size) undef).getD t undef=vs[t]'(by omega):=by
     rw [Array.getD_eq_getD_getElem?,Array.getElem?_append_left (by omega),Array.getElem?_eq_getElem (by omega)];rfl
    rw [h1,h2];exact hv t ht (by omega)
   ·have h1:args.getD t .undef=.undef:=cY ht
    have h2:(vs++Array.replicate (fn.ntmps - vs.size) undef).getD t undef=undef:=by
     rw [Array.getD_eq_getD_getElem?,Array.getElem?_append_right (by omega),Array.getElem?_replicate];split <;> rfl
    rw [h1,h2];rfl
 have hw:=(wpIn_wide (n:=0)).1 (h c rfl rfl rfl F β a w hst);refine wp_mono hw fun e a' w' hp=>?_;obtain⟨e',s',κ',F',β',hq,hX,he⟩:=hp
 have fin:dH c.P s' fn.results.toList=some x→a'.defers=[]∧∃ v,(results fn a'.tmps).run P w'=.ok v w'∧Lq P G [] F β w (.ret x [] []) (.returned v) w':=by
  intro h0;obtain⟨v,h4,h5⟩:=pW hX h0;refine⟨hX.defers,v,h4,v,F',β',rfl,?_,?_⟩
  ·rw [hlv];exact⟨fun k=>trivial,fun k k' h=>(by cases h),fun _=>trivial,rfl,rfl,hX.kH,fun b hb=>hX.F0 b hb,fun b hb hW=>hX.old b hb (by rintro⟨k,hk,_⟩;cases hk),hX.ge,hX.mH,fun k hk=>absurd rfl hk,hX.C1,hX.Av⟩
  ·rw [hlv];exact hX.tj.gH (fun _ h=>h) (hx s'.lv) (fun k hk=>by cases hk) h5
 cases e' with
 | normal=>cases he;exact fin hq
 | ret=>cases he;exact fin hq
 | exit id=>exact hq.elim
 | goto l=>exact hq.elim
 | panic d=>exact hq.elim
end Go.Am

namespace Go.Am
def tr (c:Ctx)(fn:Func)(x:AV):Ex→aG→Nat→Prop
 | .normal,s,_|.ret,s,_=>∃ X ks,dH c.P s fn.results.toList=some X∧gH s.lv X=some (x,ks)
 | _,_,_=>False
theorem aj.uz {P:Program}{G:List (List DV)}{f:FuncId}{fn:Func}{code:Code}{args:List AV}{x:AV}(hf:P.funcs[f]?=some fn) (hb:fn.body=some code) (hl:args.length≤fn.ntmps)
 (h:∀ c:Ctx,c.P=P→c.G=G→c.n=fn.ntmps→c.bq=(fun _=>.hole)→AW c none code ⟨fun t=>args.getD t .undef,fun _=>.hole⟩ 0 (tr c fn x)):aj P G f args x:=by
 intro F β w vs hS hvl hv;have hlv:bV [] []=fun _=>LB.hole:=fN
 rw [hlv] at hS hv;refine calls_of_wp hf hb ?_
 let c:Ctx:={ cH P G w F β (fun _=>.hole) with n:=fn.ntmps }
 have hS':cu c F β (fun _=>.hole) w:=hS
 let a:Act:={ tmps:=vs++Array.replicate (fn.ntmps - vs.size) undef,defers:=[] }
 have hst:aE c F β ⟨fun t=>args.getD t .undef,fun _=>.hole⟩ a w:=by
  refine hS'.with ?_ rfl (fun t=>?_)
  ·show (vs++Array.replicate (fn.ntmps - vs.size) undef).size=fn.ntmps;simp;omega
  ·show (Vw.mk F β (fun _=>.hole) w).av ((vs++Array.replicate (fn.ntmps - vs.size) undef).getD t undef) (args.getD t .undef)
   by_cases ht:t<args.length
   ·have h1:args.getD t .undef=args[t]:=cC ht
    have h2:(vs++Array.replicate (fn.ntmps - vs.size) undef).getD t undef=vs[t]'(by omega):=by
     rw [Array.getD_eq_getD_getElem?,Array.getElem?_append_left (by omega),Array.getElem?_eq_getElem (by omega)];rfl
    rw [h1,h2];exact hv t ht (by omega)
   ·have h1:args.getD t .undef=.undef:=cY ht
    have h2:(vs++Array.replicate (fn.ntmps - vs.size) undef).getD t undef=undef:=by
     rw [Array.getD_eq_getD_getElem?,Array.getElem?_append_right (by omega),Array.getElem?_replicate];split <;> rfl
    rw [h1,h2];rfl
 have hw:=(wpIn_wide (n:=0)).1 (h c rfl rfl rfl rfl F β a w hst);refine wp_mono hw fun e a' w' hp=>?_;obtain⟨e',s',κ',F',β',hq,hX0,he⟩:=hp
 have fin:(∃ X ks,dH c.P s' fn.results.toList=some X∧gH s'.lv X=some (x,ks))→a'.defers=[]∧∃ v,(results fn a'.tmps).run P w'=.ok v w'∧Lq P G [] F β w (.ret x [] []) (.returned v) w':=by
  rintro⟨X,ks,h0,hd⟩;obtain⟨v,h4,hav⟩:=pW hX0 h0;have hX:cu (cH P G w F β (fun _=>.hole)) F' β' s'.lv w':=hX0.tj;have hFz:∀ b,F' b→(F' b∨∃ k∈ks,b=β' k):=fun b hb=>.inl hb
  refine⟨hX0.defers,v,h4,v,fun b=>F' b∨∃ k∈ks,b=β' k,β',rfl,?_,?_⟩
  ·rw [hlv];refine⟨fun k=>trivial,fun k k' h=>(by cases h),fun _=>trivial,rfl,rfl,fun b hb=>?_,fun b hb=>.inl (hX.F0 b hb),fun b hb hW=>hX.old b hb (by rintro⟨k,hk,_⟩;cases hk),hX.ge,fun g cs hg=>Rd.mono (fI hFz (fun _ _=>rfl)) (hX.mH g cs hg),fun k hk=>absurd rfl hk,hX.C1,hX.Av⟩;rcases hb with hb|⟨k,hk,rfl⟩
   ·exact hX.kH b hb
   ·obtain⟨own,fz,T,cs',e⟩:=xX hd k hk;have hlt:β' k<w'.heap.size:=aE.qF hX e
    cases fz with
    | false=>
     refine⟨hlt,?_⟩;rcases hX.dY (k:=k) (by show (s'.lv k).live=true;rw [e];rfl) with h1|⟨j,hj,_⟩
     ·exact .inr h1
     ·cases hj
    | true=>
     have hb:=hX.bG k;unfold Vw.bG at hb;simp only [e] at hb;obtain⟨arr,b1,b2,b3,b4,b5⟩:=hb;simp only [if_true] at b4;exact hX.kH _ b4
  ·rw [hlv];exact cu.gH (s:=⟨fun _=>.junk,s'.lv⟩) hX hFz hd (fun k hk=>.inr ⟨k,hk,rfl⟩) hav
 cases e' with
 | normal=>cases he;exact fin hq
 | ret=>cases he;exact fin hq
 | exit id=>exact hq.elim
 | goto l=>exact hq.elim
 | panic d=>exact hq.elim
theorem tT {lv:Key→LB}{n:Nat}:∀ (l:List DV),gb (ez lv n) (l.map CV.d)=some (l,[])
 | []=>rfl
 | x::l=>by
  have ih:=tT (lv:=lv) (n:=n) l;simp only [List.map_cons,gb] at ih ⊢;rw [ih]
  cases n <;> rfl
theorem vH {α:Type}{sz:Nat}:∀ (es:List (List α)),(∀ e∈es,e.length=sz)→chunk sz es.length es.flatten=es
 | [],_=>rfl
 | e::es,h=>by
  have he:e.length=sz:=h e (by simp);have ih:=vH es fun x hx=>h x (by simp [hx])
  have hlen:es.flatten.length=es.length*sz:=by
   rw [List.length_flatten]
   have:∀ l:List (List α),(∀ e∈l,e.length=sz)→(l.map List.length).sum=l.length*sz:=by
    intro l
    induction l with
    | nil=>intro _;simp
    | cons a l ih=>intro h;simp [ih fun x hx=>h x (by simp [hx]),h a (by simp),Nat.succ_mul];omega
   exact this es fun x hx=>h x (by simp [hx])
  unfold chunk at ih ⊢;rw [List.length_cons,List.range_succ_eq_map,List.map_cons,List.map_map];congr 1
  ·simp [List.take_left' he]
  ·conv=>rhs;rw [← ih]
   apply List.map_congr_left;intro i _;simp only [Function.comp,List.flatten_cons];have:(i+1)*sz=e.length+i*sz:=by rw [he,Nat.succ_mul];omega
   rw [Nat.succ_eq_add_one,this,List.drop_append,List.drop_eq_nil_of_le (by omega),Nat.add_sub_cancel_left,List.nil_append]
theorem tr.tmp {c:Ctx}{fn:Func}{x X:AV}{t:Nat}{s:aG}{κ:Nat}{ks:List Key}(hr:fn.results=#[.tmp t]) (hx:s.fr t=X) (hd:gH s.lv X=some (x,ks)):tr c fn x .ret s κ:=
 ⟨X,ks,by rw [hr];simp [dH,kq,n5,hx],hd⟩
theorem tr.cell {c:Ctx}{fn:Func}{x X:AV}{t k off:Nat}{T U:TypeId}{own fz:Bool}{cs:List CV}{s:aG}{κ:Nat}{ks:List Key}(hr:fn.results=#[.cell t T]) (ht:s.fr t=.c (.ptr k off)) (hk:s.lv k=.cells own fz U cs)
 (hx:eL c.P T (cs.drop off)=some X) (hd:gH s.lv X=some (x,ks)):tr c fn x .ret s κ:=
 ⟨X,ks,by rw [hr];simp [dH,kq,n5,ht,hk,hx],hd⟩
theorem tr.kY {c:Ctx}{fn:Func}{x X y:AV}{t u k off:Nat}{T U:TypeId}{own fz:Bool}{cs:List CV}{s:aG}{κ:Nat}{ks:List Key}(hr:fn.results=#[.cell t T,.tmp u]) (ht:s.fr t=.c (.ptr k off)) (hk:s.lv k=.cells own fz U cs)
 (hx:eL c.P T (cs.drop off)=some X) (hy:s.fr u=y) (hn:X.cP=true) (hm:y.cP=true) (hd:gH s.lv (.tup [X,y])=some (x,ks)):tr c fn x .ret s κ:=
 ⟨.tup [X,y],ks,by rw [hr];simp [dH,kq,n5,ht,hk,hx,hy,hn,hm],hd⟩
theorem KU {lv:Key→LB}{k:Key}{own fz:Bool}{T:TypeId}{es:List (List DV)}{sz:Nat}(h:lv k=.cells own fz T (es.flatten.map CV.d)) (hs:∀ e∈es,e.length=sz) (hl:es.length≤9223372036854775807) :
 gH lv (.c (.aX k 0 es.length sz))=some (.c (.d (.sl es)),[k]):=by
 have hlen:es.flatten.length=es.length*sz:=by
  rw [List.length_flatten]
  have:∀ l:List (List DV),(∀ e∈l,e.length=sz)→(l.map List.length).sum=l.length*sz:=by
   intro l
   induction l with
   | nil=>intro _;simp
   | cons a l ih=>intro h;simp [ih fun x hx=>h x (by simp [hx]),h a (by simp),Nat.succ_mul];omega
  exact this es hs
 have ht:(es.flatten.map CV.d).take (es.length*sz)=es.flatten.map CV.d:=List.take_of_length_le (by rw [List.length_map,hlen];exact Nat.le_refl _);simp only [gH,fH,ez,h,List.length_map,hlen,Nat.zero_add,Nat.le_refl,hl,and_self,if_true,List.drop_zero,ht,tT,Option.map_some,vH es hs]
theorem Ld {lv:Key→LB}{es:List (List DV)}{sz:Nat}(h:∀ e∈es,e.length=sz):gI lv sz (.c (.d (.sl es)))=some (es.length,es.flatten.map CV.d):=by
 have h1:es.all (fun e=>e.length == sz)=true:=by rw [List.all_eq_true];intro e he;simp [h e he]
 simp [gI,h1]
end Go.Am

namespace Go.Am
open Go.Am.Ty Go.Proofs N
theorem KX {B:Nat}{l:List Nat}(h:ok B l) (ht:l=[]∨B ^ (l.length - 1)≤val B l):can B l:=by
 refine⟨h,fun x hx=>?_⟩;rcases List.eq_nil_or_concat l with rfl|⟨xs,y,rfl⟩
 ·cases hx
 ·rw [List.concat_eq_append] at *
  simp only [List.getLast?_append,List.getLast?_singleton,Option.some_or,Option.some.injEq] at hx;subst hx;intro h0;subst h0;rcases ht with e|ht
  ·simp at e
  ·rw [ey] at ht;simp only [List.length_append,List.length_singleton,Nat.add_sub_cancel,Nat.mul_zero,Nat.add_zero] at ht;have:=eC (b8.1 h).1;omega
theorem C8 {B:Nat}{l:List Nat}(h:can B l) (h0:l≠[]):B ^ (l.length - 1)≤val B l:=by
 rcases List.eq_nil_or_concat l with rfl|⟨xs,y,rfl⟩
 ·exact absurd rfl h0
 ·rw [List.concat_eq_append] at *
  have hy:y≠0:=h.2 y (by simp);rw [ey];simp only [List.length_append,List.length_singleton,Nat.add_sub_cancel];have:B ^ xs.length*1≤B ^ xs.length*y:=Nat.mul_le_mul_left _ (by omega);omega
def rC:Option (List Nat)→CV
 | none=>.d .nilsl
 | some l=>.d (.sl (dK .i64 l))
theorem eY (o:Option (List Nat)):nK .i64 o=.c (rC o):=by cases o <;> rfl
@[simp] theorem eG (lv:Key→LB)(s:Int)(p q:Option (List Nat)):gH lv (.agg [.d (.int .i64 s),rC p,rC q])=some (.agg [.d (.int .i64 s),rC p,rC q],[]):=by
 cases p <;> cases q <;> rfl
@[simp] theorem XQ (o:Option (List Nat)):(rC o).pure=true:=by cases o <;> rfl
@[simp] theorem Vu (o:Option (List Nat)):(AV.c (rC o)).cw=true:=by cases o <;> rfl
@[simp] theorem VE (o:Option (List Nat)):(AV.c (rC o)).pure=true:=by cases o <;> rfl
@[simp] theorem ZV (o:Option (List Nat))(g:Key→Key):(rC o).b6 g=rC o:=by cases o <;> rfl
abbrev rA (s:Int)(p q:Option (List Nat)):AV:=.agg [.d (.int .i64 s),rC p,rC q]
@[simp] theorem XA (s:Int)(p q:Option (List Nat)):(AV.agg [.d (.int .i64 s),rC p,rC q]).pure=true:=by cases p <;> cases q <;> rfl
theorem Ve:gS Tryz.prog 215 [] []=some (.agg [.d (.int .i64 0),.d .nilsl,.d .nilsl],[],[],True):=by kernel_rfl
theorem bR (b p q:CV):gS Tryz.prog 215 [0,1,2] [.c b,.c p,.c q]=some (.agg [b,p,q],[],[],True):=by kernel_rfl
theorem ic (b p q:CV):eL Tryz.prog 215 [b,p,q]=some (.agg [b,p,q]):=by kernel_rfl
theorem Bj (lv:Key→LB)(κ:Key)(h:lv κ=.hole)(a:CV):aq Tryz.prog 213 1 [0] lv κ [.c a]=some (.c (.aX κ 0 1 1),[(κ,.cells true false 2 [a])],[],True):=by
 unfold aq;rw [h];kernel_rfl
theorem rz (x k:Nat):(x:Int).tmod (k:Int)=((x % k:Nat):Int):=by rw [Int.tmod_eq_emod_of_nonneg (by omega)];omega
theorem ld (x k:Nat):(x:Int).tdiv (k:Int)=((x / k:Nat):Int):=by rw [Int.tdiv_eq_ediv_of_nonneg (by omega)];omega
theorem EO {lv:Key→LB}{κ:Key}{own fz:Bool}{T:TypeId}{k:IntKind}{l:List Nat}(h:lv κ=.cells own fz T (wK k l)) (hl:l.length≤9223372036854775807):gH lv (.c (.aX κ 0 l.length 1))=some (nK k (some l),[κ]):=zE h hl
theorem Bs (G:List (List DV)):aj Tryz.prog G 221 [] (nK .i64 (some [1])):=by
 refine aj.uz Tryz.func221 rfl (by rw [Tryz.ntmps221];simp)  ?_;rintro⟨_,_,w0,F0,W0,_,bq,β0⟩ rfl rfl rfl rfl;refine aac fun K hK=>?_;refine aad rfl ?_;simp;apply hK;clear hK K;refine aac fun K hK=>?_;refine aad rfl ?_;simp [Bj,-aq];apply hK;clear hK K;refine aag (κ:=0) (tr.tmp (κ:=0) (X:=.c (.aX 0 0 1 1)) (ks:=[0]) rfl (by simp) ?_);exact EO (own:=true) (fz:=false) (T:=2) (l:=[1]) (by simp [wK]) (by simp)
def HH (s:Int)(q:Option (List Nat)):Option (List Nat):=if s=0 then some [1] else q
theorem Cc (G:List (List DV))(s:Int)(p q:Option (List Nat)):aj Tryz.prog G 249 [rA s p q] (.c (rC (HH s q))):=by
 have h1:=Bs G;rw [eY] at h1;refine aj.aH Tryz.func249 rfl (by rw [Tryz.ntmps249];simp) ?_;rintro⟨_,_,w0,F0,W0,_,bq,β0⟩ rfl rfl rfl;refine aac fun K hK=>?_;refine aad rfl ?_;simp;apply hK;clear hK K;refine aac fun K hK=>?_;refine aac fun K1 hK1=>?_;refine aad rfl ?_;simp;apply hK1;clear hK1 K1
 by_cases hs:s=0
 ·refine aap (by simp [hs] <;> omega) ?_;refine aac fun K1 hK1=>?_;refine aad rfl ?_;simp;refine ai.p 1 9 h1 ?_;simp;apply hK1;clear hK1 K1;exact aag (κ:=0) (au.t (κ:=0) (t:=2) rfl 9 (by simp [HH,hs]))
 ·refine aao (by simp [hs] <;> omega) ?_;refine aah ?_;simp;apply hK;clear hK K;refine aac fun K hK=>?_;refine aad rfl ?_;simp;apply hK;clear hK K;exact aag (κ:=0) (au.t (κ:=0) (t:=2) rfl 9 (by simp [HH,hs]))
theorem iw (G:List (List DV))(l:List Nat)(hl:l.length≤1000000000000):aj Tryz.prog G 289 [nK .i64 (some l)] (nK .i64 (some (cN l))):=by
 have dKl:∀ (l:List Nat),∀ e∈dK .i64 l,e.length=1:=by
  intro l e he;obtain⟨x,_,rfl⟩:=List.mem_map.1 he;rfl
 refine aj.aH Tryz.func289 rfl (by rw [Tryz.ntmps289];simp) ?_;rintro⟨_,_,w0,F0,W0,_,bq,β0⟩ rfl rfl rfl;refine aac fun K hK=>?_;refine aad rfl ?_;simp;apply hK;clear hK K;refine aac fun K hK=>?_;refine aak ?_;refine aax (fun l'=>⟨bt [(0,nK .i64 (some l'))],fun _=>.hole⟩) 0 (fun l'=>l'.length≤l.length∧N.cN l'=N.cN l) (fun l'=>l'.length) l (Le.slots _ (by simp) (by simp)) (by simp) ?_;rintro l' ⟨h0,h1⟩
 have fin:∀ (fr:Nat→AV) (κ:Nat),fr 0=nK .i64 (some (N.cN l))→K ⟨fr,fun _=>.hole⟩ κ:=by
  intro fr κ h;apply hK;clear hK K;refine aac fun K hK=>?_;refine aad rfl ?_;simp;apply hK;clear hK K;exact aag (au.tmp rfl 0 (by simp [h]) rfl rfl (by simp))
 refine aac fun K2 hK2=>aac fun K3 hK3=>?_;refine aad rfl ?_;rcases List.eq_nil_or_concat l' with rfl|⟨xs,x,rfl⟩
 ·simp;apply hK3;refine aat ?_;refine aav ?_;simp;apply fin;simp [← h1]
 ·rw [List.concat_eq_append] at *
  have h3:xs.length+1≤1000000000000:=by simp at h0;omega
  have h4:IntKind.i64.wrap ((xs.length:Int))=xs.length:=bK (by omega) (by omega);have h2:(0:Int)<(xs.length:Int)+1:=by omega
  by_cases hx:x=0
  ·subst hx;simp [nK,dK,fh,jO,Au,Hp,h2,h4]
   repeat refine ag ?_
   apply hK3;clear hK3 K3;refine aaq ?_;refine aah ?_;simp;apply hK2;clear hK2 K2;refine aak ?_;refine aad rfl ?_;simp [nK,dK,fh,jO,Au,h2,h4];refine⟨⟨by omega,fun e he=>?_⟩,?_⟩
   ·rcases he with ⟨y,_,rfl⟩|rfl <;> rfl
   refine⟨xs,Le.slots [(0,nK .i64 (some xs))] (by simp [nK,dK]) (by simp),⟨by simp at h0;omega,by rw [← h1,gC]⟩,by omega⟩
  ·have hx':¬ ((x:Int)=0):=by omega
   simp [nK,dK,fh,jO,Au,Hp,h2,h4,hx']
   repeat refine ag ?_
   apply hK3;clear hK3 K3;refine aao (by simp [hx] <;> omega) ?_;refine aav ?_;simp;apply fin;simp [nK,dK,← h1,iA hx]
theorem lP (G:List (List DV)){a b:Option (List Nat)}(ha:can 1000000000 (dO a)) (hb:can 1000000000 (dO b)):aj Tryz.prog G 247 [nK .i64 a,nK .i64 b] (.c (.d (.int .i64 (dm (val 1000000000 (dO a)) (val 1000000000 (dO b)))))):=by
 refine aZ.iQ 0 (by simp) (fun V v h=>gA h) fun hra=>?_;refine aZ.iQ 1 (by simp) (fun V v h=>gA h) fun hrb=>?_;refine aj.aH Tryz.func247 rfl (by rw [Tryz.ntmps247];simp) ?_;rintro⟨_,_,w0,F0,W0,_,bq,β0⟩ rfl rfl rfl;refine aac fun K hK=>?_;refine aad rfl ?_;simp;apply hK;clear hK K;refine aac fun K hK=>aac fun K1 hK1=>?_;refine aad rfl ?_;simp;apply hK1;clear hK1 K1
 by_cases hl:(dO a).length=(dO b).length
 ·refine aao (by simp [hl] <;> omega) ?_;refine aah ?_;simp;apply hK;clear hK K;refine aac fun K hK=>aac fun K1 hK1=>?_;refine aad rfl ?_;simp;have e1:=bK (n:=((dO a).length:Int) - 1) (by omega) (by omega);simp only [e1];apply hK1;clear hK1 K1;refine aak ?_;refine aax (fun (k:Nat)=>⟨bt [(0,nK .i64 a),(1,nK .i64 b),(5,.c (.d (.int .i64 ((k:Int) - 1))))],fun _=>.hole⟩) 0 (fun k=>k≤(dO a).length∧(dO a).drop k=(dO b).drop k) (fun k=>k) (dO a).length (Le.mk' _ rfl aA (by simp)) ⟨Nat.le_refl _,by rw [List.drop_length,hl,List.drop_length]⟩ ?_;rintro k ⟨h1,h2⟩;refine aac fun K3 hK3=>aac fun K4 hK4=>?_;refine aad rfl ?_;simp;apply hK4;clear hK4 K4
  cases k with
  | zero=>
   refine aat ?_;refine aav ?_;simp;apply hK;refine aac fun K hK=>?_;refine aad rfl ?_;simp;apply hK;clear hK K;simp only [List.drop_zero] at h2;exact aag (κ:=0) (au.t (κ:=0) rfl 0 (by simp [lp (congrArg (val 1000000000) h2)]))
  | succ k=>
   have h3:k<(dO b).length:=by omega
   have h4:k<(dO a).length:=by omega
   have e2:((k+1:Nat):Int) - 1=k:=by omega
   simp only [e2];refine aaq ?_;refine aah ?_;simp;apply hK3;refine aac fun K5 hK5=>?_;refine aak ?_;refine aac fun K6 hK6=>aac fun K7 hK7=>?_;refine aaz mixed (by kernel_rfl) rfl rfl ?_;simp [h3,h4];apply hK7;clear hK7 K7
   by_cases hlt:(dO a)[k]<(dO b)[k]
   ·refine aap (by simp [hlt] <;> omega) ?_;refine aac fun K7 hK7=>?_;refine aad rfl ?_;simp;apply hK7;clear hK7 K7;have:=nM ha.1 h4 h3 h2 hlt;exact aag (κ:=0) (au.t (κ:=0) rfl 0 (by simp [iI this]))
   ·refine aao (by simp [hlt] <;> omega) ?_;refine aah ?_;simp;apply hK6;clear hK6 K6;refine aac fun K7 hK7=>?_;refine aaz mixed (by kernel_rfl) rfl rfl ?_;simp [h3,h4];apply hK7;clear hK7 K7
    by_cases hgt:(dO b)[k]<(dO a)[k]
    ·refine aap (by simp [hgt] <;> omega) ?_;refine aac fun K7 hK7=>?_;refine aad rfl ?_;simp;apply hK7;clear hK7 K7;have:=nM hb.1 h3 h4 h2.symm hgt;exact aag (κ:=0) (au.t (κ:=0) rfl 0 (by simp [jb this]))
    ·refine aao (by simp [hgt] <;> omega) ?_;refine aah ?_;simp;apply hK5;refine aad rfl ?_;simp;have e3:=bK (n:=(k:Int) - 1) (by omega) (by omega);simp [e3];have he:(dO a)[k]=(dO b)[k]:=by omega
     refine⟨k,Le.mk' _ (by simp) (by simp) (by simp [e3]),⟨by omega,?_⟩,by omega⟩;rw [List.drop_eq_getElem_cons h4,List.drop_eq_getElem_cons h3,he,h2]
 ·refine aap (by simp [hl] <;> omega) ?_;refine aac fun K2 hK2=>aac fun K1 hK1=>?_;refine aad rfl ?_;simp;apply hK1;clear hK1 K1
  by_cases hlt:(dO a).length<(dO b).length
  ·refine aap (by simp [hlt] <;> omega) ?_;refine aac fun K7 hK7=>?_;refine aad rfl ?_;simp;apply hK7;clear hK7 K7;exact aag (κ:=0) (au.t (κ:=0) rfl 0 (by simp [iI (jJ (by omega) ha hb hlt)]))
  ·refine aao (by simp [hlt] <;> omega) ?_;refine aah ?_;simp;apply hK2;refine aac fun K7 hK7=>?_;refine aad rfl ?_;simp;apply hK7;clear hK7 K7;exact aag (κ:=0) (au.t (κ:=0) rfl 0 (by simp [jb (jJ (by omega) hb ha (by omega))]))
theorem Iv (G:List (List DV))(a:Option (List Nat)):aj Tryz.prog G 321 [nK .i64 a] (.c (.d (.bool (decide (val 1000000000 (dO a) % 2=1))))):=by
 refine aj.aH Tryz.func321 rfl (by rw [Tryz.ntmps321];simp) ?_;rintro⟨_,_,w0,F0,W0,_,bq,β0⟩ rfl rfl rfl;refine aac fun K hK=>?_;refine aad rfl ?_;simp;apply hK;clear hK K;refine aac fun K hK=>?_
 cases hd:dO a with
 | nil=>
  have h1:(dO a).length=0:=by rw [hd];rfl
  refine aad rfl ?_;simp [h1];apply hK;clear hK K;exact aag (κ:=0) (au.t (κ:=0) rfl 0 (by simp [hd]))
 | cons x l=>
  have h1:0<(dO a).length:=by rw [hd];simp
  have h1':(0:Int)<((dO a).length:Int):=by omega
  have h2:(dO a)[0]=x:=by simp [hd]
  have h4:=fE (P:=Tryz.prog) (T:=213) (lv:=fun _=>.hole) (k:=.i64) (k':=.i64) (o:=a) (i:=0) (by simp) h1;simp only [Int.natCast_zero,h2] at h4;have h5:(x:Int).tmod 2=((x % 2:Nat):Int):=rz x 2;have h6:val 1000000000 (dO a) % 2=x % 2:=by rw [hd,bJ];omega
  refine aad rfl ?_;simp [h1,h1',h4,h5];apply hK;clear hK K;rw [h6];have h7:(x:Int) % 2=1↔x % 2=1:=by omega
  exact aag (κ:=0) (au.t (κ:=0) rfl 0 (by simp [h7]))
end Go.Am

namespace Go.Am
open Go.Am.Ty Go.Proofs N
theorem zQ (k:IntKind)(l:List Nat)(x:Nat):wK k l++[CV.d (.int k (x:Int))]=wK k (l++[x]):=by simp [wK]
theorem Nq (k:IntKind)(l:List Nat)(g:Key→Key):(wK k l).map (CV.b6 g)=wK k l:=by unfold wK;rw [List.map_map];rfl
theorem jq (k:IntKind)(T:TypeId)(l:List Nat)(g:Key→Key):(LB.cells true false T (wK k l)).like (.cells true false T (wK k l)) g:=LB.oI.2 ⟨rfl,rfl,(Nq k l g).symm,id⟩
set_option maxHeartbeats 4000000 in
theorem IJ (G:List (List DV))(a b:Option (List Nat))(ha:can 1000000000 (dO a))(hb:can 1000000000 (dO b))(hal:(dO a).length≤1000000)(hbl:(dO b).length≤1000000) :
 aj Tryz.prog G 324 [nK .i64 a,nK .i64 b] (nK .i64 (some (aI 1000000000 (val 1000000000 (dO a)+val 1000000000 (dO b))))):=by
 have hbs:∀ (lv:Key→LB) (h:lv 1=.hole) (a:CV),aq Tryz.prog 213 1 [0] lv 1 [.c a]=some (.c (.aX 1 0 1 1),[(1,.cells true false 2 [a])],[],True):=fun lv h a=>Bj lv 1 h a
 obtain⟨M,hM⟩:∃ M,M=max (dO a).length (dO b).length:=⟨_,rfl⟩
 have hmx:(if ((dO a).length:Int)<((dO b).length:Int) then ((dO b).length:Int) else ((dO a).length:Int))=(M:Int):=by split <;> omega
 have hmx':(if (dO a).length<(dO b).length then ((dO b).length:Int) else ((dO a).length:Int))=(M:Int):=by split <;> omega
 have hM6:M≤1000000:=by omega
 have e0:=bK (n:=(M:Int)+1) (by omega) (by omega);refine aj.uz Tryz.func324 rfl (by rw [Tryz.ntmps324];simp)  ?_;rintro⟨_,_,w0,F0,W0,_,bq,β0⟩ rfl rfl rfl rfl;refine aac fun K hK=>?_;refine aad rfl ?_;simp;apply hK;clear hK K;refine aac fun K hK=>?_;refine aad rfl ?_;simp [cX,hmx,hmx',e0]
 repeat refine ag ?_
 apply hK;clear hK K;refine aac fun K hK=>?_;refine aad rfl ?_;simp;apply hK;clear hK K;refine aac fun K hK=>?_;refine aac fun K1 hK1=>?_;refine aad rfl ?_;simp;apply hK1;clear hK1 K1;refine aak ?_
 refine aax (fun (p:List Nat × Nat)=>⟨bt [(0,nK .i64 a),(1,nK .i64 b),(5,.c (.aX 0 0 p.1.length 1)),(6,.c (.d (.int .i64 p.2))),(7,.c (.d (.int .i64 p.1.length)))],
  aJ (fun _=>.hole) 0 (.cells true false 2 (wK .i64 p.1))⟩) 1
  (fun p=>ok 1000000000 p.1∧p.2≤1∧val 1000000000 p.1+1000000000 ^ p.1.length*p.2=val 1000000000 ((dO a).take p.1.length)+val 1000000000 ((dO b).take p.1.length)∧(p.1.length≤M∨(p.1.length=M+1∧p.2=0∧1000000000 ^ M≤val 1000000000 (dO a)+val 1000000000 (dO b))))
  (fun p=>M+2 - p.1.length) ([],0) (Le.mk' _ (by simp [wK]) (by simp) (by simp)) (by simp [cg]) ?_
 rintro⟨pre,c⟩ ⟨h1,h2,h3,h4⟩;simp only at h1 h2 h3 h4;have w7:=bK (n:=(pre.length:Int)+1) (by omega) (by omega);refine aac fun K3 hK3=>aac fun K4 hK4=>?_
 have body:(pre.length<(dO a).length∨pre.length<(dO b).length∨0<c)→∀ (fr:Nat→AV) (κ:Nat),fr 0=nK .i64 a→fr 1=nK .i64 b→fr 5=.c (.aX 0 0 pre.length 1)→fr 6=.c (.d (.int .i64 c))→fr 7=.c (.d (.int .i64 pre.length)) →
  K3 ⟨fr,aJ (fun _=>.hole) 0 (.cells true false 2 (wK .i64 pre))⟩ κ:=by
  intro hgo fr κ z0 z1 z5 z6 z7;apply hK3;refine aac fun K5 hK5=>?_;refine aak ?_;refine aac fun K6 hK6=>?_
  have g2:∀ (x:Nat) (fr:Nat→AV) (κ:Nat),x<1000000000→val 1000000000 ((dO a).take (pre.length+1))=val 1000000000 ((dO a).take pre.length)+1000000000 ^ pre.length*x→fr 0=nK .i64 a→fr 1=nK .i64 b→fr 5=.c (.aX 0 0 pre.length 1)→fr 6=.c (.d (.int .i64 ((c+x:Nat):Int)))→fr 7=.c (.d (.int .i64 pre.length)) →
   K6 ⟨fr,aJ (fun _=>.hole) 0 (.cells true false 2 (wK .i64 pre))⟩ κ:=by
   intro x fr κ hx hxv z0 z1 z5 z6 z7;apply hK6;refine aac fun K8 hK8=>?_
   have g3:∀ (y:Nat) (fr:Nat→AV) (κ:Nat),y<1000000000→val 1000000000 ((dO b).take (pre.length+1))=val 1000000000 ((dO b).take pre.length)+1000000000 ^ pre.length*y→fr 0=nK .i64 a→fr 1=nK .i64 b→fr 5=.c (.aX 0 0 pre.length 1)→fr 6=.c (.d (.int .i64 ((c+x+y:Nat):Int)))→fr 7=.c (.d (.int .i64 pre.length)) →
    K8 ⟨fr,aJ (fun _=>.hole) 0 (.cells true false 2 (wK .i64 pre))⟩ κ:=by
    intro y fr κ hy hyv z0 z1 z5 z6 z7;apply hK8;refine aaA 1 ?_;have e1:(((c+x+y:Nat):Int)).tmod 1000000000=(((c+x+y) % 1000000000:Nat):Int):=rz _ _;have e2:(((c+x+y:Nat):Int)).tdiv 1000000000=(((c+x+y) / 1000000000:Nat):Int):=ld _ _;have e3:=bK (n:=(((c+x+y) / 1000000000:Nat):Int)) (by omega) (by omega);generalize hm:c+x+y=m at *
    have hlen:pre.length+1≤9223372036854775807∧(pre.length+1)*8≤140737488355328:=by omega
    refine aac fun K9 hK9=>?_;refine aad rfl ?_;simp [z5,z6,hbs,gI,keyOf,e1,zQ,-aq,-Int.natCast_emod,-Int.natCast_ediv,-Int.natCast_add]
    repeat refine ag ?_
    apply hK9;clear hK9 K9;refine aad rfl ?_;simp [z6,e2,e3,-Int.natCast_emod,-Int.natCast_ediv];apply hK5;refine aad rfl ?_;simp [z7,w7]
    have hM2:pre.length≤M:=by
     rcases h4 with h4|⟨h4,h5,_⟩
     ·exact h4
     ·omega
    refine⟨pre++[m % 1000000000],m / 1000000000,Le.keys [(0,2,.cells true false 2 (wK .i64 (pre++[m % 1000000000])))] 19 _ rfl rfl (by simp) (by simp) (by simp) ?_ ?_,⟨b8.2 ⟨h1,bB.2 ⟨by omega,cg _⟩⟩,by omega,?_,?_⟩,by simp;omega⟩
    ·intro e he;simp only [List.mem_cons,List.not_mem_nil,or_false] at he;subst he;simpa using jq .i64 2 (pre++[m % 1000000000]) _
    ·simp [fM,z0,z1]
    ·have:=lU 1000000000 pre m;rw [List.length_append,List.length_singleton,this,hxv,hyv,← hm,Nat.mul_add,Nat.mul_add];omega
    ·simp only [List.length_append,List.length_singleton]
     by_cases hlt:pre.length<M
     ·exact .inl (by omega)
     ·right;have hx0:pre.length=M:=by omega
      have c1:c=1:=by omega
      have ea:val 1000000000 ((dO a).take pre.length)=val 1000000000 (dO a):=aL (by omega);have eb:val 1000000000 ((dO b).take pre.length)=val 1000000000 (dO b):=aL (by omega);have ea2:val 1000000000 ((dO a).take (pre.length+1))=val 1000000000 (dO a):=aL (by omega);have eb2:val 1000000000 ((dO b).take (pre.length+1))=val 1000000000 (dO b):=aL (by omega);have hp:0<1000000000 ^ pre.length:=Nat.pow_pos (by decide);rw [ea,ea2] at hxv;rw [eb,eb2] at hyv
      have hx00:x=0:=by
       rcases Nat.eq_zero_or_pos x with h|h
       ·exact h
       ·have:=Nat.mul_pos hp h;omega
      have hy00:y=0:=by
       rcases Nat.eq_zero_or_pos y with h|h
       ·exact h
       ·have:=Nat.mul_pos hp h;omega
      rw [ea,eb,c1,Nat.mul_one] at h3;refine⟨by omega,by omega,?_⟩;rw [← hx0];omega
   refine aac fun K9 hK9=>?_;refine aad rfl ?_;simp [z1,z7];apply hK9;clear hK9 K9
   by_cases hlb:pre.length<(dO b).length
   ·have hy:(dO b)[pre.length]<1000000000:=hb.1 _ (List.getElem_mem hlb);have hyv:=br (B:=1000000000) hlb;have e5:IntKind.i64.wrap (((c+x:Nat):Int)+((dO b)[pre.length]:Nat))=((c+x+(dO b)[pre.length]:Nat):Int):=by rw [bK (by omega) (by omega)];omega
    refine aap (by simp [hlb] <;> omega) ?_;refine aad rfl ?_;simp [z1,z6,z7,hlb,e5,-Int.natCast_add];exact g3 _ _ _ hy hyv (by simp [z0]) (by simp [z1]) (by simp [z5]) (by simp) (by simp [z7])
   ·refine aao (by simp [hlb] <;> omega) ?_;refine aah ?_;simp;exact g3 0 _ _ (by omega) (by rw [aL (by omega),aL (by omega)];rfl) (by simp [z0]) (by simp [z1]) (by simp [z5]) (by simp [z6]) (by simp [z7])
  refine aac fun K7 hK7=>?_;refine aad rfl ?_;simp [z0,z7];apply hK7;clear hK7 K7
  by_cases hla:pre.length<(dO a).length
  ·have hx:(dO a)[pre.length]<1000000000:=ha.1 _ (List.getElem_mem hla);have hxv:=br (B:=1000000000) hla;have e5:IntKind.i64.wrap ((c:Int)+((dO a)[pre.length]:Nat))=((c+(dO a)[pre.length]:Nat):Int):=by rw [bK (by omega) (by omega)];omega
   refine aap (by simp [hla] <;> omega) ?_;refine aad rfl ?_;simp [z0,z6,z7,hla,e5,-Int.natCast_add];exact g2 _ _ _ hx hxv (by simp [z0]) (by simp [z1]) (by simp [z5]) (by simp) (by simp [z7])
  ·refine aao (by simp [hla] <;> omega) ?_;refine aah ?_;simp;exact g2 0 _ _ (by omega) (by rw [aL (by omega),aL (by omega)];rfl) (by simp [z0]) (by simp [z1]) (by simp [z5]) (by simp [z6]) (by simp [z7])
 by_cases c1:pre.length<(dO a).length
 ·refine aad rfl ?_;simp [c1];apply hK4;refine aap (by simp [c1] <;> omega) ?_;refine aah ?_;simp;exact body (.inl c1) _ _ (by simp) (by simp) (by simp) (by simp) (by simp)
 by_cases c2:pre.length<(dO b).length
 ·refine aad rfl ?_;simp [c1,c2];apply hK4;refine aap (by simp [c2] <;> omega) ?_;refine aah ?_;simp;exact body (.inr (.inl c2)) _ _ (by simp) (by simp) (by simp) (by simp) (by simp)
 by_cases c3:0<c
 ·have c3':(0:Int)<(c:Int):=by omega
  refine aad rfl ?_;simp [c1,c2,c3,c3'];apply hK4;refine aaq ?_;refine aah ?_;simp;exact body (.inr (.inr c3)) _ _ (by simp) (by simp) (by simp) (by simp) (by simp)
 obtain rfl:c=0:=by omega
 refine aad rfl ?_;simp [c1,c2];apply hK4;refine aat ?_;refine aav ?_;simp;apply hK;refine aac fun K9 hK9=>?_;refine aad rfl ?_;simp;apply hK9;clear hK9 K9;rw [Nat.mul_zero,Nat.add_zero,aL (by omega),aL (by omega)] at h3
 have hc:can 1000000000 pre:=by
  refine KX h1 ?_;rcases h4 with h4|⟨h4,_,h5⟩
  ·by_cases hM0:M=0
   ·exact .inl (List.eq_nil_of_length_eq_zero (by omega))
   ·right;have hpm:pre.length=M:=by omega
    rw [h3,hpm]
    by_cases hq:(dO a).length=M
    ·have:=C8 ha (fun e=>hM0 (by rw [← hq,e];rfl));rw [hq] at this;omega
    ·have hq2:(dO b).length=M:=by omega
     have:=C8 hb (fun e=>hM0 (by rw [← hq2,e];rfl));rw [hq2] at this;omega
  ·right;rw [h3,h4];exact h5
 have hout:=fV (by decide:2≤1000000000) hc h3;refine aag (κ:=0) (tr.tmp (κ:=0) (X:=.c (.aX 0 0 pre.length 1)) (ks:=[0]) rfl (by simp) ?_);rw [← hout];exact EO (own:=true) (fz:=false) (T:=2) (l:=pre) (by simp) (by omega)
end Go.Am

namespace Go.Am
open Go.Am.Ty Go.Proofs N
set_option maxHeartbeats 4000000 in
theorem mc (G:List (List DV))(a b:Option (List Nat))(oka:ok 1000000000 (dO a))(okb:ok 1000000000 (dO b))(hal:(dO a).length≤1000000)(hbl:(dO b).length≤1000000)(hv:val 1000000000 (dO b)≤val 1000000000 (dO a)) :
 aj Tryz.prog G 323 [nK .i64 a,nK .i64 b] (nK .i64 (some (aI 1000000000 (val 1000000000 (dO a) - val 1000000000 (dO b))))):=by
 have hbs:∀ (lv:Key→LB) (h:lv 1=.hole) (a:CV),aq Tryz.prog 213 1 [0] lv 1 [.c a]=some (.c (.aX 1 0 1 1),[(1,.cells true false 2 [a])],[],True):=fun lv h a=>Bj lv 1 h a
 refine aj.lS Tryz.func323 rfl (by rw [Tryz.ntmps323];simp)  ?_;rintro⟨_,_,w0,F0,W0,_,bq,β0⟩ rfl rfl rfl rfl;refine aac fun K hK=>?_;refine aad rfl ?_;simp;apply hK;clear hK K;refine aac fun K hK=>?_;refine aad rfl ?_;simp
 repeat refine ag ?_
 apply hK;clear hK K;refine aac fun K hK=>?_;refine aad rfl ?_;simp;apply hK;clear hK K;refine aac fun K hK=>?_;refine aac fun K1 hK1=>?_;refine aad rfl ?_;simp;apply hK1;clear hK1 K1;refine aak ?_
 refine aax (fun (p:List Nat × Nat)=>⟨bt [(0,nK .i64 a),(1,nK .i64 b),(5,.c (.aX 0 0 p.1.length 1)),(6,.c (.d (.int .i64 p.2))),(7,.c (.d (.int .i64 p.1.length)))],
  aJ (fun _=>.hole) 0 (.cells true false 2 (wK .i64 p.1))⟩) 1
  (fun p=>ok 1000000000 p.1∧p.1.length≤(dO a).length∧p.2≤1∧val 1000000000 p.1+val 1000000000 ((dO b).take p.1.length)=val 1000000000 ((dO a).take p.1.length)+1000000000 ^ p.1.length*p.2)
  (fun p=>(dO a).length - p.1.length) ([],0) (Le.mk' _ (by simp [wK]) (by simp) (by simp)) (by simp [cg]) ?_
 rintro⟨pre,c⟩ ⟨h2,h1,h3,h4⟩;simp only at h1 h2 h3 h4;have w7:=bK (n:=(pre.length:Int)+1) (by omega) (by omega);refine aac fun K3 hK3=>aac fun K4 hK4=>?_;refine aad rfl ?_;simp;apply hK4;clear hK4 K4
 by_cases hlt:pre.length<(dO a).length
 ·have hx:(dO a)[pre.length]<1000000000:=oka _ (List.getElem_mem hlt);have hxv:=br (B:=1000000000) hlt;obtain⟨x,hxe⟩:∃ x,(dO a)[pre.length]=x:=⟨_,rfl⟩
  rw [hxe] at hx hxv;have w1:=bK (n:=(x:Int) - c) (by omega) (by omega);refine aap (by simp [hlt] <;> omega) ?_;refine aah ?_;simp;apply hK3;refine aac fun K5 hK5=>?_;refine aak ?_;refine aac fun K6 hK6=>?_;refine aad rfl ?_;simp [hlt,hxe,w1];apply hK6;clear hK6 K6;refine aac fun K6 hK6=>?_
  have g3:∀ (y:Nat) (fr:Nat→AV) (κ:Nat),y<1000000000→val 1000000000 ((dO b).take (pre.length+1))=val 1000000000 ((dO b).take pre.length)+1000000000 ^ pre.length*y→fr 0=nK .i64 a→fr 1=nK .i64 b→fr 5=.c (.aX 0 0 pre.length 1)→fr 8=.c (.d (.int .i64 ((x:Int) - c - y)))→fr 7=.c (.d (.int .i64 pre.length)) →
   K6 ⟨fr,aJ (fun _=>.hole) 0 (.cells true false 2 (wK .i64 pre))⟩ κ:=by
   intro y fr κ hy hyv z0 z1 z5 z8 z7;apply hK6;refine aaA 1 ?_;refine aac fun K7 hK7=>?_;refine aad rfl ?_;simp;apply hK7;clear hK7 K7;refine aac fun K7 hK7=>?_
   have g4:∀ (v bb:Nat) (fr:Nat→AV) (κ:Nat),v<1000000000→bb≤1→v+c+y=x+1000000000*bb→fr 0=nK .i64 a→fr 1=nK .i64 b→fr 5=.c (.aX 0 0 pre.length 1)→fr 6=.c (.d (.int .i64 (bb:Int)))→fr 8=.c (.d (.int .i64 (v:Int)))→fr 7=.c (.d (.int .i64 pre.length)) →
    K7 ⟨fr,aJ (fun _=>.hole) 0 (.cells true false 2 (wK .i64 pre))⟩ κ:=by
    intro v bb fr κ hv0 hb0 hs z0 z1 z5 z6 z8 z7;apply hK7;refine aaA 1 ?_;refine aad rfl ?_;simp [z5,z8,hbs,gI,keyOf,zQ,-aq]
    repeat refine ag ?_
    apply hK5;refine aad rfl ?_;simp [z7,w7];refine⟨pre++[v],bb,Le.keys [(0,2,.cells true false 2 (wK .i64 (pre++[v])))] 19 _ rfl rfl (by simp) (by simp) (by simp) ?_ ?_,⟨b8.2 ⟨h2,bB.2 ⟨hv0,cg _⟩⟩,by simp;omega,hb0,?_⟩,by simp;omega⟩
    ·intro e he;simp only [List.mem_cons,List.not_mem_nil,or_false] at he;subst he;simpa using jq .i64 2 (pre++[v]) _
    ·simp [fM,z0,z1,z6]
    ·rw [List.length_append,List.length_singleton,ey,hxv,hyv,Nat.pow_succ];have g6:1000000000 ^ pre.length*(v+c+y)=1000000000 ^ pre.length*(x+1000000000*bb):=by rw [hs]
     rw [Nat.mul_add,Nat.mul_add,Nat.mul_add,← Nat.mul_assoc] at g6;omega
   refine aac fun K8 hK8=>?_;refine aad rfl ?_;simp [z8];apply hK8;clear hK8 K8
   by_cases hn:(x:Int) - c - y<0
   ·have w2:IntKind.i64.wrap ((x:Int) - c - y+1000000000)=((x+1000000000 - c - y:Nat):Int):=by rw [bK (by omega) (by omega)];omega
    refine aap (by simp [hn] <;> omega) ?_;refine aac fun K8 hK8=>?_;refine aad rfl ?_;simp [z8,w2];apply hK8;clear hK8 K8;refine aad rfl ?_;simp;exact g4 (x+1000000000 - c - y) 1 _ _ (by omega) (by omega) (by omega) (by simp [z0]) (by simp [z1]) (by simp [z5]) (by simp) (by simp) (by simp [z7])
   ·have w2:(x:Int) - c - y=((x - c - y:Nat):Int):=by omega
    refine aao (by simp [hn] <;> omega) ?_;refine aah ?_;simp;exact g4 (x - c - y) 0 _ _ (by omega) (by omega) (by omega) (by simp [z0]) (by simp [z1]) (by simp [z5]) (by simp) (by simp [z8,w2]) (by simp [z7])
  refine aac fun K7 hK7=>?_;refine aad rfl ?_;simp;apply hK7;clear hK7 K7
  by_cases hlb:pre.length<(dO b).length
  ·have hy:(dO b)[pre.length]<1000000000:=okb _ (List.getElem_mem hlb);have hyv:=br (B:=1000000000) hlb;have w2:=bK (n:=(x:Int) - c - ((dO b)[pre.length]:Nat)) (by omega) (by omega);refine aap (by simp [hlb] <;> omega) ?_;refine aad rfl ?_;simp [hlb,w2];exact g3 _ _ _ hy hyv (by simp) (by simp) (by simp) (by simp) (by simp)
  ·refine aao (by simp [hlb] <;> omega) ?_;refine aah ?_;simp;exact g3 0 _ _ (by omega) (by rw [aL (by omega),aL (by omega)];rfl) (by simp) (by simp) (by simp) (by simp) (by simp)
 ·refine aao (by simp [hlt] <;> omega) ?_;refine aav ?_;simp;have e2:pre.length=(dO a).length:=by omega
  apply hK;refine aac fun K hK=>?_;refine aad rfl ?_;simp
  have hlb:val 1000000000 ((dO b).take pre.length)=val 1000000000 (dO b):=by
   by_cases hb:(dO b).length≤pre.length
   ·exact aL hb
   ·have g1:=bW (B:=1000000000) (dO b) pre.length (by omega);have g2:=eC oka;rw [← e2] at g2
    have g3:val 1000000000 ((dO b).drop pre.length)=0:=by
     apply Classical.byContradiction;intro hne;have:1000000000 ^ pre.length*1≤1000000000 ^ pre.length*val 1000000000 ((dO b).drop pre.length):=Nat.mul_le_mul_left _ (by omega);omega
    rw [g3] at g1;omega
  have hva:val 1000000000 ((dO a).take pre.length)=val 1000000000 (dO a):=aL (by omega)
  have hc:c=0:=by
   apply Classical.byContradiction;intro hne;have:c=1:=by omega
   subst this;have:=eC h2;rw [hlb,hva] at h4;omega
  subst hc
  have hout:cN pre=aI 1000000000 (val 1000000000 (dO a) - val 1000000000 (dO b)):=by
   refine di (by decide) h2 ?_;rw [hlb,hva] at h4;omega
  refine fq.n7 (k:=.i64) (l:=pre) 0 1 0 (by simp;rfl) (by omega) (iw _ _ (by omega)) (by simp) (by simp) (by simp) ?_;simp;apply hK;clear hK K;exact aag (κ:=0) (au.t (κ:=0) rfl 1 (by simp [hout]))
set_option maxHeartbeats 4000000 in
theorem pS (G:List (List DV))(a b:Option (List Nat))(oka:ok 1000000000 (dO a))(okb:ok 1000000000 (dO b))(ha:(dO a).length≤1000000)(hb:(dO b).length≤1000000) :
 aj Tryz.prog G 248 [nK .i64 a,nK .i64 b] (nK .i64 (some (aI 1000000000 (val 1000000000 (dO a)*val 1000000000 (dO b))))):=by
 refine aj.aH Tryz.func248 rfl (by rw [Tryz.ntmps248];simp) ?_;rintro⟨_,_,w0,F0,W0,_,bq,β0⟩ rfl rfl rfl;refine aac fun K hK=>?_;refine aad rfl ?_;simp;apply hK;clear hK K;refine aac fun K hK=>?_;have e0:IntKind.i64.wrap (((dO a).length:Int)+(dO b).length)=(((dO a).length+(dO b).length:Nat):Int):=by rw [bK (by omega) (by omega)];omega
 refine aad rfl ?_;simp [e0,-Int.natCast_add]
 repeat refine ag ?_
 apply hK;clear hK K;refine aac fun K hK=>aac fun K1 hK1=>?_;refine aad rfl ?_;simp;apply hK1;clear hK1 K1;refine aak ?_
 refine aax (fun (p:Nat × List Nat)=>⟨bt [(0,nK .i64 a),(1,nK .i64 b),(5,.c (.aX 0 0 ((dO a).length+(dO b).length) 1)),(6,.c (.d (.int .i64 p.1)))],
  aJ (fun _=>.hole) 0 (.cells true false 2 (wK .i64 (p.2++List.replicate ((dO a).length - p.1) 0)))⟩) 1
  (fun p=>p.1≤(dO a).length∧p.2.length=p.1+(dO b).length∧ok 1000000000 p.2∧val 1000000000 p.2=val 1000000000 ((dO a).take p.1)*val 1000000000 (dO b))
  (fun p=>(dO a).length - p.1) (0,List.replicate (dO b).length 0) (Le.mk' _ (by simp [fu,Nat.add_comm]) (by simp) (by simp)) ⟨by simp,by simp,pM (by omega) _,by simp [nJ]⟩ ?_
 rintro⟨i,lo⟩ ⟨h1,h2,h3,h4⟩;simp only at h1 h2 h3 h4;refine aac fun K3 hK3=>aac fun K4 hK4=>?_;refine aad rfl ?_;simp;apply hK4;clear hK4 K4
 by_cases hlt:i<(dO a).length
 ·refine aap (by simp [hlt] <;> omega) ?_;refine aah ?_;simp;apply hK3;refine aac fun K3 hK3=>?_;refine aak ?_;have hx:(dO a)[i]<1000000000:=oka _ (List.getElem_mem hlt);obtain⟨x,hxe⟩:∃ x,(dO a)[i]=x:=⟨_,rfl⟩
  rw [hxe] at hx;refine aac fun K4 hK4=>?_;refine aad rfl ?_;simp;apply hK4;clear hK4 K4;refine aac fun K4 hK4=>aac fun K5 hK5=>?_;refine aad rfl ?_;simp;apply hK5;clear hK5 K5;refine aak ?_
  refine aax (fun (p:Nat × List Nat × Nat)=>⟨bt [(0,nK .i64 a),(1,nK .i64 b),(5,.c (.aX 0 0 ((dO a).length+(dO b).length) 1)),(6,.c (.d (.int .i64 i))),(7,.c (.d (.int .i64 p.2.2))),(8,.c (.d (.int .i64 p.1)))],
   aJ (fun _=>.hole) 0 (.cells true false 2 (wK .i64 (p.2.1++List.replicate ((dO a).length - i) 0)))⟩) 2
   (fun p=>p.1≤(dO b).length∧p.2.1.length=i+(dO b).length∧ok 1000000000 p.2.1∧p.2.2<1000000000∧val 1000000000 p.2.1+1000000000 ^ (i+p.1)*p.2.2=val 1000000000 ((dO a).take i)*val 1000000000 (dO b)+1000000000 ^ i*(x*val 1000000000 ((dO b).take p.1)))
   (fun p=>(dO b).length - p.1) (0,lo,0) (Le.mk' _ (by simp) (by simp) (by simp)) ⟨by simp,h2,h3,by simp,by simp [h4]⟩ ?_
  rintro⟨j,lo2,c⟩ ⟨g1,g2,g3,g4,g5⟩;simp only at g1 g2 g3 g4 g5;refine aac fun K6 hK6=>aac fun K7 hK7=>?_;refine aad rfl ?_;simp;apply hK7;clear hK7 K7
  by_cases hlj:j<(dO b).length
  ·refine aap (by simp [hlj] <;> omega) ?_;refine aah ?_;simp;apply hK6;refine aac fun K8 hK8=>?_;refine aak ?_;refine aac fun K9 hK9=>?_;have hy:(dO b)[j]<1000000000:=okb _ (List.getElem_mem hlj);have hij:i+j<lo2.length:=by omega
   have hij2:i+j<(lo2++List.replicate ((dO a).length - i) 0).length:=by simp;omega
   have hij3:i+j<lo2.length+((dO a).length - i):=by omega
   have ho:lo2[i+j]<1000000000:=g3 _ (List.getElem_mem hij);have ho2:(lo2++List.replicate ((dO a).length - i) 0)[i+j]=lo2[i+j]:=List.getElem_append_left hij;have hb2:val 1000000000 ((dO b).take (j+1))=val 1000000000 ((dO b).take j)+1000000000 ^ j*(dO b)[j]:=br hlj;have hset:=tN (B:=1000000000) hij;generalize hye:(dO b)[j]=y at hy hb2;generalize hoe:lo2[i+j]=o at ho ho2 hset;have hxy:x*y≤999999999*999999999:=Nat.mul_le_mul (by omega) (by omega);have e1:IntKind.i64.wrap ((i:Int)+j)=((i+j:Nat):Int):=by rw [bK (by omega) (by omega)];omega
   have e4:IntKind.i64.wrap ((x:Int)*y)=((x*y:Nat):Int):=by
    rw [← Int.natCast_mul];generalize x*y=p at hxy;exact bK (by omega) (by omega)
   have e5:IntKind.i64.wrap ((c:Int)+o)=((c+o:Nat):Int):=by rw [bK (by omega) (by omega)];omega
   have e6:IntKind.i64.wrap (((c+o:Nat):Int)+((x*y:Nat):Int))=((c+(x*y+o):Nat):Int):=by
    generalize x*y=p at hxy;rw [bK (by omega) (by omega)];omega
   refine aaz mixed (by kernel_rfl) rfl rfl ?_;simp [e1,e4,e5,e6,hij3,ho2,hxe,hye,hlt,hlj,-Int.natCast_add,-Int.natCast_mul]
   repeat refine ag ?_
   apply hK9;clear hK9 K9;have hbd:c+(x*y+o)<1000000000000000000:=by generalize x*y=p at hxy;omega
   generalize hm:c+(x*y+o)=m at hbd;have f1:((m:Nat):Int).tmod 1000000000=((m % 1000000000:Nat):Int):=rz _ _
   have f2:ak (wK .i64 (lo2++List.replicate ((dO a).length - i) 0)) (i+j) [CV.d (.int .i64 ((m % 1000000000:Nat):Int))]=wK .i64 (lo2.set (i+j) (m % 1000000000)++List.replicate ((dO a).length - i) 0):=by
    rw [eR _ hij2,List.set_append_left _ _ hij]
   have f3:((m:Nat):Int).tdiv 1000000000=((m / 1000000000:Nat):Int):=ld _ _;have f3':=bK (n:=((m / 1000000000:Nat):Int)) (by omega) (by omega);have f4:(i+j:Int)<(dO a).length+(dO b).length:=by omega
   refine aac fun K9 hK9=>?_;refine aad rfl ?_;simp [e1,f1,f2,hij3,-Int.natCast_add,-Int.natCast_emod]
   repeat refine ag ?_
   apply hK9;clear hK9 K9;refine aad rfl ?_;simp [f3,f3',-Int.natCast_ediv];apply hK8;have f5:=bK (n:=(j:Int)+1) (by omega) (by omega);refine aad rfl ?_;simp [f5];refine⟨j+1,lo2.set (i+j) (m % 1000000000),m / 1000000000,Le.mk' _ (by simp) (by simp) (by simp),⟨by omega,by simp [g2],CU g3 _ (Nat.mod_lt _ (by omega)),?_,?_⟩,by omega⟩
   ·have hm2:m<1000000000*1000000000:=by generalize x*y=p at hxy hm;omega
    omega
   ·rw [hb2,← hm,← Nat.add_assoc i j 1];exact BK g5 (by rw [hm];exact hset _)
  ·refine aao (by simp [hlj] <;> omega) ?_;refine aav ?_;simp;apply hK4;have ej:j=(dO b).length:=by omega
   subst ej;rw [aL (Nat.le_refl _)] at g5;have e1:IntKind.i64.wrap ((i:Int)+(dO b).length)=((i+(dO b).length:Nat):Int):=by rw [bK (by omega) (by omega)];omega
   have hz:(dO a).length - i=((dO a).length - i - 1)+1:=by omega
   have f2:ak (wK .i64 (lo2++List.replicate ((dO a).length - i) 0)) (i+(dO b).length) [CV.d (.int .i64 (c:Int))]=wK .i64 (lo2++[c]++List.replicate ((dO a).length - i - 1) 0):=by
    rw [eR _ (by simp;omega),hz,← g2,jg];simp
   have f6:i+(dO b).length<lo2.length+((dO a).length - i):=by omega
   refine aad rfl ?_;simp [e1,f2,f6,-Int.natCast_add]
   repeat refine ag ?_
   apply hK3;have f5:=bK (n:=(i:Int)+1) (by omega) (by omega);refine aad rfl ?_;simp [f5];have f7:(dO a).length - (i+1)=(dO a).length - i - 1:=by omega
   refine⟨i+1,lo2++[c],Le.mk' _ (by simp [f7]) (by simp) (by simp),⟨by omega,by simp;omega,b8.2 ⟨g3,bB.2 ⟨g4,cg _⟩⟩,?_⟩,by omega⟩;rw [ey,g2,g5,br hlt,hxe,Nat.add_mul,Nat.mul_assoc]
 ·refine aao (by simp [hlt] <;> omega) ?_;refine aav ?_;simp;apply hK;have e2:i=(dO a).length:=by omega
  subst e2;refine aac fun K hK=>?_;refine aad rfl ?_;simp;rw [← h2]
  have hout:cN lo=aI 1000000000 (val 1000000000 (dO a)*val 1000000000 (dO b)):=by
   refine di (by decide) h3 ?_;rw [h4,aL (Nat.le_refl _)]
  refine fq.n7 (k:=.i64) (l:=lo) 0 1 0 (by simp;rfl) (by omega) (iw _ _ (by omega)) (by simp) (by simp) (by simp) ?_;simp;apply hK;clear hK K;exact aag (κ:=0) (au.t (κ:=0) rfl 1 (by simp [hout]))
set_option maxHeartbeats 4000000 in
theorem FM (G:List (List DV))(a:Option (List Nat))(oka:ok 1000000000 (dO a))(ha:(dO a).length≤1000000) :
 aj Tryz.prog G 322 [nK .i64 a] (nK .i64 (some (aI 1000000000 (val 1000000000 (dO a) / 2)))):=by
 refine aj.aH Tryz.func322 rfl (by rw [Tryz.ntmps322];simp) ?_;rintro⟨_,_,w0,F0,W0,_,bq,β0⟩ rfl rfl rfl;refine aac fun K hK=>?_;refine aad rfl ?_;simp;apply hK;clear hK K;refine aac fun K hK=>?_;refine aad rfl ?_;simp
 repeat refine ag ?_
 apply hK;clear hK K;refine aac fun K hK=>?_;refine aad rfl ?_;simp;apply hK;clear hK K;have w0:=bK (n:=((dO a).length:Int) - 1) (by omega) (by omega);refine aac fun K hK=>aac fun K1 hK1=>?_;refine aad rfl ?_;simp [w0];apply hK1;clear hK1 K1;refine aak ?_
 refine aax (fun (p:Nat × List Nat × Nat)=>⟨bt [(0,nK .i64 a),(3,.c (.aX 0 0 (dO a).length 1)),(4,.c (.d (.int .i64 p.2.2))),(5,.c (.d (.int .i64 ((p.1:Int) - 1))))],
  aJ (fun _=>.hole) 0 (.cells true false 2 (wK .i64 (List.replicate p.1 0++p.2.1)))⟩) 1
  (fun p=>p.1+p.2.1.length=(dO a).length∧ok 1000000000 p.2.1∧p.2.2≤1∧2*val 1000000000 p.2.1+p.2.2=val 1000000000 ((dO a).drop p.1))
  (fun p=>p.1) ((dO a).length,[],0) (Le.mk' _ (by simp [fu]) (by simp) (by simp)) ⟨by simp,cg _,by simp,by simp⟩ ?_
 rintro⟨k,qs,c⟩ ⟨h1,h2,h3,h4⟩;simp only at h1 h2 h3 h4;refine aac fun K3 hK3=>aac fun K4 hK4=>?_;refine aad rfl ?_;simp;apply hK4;clear hK4 K4
 cases k with
 | zero=>
  refine aat ?_;refine aav ?_;simp;apply hK;refine aac fun K hK=>?_;have hl:qs.length=(dO a).length:=by omega
  refine aad rfl ?_;simp;rw [← hl]
  have hout:cN qs=aI 1000000000 (val 1000000000 (dO a) / 2):=by
   refine di (by decide) h2 ?_;rw [List.drop_zero] at h4;omega
  refine fq.n7 (k:=.i64) (l:=qs) 0 1 0 (by simp;rfl) (by omega) (iw _ _ (by omega)) (by simp) (by simp) (by simp) ?_;simp;apply hK;clear hK K;exact aag (κ:=0) (au.t (κ:=0) rfl 1 (by simp [hout]))
 | succ k=>
  have hk:k<(dO a).length:=by omega
  have e2:((k+1:Nat):Int) - 1=k:=by omega
  simp only [e2];have hx:(dO a)[k]<1000000000:=oka _ (List.getElem_mem hk);have hxv:=cz (B:=1000000000) hk;obtain⟨x,hxe⟩:∃ x,(dO a)[k]=x:=⟨_,rfl⟩
  rw [hxe] at hx hxv;obtain⟨m,hm⟩:∃ m,1000000000*c+x=m:=⟨_,rfl⟩
  have w1:IntKind.i64.wrap ((c:Int)*1000000000)=(m:Int) - x:=by rw [bK (by omega) (by omega)];omega
  have w2:IntKind.i64.wrap ((m:Int) - x+x)=(m:Int):=by rw [bK (by omega) (by omega)];omega
  refine aaq ?_;refine aah ?_;simp;apply hK3;refine aac fun K5 hK5=>?_;refine aak ?_;refine aac fun K6 hK6=>?_;refine aad rfl ?_;simp [hk,hxe,w1,w2,-Int.sub_add_cancel,-Int.natCast_add,-Int.natCast_mul];apply hK6;clear hK6 K6;clear w1 w2;have f3:((m:Nat):Int).tdiv 2=((m / 2:Nat):Int):=ld _ 2;have f3':=bK (n:=((m / 2:Nat):Int)) (by omega) (by omega);have f4:((m:Nat):Int).tmod 2=((m % 2:Nat):Int):=rz _ 2
  have f5:ak (wK .i64 (List.replicate (k+1) 0++qs)) k [CV.d (.int .i64 ((m / 2:Nat):Int))]=wK .i64 (List.replicate k 0++((m / 2)::qs)):=by
   rw [eR _ (by simp;omega),nO]
  have hk2:(k:Int)<((dO a).length:Int):=by omega
  have hk3:k<k+1+qs.length:=by omega
  refine aac fun K6 hK6=>?_;refine aad rfl ?_;simp [f3,f3',f5,hk,hk2,hk3,-Int.natCast_ediv];apply hK6;clear hK6 K6;refine aad rfl ?_;simp [f4,-Int.natCast_emod];apply hK5;have w3:=bK (n:=(k:Int) - 1) (by omega) (by omega);refine aad rfl ?_;simp [w3];refine⟨k,(m / 2)::qs,m % 2,Le.mk' _ (by simp) (by simp) (by simp),⟨by simp;omega,bB.2 ⟨by omega,h2⟩,by omega,?_⟩,by omega⟩;rw [hxv,bJ];omega
end Go.Am

namespace Go.Am
open Go.Am.Ty Go.Proofs N
theorem KR (k:IntKind)(l:List Nat):(dK k l).flatten.map CV.d=wK k l:=by
 have:(dK k l).flatten=l.map fun (x:Nat)=>DV.int k (x:Int):=by
  unfold dK;induction l with
  | nil=>rfl
  | cons a l ih=>simp only [List.map_cons,List.flatten_cons,ih];rfl
 rw [this,List.map_map];rfl
theorem Ow {lv:Key→LB}{k:IntKind}(o:Option (List Nat)):gI lv 1 (nK k o)=some ((dO o).length,wK k (dO o)):=by
 cases o with
 | none=>rfl
 | some l=>
  have h1:(dK k l).all (fun e=>e.length == 1)=true:=by rw [List.all_eq_true];intro e he;obtain⟨x,_,rfl⟩:=List.mem_map.1 he;rfl
  show gI lv 1 (.c (.d (.sl (dK k l))))=_;simp only [gI,h1,if_true,KR];simp [dK]
theorem J7 (k:IntKind):nK k none=.c (.d .nilsl):=rfl
theorem Fb (k:IntKind)(x:Nat)(l:List Nat):CV.d (.int k (x:Int))::wK k l=wK k (x::l):=rfl
theorem ai.IG {c:Ctx}{f:FuncId}{lv:Key→LB}{K:AV→List (Key × LB)→List Key→Nat→Prop}(κ' kh κb:Key) {T:TypeId}{k:IntKind}{l:List Nat}{x0 x:AV}(hk:lv κb=.cells true false T (wK k l)) (hl:l.length≤1000)
 (hc:aj c.P c.G f [x0,nK k (some l)] x) (hx0:x0.pure=true) (hx:x.pure=true) (hh:lv kh=.hole) (hK:K x [(κb,.cells true true T (wK k l))] [kh,κb] κ'):ai c f [x0,.c (.aX κb 0 l.length 1)] lv K:=by
 have e:bp lv (eS [(κb,T,wK k l)]) κb=.cells true true T (wK k l):=by simp [eS,bp,aJ]
 refine ai.YP (us:=[x0,nK k (some l)]) κ' kh [(κb,T,wK k l)] [kh,κb] hc hx (by simpa using hk) (by simp) hh rfl (fun i p' q'=>?_) (fun a ha j hj=>?_) (by simp) hK
 ·have hi:i=0∨i=1:=by simp at p';omega
  rcases hi with rfl|rfl
  ·exact .inl ⟨hx0,rfl⟩
  ·exact .inr ⟨[κb],zE e (by omega),by simp⟩
 ·simp only [List.mem_cons,List.not_mem_nil,or_false] at ha;rcases ha with rfl|rfl
  ·rw [mY hx0] at hj;cases hj
  ·left;simp only [pG,me,e,List.mem_cons] at hj;rcases hj with rfl|hj
   ·simp
   ·simp only [List.mem_flatMap] at hj;obtain⟨y,hy,hj⟩:=hj;simp only [wK,List.mem_map] at hy;obtain⟨z,_,rfl⟩:=hy
    cases hj
theorem oy (o o':Option (List Nat)):(AV.tup [nK .i64 o,nK .i64 o']).pure=true:=by
 cases o <;> cases o' <;> rfl
theorem UC {B:Nat}{l:List Nat}{n:Nat}(hB:0<B) (h:ok B l) (h1:1≤n) (h2:n≤l.length) (h3:l.length≤n+1):val B l / B ^ (n - 1)=l.getD (n - 1) 0+B*l.getD n 0:=by
 have e1:=bW (B:=B) l (n - 1) (by omega);have e2:=cz (B:=B) (l:=l) (i:=n - 1) (by omega);rw [show n - 1+1=n by omega] at e2
 have e3:val B (l.drop n)=l.getD n 0:=by
  by_cases h4:n<l.length
  ·rw [cz h4,eB (by omega),Nat.mul_zero,Nat.add_zero,List.getD_eq_getElem?_getD,List.getElem?_eq_getElem h4];rfl
  ·rw [eB (by omega),List.getD_eq_getElem?_getD,List.getElem?_eq_none (by omega)];rfl
 have e4:l.getD (n - 1) 0=l[n - 1]'(by omega):=by rw [List.getD_eq_getElem?_getD,List.getElem?_eq_getElem (by omega)];rfl
 have e5:=eC (ki h (n - 1));rw [List.length_take,Nat.min_eq_left (by omega)] at e5;rw [e1,e2,e3,e4];generalize l[n - 1]+B*l.getD n 0=q;exact Nat.div_eq_of_lt_le (by rw [Nat.mul_comm];omega) (by rw [Nat.add_mul,Nat.one_mul,Nat.mul_comm q];omega)
theorem T8 {V vb X t P:Nat}(h1:X*P≤V) (h2:vb<(t+1)*P) (hb:0<vb):X / (t+1)≤V / vb:=by
 rw [Nat.le_div_iff_mul_le hb]
 calc X / (t+1)*vb≤X / (t+1)*((t+1)*P):=Nat.mul_le_mul_left _ (Nat.le_of_lt h2)
  _=(X / (t+1)*(t+1))*P:=by rw [Nat.mul_assoc]
  _≤X*P:=Nat.mul_le_mul_right _ (Nat.div_mul_le_self _ _)
  _≤V:=h1
theorem Vn {V vb X t P:Nat}(h1:V<(X+1)*P) (h2:t*P≤vb) (ht:0<t):V / vb≤(X+1) / t:=by
 have hP:0<P:=by
  rcases Nat.eq_zero_or_pos P with h|h
  ·subst h;omega
  ·exact h
 have hb:0<vb:=Nat.lt_of_lt_of_le (Nat.mul_pos ht hP) h2;rw [Nat.le_div_iff_mul_le ht];have h3:V / vb*(t*P)≤V:=Nat.le_trans (Nat.mul_le_mul_left _ h2) (Nat.div_mul_le_self _ _);rw [← Nat.mul_assoc] at h3;have h4:=Nat.lt_of_mul_lt_mul_right (Nat.lt_of_le_of_lt h3 h1);omega
theorem Kq {B vb k R x qs V:Nat}(hV:x+B*R=V) (h:vb*qs+R=k):vb*(V / vb+B*qs)+V % vb=x+B*k:=by
 have h1:=Nat.div_add_mod V vb;rw [← h,Nat.mul_add,Nat.mul_add,← hV,Nat.mul_left_comm] at *
 omega
def IB (a b:Option (List Nat)):Option (List Nat):=if dO a=[] then none else some (aI 1000000000 (val 1000000000 (dO a) % val 1000000000 (dO b)))
theorem NT:aI 1000000000 0=[]:=(dw (by decide)).2 rfl
set_option maxHeartbeats 8000000 in
theorem qp (G:List (List DV))(a b:Option (List Nat))(oka:ok 1000000000 (dO a))(hb:can 1000000000 (dO b))(hb0:dO b≠[])(hal:(dO a).length≤100000)(hbl:(dO b).length≤100000) :
 aj Tryz.prog G 275 [nK .i64 a,nK .i64 b] (.tup [nK .i64 (some (aI 1000000000 (val 1000000000 (dO a) / val 1000000000 (dO b)))),nK .i64 (IB a b)]):=by
 have hbs:∀ (lv:Key→LB) (h:lv 1=.hole) (a:CV),aq Tryz.prog 213 1 [0] lv 1 [.c a]=some (.c (.aX 1 0 1 1),[(1,.cells true false 2 [a])],[],True):=fun lv h a=>Bj lv 1 h a
 obtain⟨n,hn⟩:∃ n,(dO b).length=n:=⟨_,rfl⟩
 obtain⟨vb,hvb⟩:∃ vb,val 1000000000 (dO b)=vb:=⟨_,rfl⟩
 have hn1:1≤n:=by rw [← hn];exact List.length_pos_iff.2 hb0
 have hvp:0<vb:=by rw [← hvb];exact gu hb hb0
 have hdb:dO b=aI 1000000000 vb:=fV (by decide) hb hvb;have hvl:vb<1000000000 ^ n:=by rw [← hvb,← hn];exact eC hb.1
 obtain⟨t,ht⟩:∃ t,(dO b)[n - 1]?=some t:=⟨_,List.getElem?_eq_getElem (by omega)⟩
 have ht1:(dO b)[n - 1]'(by omega)=t:=(List.getElem?_eq_some_iff.1 ht).2;have htB:t<1000000000:=by rw [← ht1];exact hb.1 _ (List.getElem_mem _)
 have ht0:0<t:=by
  have:=hb.2 t (by rw [List.getLast?_eq_getElem?,hn];exact ht);omega
 have htop:=UC (B:=1000000000) (by decide) hb.1 hn1 (by omega) (by omega);rw [hvb,List.getD_eq_getElem?_getD,ht,List.getD_eq_getElem?_getD,List.getElem?_eq_none (by omega)] at htop;simp only [Option.getD_some,Option.getD_none,Nat.mul_zero,Nat.add_zero] at htop;have hPp:0<1000000000 ^ (n - 1):=Nat.pow_pos (by decide);have hb1:t*1000000000 ^ (n - 1)≤vb:=by rw [← htop];exact Nat.div_mul_le_self _ _
 have hb2:vb<(t+1)*1000000000 ^ (n - 1):=by rw [← htop];exact Nat.lt_mul_of_div_lt (Nat.lt_succ_self _) hPp
 have cmpG:∀ V,aj Tryz.prog G 247 [(nK .i64 (some (aI 1000000000 (V)))),nK .i64 b] (.c (.d (.int .i64 (dm V vb)))):=fun V=>by
  have hcmp:=lP G (a:=some (aI 1000000000 V)) (b:=b) (bk (by decide) V) hb;simp only [aV,bg (by decide:2≤1000000000),hvb] at hcmp;exact hcmp
 have cmG:∀ W V,aj Tryz.prog G 247 [(nK .i64 (some (aI 1000000000 (W)))),(nK .i64 (some (aI 1000000000 (V))))] (.c (.d (.int .i64 (dm W V)))):=fun W V=>by
  have hcm:=lP G (a:=some (aI 1000000000 W)) (b:=some (aI 1000000000 V)) (bk (by decide) _) (bk (by decide) _);simp only [aV,bg (by decide:2≤1000000000)] at hcm;exact hcm
 have prG:∀ mi,mi<1000000000→aj Tryz.prog G 248 [nK .i64 b,nK .i64 (some [mi])] (nK .i64 (some (aI 1000000000 (vb*mi)))):=fun mi hmi=>by
  have hpr:=pS G b (some [mi]) hb.1 (bB.2 ⟨hmi,cg _⟩) (by omega) (by simp);have hval:val 1000000000 (dO (some [mi]))=mi:=by simp
  rw [hval,hvb] at hpr;exact hpr
 have dfG:∀ V W,(aI 1000000000 V).length≤1000000→W≤V→aj Tryz.prog G 323 [(nK .i64 (some (aI 1000000000 (V)))),(nK .i64 (some (aI 1000000000 (W))))] (nK .i64 (some (aI 1000000000 (V - W)))):=fun V W hl hle=>by
  have hdl:(aI 1000000000 W).length≤(aI 1000000000 V).length:=cK (by decide) hle;have hdf:=mc G (some (aI 1000000000 V)) (some (aI 1000000000 W)) (bk (by decide) _).1 (bk (by decide) _).1 (by simp;omega) (by simp;omega) (by simp only [aV,bg (by decide:2≤1000000000)];exact hle);simp only [aV,bg (by decide:2≤1000000000)] at hdf;exact hdf
 refine aj.lS Tryz.func275 rfl (by rw [Tryz.ntmps275];simp)  ?_;rintro⟨_,_,w0,F0,W0,_,bq,β0⟩ rfl rfl rfl rfl;refine aac fun K hK=>?_;refine aad rfl ?_;simp;apply hK;clear hK K;refine aac fun K hK=>?_;refine aad rfl ?_;simp
 repeat refine ag ?_
 apply hK;clear hK K;refine aac fun K hK=>?_;refine aad rfl ?_;simp [hn];apply hK;clear hK K;refine aac fun K hK=>?_;refine aad rfl ?_;simp;apply hK;clear hK K;have w0:=bK (n:=((dO a).length:Int) - 1) (by omega) (by omega);refine aac fun K hK=>aac fun K1 hK1=>?_;refine aad rfl ?_;simp [w0];apply hK1;clear hK1 K1;refine aak ?_
 refine aax (fun (p:Nat × List Nat × Nat)=>⟨bt [(0,nK .i64 a),(1,nK .i64 b),(6,.c (.aX 0 0 (dO a).length 1)),(7,.c (.d (.int .i64 n))),(8,nK .i64 (if p.1=(dO a).length then none else some (aI 1000000000 p.2.2))),(9,.c (.d (.int .i64 ((p.1:Int) - 1))))],
  aJ (fun _=>.hole) 0 (.cells true false 2 (wK .i64 (List.replicate p.1 0++p.2.1)))⟩) 1
  (fun p=>p.1+p.2.1.length=(dO a).length∧ok 1000000000 p.2.1∧p.2.2<vb∧(p.1=(dO a).length→p.2.2=0)∧vb*val 1000000000 p.2.1+p.2.2=val 1000000000 ((dO a).drop p.1))
  (fun p=>p.1) ((dO a).length,[],0) (Le.mk' _ (by simp [fu]) (by simp) (by simp [J7])) ⟨by simp,cg _,hvp,fun _=>rfl,by simp⟩ ?_
 rintro⟨k,qs,R⟩ ⟨h1,h2,h3,h5,h4⟩;simp only at h1 h2 h3 h4 h5;obtain⟨ro,hro⟩:∃ ro,(if k=(dO a).length then none else some (aI 1000000000 R))=ro:=⟨_,rfl⟩
 have hdr:dO ro=aI 1000000000 R:=by
  rw [← hro];split
  ·rename_i h;rw [h5 h,NT];rfl
  ·rfl
 simp only [hro];refine aac fun K3 hK3=>aac fun K4 hK4=>?_;refine aad rfl ?_;simp;apply hK4;clear hK4 K4
 cases k with
 | zero=>
  refine aat ?_;refine aav ?_;simp;apply hK;refine aac fun K hK=>?_;have hl:qs.length=(dO a).length:=by omega
  rw [List.drop_zero] at h4
  have hq:val 1000000000 qs=val 1000000000 (dO a) / vb:=by
   rw [← h4,Nat.mul_add_div hvp,Nat.div_eq_of_lt h3,Nat.add_zero]
  have hr:R=val 1000000000 (dO a) % vb:=by
   rw [← h4,Nat.mul_add_mod,Nat.mod_eq_of_lt h3]
  have hout:cN qs=aI 1000000000 (val 1000000000 (dO a) / vb):=di (by decide) h2 hq
  have hrem:IB a b=ro:=by
   unfold IB;rw [← hro,hvb,← hr]
   by_cases h:dO a=[]
   ·rw [if_pos h,if_pos (by rw [h];rfl)]
   ·rw [if_neg h,if_neg (fun e=>h (List.eq_nil_of_length_eq_zero e.symm))]
  refine aad rfl ?_;simp;rw [← hl];refine fq.n7 (T:=2) (k:=.i64) (l:=qs) 1 9 0 (by simp) (by omega) (iw _ _ (by omega)) (by simp) (by simp) (by simp) ?_;simp;apply hK;clear hK K;exact aag (κ:=0) (au.o7 (κ:=0) (t:=4) (u:=5) rfl 9 (by simp [hout,hvb]) (by simp [hrem]) (by simp) (by simp) (by simp) (by simp) (by simp) (by decide))
 | succ k=>
  have hk:k<(dO a).length:=by omega
  have e2:((k+1:Nat):Int) - 1=k:=by omega
  simp only [e2];have hx:(dO a)[k]<1000000000:=oka _ (List.getElem_mem hk);have hxv:=cz (B:=1000000000) hk;obtain⟨x,hxe⟩:∃ x,(dO a)[k]=x:=⟨_,rfl⟩
  rw [hxe] at hx hxv;obtain⟨V,hV⟩:∃ V,x+1000000000*R=V:=⟨_,rfl⟩
  have hRV:V<1000000000*vb:=by
   have:1000000000*(R+1)≤1000000000*vb:=Nat.mul_le_mul_left _ h3;omega
  have hRl:(aI 1000000000 R).length≤n:=by rw [← hn,hdb];exact cK (by decide) (Nat.le_of_lt h3)
  have htr:cN (x::aI 1000000000 R)=aI 1000000000 V:=di (by decide) (bB.2 ⟨hx,(bk (by decide) R).1⟩) (by rw [bJ,bg (by decide),hV]);have hsr:∀ lv:Key→LB,gI lv 1 (nK .i64 ro)=some ((aI 1000000000 R).length,wK .i64 (aI 1000000000 R)):=fun lv=>by rw [Ow,hdr]
  have hcmp:=cmpG V;have w9:=bK (n:=(k:Int) - 1) (by omega) (by omega);have hkn:¬ k=(dO a).length:=by omega
  have hnext:vb*val 1000000000 ((V / vb)::qs)+V % vb=val 1000000000 ((dO a).drop k):=by rw [hxv,bJ];exact Kq hV h4
  have hqB:V / vb<1000000000:=by rw [Nat.div_lt_iff_lt_mul hvp];exact hRV
  refine aaq ?_;refine aah ?_;simp;apply hK3;refine aac fun K5 hK5=>?_;refine aak ?_;refine aac fun K6 hK6=>?_;refine aad rfl ?_;simp [hk,hxe,hbs,hsr,keyOf,Fb,-aq]
  repeat refine ag ?_
  have hc1:(x::aI 1000000000 R).length=1+(aI 1000000000 R).length:=by simp;omega
  rw [← hc1];refine fq.n7 (k:=.i64) (T:=2) (l:=x::aI 1000000000 R) 3 9 2 (by simp [Fb]) (by simp;omega) (iw _ _ (by simp;omega)) (by simp) (by simp) (by simp) ?_;simp [htr];apply hK6;clear hK6 K6;refine aac fun K6 hK6=>?_;refine aac fun K7 hK7=>?_
  by_cases hlt:V<vb
  ·have hc:=iI hlt;have hq0:V / vb=0:=Nat.div_eq_of_lt hlt;rw [hq0,Nat.mod_eq_of_lt hlt] at hnext;refine aad rfl ?_;simp;refine ai.p 3 9 hcmp ?_;simp [hc];apply hK7;clear hK7 K7;refine aaq ?_;refine aav ?_;simp;apply hK5;refine aad rfl ?_;simp [w9];refine⟨k,0::qs,V,Le.keys [(0,0,.cells true false 2 (wK .i64 (List.replicate k 0++0::qs)))] 19 _ rfl rfl (by simp) (by simp) (by simp) ?_ ?_,⟨by simp;omega,bB.2 ⟨by omega,h2⟩,hlt,fun h=>absurd h hkn,hnext⟩,by omega⟩
   ·intro e he;simp only [List.mem_cons,List.not_mem_nil,or_false] at he;subst he;have e:List.replicate k 0++0::qs=List.replicate (k+1) 0++qs:=by rw [List.replicate_succ',List.append_assoc];rfl
    rw [e];simpa using jq .i64 2 (List.replicate (k+1) 0++qs) _
   ·simp [fM,hkn]
  ·have hge:vb≤V:=by omega
   have hlen1:n≤(aI 1000000000 V).length:=by rw [← hn,hdb];exact cK (by decide) hge
   have hlen2:(aI 1000000000 V).length≤n+1:=by
    refine cB (by decide) ?_;rw [Nat.pow_succ,Nat.mul_comm];exact Nat.lt_of_lt_of_le hRV (Nat.mul_le_mul_left _ (Nat.le_of_lt hvl))
   have hX:=UC (B:=1000000000) (by decide) (bk (by decide) V).1 hn1 hlen1 hlen2;rw [bg (by decide)] at hX;obtain⟨X,hXe⟩:∃ X,V / 1000000000 ^ (n - 1)=X:=⟨_,rfl⟩
   rw [hXe] at hX;have hX1:X*1000000000 ^ (n - 1)≤V:=by rw [← hXe];exact Nat.div_mul_le_self _ _
   have hX2:V<(X+1)*1000000000 ^ (n - 1):=by rw [← hXe];exact Nat.lt_mul_of_div_lt (Nat.lt_succ_self _) hPp
   have hlo:=T8 hX1 hb2 hvp;have hhi:=Vn hX2 hb1 ht0;obtain⟨Q,hQ⟩:∃ Q,V / vb=Q:=⟨_,rfl⟩
   rw [hQ] at hlo hhi hnext hqB
   have hcne:¬ dm V vb<0:=by
    by_cases e:V=vb
    ·rw [lp e];omega
    ·rw [jb (by omega)];omega
   have hokV:=(bk (B:=1000000000) (by decide) V).1;obtain⟨r1,hr1⟩:∃ r1,(aI 1000000000 V)[n - 1]'(by omega)=r1:=⟨_,rfl⟩
   have hr1B:r1<1000000000:=by rw [← hr1];exact hokV _ (List.getElem_mem _)
   have hr1g:(aI 1000000000 V).getD (n - 1) 0=r1:=by rw [List.getD_eq_getElem?_getD,List.getElem?_eq_getElem (by omega),hr1];rfl
   rw [hr1g] at hX;have wn:IntKind.i64.wrap ((n:Int) - 1)=((n - 1:Nat):Int):=by rw [bK (by omega) (by omega)];omega
   have hix1:∀ lv,az Tryz.prog 213 lv (nK .i64 (some (aI 1000000000 V))) (.c (.d (.int .i64 ((n - 1:Nat):Int))))=some (.c (.d (.ptr [DV.int .i64 (r1:Int)])),[],[],True):=fun lv=>by
    have:=fE (P:=Tryz.prog) (T:=213) (lv:=lv) (k:=.i64) (k':=.i64) (o:=some (aI 1000000000 V)) (i:=n - 1) (by simp) (by simp;omega);rw [this];simp only [aV,hr1]
   have hixb:∀ lv,az Tryz.prog 213 lv (nK .i64 b) (.c (.d (.int .i64 ((n - 1:Nat):Int))))=some (.c (.d (.ptr [DV.int .i64 (t:Int)])),[],[],True):=fun lv=>by
    have:=fE (P:=Tryz.prog) (T:=213) (lv:=lv) (k:=.i64) (k':=.i64) (o:=b) (i:=n - 1) (by simp) (by omega);rw [this];simp only [ht1]
   refine aad rfl ?_;simp;refine ai.p 3 9 hcmp ?_;simp [hcne];apply hK7;clear hK7 K7;refine aao (by simp [hcne] <;> omega) ?_;refine aah ?_;simp;apply hK6;clear hK6 K6;refine aac fun K6 hK6=>?_;refine aad rfl ?_;simp [wn,hix1,-fE];apply hK6;clear hK6 K6;refine aac fun K6 hK6=>?_
   have g1:∀ (fr:Nat→AV) (κ:Nat),fr 0=nK .i64 a→fr 1=nK .i64 b→fr 6=.c (.aX 0 0 (dO a).length 1)→fr 7=.c (.d (.int .i64 n))→fr 8=nK .i64 (some (aI 1000000000 V))→fr 9=.c (.d (.int .i64 (k:Int)))→fr 10=.c (.d (.int .i64 (X:Int)))→∀ lv:Key→LB,lv 0=.cells true false 2 (wK .i64 (List.replicate (k+1) 0++qs))→lv 19=.hole →
    K6 ⟨fr,lv⟩ κ:=by
    intro fr κ z0 z1 z6 z7 z8 z9 z10 lv l0 l19
    have hX3:X≤1000000000000000000:=by
     have:V / 1000000000 ^ (n - 1)<1000000000*1000000000:=by
      rw [Nat.div_lt_iff_lt_mul hPp]
      have e:1000000000*1000000000*1000000000 ^ (n - 1)=1000000000*1000000000 ^ n:=by
       obtain⟨n',rfl⟩:∃ n',n=n'+1:=⟨n - 1,by omega⟩
       rw [Nat.add_sub_cancel,Nat.pow_succ,Nat.mul_comm (1000000000 ^ n') 1000000000,Nat.mul_assoc]
      rw [e];exact Nat.lt_of_lt_of_le hRV (Nat.mul_le_mul_left _ (Nat.le_of_lt hvl))
     omega
    apply hK6;refine aac fun K7 hK7=>?_;have f1:=bK (n:=(t:Int)+1) (by omega) (by omega);have f2:=bK (n:=(X:Int)+1) (by omega) (by omega)
    have f3:(X:Int).tdiv ((t:Int)+1)=((X / (t+1):Nat):Int):=by
     have:=ld X (t+1);rwa [Int.natCast_add,Int.natCast_one] at this
    have f4:((X:Int)+1).tdiv (t:Int)=(((X+1) / t:Nat):Int):=by
     have:=ld (X+1) t;rwa [Int.natCast_add,Int.natCast_one] at this
    have hle1:X / (t+1)≤X:=Nat.div_le_self _ _;have hle2:(X+1) / t≤X+1:=Nat.div_le_self _ _;obtain⟨D1,hD1⟩:∃ D,X / (t+1)=D:=⟨_,rfl⟩
    obtain⟨D2,hD2⟩:∃ D,(X+1) / t=D:=⟨_,rfl⟩
    rw [hD1] at hlo f3 hle1;rw [hD2] at hhi f4 hle2;have f5:=bK (n:=(D1:Int)) (by omega) (by omega);have f6:=bK (n:=(D2:Int)) (by omega) (by omega);have t1:¬ (t:Int)+1=0:=by omega
    have t2:¬ (t:Int)=0:=by omega
    have t3:¬ t=0:=by omega
    have hmin:(if (999999999:Int)<(D2:Int) then (999999999:Int) else (D2:Int))=((min D2 999999999:Nat):Int):=by split <;> omega
    have hmin':(if 999999999<D2 then (999999999:Int) else (D2:Int))=((min D2 999999999:Nat):Int):=by split <;> omega
    have hhi2:Q≤min D2 999999999:=by omega
    have hhB:min D2 999999999≤999999999:=by omega
    obtain⟨H,hH⟩:∃ H,min D2 999999999=H:=⟨_,rfl⟩
    rw [hH] at hmin hmin' hhi2 hhB;refine aaz mixed (by kernel_rfl) rfl rfl ?_;simp [cX,z0,z1,z7,z10,wn,hixb,f1,f2,f3,f4,f5,f6,t1,t2,t3,hmin,hmin',-fE];apply hK7;clear hK7 K7;refine aac fun K7 hK7=>?_;refine aak ?_
    refine aax (fun (p:Nat × Nat)=>⟨bt [(0,nK .i64 a),(1,nK .i64 b),(6,.c (.aX 0 0 (dO a).length 1)),(7,.c (.d (.int .i64 n))),(8,nK .i64 (some (aI 1000000000 V))),(9,.c (.d (.int .i64 (k:Int)))),(11,.c (.d (.int .i64 (p.1:Int)))),(12,.c (.d (.int .i64 (p.2:Int))))],
     aJ (fun _=>.hole) 0 (.cells true false 2 (wK .i64 (List.replicate (k+1) 0++qs)))⟩) 1
     (fun p=>p.1≤Q∧Q≤p.2∧p.2≤999999999) (fun p=>p.2 - p.1) (D1,H) (Le.keys [(0,0,.cells true false 2 (wK .i64 (List.replicate (k+1) 0++qs)))] 19 _ rfl rfl (by simp) (by simp) (by simp [l19]) ?_ ?_) ⟨hlo,hhi2,hhB⟩ ?_
    ·intro e he;simp only [List.mem_cons,List.not_mem_nil,or_false] at he;subst he;simpa [l0] using jq .i64 2 (List.replicate (k+1) 0++qs) _
    ·simp [fM,z0,z1,z6,z7,z8,z9]
    rintro⟨lo,hi⟩ ⟨q1,q2,q3⟩;simp only at q1 q2 q3;refine aac fun K8 hK8=>aac fun K9 hK9=>?_;refine aad rfl ?_;simp;apply hK9;clear hK9 K9
    by_cases hlh:lo<hi
    ·have u1:IntKind.i64.wrap ((lo:Int)+hi)=((lo+hi:Nat):Int):=by rw [bK (by omega) (by omega)];omega
     have u2:IntKind.i64.wrap (((lo+hi:Nat):Int)+1)=((lo+hi+1:Nat):Int):=by rw [bK (by omega) (by omega)];omega
     have u3:(((lo+hi+1:Nat):Int)).tdiv 2=(((lo+hi+1) / 2:Nat):Int):=ld _ 2;obtain⟨mi,hmi⟩:∃ mi,(lo+hi+1) / 2=mi:=⟨_,rfl⟩
     rw [hmi] at u3;have u4:=bK (n:=(mi:Int)) (by omega) (by omega);have u5:=bK (n:=(mi:Int) - 1) (by omega) (by omega);have hpr:=prG mi (by omega);have hcm:=cmG (vb*mi) V;refine aap (by simp [hlh] <;> omega) ?_;refine aah ?_;simp;apply hK8;refine aak ?_;refine aac fun K9 hK9=>?_;refine aad rfl ?_;simp [u1,u2,u3,u4,-Int.natCast_add];apply hK9;clear hK9 K9;refine aac fun K9 hK9=>?_
     by_cases hle:vb*mi≤V
     ·have hc:dm (vb*mi) V≤0:=by
       by_cases e:vb*mi=V
       ·rw [lp e];omega
       ·rw [iI (by omega)];omega
      have hmQ:mi≤Q:=by rw [← hQ,Nat.le_div_iff_mul_le hvp,Nat.mul_comm];exact hle
      refine aad rfl ?_;simp [hbs,-aq];refine ai.IG (T:=2) (l:=[mi]) 2 9 1 (by simp [wK]) (by simp) hpr (by simp) (by simp) (by simp) ?_;simp;refine ai.p 2 9 hcm ?_;simp [hc];apply hK9;clear hK9 K9;refine aaq ?_;refine aad rfl ?_;simp;refine⟨mi,hi,Le.keys [(0,0,.cells true false 2 (wK .i64 (List.replicate (k+1) 0++qs)))] 19 _ rfl rfl (by simp) (by simp) (by simp) ?_ (by simp [fM]),⟨hmQ,q2,q3⟩,by omega⟩;intro e he;simp only [List.mem_cons,List.not_mem_nil,or_false] at he;subst he;simpa using jq .i64 2 (List.replicate (k+1) 0++qs) _
     ·have hc:¬ dm (vb*mi) V≤0:=by rw [jb (by omega)];omega
      have hmQ:Q≤mi - 1:=by
       have:¬ mi≤Q:=by rw [← hQ,Nat.le_div_iff_mul_le hvp,Nat.mul_comm];exact hle
       omega
      have u6:(mi:Int) - 1=((mi - 1:Nat):Int):=by omega
      refine aad rfl ?_;simp [hbs,-aq];refine ai.IG (T:=2) (l:=[mi]) 2 9 1 (by simp [wK]) (by simp) hpr (by simp) (by simp) (by simp) ?_;simp;refine ai.p 2 9 hcm ?_;simp [hc];apply hK9;clear hK9 K9;refine aat ?_;refine aad rfl ?_;simp [u5];refine⟨lo,mi - 1,Le.keys [(0,0,.cells true false 2 (wK .i64 (List.replicate (k+1) 0++qs)))] 19 _ rfl rfl (by simp) (by simp) (by simp) ?_ (by simp [fM,u6]),⟨q1,hmQ,by omega⟩,by omega⟩;intro e he;simp only [List.mem_cons,List.not_mem_nil,or_false] at he;subst he;simpa using jq .i64 2 (List.replicate (k+1) 0++qs) _
    ·refine aao (by simp [hlh] <;> omega) ?_;refine aav ?_;simp;apply hK7;obtain rfl:lo=Q:=by omega
     have f5:ak (wK .i64 (List.replicate (k+1) 0++qs)) k [CV.d (.int .i64 (lo:Int))]=wK .i64 (List.replicate k 0++(lo::qs)):=by
      rw [eR _ (by simp;omega),nO]
     have hk2:(k:Int)<((dO a).length:Int):=by omega
     have hk3:k<k+1+qs.length:=by omega
     refine aac fun K8 hK8=>?_;refine aad rfl ?_;simp [f5,hk,hk2,hk3];apply hK8;clear hK8 K8;refine aaA 1 ?_;have hpr:=prG lo (by omega);have hle:vb*lo≤V:=by rw [← hQ];exact Nat.mul_div_le _ _
     have hdf:=dfG V (vb*lo) (by omega) hle
     have hmod:V - vb*lo=V % vb:=by
      have:=Nat.div_add_mod V vb;rw [hQ] at this;omega
     rw [hmod] at hdf;refine aad rfl ?_;simp [hbs,-aq];refine ai.IG (T:=2) (l:=[lo]) 2 9 1 (by simp [wK]) (by simp) hpr (by simp) (by simp) (by simp) ?_;simp;refine ai.p 2 9 hdf ?_;simp;apply hK5;refine aad rfl ?_;simp [w9];refine⟨k,lo::qs,V % vb,Le.keys [(0,0,.cells true false 2 (wK .i64 (List.replicate k 0++lo::qs)))] 19 _ rfl rfl (by simp) (by simp) (by simp) ?_ ?_,⟨by simp;omega,bB.2 ⟨by omega,h2⟩,Nat.mod_lt _ hvp,fun h=>absurd h hkn,hnext⟩,by omega⟩
     ·intro e he;simp only [List.mem_cons,List.not_mem_nil,or_false] at he;subst he;simpa using jq .i64 2 (List.replicate k 0++lo::qs) _
     ·simp [fM,hkn]
   refine aac fun K7 hK7=>?_;refine aad rfl ?_;simp;apply hK7;clear hK7 K7
   by_cases hln:n<(aI 1000000000 V).length
   ·obtain⟨r2,hr2⟩:∃ r2,(aI 1000000000 V)[n]=r2:=⟨_,rfl⟩
    have hr2B:r2<1000000000:=by rw [← hr2];exact hokV _ (List.getElem_mem _)
    have hr2g:(aI 1000000000 V).getD n 0=r2:=by rw [List.getD_eq_getElem?_getD,List.getElem?_eq_getElem hln,hr2];rfl
    rw [hr2g] at hX
    have hix2:∀ lv,az Tryz.prog 213 lv (nK .i64 (some (aI 1000000000 V))) (.c (.d (.int .i64 ((n:Nat):Int))))=some (.c (.d (.ptr [DV.int .i64 (r2:Int)])),[],[],True):=fun lv=>by
     have:=fE (P:=Tryz.prog) (T:=213) (lv:=lv) (k:=.i64) (k':=.i64) (o:=some (aI 1000000000 V)) (i:=n) (by simp) (by simpa using hln);rw [this];simp only [aV,hr2]
    have v1:IntKind.i64.wrap (1000000000*(r2:Int))=((1000000000*r2:Nat):Int):=by rw [bK (by omega) (by omega)];omega
    have v2:IntKind.i64.wrap ((r1:Int)+((1000000000*r2:Nat):Int))=(X:Int):=by rw [bK (by omega) (by omega)];omega
    refine aap (by simp [hln] <;> omega) ?_;refine aad rfl ?_;simp [hix2,v1,v2,-fE,-Int.natCast_mul];exact g1 _ _ (by simp) (by simp) (by simp) (by simp) (by simp) (by simp) (by simp) _ (by simp) (by simp)
   ·have hX0:X=r1:=by
     rw [List.getD_eq_getElem?_getD,List.getElem?_eq_none (by omega)] at hX;simpa using hX
    refine aao (by simp [hln] <;> omega) ?_;refine aah ?_;simp;exact g1 _ _ (by simp) (by simp) (by simp) (by simp) (by simp) (by simp) (by simp [hX0]) _ (by simp) (by simp)
end Go.Am

namespace Go.Am
open Go.Am.Ty Go.Proofs N
theorem Bg {A B:Nat}(ha:A % 2=0) (hb:B % 2=1):Nat.gcd (A / 2) B=Nat.gcd A B:=by
 have h:Nat.Coprime 2 B:=by
  have:Nat.gcd 2 B=Nat.gcd (B % 2) 2:=Nat.gcd_rec 2 B;unfold Nat.Coprime;rw [this,hb];rfl
 have e:A=2*(A / 2):=by omega
 conv=>rhs;rw [e]
 exact (Nat.Coprime.gcd_mul_left_cancel _ h).symm
theorem CP {A B:Nat}(ha:A % 2=0) (hb:B % 2=0):2*Nat.gcd (A / 2) (B / 2)=Nat.gcd A B:=by
 rw [← Nat.gcd_mul_left];congr 1 <;> omega
theorem Hq {A B:Nat}(h:B≤A):Nat.gcd (A - B) B=Nat.gcd A B:=by
 conv=>rhs;rw [show A=(A - B)+B by omega]
 rw [Nat.gcd_add_self_left]
theorem Iy {tw vb n:Nat}(h:2 ^ tw≤vb) (hl:(aI 1000000000 vb).length≤n):tw<30*n:=by
 have h1:=pn (B:=1000000000) (by decide) (n:=vb);have h2:1000000000 ^ (aI 1000000000 vb).length≤1000000000 ^ n:=Nat.pow_le_pow_right (by decide) hl;have h3:1000000000 ^ n≤(2 ^ 30) ^ n:=Nat.pow_le_pow_left (by decide) n;rw [← Nat.pow_mul] at h3;exact (Nat.pow_lt_pow_iff_right (by decide:1<2)).1 (Nat.lt_of_le_of_lt h (Nat.lt_of_lt_of_le h1 (Nat.le_trans h2 h3)))
theorem Md {n:Nat}:(aI 1000000000 n).length=0↔n=0:=by
 rw [List.length_eq_zero_iff];exact dw (by decide)
theorem GB (G:List (List DV))(A:Nat):aj Tryz.prog G 321 [(nK .i64 (some (aI 1000000000 (A))))] (.c (.d (.bool (decide (A % 2=1))))):=by
 have h:=Iv G (some (aI 1000000000 A))
 rwa [aV,bg (by decide)] at h
theorem C0 (G:List (List DV))(A:Nat)(h:(aI 1000000000 A).length≤100000):aj Tryz.prog G 322 [(nK .i64 (some (aI 1000000000 (A))))] (nK .i64 (some (aI 1000000000 (A / 2)))):=by
 have h:=FM G (some (aI 1000000000 A)) (bk (by decide) A).1 (by rw [aV];omega)
 rwa [aV,bg (by decide)] at h
theorem yd (G:List (List DV))(A B:Nat)(h:(aI 1000000000 A).length≤1000000)(h':(aI 1000000000 B).length≤1000000):aj Tryz.prog G 324 [(nK .i64 (some (aI 1000000000 (A)))),(nK .i64 (some (aI 1000000000 (B))))] (nK .i64 (some (aI 1000000000 (A+B)))):=by
 have h:=IJ G (some (aI 1000000000 A)) (some (aI 1000000000 B)) (bk (by decide) A) (bk (by decide) B) h h'
 rwa [aV,aV,bg (by decide),bg (by decide)] at h
theorem vm (G:List (List DV))(A B:Nat)(h:(aI 1000000000 A).length≤1000000)(hle:B≤A):aj Tryz.prog G 323 [(nK .i64 (some (aI 1000000000 (A)))),(nK .i64 (some (aI 1000000000 (B))))] (nK .i64 (some (aI 1000000000 (A - B)))):=by
 have hl:=cK (B:=1000000000) (by decide) hle;have h:=mc G (some (aI 1000000000 A)) (some (aI 1000000000 B)) (bk (by decide) A).1 (bk (by decide) B).1 h (by rw [aV];omega) (by rw [aV,aV,bg (by decide),bg (by decide)];exact hle)
 rwa [aV,aV,bg (by decide),bg (by decide)] at h
theorem nF (G:List (List DV))(A B:Nat):aj Tryz.prog G 247 [(nK .i64 (some (aI 1000000000 (A)))),(nK .i64 (some (aI 1000000000 (B))))] (.c (.d (.int .i64 (dm A B)))):=by
 have h:=lP G (a:=some (aI 1000000000 A)) (b:=some (aI 1000000000 B)) (bk (by decide) A) (bk (by decide) B)
 rwa [aV,aV,bg (by decide),bg (by decide)] at h
set_option maxHeartbeats 4000000 in
theorem Aa (G:List (List DV))(va vb:Nat)(ha0:0<va)(hb0:0<vb)(hal:(aI 1000000000 va).length≤100000)(hbl:(aI 1000000000 vb).length≤100000) :
 aj Tryz.prog G 274 [(nK .i64 (some (aI 1000000000 (va)))),(nK .i64 (some (aI 1000000000 (vb))))] (nK .i64 (some (aI 1000000000 (Nat.gcd va vb)))):=by
 have hdv:=qp G (some (aI 1000000000 va)) (some (aI 1000000000 vb)) (bk (by decide) va).1 (bk (by decide) vb) (by rw [aV];intro h;have:=(dw (by decide)).1 h;omega) hal hbl
 have hrm:IB (some (aI 1000000000 va)) (some (aI 1000000000 vb))=some (aI 1000000000 (va % vb)):=by
  unfold IB;rw [aV,aV,if_neg (by intro h;have:=(dw (by decide)).1 h;omega),bg (by decide),bg (by decide)]
 rw [hrm] at hdv;have dle:∀ n,n≤vb→(aI 1000000000 n).length≤100000:=fun n h=>Nat.le_trans (cK (by decide) h) hbl
 have tw_le:∀ tw,2 ^ tw≤vb→tw<3000000:=fun tw h=>Nat.lt_of_lt_of_le (Iy h hbl) (by decide)
 have hg0:Nat.gcd va vb=Nat.gcd (va % vb) vb:=by rw [Nat.gcd_comm,Nat.gcd_rec]
 have oddG:∀ A,aj Tryz.prog G 321 [(nK .i64 (some (aI 1000000000 (A))))] (.c (.d (.bool (decide (A % 2=1))))):=fun A=>GB G A
 have halfG:∀ A,A≤vb→aj Tryz.prog G 322 [(nK .i64 (some (aI 1000000000 (A))))] (nK .i64 (some (aI 1000000000 (A / 2)))):=fun A h=>C0 G A (dle A h)
 have sumG:∀ A,A≤vb→aj Tryz.prog G 324 [(nK .i64 (some (aI 1000000000 (A)))),(nK .i64 (some (aI 1000000000 (A))))] (nK .i64 (some (aI 1000000000 (A+A)))):=fun A h=>yd G A A (by have:=dle A h;omega) (by have:=dle A h;omega)
 have diffG:∀ A B,A≤vb→B≤A→aj Tryz.prog G 323 [(nK .i64 (some (aI 1000000000 (A)))),(nK .i64 (some (aI 1000000000 (B))))] (nK .i64 (some (aI 1000000000 (A - B)))):=fun A B h h'=>vm G A B (by have:=dle A h;omega) h'
 have cmpG:∀ A B,aj Tryz.prog G 247 [(nK .i64 (some (aI 1000000000 (A)))),(nK .i64 (some (aI 1000000000 (B))))] (.c (.d (.int .i64 (dm A B)))):=fun A B=>nF G A B
 refine aj.aH Tryz.func274 rfl (by rw [Tryz.ntmps274];simp) ?_;rintro⟨_,_,w0,F0,W0,_,bq,β0⟩ rfl rfl rfl;refine aac fun K hK=>?_;refine aad rfl ?_;simp;apply hK;clear hK K;refine aac fun K hK=>?_;refine aad rfl ?_;simp;refine ai.pure 0 9 hdv (oy _ _) (by simp) rfl ?_;simp;apply hK;clear hK K;refine aac fun K hK=>?_;refine aac fun K1 hK1=>?_;refine aad rfl ?_;simp;apply hK1;clear hK1 K1
 by_cases hm:va % vb=0
 ·have h1:aI 1000000000 (va % vb)=[]:=(dw (by decide)).2 hm;have hgv:Nat.gcd va vb=vb:=by rw [hg0,hm,Nat.gcd_zero_left]
  rw [hgv];refine aap (by simp [h1] <;> omega) ?_;refine aac fun K1 hK1=>?_;refine aad rfl ?_;simp;apply hK1;clear hK1 K1;exact aag (κ:=0) (au.t (κ:=0) (t:=4) rfl 9 (by simp))
 have h1:¬ aI 1000000000 (va % vb)=[]:=fun h=>hm ((dw (by decide)).1 h)
 have hmlt:va % vb<vb:=Nat.mod_lt _ hb0;refine aao (by simp [h1] <;> omega) ?_;refine aah ?_;simp;apply hK;clear hK K;refine aac fun K hK=>?_;refine aad rfl ?_;simp;apply hK;clear hK K;refine aac fun K hK=>?_;refine aak ?_
 refine aax (fun (p:Nat × Nat × Nat)=>⟨bt [(0,(nK .i64 (some (aI 1000000000 (p.1))))),(1,(nK .i64 (some (aI 1000000000 (p.2.1))))),(5,.c (.d (.int .i64 (p.2.2:Int))))],fun _=>.hole⟩) 0
  (fun p=>0<p.1∧0<p.2.1∧p.1≤vb∧p.2.1≤vb∧2 ^ p.2.2*Nat.gcd p.1 p.2.1=Nat.gcd va vb∧2 ^ p.2.2*p.2.1≤vb) (fun p=>p.1) (va % vb,vb,0) (Le.mk' _ rfl aA (by simp)) ⟨by omega,hb0,by omega,Nat.le_refl _,by simp [hg0],by simp⟩ ?_
 rintro⟨A,B,tw⟩ ⟨hA,hB,hA2,hB2,hg,ht⟩;simp only at hA hB hA2 hB2 hg ht;have htw:tw<3000000:=tw_le tw (Nat.le_trans (Nat.le_mul_of_pos_right _ hB) ht);have wt:=bK (n:=(tw:Int)+1) (by omega) (by omega);have oA:=oddG A;have oB:=oddG B;have hAl:=dle (A) (by omega);have hBl:=dle (B) (by omega)
 have st2:(A % 2=1∨B % 2=1)→∀ (fr:Nat→AV) (κ:Nat),fr 0=(nK .i64 (some (aI 1000000000 (A))))→fr 1=(nK .i64 (some (aI 1000000000 (B))))→fr 5=.c (.d (.int .i64 (tw:Int)))→K ⟨fr,fun _=>.hole⟩ κ:=by
  intro hodd fr κ z0 z1 z5;apply hK;refine aac fun K hK=>?_;refine aak ?_
  refine aax (fun (p:Nat × Nat)=>⟨bt [(0,(nK .i64 (some (aI 1000000000 (p.1))))),(1,(nK .i64 (some (aI 1000000000 (p.2))))),(5,.c (.d (.int .i64 (tw:Int))))],fun _=>.hole⟩) 0
   (fun p=>0<p.2∧p.1≤vb∧p.2≤vb∧(p.1 % 2=1∨p.2 % 2=1)∧2 ^ tw*Nat.gcd p.1 p.2=Nat.gcd va vb) (fun p=>p.1+p.2) (A,B) (Le.mk' _ rfl aA (by simp [z0,z1,z5])) ⟨hB,hA2,hB2,hodd,hg⟩ ?_
  rintro⟨C,D⟩ ⟨i1,i2,i3,i4,i5⟩;simp only at i1 i2 i3 i4 i5
  have fin:∀ (Z:Nat) (fr:Nat→AV) (κ:Nat),Z≤vb→2 ^ tw*Z=Nat.gcd va vb→fr 1=(nK .i64 (some (aI 1000000000 (Z))))→fr 5=.c (.d (.int .i64 (tw:Int)))→K ⟨fr,fun _=>.hole⟩ κ:=by
   intro Z fr κ hZ0 hZ z1 z5;apply hK;refine aac fun K hK=>?_;refine aac fun K1 hK1=>?_;refine aad rfl ?_;simp;apply hK1;clear hK1 K1;refine aak ?_;refine aax (fun (i:Nat)=>⟨bt [(1,(nK .i64 (some (aI 1000000000 (Z*2 ^ i))))),(5,.c (.d (.int .i64 (tw:Int)))),(6,.c (.d (.int .i64 (i:Int))))],fun _=>.hole⟩) 0 (fun i=>i≤tw) (fun i=>tw - i) 0 (Le.mk' _ rfl aA (by simp [z1,z5])) (Nat.zero_le _) ?_;intro i hi
   try simp only at hi
   refine aac fun K2 hK2=>aac fun K3 hK3=>?_;refine aad rfl ?_;simp;apply hK3;clear hK3 K3
   by_cases hlt:i<tw
   ·have wi:=bK (n:=(i:Int)+1) (by omega) (by omega);have hgv:Nat.gcd va vb≤vb:=Nat.gcd_le_right _ hb0
    have hle:Z*2 ^ i≤vb:=by
     rw [Nat.mul_comm];exact Nat.le_trans (Nat.mul_le_mul_right Z (Nat.pow_le_pow_right (by decide) (Nat.le_of_lt hlt))) (by rw [hZ];exact hgv)
    have hll:=dle (Z*2 ^ i) (by omega);have hs:=sumG (Z*2 ^ i) hle;have he:Z*2 ^ i+Z*2 ^ i=Z*2 ^ (i+1):=by rw [Nat.pow_succ,← Nat.mul_assoc];omega
    rw [he] at hs;refine aap (by simp [hlt] <;> omega) ?_;refine aah ?_;simp;apply hK2;refine aac fun K5 hK5=>?_;refine aak ?_;refine aad rfl ?_;simp;refine ai.p 0 9 hs ?_;simp;apply hK5;refine aad rfl ?_;simp [wi];exact⟨i+1,Le.mk' _ rfl aA (by simp),by omega,by omega⟩
   ·obtain rfl:i=tw:=by omega
    refine aao (by simp [hlt] <;> omega) ?_;refine aav ?_;simp;apply hK;refine aac fun K hK=>?_;refine aad rfl ?_;simp;apply hK;clear hK K;rw [← hZ,Nat.mul_comm];exact aag (κ:=0) (au.t (κ:=0) (t:=4) rfl 9 (by simp))
  have hCl:=dle (C) (by omega);refine aac fun K2 hK2=>aac fun K3 hK3=>?_;refine aad rfl ?_;simp;apply hK3;clear hK3 K3
  by_cases hC0:C=0
  ·have h2:¬ 0<(aI 1000000000 C).length:=by rw [Nat.pos_iff_ne_zero];exact fun h=>h (Md.2 hC0)
   subst hC0;rw [Nat.gcd_zero_left] at i5;refine aao (by simp [h2] <;> omega) ?_;refine aav ?_;simp;exact fin D _ _ i3 i5 (by simp) (by simp)
  have h2:0<(aI 1000000000 C).length:=Nat.pos_of_ne_zero fun h=>hC0 (Md.1 h)
  refine aap (by simp [h2] <;> omega) ?_;refine aah ?_;simp;apply hK2;refine aak ?_;refine aac fun K5 hK5=>?_;refine aak ?_
  refine aax (fun (C':Nat)=>⟨bt [(0,(nK .i64 (some (aI 1000000000 (C'))))),(1,(nK .i64 (some (aI 1000000000 (D))))),(5,.c (.d (.int .i64 (tw:Int))))],fun _=>.hole⟩) 0
   (fun C'=>0<C'∧C'≤C∧(C' % 2=1∨D % 2=1)∧Nat.gcd C' D=Nat.gcd C D) (fun C'=>C') C (Le.mk' _ rfl aA (by simp)) ⟨by omega,Nat.le_refl _,i4,rfl⟩ ?_
  rintro C' ⟨j1,j2,j3,j4⟩;have oC:=oddG C';have hhC:=halfG C' (by omega);refine aac fun K6 hK6=>aac fun K7 hK7=>?_;refine aad rfl ?_;simp
  by_cases c1:C' % 2=1
  rotate_left
  ·have hd1:D % 2=1:=by omega
   refine ai.p 0 9 oC ?_;simp [c1];apply hK7;refine aaq ?_;refine aah ?_;simp;apply hK6;refine aak ?_;refine aad rfl ?_;simp;refine ai.p 0 9 hhC ?_;simp;exact⟨C' / 2,Le.mk' _ rfl aA (by simp),⟨by omega,by omega,.inr hd1,by rw [Bg (by omega) hd1,j4]⟩,by omega⟩
  refine ai.p 0 9 oC ?_;simp [c1];apply hK7;refine aat ?_;refine aav ?_;simp;apply hK5;refine aac fun K8 hK8=>?_;refine aak ?_
  refine aax (fun (D':Nat)=>⟨bt [(0,(nK .i64 (some (aI 1000000000 (C'))))),(1,(nK .i64 (some (aI 1000000000 (D'))))),(5,.c (.d (.int .i64 (tw:Int))))],fun _=>.hole⟩) 0
   (fun D'=>0<D'∧D'≤D∧Nat.gcd C' D'=Nat.gcd C D) (fun D'=>D') D (Le.mk' _ rfl aA (by simp)) ⟨i1,Nat.le_refl _,j4⟩ ?_
  rintro D' ⟨l1,l2,l3⟩;have oD:=oddG D';have hhD:=halfG D' (by omega);refine aac fun K9 hK9=>aac fun K10 hK10=>?_;refine aad rfl ?_;simp
  by_cases d1:D' % 2=1
  rotate_left
  ·refine ai.p 0 9 oD ?_;simp [d1];apply hK10;refine aaq ?_;refine aah ?_;simp;apply hK9;refine aak ?_;refine aad rfl ?_;simp;refine ai.p 0 9 hhD ?_;simp;exact⟨D' / 2,Le.mk' _ rfl aA (by simp),⟨by omega,by omega,by rw [Nat.gcd_comm,Bg (by omega) c1,Nat.gcd_comm,l3]⟩,by omega⟩
  have hDl:=dle (D') (by omega);refine ai.p 0 9 oD ?_;simp [d1];apply hK10;refine aat ?_;refine aav ?_;simp;apply hK8;rw [← l3] at i5;refine aac fun K11 hK11=>?_;refine aac fun K12 hK12=>?_
  by_cases hD1:D'=1
  ·subst hD1;have e1:aI 1000000000 1=[1]:=(fV (by decide:2≤1000000000) (l:=[1]) ⟨by intro d hd;simp at hd;omega,by simp⟩ (by simp)).symm;have e2:=fE (P:=Tryz.prog) (T:=213) (lv:=fun _=>.hole) (k:=.i64) (k':=.i64) (o:=some [1]) (i:=0) (by simp) (by simp);simp only [Int.natCast_zero,aV,List.getElem_cons_zero] at e2;rw [e1];rw [Nat.gcd_one_right,Nat.mul_one] at i5;refine aad rfl ?_;simp [e2,-fE];apply hK12;clear hK12 K12;refine aaq ?_;refine aav ?_;simp;exact fin 1 _ _ (by omega) (by rw [Nat.mul_one];exact i5) (by simp [e1]) (by simp)
  have one:∀ lv:Key→LB,(aI 1000000000 D').length=1→az Tryz.prog 213 lv (nK .i64 (some (aI 1000000000 D'))) (.c (.d (.int .i64 0)))=some (.c (.d (.ptr [DV.int .i64 (D':Int)])),[],[],True):=fun lv h=>by
   have h0:0<(dO (some (aI 1000000000 D'))).length:=by rw [aV];omega
   have h2:=fE (P:=Tryz.prog) (T:=213) (lv:=lv) (k:=.i64) (k':=.i64) (o:=some (aI 1000000000 D')) (i:=0) (by simp) h0
   have hx:(aI 1000000000 D')[0]'(by rw [h];decide)=D':=by
    obtain⟨x,hx⟩:∃ x,aI 1000000000 D'=[x]:=by match hd:aI 1000000000 D',h with|[x],_=>exact⟨x,rfl⟩
    have hv:=bg (B:=1000000000) (by decide) D';rw [hx] at hv;simp at hv;simp [hx,hv]
   simp only [Int.natCast_zero,aV,hx] at h2;exact h2
  have hD1':¬ (D':Int)=1:=by omega
  have rest:∀ (fr:Nat→AV) (κ:Nat),fr 0=(nK .i64 (some (aI 1000000000 (C'))))→fr 1=(nK .i64 (some (aI 1000000000 (D'))))→fr 5=.c (.d (.int .i64 (tw:Int)))→K11 ⟨fr,fun _=>.hole⟩ κ:=by
   intro fr κ z0 z1 z5;apply hK11;refine aac fun K13 hK13=>?_
   have fin2:∀ (X Y:Nat) (fr:Nat→AV) (κ:Nat),Y≤X→X≤vb→0<Y→Y % 2=1→X % 2=1→X+Y=C'+D'→Nat.gcd X Y=Nat.gcd C' D'→fr 0=(nK .i64 (some (aI 1000000000 (X))))→fr 1=(nK .i64 (some (aI 1000000000 (Y))))→fr 5=.c (.d (.int .i64 (tw:Int)))→K13 ⟨fr,fun _=>.hole⟩ κ:=by
    intro X Y fr κ hXY hXv hY hY1 hX1 hs hgg z0 z1 z5;have hdf:=diffG X Y hXv hXY;apply hK13;refine aad rfl ?_;simp [z0,z1];refine ai.p 0 9 hdf ?_;simp;refine⟨X - Y,Y,Le.mk' _ rfl aA (by simp [z1,z5]),⟨hY,by omega,by omega,.inr hY1,by rw [Hq hXY,hgg];exact i5⟩,by omega⟩
   have hcm:=cmpG C' D';refine aac fun K14 hK14=>?_
   by_cases hlt:C'<D'
   ·have hc:dm C' D'<0:=by rw [iI hlt];omega
    refine aad rfl ?_;simp [z0,z1];refine ai.p 0 9 hcm ?_;simp [hc];apply hK14;clear hK14 K14;refine aaq ?_;refine aad rfl ?_;simp [z0,z1];exact fin2 D' C' _ _ (by omega) (by omega) j1 c1 d1 (by omega) (Nat.gcd_comm _ _) (by simp) (by simp) (by simp [z5])
   ·have hc:¬ dm C' D'<0:=by
     by_cases e:C'=D'
     ·rw [lp e];omega
     ·rw [jb (by omega)];omega
    refine aad rfl ?_;simp [z0,z1];refine ai.p 0 9 hcm ?_;simp [hc];apply hK14;clear hK14 K14;refine aat ?_;refine aah ?_;simp;exact fin2 C' D' _ _ (by omega) (by omega) l1 d1 c1 rfl rfl (by simp [z0]) (by simp [z1]) (by simp [z5])
  by_cases hl1:(aI 1000000000 D').length=1
  ·have o1:=fun lv=>one lv hl1
   refine aad rfl ?_;simp [hl1,o1,hD1',hD1,-fE];apply hK12;clear hK12 K12;refine aat ?_;refine aah ?_;simp;exact rest _ _ (by simp) (by simp) (by simp)
  ·have hl1':¬ ((aI 1000000000 D').length:Int)=1:=by omega
   refine aad rfl ?_;simp [hl1,hl1'];apply hK12;clear hK12 K12;refine aat ?_;refine aah ?_;simp;exact rest _ _ (by simp) (by simp) (by simp)
 refine aac fun K2 hK2=>aac fun K3 hK3=>?_;refine aad rfl ?_;simp
 by_cases a1:A % 2=1
 ·refine ai.p 0 9 oA ?_;simp [a1];apply hK3;refine aat ?_;refine aav ?_;simp;exact st2 (.inl a1) _ _ (by simp) (by simp) (by simp)
 by_cases b1:B % 2=1
 ·refine ai.p 0 9 oA ?_;simp [a1];refine ai.p 0 9 oB ?_;simp [b1];apply hK3;refine aat ?_;refine aav ?_;simp;exact st2 (.inr b1) _ _ (by simp) (by simp) (by simp)
 have hhA:=halfG A (by omega);have hhB:=halfG B (by omega);refine ai.p 0 9 oA ?_;simp [a1];refine ai.p 0 9 oB ?_;simp [b1];apply hK3;refine aaq ?_;refine aah ?_;simp;apply hK2;refine aak ?_;refine aac fun K5 hK5=>?_;refine aad rfl ?_;simp;refine ai.p 0 9 hhA ?_;simp;refine ai.p 0 9 hhB ?_;simp;apply hK5;clear hK5 K5;refine aad rfl ?_;simp [wt];refine⟨A / 2,B / 2,tw+1,Le.mk' _ rfl aA (by simp),⟨by omega,by omega,by omega,by omega,?_,?_⟩,by omega⟩
 ·rw [Nat.pow_succ,Nat.mul_assoc,CP (by omega) (by omega)];exact hg
 ·have e:2 ^ (tw+1)*(B / 2)=2 ^ tw*(2*(B / 2)):=by rw [Nat.pow_succ,Nat.mul_assoc]
  rw [e,show 2*(B / 2)=B by omega];exact ht
end Go.Am

namespace Go.Am
open Go.Am.Ty Go.Proofs N
def bf (n:Nat):Nat:=if n=0 then 0 else Nat.log2 n+1
theorem KT {n k:Nat}(h1:2 ^ k≤n) (h2:n<2 ^ (k+1)):bf n=k+1:=by
 have h0:n≠0:=by have:=Nat.pow_pos (a:=2) (n:=k) (by decide);omega
 have:=(Nat.log2_eq_iff h0).2 ⟨h1,h2⟩;simp [bf,h0,this]
theorem qz (n:Nat):n<2 ^ bf n:=by
 unfold bf;split
 ·simp [*]
 ·exact Nat.lt_log2_self
theorem jd {n:Nat}(h:n≠0):2 ^ (bf n - 1)≤n:=by
 simp only [bf,h,if_false,Nat.add_sub_cancel];exact Nat.log2_self_le h
theorem oV {n k:Nat}(h:2 ^ k≤n):bf n=bf (n / 2 ^ k)+k:=by
 have hk:=Nat.pow_pos (a:=2) (n:=k) (by decide);have h0:n / 2 ^ k≠0:=by have:=Nat.div_pos h hk;omega
 have h1:=jd h0;have h2:=qz (n / 2 ^ k);have h3:0<bf (n / 2 ^ k):=by simp [bf,h0]
 have h4:2 ^ (bf (n / 2 ^ k) - 1)*2 ^ k≤n:=Nat.le_trans (Nat.mul_le_mul_right _ h1) (Nat.div_mul_le_self n _);have h5:n<2 ^ bf (n / 2 ^ k)*2 ^ k:=by rw [← Nat.div_lt_iff_lt_mul hk];exact h2
 rw [← Nat.pow_add] at h4 h5;have h6:=KT h4 (by rw [show bf (n / 2 ^ k) - 1+k+1=bf (n / 2 ^ k)+k by omega];exact h5);omega
theorem Yj (f:List UInt8)(hf:(List.range 256).all (fun i=>(f[i]?.getD 0).toNat == bf i)=true)(x:Nat)(hx:x<256):(f[x]?.getD 0).toNat=bf x:=by
 rw [List.all_eq_true] at hf;simpa using hf x (List.mem_range.2 hx)
set_option maxRecDepth 40000 in
theorem oq (G:List (List DV))(n:Nat)(hn:n<4294967296):aj Tryz.prog G 357 [.c (.d (.int .u32 n))] (.c (.d (.int .i64 (bf n)))):=by
 refine aj.aH Tryz.func357 rfl (by rw [Tryz.ntmps357];simp) ?_;rintro⟨_,_,w0,F0,W0,_,bq,β0⟩ rfl rfl rfl;refine aac fun K hK=>?_;refine aad rfl ?_;simp;apply hK;clear hK K;refine aac fun K hK=>aac fun K1 hK1=>?_;refine aad rfl ?_;simp;apply hK1;clear hK1 K1
 have step2:∀ (x m:Nat) (fr:Nat→AV) (κ:Nat),x<65536→m≤16→bf n=m+bf x→fr 0=.c (.d (.int .u32 x))→fr 2=.c (.d (.int .i64 m))→K ⟨fr,fun _=>.hole⟩ κ:=by
  intro x m fr κ hx hm hb f0 f2;apply hK;refine aac fun K hK=>aac fun K1 hK1=>?_;refine aad rfl ?_;simp [f0];apply hK1;clear hK1 K1
  have step3:∀ (x m:Nat) (fr:Nat→AV) (κ:Nat),x<256→m≤24→bf n=m+bf x→fr 0=.c (.d (.int .u32 x))→fr 2=.c (.d (.int .i64 m))→K ⟨fr,fun _=>.hole⟩ κ:=by
   intro x m fr κ hx hm hb f0 f2;apply hK;refine aac fun K hK=>?_;have e1:IntKind.u8.wrap (x:Int)=x:=cA ⟨by simp only [yz];omega,by simp only [nV];omega⟩
   have hbl:bf x≤8:=by
    by_cases h0:x=0
    ·subst h0;decide
    ·have:=jd h0;apply Classical.byContradiction;intro hc;have h9:2 ^ 8≤2 ^ (bf x - 1):=Nat.pow_le_pow_right (by decide) (by omega);omega
   refine aad rfl ?_;simp [f0,f2,e1];rw [Yj (x:=x) (hx:=hx)]
   ·have e2:=bK (n:=(bf x:Int)) (by omega) (by omega);have e3:=bK (n:=(m:Int)+bf x) (by omega) (by omega);rw [e2,e3]
    repeat refine ag ?_
    apply hK;clear hK K;exact aag (κ:=0) (au.t (κ:=0) rfl 0 (by simp [hb]))
   ·kernel_rfl
  by_cases h:256≤x
  ·refine aap (by simp [h] <;> omega) ?_;have e1:Int.fdiv (x:Int) 256=((x / 256:Nat):Int):=by rw [Int.fdiv_eq_ediv_of_nonneg _ (by omega)];omega
   have e2:=bK (n:=(m:Int)+8) (by omega) (by omega);refine aac fun K1 hK1=>?_;refine aad rfl ?_;simp [f0,IntKind.bits,e1,-Int.natCast_ediv];apply hK1;clear hK1 K1;refine aad rfl ?_;simp [f2,e2];refine step3 (x / 256) (m+8) _ _ (by omega) (by omega) ?_ (by simp) (by simp);have:=oV (n:=x) (k:=8) (by omega);rw [hb,this];simp;omega
  ·refine aao (by simp [h] <;> omega) ?_;refine aah ?_;simp;exact step3 x m _ _ (by omega) (by omega) hb (by simp [f0]) (by simp [f2])
 by_cases h:65536≤n
 ·refine aap (by simp [h] <;> omega) ?_;have e1:Int.fdiv (n:Int) 65536=((n / 65536:Nat):Int):=by rw [Int.fdiv_eq_ediv_of_nonneg _ (by omega)];omega
  refine aac fun K1 hK1=>?_;refine aad rfl ?_;simp [IntKind.bits,e1,-Int.natCast_ediv];apply hK1;clear hK1 K1;refine aad rfl ?_;simp;refine step2 (n / 65536) 16 _ _ (by omega) (by omega) ?_ (by simp) (by simp);have:=oV (n:=n) (k:=16) (by omega);rw [this];simp;omega
 ·refine aao (by simp [h] <;> omega) ?_;refine aah ?_;simp;exact step2 n 0 _ _ (by omega) (by omega) (by simp) (by simp) (by simp)
theorem lY (G:List (List DV))(n:Nat)(hn:n<4294967296):aj Tryz.prog G 325 [.c (.d (.int .u32 n))] (.c (.d (.int .i64 (32 - (bf n:Int))))):=by
 have hbl:bf n≤32:=by
  by_cases h0:n=0
  ·subst h0;decide
  ·have:=jd h0;apply Classical.byContradiction;intro hc;have h9:2 ^ 32≤2 ^ (bf n - 1):=Nat.pow_le_pow_right (by decide) (by omega);omega
 refine aj.aH Tryz.func325 rfl (by rw [Tryz.ntmps325];simp) ?_;rintro⟨_,_,w0,F0,W0,_,bq,β0⟩ rfl rfl rfl;refine aac fun K hK=>?_;refine aad rfl ?_;simp;apply hK;clear hK K;refine aac fun K hK=>?_;refine aad rfl ?_;simp;refine ai.pure 0 0 (oq _ n hn) rfl (by simp) rfl ?_;have e2:=bK (n:=32 - (bf n:Int)) (by omega) (by omega);simp [e2];apply hK;clear hK K;exact aag (κ:=0) (au.t (κ:=0) rfl 0 (by simp))
theorem od (G:List (List DV))(a:Option (List Nat))(ha:can 4294967296 (dO a))(hl:(dO a).length≤1000000000000):aj Tryz.prog G 358 [nK .u32 a] (.c (.d (.int .i64 (bf (val 4294967296 (dO a)))))):=by
 refine aj.aH Tryz.func358 rfl (by rw [Tryz.ntmps358];simp) ?_;rintro⟨_,_,w0,F0,W0,_,bq,β0⟩ rfl rfl rfl;refine aac fun K hK=>?_;refine aad rfl ?_;simp;apply hK;clear hK K;refine aac fun K hK=>?_;refine aad rfl ?_;simp;apply hK;clear hK K;refine aac fun K hK=>aac fun K1 hK1=>?_;refine aad rfl ?_;simp;apply hK1;clear hK1 K1
 by_cases h0:dO a=[]
 ·refine aap (by simp [h0] <;> omega) ?_;refine aac fun K1 hK1=>?_;refine aad rfl ?_;simp;apply hK1;clear hK1 K1;exact aag (κ:=0) (au.t (κ:=0) rfl 0 (by simp [h0,bf]))
 ·refine aao (by simp [h0] <;> omega) ?_;refine aah ?_;simp;apply hK;clear hK K;refine aac fun K hK=>?_;have h0':0<(dO a).length:=List.length_pos_iff.2 h0;have hk:(dO a).length - 1<(dO a).length:=by omega
  have e1:IntKind.i64.wrap (((dO a).length:Int) - 1)=(((dO a).length - 1:Nat):Int):=by rw [bK (by omega) (by omega)];omega
  have e2:=bK (n:=32*(((dO a).length - 1:Nat):Int)) (by omega) (by omega);have hx:(dO a)[(dO a).length - 1]<4294967296:=ha.1 _ (List.getElem_mem hk);have hx0:(dO a)[(dO a).length - 1]≠0:=ha.2 _ (by rw [List.getLast?_eq_getElem?,List.getElem?_eq_getElem hk]);have hv:=bW (B:=4294967296) (dO a) ((dO a).length - 1) (by omega);rw [cz hk,eB (l:=dO a) (i:=(dO a).length - 1+1) (by omega)] at hv;have hlt:=eC (ki ha.1 ((dO a).length - 1));rw [List.length_take,Nat.min_eq_left (by omega)] at hlt;generalize (dO a).length - 1=k at *
  generalize hxe:(dO a)[k]=x at *
  have hbl:bf x≤32:=by
   have:=jd hx0;apply Classical.byContradiction;intro hc;have h9:2 ^ 32≤2 ^ (bf x - 1):=Nat.pow_le_pow_right (by decide) (by omega);omega
  have hb:bf (val 4294967296 (dO a))=32*k+bf x:=by
   have hP:(4294967296:Nat) ^ k=2 ^ (32*k):=by rw [Nat.pow_mul]
   rw [hP] at hv hlt
   have h1:val 4294967296 (dO a) / 2 ^ (32*k)=x:=by
    rw [hv,Nat.mul_zero,Nat.add_zero,Nat.add_mul_div_left _ _ (Nat.pow_pos (by decide)),Nat.div_eq_of_lt hlt,Nat.zero_add]
   have h2:=oV (n:=val 4294967296 (dO a)) (k:=32*k) (by
    have:2 ^ (32*k)*1≤2 ^ (32*k)*(x+4294967296*0):=Nat.mul_le_mul_left _ (by omega);omega)
   rw [h1] at h2;omega
  refine aad rfl ?_;simp [e1,e2,hk,hxe];refine ai.pure 0 0 (oq _ x hx) rfl (by simp) rfl ?_;have e3:=bK (n:=32*(k:Int)+bf x) (by omega) (by omega);simp [e3];apply hK;clear hK K;exact aag (κ:=0) (au.t (κ:=0) rfl 0 (by simp [hb]))
end Go.Am

namespace Go.Am
open Go.Am.Ty Go.Proofs N
theorem Jv {x s:Nat}(hx:x<4294967296) (hs:s<32):∃ y h:Nat,(x*2 ^ s) % 4294967296=y*2 ^ s∧(x*2 ^ s) / 4294967296=h∧y*2 ^ s+2 ^ s≤4294967296∧h<2 ^ s∧x*2 ^ s<18446744073709551616:=by
 have hP:(2:Nat) ^ (32 - s)*2 ^ s=4294967296:=by rw [← Nat.pow_add,Nat.sub_add_cancel (by omega)]
 have h0:0<2 ^ s:=Nat.pow_pos (by decide);have h1:0<2 ^ (32 - s):=Nat.pow_pos (by decide);refine⟨x % 2 ^ (32 - s),_,?_,rfl,?_,?_,?_⟩
 ·rw [← hP,Nat.mul_mod_mul_right]
 ·have:=Nat.mod_lt x h1
  calc x % 2 ^ (32 - s)*2 ^ s+2 ^ s=(x % 2 ^ (32 - s)+1)*2 ^ s:=by rw [Nat.add_mul,Nat.one_mul]
   _≤2 ^ (32 - s)*2 ^ s:=Nat.mul_le_mul_right _ this
   _=4294967296:=hP
 ·rw [Nat.div_lt_iff_lt_mul (by decide),Nat.mul_comm];exact Nat.mul_lt_mul_of_pos_left hx h0
 ·have h2:2 ^ s<4294967296:=Nat.pow_lt_pow_right (by decide) hs |> fun h=>h
  calc x*2 ^ s≤4294967295*2 ^ s:=Nat.mul_le_mul_right _ (by omega)
   _≤4294967295*4294967295:=Nat.mul_le_mul_left _ (by omega)
   _<_:=by decide
theorem fL (G:List (List DV))(a:Option (List Nat))(k:Nat)(ha:(dO a).length≤1000000000000)(hk:k≤1000000000000) :
 aj Tryz.prog G 326 [nK .u32 a,.c (.d (.int .i64 k))] (if dO a=[] then nK .u32 none else nK .u32 (some (aI 4294967296 (val 4294967296 (dO a)*2 ^ k)))):=by
 refine aZ.iQ 0 (by simp) (fun V v h=>gA h) fun hra=>?_;have oka:ok 4294967296 (dO a):=fun d hd=>by have:=hra.2 d hd;simp only [nV] at this;omega
 by_cases h0:dO a=[]
 ·rw [if_pos h0];refine aj.aH Tryz.func326 rfl (by rw [Tryz.ntmps326];simp) ?_;rintro⟨_,_,w0,F0,W0,_,bq,β0⟩ rfl rfl rfl;refine aac fun K hK=>?_;refine aad rfl ?_;simp;apply hK;clear hK K;refine aac fun K hK=>aac fun K1 hK1=>?_;refine aad rfl ?_;simp;apply hK1;clear hK1 K1;refine aap (by simp [h0] <;> omega) ?_;refine aac fun K1 hK1=>?_;refine aad rfl ?_;simp;apply hK1;clear hK1 K1;exact aag (κ:=0) (au.t (κ:=0) rfl 0 (by simp [nK]))
 ·rw [if_neg h0];refine aj.aH Tryz.func326 rfl (by rw [Tryz.ntmps326];simp) ?_;rintro⟨_,_,w0,F0,W0,_,bq,β0⟩ rfl rfl rfl;refine aac fun K hK=>?_;refine aad rfl ?_;simp;apply hK;clear hK K;refine aac fun K hK=>aac fun K1 hK1=>?_;refine aad rfl ?_;simp;apply hK1;clear hK1 K1;refine aao (by simp [h0] <;> omega) ?_;refine aah ?_;simp;apply hK;clear hK K;refine aac fun K hK=>?_;have d1:Int.tdiv (k:Int) 32=((k / 32:Nat):Int):=by rw [Int.tdiv_eq_ediv_of_nonneg (by omega)];omega
  have d2:Int.tmod (k:Int) 32=((k % 32:Nat):Int):=by rw [Int.tmod_eq_emod_of_nonneg (by omega)];omega
  have hks:k=32*(k / 32)+k % 32:=by omega
  have hs:k % 32<32:=by omega
  have hw:k / 32≤1000000000000:=by omega
  have d3:=bK (n:=((k / 32:Nat):Int)) (by omega) (by omega);have d4:=c7 (n:=((k % 32:Nat):Int)) (by omega) (by omega);generalize k / 32=w at *
  generalize k % 32=s at *
  refine aad rfl ?_;simp [d1,d2,d3,d4];apply hK;clear hK K;have e1:IntKind.i64.wrap (((dO a).length:Int)+w)=(((dO a).length+w:Nat):Int):=by rw [bK (by omega) (by omega)];omega
  have e2:IntKind.i64.wrap ((((dO a).length+w:Nat):Int)+1)=(((dO a).length+w+1:Nat):Int):=by rw [bK (by omega) (by omega)];omega
  refine aac fun K hK=>?_;refine aad rfl ?_;simp [e1,e2,-Int.natCast_add]
  repeat refine ag ?_
  apply hK;clear hK K;refine aac fun K hK=>aac fun K1 hK1=>?_;refine aad rfl ?_;simp;apply hK1;clear hK1 K1;refine aak ?_
  refine aax (fun (p:Nat × List Nat)=>⟨bt [(0,nK .u32 a),(5,.c (.d (.int .i64 w))),(6,.c (.d (.int .u64 s))),(7,.c (.aX 0 0 ((dO a).length+w+1) 1)),(25,nK .u32 a),(26,.c (.d (.int .i64 (dO a).length))),(27,.c (.d (.int .i64 p.1)))],
   aJ (fun _=>.hole) 0 (.cells true false 322 (wK .u32 (p.2++List.replicate ((dO a).length - p.1) 0)))⟩) 1
   (fun p=>p.1≤(dO a).length∧p.2.length=p.1+w+1∧ok 4294967296 p.2∧p.2.getD (p.1+w) 0<2 ^ s∧val 4294967296 p.2=4294967296 ^ w*(val 4294967296 ((dO a).take p.1)*2 ^ s))
   (fun p=>(dO a).length - p.1) (0,List.replicate (w+1) 0) (Le.mk' _ (by simp [fu,show (dO a).length+w+1=w+1+(dO a).length by omega]) (by simp) (by simp)) ⟨by simp,by simp,pM (by omega) _,by simp [Nat.pow_pos],by simp [nJ]⟩ ?_
  rintro⟨i,lo⟩ ⟨h1,h2,h3,h4,h5⟩;simp only at h1 h2 h3 h4 h5;refine aac fun K3 hK3=>?_;refine aad rfl ?_;simp;apply hK3;clear hK3 K3;refine aac fun K2 hK2=>?_
  by_cases hlt:i<(dO a).length
  ·refine aap (by simp [hlt] <;> omega) ?_;refine aah ?_;simp;apply hK2;refine aac fun K3 hK3=>?_;refine aak ?_;refine aac fun K4 hK4=>?_;refine aad rfl ?_;simp [hlt];apply hK4;clear hK4 K4;refine aac fun K4 hK4=>?_;have hx:(dO a)[i]<4294967296:=oka _ (List.getElem_mem hlt);have hbt:val 4294967296 ((dO a).take (i+1))=val 4294967296 ((dO a).take i)+4294967296 ^ i*(dO a)[i]:=br hlt;generalize (dO a)[i]=x at hx hbt;obtain⟨y,hh,g1,g2,g3,g4,g5⟩:=Jv hx hs;have e3:=c7 (n:=(x:Int)) (by omega) (by omega)
   have e4:IntKind.u64.wrap ((x:Int)*2 ^ min s 64)=((x*2 ^ s:Nat):Int):=by
    rw [Nat.min_eq_left (by omega),show ((x:Int)*2 ^ s)=((x*2 ^ s:Nat):Int) by push_cast;rfl];generalize x*2 ^ s=z at g5;exact c7 (by omega) (by omega)
   refine aad rfl ?_;simp [e3,IntKind.bits,e4,-Int.natCast_mul,-Int.natCast_pow];apply hK4;clear hK4 K4;have hij:i+w<lo.length:=by omega
   have hij2:i+w<(lo++List.replicate ((dO a).length - i) 0).length:=by simp;omega
   have hij3:i+w<lo.length+((dO a).length - i):=by omega
   have ht:lo[i+w]<2 ^ s:=by rw [List.getD_eq_getElem?_getD,List.getElem?_eq_getElem hij] at h4;exact h4
   have ho2:(lo++List.replicate ((dO a).length - i) 0)[i+w]=lo[i+w]:=List.getElem_append_left hij;have hset:=tN (B:=4294967296) hij;generalize lo[i+w]=t at ht ho2 hset;have f1:IntKind.i64.wrap ((i:Int)+w)=((i+w:Nat):Int):=by rw [bK (by omega) (by omega)];omega
   have f2:IntKind.u32.wrap ((x*2 ^ s:Nat):Int)=((y*2 ^ s:Nat):Int):=by rw [← g1,og];generalize x*2 ^ s=z;omega
   have f3:Jz .u32 (t:Int) ((y*2 ^ s:Nat):Int)=((y*2 ^ s+t:Nat):Int):=Ip ht (by omega);have f8:y*2 ^ s+t<4294967296:=by omega
   have f4:ak (wK .u32 (lo++List.replicate ((dO a).length - i) 0)) (i+w) [CV.d (.int .u32 ((y*2 ^ s+t:Nat):Int))]=wK .u32 (lo.set (i+w) (y*2 ^ s+t)++List.replicate ((dO a).length - i) 0):=by
    rw [eR _ hij2,List.set_append_left _ _ hij]
   have f5:i+w<(dO a).length+w+1:=by omega
   refine aac fun K4 hK4=>?_;refine aad rfl ?_;simp [f1,f2,f3,f4,f5,hij3,ho2,-Int.natCast_mul,-Int.natCast_pow,-Int.natCast_add]
   repeat refine ag ?_
   apply hK4;clear hK4 K4;have f6:Int.fdiv ((x*2 ^ s:Nat):Int) 4294967296=(hh:Int):=by rw [Int.fdiv_eq_ediv_of_nonneg _ (by omega),← g2];generalize x*2 ^ s=z;omega
   have f7:IntKind.i64.wrap (((i+w:Nat):Int)+1)=((i+w+1:Nat):Int):=by rw [bK (by omega) (by omega)];omega
   have hs32:(2:Nat) ^ s<4294967296:=Nat.pow_lt_pow_right (by decide) hs |> fun h=>h
   have f9:=rT (n:=(hh:Int)) (by omega) (by omega);have hz:(dO a).length - i=((dO a).length - i - 1)+1:=by omega
   have f10:ak (wK .u32 (lo.set (i+w) (y*2 ^ s+t)++List.replicate ((dO a).length - i) 0)) (i+w+1) [CV.d (.int .u32 (hh:Int))]=wK .u32 (lo.set (i+w) (y*2 ^ s+t)++[hh]++List.replicate ((dO a).length - i - 1) 0):=by
    rw [eR _ (by simp;omega),hz];have:i+w+1=(lo.set (i+w) (y*2 ^ s+t)).length:=by simp;omega
    rw [this,jg];simp
   have f11:i+w+1<lo.length+((dO a).length - i):=by omega
   refine aad rfl ?_;simp [f1,f6,f7,f9,f10,f11,IntKind.bits,-Int.natCast_mul,-Int.natCast_pow,-Int.natCast_add]
   repeat refine ag ?_
   apply hK3;have f12:=bK (n:=(i:Int)+1) (by omega) (by omega);refine aad rfl ?_;simp [f12];have f13:(dO a).length - (i+1)=(dO a).length - i - 1:=by omega
   refine⟨i+1,lo.set (i+w) (y*2 ^ s+t)++[hh],Le.mk' _ (by simp [f13]) (by simp) (by simp),⟨by omega,by simp;omega,b8.2 ⟨CU h3 _ f8,bB.2 ⟨by omega,cg _⟩⟩,?_,?_⟩,by omega⟩
   ·have:i+1+w=(lo.set (i+w) (y*2 ^ s+t)).length:=by simp;omega
    rw [this,List.getElem?_append_right (Nat.le_refl _)];simpa using g4
   ·rw [ey,List.length_set,h2,hbt];have p1:=hset (y*2 ^ s+t);have p2:=mm 4294967296 (i+w) (x*2 ^ s);rw [g1,g2] at p2
    have p3:4294967296 ^ w*((val 4294967296 ((dO a).take i)+4294967296 ^ i*x)*2 ^ s)=4294967296 ^ w*(val 4294967296 ((dO a).take i)*2 ^ s)+4294967296 ^ (i+w)*(x*2 ^ s):=by
     rw [Nat.pow_add];generalize 2 ^ s=S;generalize 4294967296 ^ w=W;generalize 4294967296 ^ i=I;grind
    rw [p3,← h5,← p2];rw [Nat.mul_add] at p1;omega
  ·refine aao (by simp [hlt] <;> omega) ?_;refine aav ?_;simp;have e9:i=(dO a).length:=by omega
   subst e9;apply hK;refine aac fun K hK=>?_;refine aad rfl ?_;simp;rw [← h2]
   have hout:cN lo=aI 4294967296 (val 4294967296 (dO a)*2 ^ k):=by
    refine di (by decide) h3 ?_;rw [h5,aL (Nat.le_refl _),hks,Nat.pow_add,Nat.pow_mul];generalize 2 ^ s=S;generalize val 4294967296 (dO a)=V;have:(2:Nat) ^ 32=4294967296:=by decide
    rw [this];generalize 4294967296 ^ w=W
    grind
   refine fq.n7 0 1 0 (by simp;rfl) (by omega) (cZ _ _) (by simp) (by simp) (by simp) ?_;simp;apply hK;clear hK K;exact aag (κ:=0) (au.t (κ:=0) rfl 1 (by simp [hout]))
end Go.Am

namespace Go.Am
open Go.Am.Ty Go.Proofs N
theorem jZ {B:Nat}{l:List Nat}(h:ok B l) (i:Nat) (hi:i≤l.length):val B l / B ^ i=val B (l.drop i):=by
 have h1:=bW (B:=B) l i hi;have h2:=eC (ki h i);rw [List.length_take,Nat.min_eq_left hi] at h2;have hp:0<B ^ i:=by omega
 rw [h1,Nat.add_mul_div_left _ _ hp,Nat.div_eq_of_lt h2,Nat.zero_add]
theorem FE {D x y z s:Nat}(hs:s<32) (hD:D=x+4294967296*(y+4294967296*z)):D / 2 ^ s % 4294967296=(y*4294967296+x) / 2 ^ s % 4294967296:=by
 have hP:(2:Nat) ^ (32 - s)*2 ^ s=4294967296:=by rw [← Nat.pow_add,Nat.sub_add_cancel (by omega)]
 have h0:0<2 ^ s:=Nat.pow_pos (by decide)
 have e:D=(y*4294967296+x)+2 ^ s*(4294967296*(2 ^ (32 - s)*z)):=by
  have aux:∀ S T B:Nat,T*S=B→S*(B*(T*z))=B*(B*z):=by
   intro S T B h
   calc S*(B*(T*z))=(T*S)*(B*z):=by ac_rfl
    _=_:=by rw [h]
  have this:=aux (2 ^ s) (2 ^ (32 - s)) 4294967296 hP;rw [this,hD];omega
 rw [e,Nat.add_mul_div_left _ _ h0,Nat.add_mul_mod_self_left]
theorem Ad (G:List (List DV))(a:Option (List Nat))(k:Nat)(ha:(dO a).length≤1000000000000)(hk:k≤1000000000000) :
 aj Tryz.prog G 329 [nK .u32 a,.c (.d (.int .i64 k))] (if (dO a).length≤k / 32 then nK .u32 none else nK .u32 (some (aI 4294967296 (val 4294967296 (dO a) / 2 ^ k)))):=by
 refine aZ.iQ 0 (by simp) (fun V v h=>gA h) fun hra=>?_;have oka:ok 4294967296 (dO a):=fun d hd=>by have:=hra.2 d hd;simp only [nV] at this;omega
 have d1:Int.tdiv (k:Int) 32=((k / 32:Nat):Int):=by rw [Int.tdiv_eq_ediv_of_nonneg (by omega)];omega
 have d2:Int.tmod (k:Int) 32=((k % 32:Nat):Int):=by rw [Int.tmod_eq_emod_of_nonneg (by omega)];omega
 have hks:k=32*(k / 32)+k % 32:=by omega
 have hs:k % 32<32:=by omega
 have hw:k / 32≤1000000000000:=by omega
 have d3:=bK (n:=((k / 32:Nat):Int)) (by omega) (by omega);have d4:=c7 (n:=((k % 32:Nat):Int)) (by omega) (by omega);generalize k / 32=w at *
 generalize k % 32=s at *
 by_cases h0:(dO a).length≤w
 ·rw [if_pos h0];refine aj.aH Tryz.func329 rfl (by rw [Tryz.ntmps329];simp) ?_;rintro⟨_,_,w0,F0,W0,_,bq,β0⟩ rfl rfl rfl;refine aac fun K hK=>?_;refine aad rfl ?_;simp;apply hK;clear hK K;refine aac fun K hK=>?_;refine aad rfl ?_;simp [d1,d2,d3,d4];apply hK;clear hK K;refine aac fun K hK=>aac fun K1 hK1=>?_;refine aad rfl ?_;simp;apply hK1;clear hK1 K1;refine aap (by simp [h0] <;> omega) ?_;refine aac fun K1 hK1=>?_;refine aad rfl ?_;simp;apply hK1;clear hK1 K1;exact aag (κ:=0) (au.t (κ:=0) rfl 0 (by simp [nK]))
 ·rw [if_neg h0];refine aj.aH Tryz.func329 rfl (by rw [Tryz.ntmps329];simp) ?_;rintro⟨_,_,w0,F0,W0,_,bq,β0⟩ rfl rfl rfl;refine aac fun K hK=>?_;refine aad rfl ?_;simp;apply hK;clear hK K;refine aac fun K hK=>?_;refine aad rfl ?_;simp [d1,d2,d3,d4];apply hK;clear hK K;refine aac fun K hK=>aac fun K1 hK1=>?_;refine aad rfl ?_;simp;apply hK1;clear hK1 K1;refine aao (by simp [h0] <;> omega) ?_;refine aah ?_;simp;apply hK;clear hK K;have e1:IntKind.i64.wrap (((dO a).length:Int) - w)=(((dO a).length - w:Nat):Int):=by rw [bK (by omega) (by omega)];omega
  have hw1:w≤(dO a).length:=by omega
  have hD:=jZ oka w hw1;refine aac fun K hK=>?_;refine aad rfl ?_;simp [e1]
  repeat refine ag ?_
  apply hK;clear hK K;refine aac fun K hK=>aac fun K1 hK1=>?_;refine aad rfl ?_;simp
  repeat refine ag ?_
  apply hK1;clear hK1 K1;refine aak ?_
  refine aax (fun (pre:List Nat)=>⟨bt [(0,nK .u32 a),(5,.c (.d (.int .i64 w))),(6,.c (.d (.int .u64 s))),(7,.c (.aX 0 0 ((dO a).length - w) 1)),(25,.c (.d (.int .i64 ((dO a).length - w:Nat)))),(26,.c (.d (.int .i64 pre.length)))],
   aJ (fun _=>.hole) 0 (.cells true false 322 (wK .u32 (pre++List.replicate ((dO a).length - w - pre.length) 0)))⟩) 1
   (fun pre=>pre.length≤(dO a).length - w∧ok 4294967296 pre∧val 4294967296 pre=(val 4294967296 ((dO a).drop w) / 2 ^ s) % 4294967296 ^ pre.length)
   (fun pre=>(dO a).length - w - pre.length) [] (Le.mk' _ (by simp [fu]) (by simp) (by simp)) ⟨by simp,cg _,by simp [Nat.mod_one]⟩ ?_
  rintro pre ⟨h1,h2,h3⟩;refine aac fun K3 hK3=>?_;refine aad rfl ?_;simp;apply hK3;clear hK3 K3;refine aac fun K2 hK2=>?_
  by_cases hlt:pre.length<(dO a).length - w
  ·refine aap (by simp [hlt] <;> omega) ?_;refine aah ?_;simp;apply hK2;refine aac fun K3 hK3=>?_;refine aak ?_;refine aac fun K4 hK4=>?_;refine aad rfl ?_;simp;apply hK4;clear hK4 K4;refine aac fun K4 hK4=>?_;have hi:pre.length+w<(dO a).length:=by omega
   have f1:IntKind.i64.wrap ((pre.length:Int)+w)=((pre.length+w:Nat):Int):=by rw [bK (by omega) (by omega)];omega
   have f2:IntKind.i64.wrap (((pre.length+w:Nat):Int)+1)=((pre.length+w+1:Nat):Int):=by rw [bK (by omega) (by omega)];omega
   have hx:(dO a)[pre.length+w]<4294967296:=oka _ (List.getElem_mem hi)
   have hdr:val 4294967296 ((dO a).drop w) / 4294967296 ^ pre.length=(dO a)[pre.length+w]+4294967296*val 4294967296 ((dO a).drop (pre.length+w+1)):=by
    rw [jZ (zm oka w) _ (by simp;omega),List.drop_drop,Nat.add_comm w,cz hi]
   have hix:=fE (P:=Tryz.prog) (T:=222) (lv:=aJ (fun _=>.hole) 0 (.cells true false 322 (wK .u32 (pre++List.replicate ((dO a).length - w - pre.length) 0)))) (k:=.u32) (k':=.i64) (o:=a) (i:=pre.length+w) (by simp) hi;generalize (dO a)[pre.length+w]=x at hx hdr hix;have e3:=c7 (n:=(x:Int)) (by omega) (by omega);refine aad rfl ?_;simp [f1,hix,e3,-Int.natCast_add];apply hK4;clear hK4 K4;refine aac fun K5 hK5=>aac fun K6 hK6=>?_
   have fin:∀ (y z:Nat) (fr:Nat→AV) (κ:Nat),y<4294967296→val 4294967296 ((dO a).drop (pre.length+w+1))=y+4294967296*z →
    fr 0=nK .u32 a→fr 5=.c (.d (.int .i64 w))→fr 6=.c (.d (.int .u64 s))→fr 7=.c (.aX 0 0 ((dO a).length - w) 1)→fr 8=.c (.d (.int .i64 pre.length))→fr 9=.c (.d (.int .u64 ((y*4294967296+x:Nat):Int))) →
    fr 25=.c (.d (.int .i64 ((dO a).length - w:Nat)))→fr 26=.c (.d (.int .i64 pre.length)) →
    K5 ⟨fr,aJ (fun _=>.hole) 0 (.cells true false 322 (wK .u32 (pre++List.replicate ((dO a).length - w - pre.length) 0)))⟩ κ:=by
    intro y z fr κ hy hyz q0 q5 q6 q7 q8 q9 q25 q26;apply hK5;refine aaA 2 ?_
    have g1:Int.fdiv ((y*4294967296+x:Nat):Int) (2 ^ min s 64)=(((y*4294967296+x) / 2 ^ s:Nat):Int):=by
     rw [Nat.min_eq_left (by omega),Int.fdiv_eq_ediv_of_nonneg _ (Int.le_of_lt (Int.pow_pos (by decide)))];generalize y*4294967296+x=m;rw [Int.natCast_ediv];congr 1
    have g2:IntKind.u32.wrap (((y*4294967296+x) / 2 ^ s:Nat):Int)=(((y*4294967296+x) / 2 ^ s % 4294967296:Nat):Int):=by
     rw [og];generalize (y*4294967296+x) / 2 ^ s=m;omega
    have hdig:=FE (x:=x) (y:=y) (z:=z) hs (D:=val 4294967296 ((dO a).drop w) / 4294967296 ^ pre.length) (by rw [hdr,hyz]);have hv:(y*4294967296+x) / 2 ^ s % 4294967296<4294967296:=Nat.mod_lt _ (by omega);generalize (y*4294967296+x) / 2 ^ s % 4294967296=v at g2 hdig hv;have hz:(dO a).length - w - pre.length=((dO a).length - w - pre.length - 1)+1:=by omega
    have g3:ak (wK .u32 (pre++List.replicate ((dO a).length - w - pre.length) 0)) pre.length [CV.d (.int .u32 (v:Int))]=wK .u32 (pre++[v]++List.replicate ((dO a).length - w - pre.length - 1) 0):=by
     rw [hz,eR _ (by simp),jg];simp
    refine aad rfl ?_;simp [q6,q7,q8,q9,IntKind.bits,g1,g2,g3,hlt,-Int.natCast_add,-Int.natCast_mul,-Int.natCast_ediv,-Int.natCast_pow]
    repeat refine ag ?_
    apply hK3;have g4:=bK (n:=(pre.length:Int)+1) (by omega) (by omega);refine aad rfl ?_;simp [q26,g4];have g5:(dO a).length - w - (pre.length+1)=(dO a).length - w - pre.length - 1:=by omega
    refine⟨pre++[v],Le.mk' _ (by simp [g5]) (by simp) (by simp [q0,q5,q6,q7,q25]),⟨by simp;omega,b8.2 ⟨h2,bB.2 ⟨hv,cg _⟩⟩,?_⟩,by simp;omega⟩;rw [ey,List.length_append,List.length_singleton,Nat.mod_pow_succ,h3,Nat.div_div_eq_div_mul,Nat.mul_comm (2 ^ s),← Nat.div_div_eq_div_mul,hdig]
   refine aad rfl ?_;simp [f1,f2,-Int.natCast_add];apply hK6;clear hK6 K6
   by_cases hlb:pre.length+w+1<(dO a).length
   ·refine aap (by simp [hlb] <;> omega) ?_;have hy:(dO a)[pre.length+w+1]<4294967296:=oka _ (List.getElem_mem hlb);have hyz:=cz (B:=4294967296) hlb;have hiy:=fE (P:=Tryz.prog) (T:=222) (lv:=aJ (fun _=>.hole) 0 (.cells true false 322 (wK .u32 (pre++List.replicate ((dO a).length - w - pre.length) 0)))) (k:=.u32) (k':=.i64) (o:=a) (i:=pre.length+w+1) (by simp) hlb;generalize (dO a)[pre.length+w+1]=y at hy hyz hiy;have p1:=c7 (n:=(y:Int)) (by omega) (by omega);have p2:IntKind.u64.wrap ((y:Int)*4294967296)=((y*4294967296:Nat):Int):=by rw [c7 (by omega) (by omega)];omega
    have p3:Jz .u64 (x:Int) ((y*4294967296:Nat):Int)=((y*4294967296+x:Nat):Int):=by rw [Cl];exact qk hy hx
    refine aad rfl ?_;simp [f1,f2,hiy,p1,p2,p3,IntKind.bits,-Int.natCast_add,-Int.natCast_mul];exact fin y _ _ _ hy hyz (by simp) (by simp) (by simp) (by simp) (by simp) (by simp) (by simp) (by simp)
   ·refine aao (by simp [hlb] <;> omega) ?_;refine aah ?_;simp;exact fin 0 0 _ _ (by omega) (by rw [eB (by omega)]) (by simp) (by simp) (by simp) (by simp) (by simp) (by simp) (by simp) (by simp)
  ·refine aao (by simp [hlt] <;> omega) ?_;refine aav ?_;simp;have e9:pre.length=(dO a).length - w:=by omega
   apply hK;refine aac fun K hK=>?_;refine aad rfl ?_;simp
   have hout:cN pre=aI 4294967296 (val 4294967296 (dO a) / 2 ^ k):=by
    refine di (by decide) h2 ?_;have hl:=eC (zm oka w);rw [List.length_drop,← e9] at hl;rw [h3,Nat.mod_eq_of_lt (Nat.lt_of_le_of_lt (Nat.div_le_self _ _) hl),← hD,Nat.div_div_eq_div_mul,hks,Nat.pow_add,Nat.pow_mul]
   rw [← e9];simp only [Nat.sub_self,List.replicate_zero,List.append_nil];refine fq.n7 0 1 0 (by simp;rfl) (by omega) (cZ _ _) (by simp) (by simp) (by simp) ?_;simp;apply hK;clear hK K;exact aag (κ:=0) (au.t (κ:=0) rfl 1 (by simp [hout]))
end Go.Am
