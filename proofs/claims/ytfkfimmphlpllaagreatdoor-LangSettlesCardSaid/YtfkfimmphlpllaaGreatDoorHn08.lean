/- Helpers: an abstract machine for Go functions, and walks of functions of the program. -/
import Derived.Test.YtfkfimmphlpllaaGreatDoorHn07
import Derived.Shelf.Strings.Search1
import Derived.Shelf.Strings.Search2
import Derived.Shelf.Strings.Search3
import Derived.Shelf.Strings.Cut
import Derived.Shelf.Strings.Count
import Derived.Test.YtfkfimmphlpllaaGreatDoorProg
import Derived.Lib.Builder
import Derived.Defers
import Derived.Recover
import Derived.WalkKit
import Derived.TacticsIn
import Derived.TacticsInMore
import Derived.RegionIn
import Derived.OwnWalkIn
import Derived.RangeFuncOwn

set_option linter.all false
set_option maxHeartbeats 8000000
set_option maxRecDepth 100000
namespace Go.Am
variable {B n x c y i L k s:Nat}{a b:Option (List Nat)}{l:List Nat}
abbrev abS:=@List.replicate_zero
abbrev Z4:=@Nat.pow_add
abbrev abT:=@Int.tdiv_eq_ediv_of_nonneg
abbrev abG:=@Int.natCast_nonneg
abbrev abU:=@Int.tmod_eq_emod_of_nonneg
abbrev Zv:=@Nat.pow_pos
abbrev aaF:=@Nat.pow_le_pow_right
abbrev aaG:=@Nat.mul_zero
abbrev aa1:=@List.length_set
abbrev aaP:=@Nat.ne_of_gt
abbrev abV:=@Nat.pos_of_ne_zero
abbrev aaQ:=@List.count_cons
abbrev abo:=@List.count_le_length
abbrev abW:=@World.putObj_heap_other
open Go.Am.Ty Go.Proofs N
abbrev F7:=nK .u32
theorem dy (G:List (List DV))(l:List Nat):aa Tryz.prog G 281 [F7 (some l)] (F7 (some (fF l))):=by
 refine aa.ny Tryz.func281 rfl (by rw [Tryz.ntmps281];simp) ?_;rintro⟨_,_,w0,F0,W0,_,js,β0⟩ rfl rfl rfl;refine aaa fun K hK=>?_;refine aao rfl ?_;simp;apply hK;clear hK K;refine aaa fun K hK=>?_;refine aao rfl ?_;simp [J0];refine ag.pure 0 0 (zu _ l) rfl (by simp [F7]) rfl ?_;simp;apply hK;clear hK K;exact aam (aH.tmp rfl 0 (by simp;rfl) rfl rfl rfl)
theorem sR (G:List (List DV))(a b:Option (List Nat))(ha:(dO a).length≤1000000000000)(hb:(dO b).length≤1000000000000) :
 aa Tryz.prog G 280 [F7 a,F7 b] (F7 (some (cz 4294967296 (val 4294967296 (dO a)+val 4294967296 (dO b))))):=by
 refine aG.iL 0 (by simp) (fun V v h=>jb h) fun hra=>?_;refine aG.iL 1 (by simp) (fun V v h=>jb h) fun hrb=>?_;refine aa.ny Tryz.func280 rfl (by rw [Tryz.ntmps280];simp) ?_;rintro⟨_,_,w0,F0,W0,_,js,β0⟩ rfl rfl rfl;refine aaa fun K hK=>?_;refine aao rfl ?_;simp;apply hK;clear hK K;refine aaa fun K hK=>?_;refine aaa fun K2 hK2=>?_;refine aao rfl ?_;simp [mA gp];apply hK2;clear hK2 K2
 have main:∀ (a' b':Option (List Nat)) (fr:Nat→AV) (κ:Nat),fr 0=F7 a'→fr 1=F7 b'→(dO b').length≤(dO a').length→(dO a').length≤1000000000000 →
  ok 4294967296 (dO a')→ok 4294967296 (dO b')→val 4294967296 (dO a')+val 4294967296 (dO b')=val 4294967296 (dO a)+val 4294967296 (dO b)→K ⟨fr,fun _=>.hole⟩ κ:=by
  intro a' b' fr κ f0 f1 hle hla oka okb hv;apply hK;clear hK;refine aaa fun K hK=>?_;refine aao rfl ?_;have e1:=dF (n:=((dO a').length:Int)+1) (by omega) (by omega);simp [f0,mA gp,e1,gp,EW,E5,D4];refine⟨by omega,?_⟩;apply hK;clear hK K;refine aax 1 ?_;generalize hκ:κ=κ0;refine aaa fun K hK=>?_;refine aao rfl ?_;simp;apply hK;clear hK K;refine aaa fun K hK=>aaa fun K1 hK1=>?_;refine aao rfl ?_;simp [f0,mA gp];apply hK1;clear hK1 K1;refine aag ?_
  refine aap (fun (p:List Nat × Nat)=>⟨bq [(0,F7 a'),(1,F7 b'),(5,.c (.aI κ0 0 ((dO a').length+1) 1)),(6,.c (.d (.int .u64 p.2))),(20,F7 a'),(21,.c (.d (.int .i64 (dO a').length))),(22,.c (.d (.int .i64 p.1.length)))],
   aD (fun _=>.hole) κ0 (.cells true false 322 (wK .u32 (p.1++List.replicate ((dO a').length+1 - p.1.length) 0)))⟩) (κ0+1)
   (fun p=>p.1.length≤(dO a').length∧ok 4294967296 p.1∧p.2≤1∧val 4294967296 p.1+4294967296 ^ p.1.length*p.2=val 4294967296 ((dO a').take p.1.length)+val 4294967296 ((dO b').take p.1.length))
   (fun p=>(dO a').length - p.1.length) ([],0) (Le.mk' _ (by simp [ju]) (by simp) (by simp [f0,f1])) (by simp [dX]) ?_
  rintro⟨pre,c⟩ ⟨h1,h2,h3,h4⟩;simp only at h1 h2 h3 h4;refine aaa fun K3 hK3=>?_;refine aao rfl ?_;simp;apply hK3;clear hK3 K3;refine aaa fun K2 hK2=>?_
  by_cases hlt:pre.length<(dO a').length
  ·refine aay (b:=true) (by simp [hlt]) (aac ?_);simp;apply hK2;have hz:(dO a').length+1 - pre.length=((dO a').length - pre.length)+1:=by omega
   refine aaa fun K3 hK3=>aag ?_;refine aaa fun K4 hK4=>?_;refine aao rfl ?_;simp [L3 gp hlt,l6];apply hK4;clear hK4 K4;refine aaa fun K4 hK4=>?_;refine aao rfl ?_;simp [rj,tc];have hx:(dO a')[pre.length]<4294967296:=oka _ (cq hlt);generalize hxe:(dO a')[pre.length]=x at hx;have e3:=dx (n:=(x:Int)) (by omega) (by omega);have e4:=dx (n:=(c:Int)+x) (by omega) (by omega);simp only [e3,e4];apply hK4;clear hK4 K4;refine aaa fun K5 hK5=>aaa fun K6 hK6=>?_
   have fin:∀ (y:Nat) (fr:Nat→AV) (κ:Nat),y<4294967296→val 4294967296 ((dO b').take (pre.length+1))=val 4294967296 ((dO b').take pre.length)+4294967296 ^ pre.length*y →
    fr 0=F7 a'→fr 1=F7 b'→fr 5=.c (.aI κ0 0 ((dO a').length+1) 1)→fr 6=.c (.d (.int .u64 ((c:Int)+x+y)))→fr 7=.c (.d (.int .i64 pre.length)) →
    fr 20=F7 a'→fr 21=.c (.d (.int .i64 (dO a').length))→fr 22=.c (.d (.int .i64 pre.length)) →
    K5 ⟨fr,aD (fun _=>.hole) κ0 (.cells true false 322 (wK .u32 (pre++List.replicate ((dO a').length+1 - pre.length) 0)))⟩ κ:=by
    intro y fr κ hy hbv q0 q1 q5 q6 q7 q20 q21 q22;apply hK5;refine aax (κ0+2) ?_;refine aaa fun K5 hK5=>?_;refine aao rfl ?_;have e5:IntKind.u32.wrap ((c:Int)+x+y)=((c+x+y) % 4294967296:Nat):=by rw [pX];omega
    have e6:aj (wK .u32 (pre++List.replicate ((dO a').length+1 - pre.length) 0)) pre.length [CV.d (.int .u32 (((c+x+y) % 4294967296:Nat):Int))]=wK .u32 (pre++[(c+x+y) % 4294967296]++List.replicate ((dO a').length - pre.length) 0):=by
     rw [hz,iD _ (by simp),lQ]
    have e7:(pre.length:Int)<((dO a').length:Int)+1:=by omega
    simp [q5,q6,q7,gp,l6,rj,tc,e5,e6,e7,zV,HM,-Int.natCast_emod,-Int.natCast_add];refine⟨by omega,by omega,?_⟩;apply hK5;clear hK5 K5;refine aao rfl ?_;have e8:(((c:Int)+x+y) / 4294967296)=(((c+x+y) / 4294967296:Nat):Int):=by omega
    have e8':Int.fdiv ((c:Int)+x+y) 4294967296=(((c+x+y) / 4294967296:Nat):Int):=by rw [Zu _ (by omega)];exact e8
    simp [q6,IntKind.bits,e8',-Int.natCast_ediv,-Int.natCast_add];apply hK3;refine aao rfl ?_;have e9:=dF (n:=(pre.length:Int)+1) (by omega) (by omega);simp [q22,e9];have e10:(dO a').length - pre.length=(dO a').length+1 - (pre.length+1):=by omega
    refine⟨pre++[(c+x+y) % 4294967296],(c+x+y) / 4294967296,Le.mk' _ (by simp) (by simp) (by simp [q0,q1,q5,q20,q21]),⟨by simp;omega,?_,by omega,?_⟩,by simp;omega⟩
    ·exact dH.2 ⟨h2,ck.2 ⟨by omega,dX _⟩⟩
    ·have:=qH 4294967296 pre (c+x+y);rw [YY,aaO,this,cA hlt,hxe,hbv,YW,YW];omega
   refine aao rfl ?_;simp [mA gp];apply hK6;clear hK6 K6
   by_cases hlb:pre.length<(dO b').length
   ·refine aay (b:=true) (by simp [hlb]) ?_;refine aao rfl ?_;have hy:(dO b')[pre.length]<4294967296:=okb _ (cq hlb);have e5:=dx (n:=((dO b')[pre.length]:Int)) (by omega) (by omega);have e6:=dx (n:=(c:Int)+x+(dO b')[pre.length]) (by omega) (by omega);simp [L3 gp hlb,l6,rj,tc,e5,e6];exact fin _ _ _ hy (cA hlb) (by simp) (by simp) (by simp) (by simp) (by simp) (by simp) (by simp) (by simp)
   ·refine aay (b:=false) (by simp [hlb]) (aac ?_);simp;exact fin 0 _ _ (by omega) (by rw [bR (by omega),bR (by omega)];rfl) (by simp) (by simp) (by simp) (by simp) (by simp) (by simp) (by simp) (by simp)
  ·refine aay (b:=false) (by simp [hlt]) (aan ?_);simp;have e2:pre.length=(dO a').length:=by omega
   apply hK;refine aaa fun K hK=>?_;refine aao rfl ?_;have e3:=uJ (n:=(c:Int)) (by omega) (by omega)
   have e4:aj (wK .u32 (pre++[0])) pre.length [CV.d (.int .u32 (c:Int))]=wK .u32 (pre++[c]):=by
    rw [iD _ (by simp)];simp
   simp only [← e2];simp [mA gp,← e2,gp,l6,rj,tc,e3,e4,zV,HM];refine⟨by omega,?_⟩;apply hK;clear hK K;refine aaa fun K hK=>?_;refine aao rfl ?_;simp [Lm];have hl:pre.length+1=(pre++[c]).length:=by simp
   rw [hl]
   have hout:fF (pre++[c])=cz 4294967296 (val 4294967296 (dO a)+val 4294967296 (dO b)):=by
    refine iu (by decide) (dH.2 ⟨h2,ck.2 ⟨by omega,dX _⟩⟩) ?_;rw [jv,h4,bR (by omega),bR (by omega),hv]
   refine jr.zz 0 (κ0+1) κ0 (by simp;rfl) (by simp;omega) (dy _ _) (by simp) (by simp) (by simp) ?_;simp;apply hK;clear hK K;exact aam (aH.tmp rfl (κ0+1) (by simp [hout]) (by simp) (by simp) (by simp))
 have oka:ok 4294967296 (dO a):=fun d hd=>by have:=hra.2 d hd;simp only [qd] at this;omega
 have okb:ok 4294967296 (dO b):=fun d hd=>by have:=hrb.2 d hd;simp only [qd] at this;omega
 by_cases hlt:(dO a).length<(dO b).length
 ·refine aay (b:=true) (by simp [hlt]) ?_;refine aao rfl ?_;simp;exact main b a _ _ (by simp) (by simp) (by omega) hb okb oka (by omega)
 ·refine aay (b:=false) (by simp [hlt]) (aac ?_);simp;exact main a b _ _ (by simp) (by simp) (by omega) ha oka okb rfl
theorem LX(hx:x<4294967296) (hc:c≤1) (hy:y<4294967296) :
 ∃ v b:Nat,v<4294967296∧b≤1∧v+c+y=x+4294967296*b∧IntKind.u32.wrap (IntKind.u64.wrap (IntKind.u64.wrap ((x:Int) - c) - y))=v∧Int.fdiv (IntKind.u64.wrap (IntKind.u64.wrap ((x:Int) - c) - y)) 9223372036854775808=b:=by
 simp only [pX,Ap]
 by_cases h:c+y≤x
 ·refine⟨x - c - y,0,by omega,by omega,by omega,by omega,?_⟩;rw [Zu _ (by omega)];omega
 ·refine⟨x+4294967296 - c - y,1,by omega,by omega,by omega,by omega,?_⟩;rw [Zu _ (by omega)];omega
theorem Ie(hx:x<4294967296) (hc:c≤1):IntKind.u64.wrap (IntKind.u64.wrap ((x:Int) - c) - (0:Nat))=IntKind.u64.wrap ((x:Int) - c):=by
 simp only [Ap];omega
theorem th (G:List (List DV))(a b:Option (List Nat))(ha:(dO a).length≤1000000000000)(hv:val 4294967296 (dO b)≤val 4294967296 (dO a)) :
 aa Tryz.prog G 359 [nK .u32 a,nK .u32 b] (nK .u32 (some (cz 4294967296 (val 4294967296 (dO a) - val 4294967296 (dO b))))):=by
 refine aG.iL 0 (by simp) (fun V v h=>jb h) fun hra=>?_;refine aG.iL 1 (by simp) (fun V v h=>jb h) fun hrb=>?_;have oka:ok 4294967296 (dO a):=fun d hd=>by have:=hra.2 d hd;simp only [qd] at this;omega
 have okb:ok 4294967296 (dO b):=fun d hd=>by have:=hrb.2 d hd;simp only [qd] at this;omega
 refine aa.en Tryz.func359 rfl fun _=>aab ?_;refine aai fun K hK=>?_;simp
 repeat refine ah ?_
 repeat refine ah ?_
 apply hK;refine aab ?_;refine aaa fun K hK=>aab ?_;refine aag ?_
 refine aap (fun (p:List Nat × Nat)=>⟨bq [(0,nK .u32 a),(1,nK .u32 b),(5,.c (.aI 0 0 (dO a).length 1)),(6,.c (.d (.int .u64 p.2))),(13,nK .u32 a),(14,.c (.d (.int .i64 (dO a).length))),(15,.c (.d (.int .i64 p.1.length)))],
  aD (fun _=>.hole) 0 (.cells true false 322 (wK .u32 (p.1++List.replicate ((dO a).length - p.1.length) 0)))⟩) 1
  (fun p=>p.1.length≤(dO a).length∧ok 4294967296 p.1∧p.2≤1∧val 4294967296 p.1+val 4294967296 ((dO b).take p.1.length)=val 4294967296 ((dO a).take p.1.length)+4294967296 ^ p.1.length*p.2)
  (fun p=>(dO a).length - p.1.length) ([],0) (Le.mk' _ (by simp [ju]) (by simp) (by simp)) (by simp [dX]) ?_
 rintro⟨pre,c⟩ ⟨h1,h2,h3,h4⟩;simp only at h1 h2 h3 h4;refine aab ?_;refine aaa fun K2 hK2=>?_
 by_cases hlt:pre.length<(dO a).length
 ·refine aaf (by simp [hlt] <;> omega) (aac (hK2 _ _ ?_));have hz:(dO a).length - pre.length=((dO a).length - pre.length - 1)+1:=by omega
  refine aaa fun K3 hK3=>aag (aai fun K4 hK4=>?_)
  simp [hlt]
  repeat refine ah ?_
  apply hK4;refine aai fun K4 hK4=>?_;simp;have hx:(dO a)[pre.length]<4294967296:=oka _ (cq hlt);generalize hxe:(dO a)[pre.length]=x at hx;have e3:=dx (n:=(x:Int)) (by omega) (by omega);simp only [e3]
  repeat refine ah ?_
  apply hK4;refine aaa fun K5 hK5=>aaa fun K6 hK6=>?_
  have fin:∀ (y:Nat) (fr:Nat→AV) (κ:Nat),y<4294967296→val 4294967296 ((dO b).take (pre.length+1))=val 4294967296 ((dO b).take pre.length)+4294967296 ^ pre.length*y →
   fr 0=nK .u32 a→fr 1=nK .u32 b→fr 5=.c (.aI 0 0 (dO a).length 1)→fr 9=.c (.d (.int .u64 (IntKind.u64.wrap (IntKind.u64.wrap ((x:Int) - c) - y))))→fr 7=.c (.d (.int .i64 pre.length)) →
   fr 13=nK .u32 a→fr 14=.c (.d (.int .i64 (dO a).length))→fr 15=.c (.d (.int .i64 pre.length)) →
   K5 ⟨fr,aD (fun _=>.hole) 0 (.cells true false 322 (wK .u32 (pre++List.replicate ((dO a).length - pre.length) 0)))⟩ κ:=by
   intro y fr κ hy hbv q0 q1 q5 q9 q7 q13 q14 q15;obtain⟨v,bb,g1,g2,g3,g4,g5⟩:=LX hx h3 hy
   repeat refine ah ?_
   apply hK5;refine aax 2 ?_
   have e6:aj (wK .u32 (pre++List.replicate ((dO a).length - pre.length) 0)) pre.length [CV.d (.int .u32 (v:Int))]=wK .u32 (pre++[v]++List.replicate ((dO a).length - pre.length - 1) 0):=by
    rw [hz,iD _ (by simp),lQ];simp
   have e7:(pre.length:Int)<((dO a).length:Int):=by omega
   refine aai fun K7 hK7=>?_;simp [q5,q9,q7,g4,e6,e7,hlt]
   repeat refine ah ?_
   repeat refine ah ?_
   apply hK7;refine aae ?_;simp [q9,IntKind.bits,g5]
   repeat refine ah ?_
   apply hK3;have e9:=dF (n:=(pre.length:Int)+1) (by omega) (by omega);refine aae ?_;simp [q15,e9];have e10:(dO a).length - pre.length - 1=(dO a).length - (pre.length+1):=by omega
   refine⟨pre++[v],bb,Le.mk' _ (by simp [e10]) (by simp) (by simp [q0,q1,q5,q13,q14]),⟨by simp;omega,dH.2 ⟨h2,ck.2 ⟨g1,dX _⟩⟩,g2,?_⟩,by simp;omega⟩;rw [YY,aaO,jv,cA hlt,hxe,hbv,Zq];have g6:4294967296 ^ pre.length*(v+c+y)=4294967296 ^ pre.length*(x+4294967296*bb):=by rw [g3]
   rw [YW,YW,YW,← Zk] at g6;omega
  refine AW.l0 (hK6 _ _ ?_)
  by_cases hlb:pre.length<(dO b).length
  ·refine aaf (by simp [hlb] <;> omega) ?_;have hy:(dO b)[pre.length]<4294967296:=okb _ (cq hlb);have e5:=dx (n:=((dO b)[pre.length]:Int)) (by omega) (by omega);refine aae ?_;simp [hlb,e5];exact fin _ _ _ hy (cA hlb) (by simp) (by simp) (by simp) (by simp) (by simp) (by simp) (by simp) (by simp)
  ·refine aah (by simp [hlb] <;> omega) (aac ?_);simp;exact fin 0 _ _ (by omega) (by rw [bR (by omega),bR (by omega)];rfl) (by simp) (by simp) (by simp) (by rw [Ie hx h3];simp) (by simp) (by simp) (by simp) (by simp)
 ·refine aah (by simp [hlt] <;> omega) (aan ?_);simp;have e2:pre.length=(dO a).length:=by omega
  repeat refine ah ?_
  apply hK;refine aai fun K hK=>?_;simp
  have hlb:val 4294967296 ((dO b).take pre.length)=val 4294967296 (dO b):=by
   by_cases hb:(dO b).length≤pre.length
   ·exact bR hb
   ·have g1:=cH (B:=4294967296) (dO b) pre.length (by omega);have g2:=ig oka;rw [← e2] at g2
    have g3:val 4294967296 ((dO b).drop pre.length)=0:=by
     apply Zz;intro hne;have:4294967296 ^ pre.length*1≤4294967296 ^ pre.length*val 4294967296 ((dO b).drop pre.length):=ZG _ (by omega);omega
    rw [g3] at g1;omega
  have hva:val 4294967296 ((dO a).take pre.length)=val 4294967296 (dO a):=bR (by omega)
  have hc:c=0:=by
   apply Zz;intro hne;have:c=1:=by omega
   subst this;have:=ig h2;rw [hlb,hva] at h4;omega
  subst hc
  have hout:fF pre=cz 4294967296 (val 4294967296 (dO a) - val 4294967296 (dO b)):=by
   refine iu (by decide) h2 ?_;rw [hlb,hva] at h4;omega
  rw [← e2];simp only [ZJ,abS,Zr];refine jr.zz 0 1 0 (by simp;rfl) (by omega) (dy _ _) (by simp) (by simp) (by simp) ?_;simp
  repeat refine ah ?_
  apply hK;exact aad (aH.rt rfl 1 (by simp [hout]))
theorem Lh {j T V o L':Nat}(h1:L+B ^ (i+j)*c=T+B ^ i*(x*V)) (h2:L'+B ^ (i+j)*o=L+B ^ (i+j)*((c+(x*y+o)) % B)) :
 L'+B ^ (i+j+1)*((c+(x*y+o)) / B)=T+B ^ i*(x*(V+B ^ j*y)):=by
 have h3:=nX B (i+j) (c+(x*y+o));have h4:B ^ i*(x*(V+B ^ j*y))=B ^ i*(x*V)+B ^ (i+j)*(x*y):=by rw [Z4];grind
 rw [YW,YW] at h3;omega
theorem gy (G:List (List DV))(a b:Option (List Nat))(ha:(dO a).length≤1000000000000)(hb:(dO b).length≤1000000000000) :
 aa Tryz.prog G 238 [nK .u32 a,nK .u32 b] (nK .u32 (some (cz 4294967296 (val 4294967296 (dO a)*val 4294967296 (dO b))))):=by
 refine aG.iL 0 (by simp) (fun V v h=>jb h) fun hra=>?_;refine aG.iL 1 (by simp) (fun V v h=>jb h) fun hrb=>?_;have oka:ok 4294967296 (dO a):=fun d hd=>by have:=hra.2 d hd;simp only [qd] at this;omega
 have okb:ok 4294967296 (dO b):=fun d hd=>by have:=hrb.2 d hd;simp only [qd] at this;omega
 refine aa.en Tryz.func238 rfl fun _=>aab ?_;refine aaa fun K hK=>?_;have e0:IntKind.i64.wrap (((dO a).length:Int)+(dO b).length)=(((dO a).length+(dO b).length:Nat):Int):=by rw [dF (by omega) (by omega)];omega
 refine aae ?_;simp [e0,-Int.natCast_add]
 repeat refine ah ?_
 repeat refine ah ?_
 apply hK;refine aaa fun K hK=>aab ?_;refine aag ?_
 refine aap (fun (p:Nat × List Nat)=>⟨bq [(0,nK .u32 a),(1,nK .u32 b),(5,.c (.aI 0 0 ((dO a).length+(dO b).length) 1)),(17,nK .u32 a),(18,.c (.d (.int .i64 (dO a).length))),(19,.c (.d (.int .i64 p.1)))],
  aD (fun _=>.hole) 0 (.cells true false 322 (wK .u32 (p.2++List.replicate ((dO a).length - p.1) 0)))⟩) 1
  (fun p=>p.1≤(dO a).length∧p.2.length=p.1+(dO b).length∧ok 4294967296 p.2∧val 4294967296 p.2=val 4294967296 ((dO a).take p.1)*val 4294967296 (dO b))
  (fun p=>(dO a).length - p.1) (0,List.replicate (dO b).length 0) (Le.mk' _ (by simp [ju,ZV]) (by simp) (by simp)) ⟨by simp,by simp,yD (by omega) _,by simp [uM]⟩ ?_
 rintro⟨i,lo⟩ ⟨h1,h2,h3,h4⟩;simp only at h1 h2 h3 h4;refine aab ?_;refine aaa fun K2 hK2=>?_
 by_cases hlt:i<(dO a).length
 ·refine aaf (by simp [hlt] <;> omega) (aac (hK2 _ _ (aaa fun K3 hK3=>aag (aai fun K4 hK4=>?_))));simp [hlt]
  repeat refine ah ?_
  apply hK4;refine aai fun K4 hK4=>?_;simp;have hx:(dO a)[i]<4294967296:=oka _ (cq hlt);generalize hxe:(dO a)[i]=x at hx
  repeat refine ah ?_
  apply hK4;refine aaa fun K4 hK4=>aai fun K5 hK5=>?_;simp
  repeat refine ah ?_
  apply hK5;refine aag ?_
  refine aap (fun (p:Nat × List Nat × Nat)=>⟨bq [(0,nK .u32 a),(1,nK .u32 b),(5,.c (.aI 0 0 ((dO a).length+(dO b).length) 1)),(17,nK .u32 a),(18,.c (.d (.int .i64 (dO a).length))),(19,.c (.d (.int .i64 i))),
   (6,.c (.d (.int .i64 i))),(7,.c (.d (.int .u32 x))),(8,.c (.d (.int .u64 p.2.2))),(24,nK .u32 b),(25,.c (.d (.int .i64 (dO b).length))),(26,.c (.d (.int .i64 p.1)))],
   aD (fun _=>.hole) 0 (.cells true false 322 (wK .u32 (p.2.1++List.replicate ((dO a).length - i) 0)))⟩) 2
   (fun p=>p.1≤(dO b).length∧p.2.1.length=i+(dO b).length∧ok 4294967296 p.2.1∧p.2.2<4294967296∧val 4294967296 p.2.1+4294967296 ^ (i+p.1)*p.2.2=val 4294967296 ((dO a).take i)*val 4294967296 (dO b)+4294967296 ^ i*(x*val 4294967296 ((dO b).take p.1)))
   (fun p=>(dO b).length - p.1) (0,lo,0) (Le.mk' _ (by simp) (by simp) (by simp)) ⟨by simp,h2,h3,by simp,by simp [h4]⟩ ?_
  rintro⟨j,lo2,c⟩ ⟨g1,g2,g3,g4,g5⟩;simp only at g1 g2 g3 g4 g5;refine aab ?_;refine aaa fun K7 hK7=>?_
  by_cases hlj:j<(dO b).length
  ·refine aaf (by simp [hlj] <;> omega) (aac (hK7 _ _ (aaa fun K8 hK8=>aag (aai fun K9 hK9=>?_))));simp [hlj]
   repeat refine ah ?_
   apply hK9;refine aaa fun K9 hK9=>?_;have hy:(dO b)[j]<4294967296:=okb _ (cq hlj);have hij:i+j<lo2.length:=by omega
   have hij2:i+j<(lo2++List.replicate ((dO a).length - i) 0).length:=by simp;omega
   have hij3:i+j<lo2.length+((dO a).length - i):=by omega
   have ho:lo2[i+j]<4294967296:=g3 _ (cq hij);have ho2:(lo2++List.replicate ((dO a).length - i) 0)[i+j]=lo2[i+j]:=ZB hij;have hb2:val 4294967296 ((dO b).take (j+1))=val 4294967296 ((dO b).take j)+4294967296 ^ j*(dO b)[j]:=cA hlj;have hset:=BY (B:=4294967296) hij;generalize (dO b)[j]=y at hy hb2;generalize lo2[i+j]=o at ho ho2 hset;have hxy:x*y≤4294967295*4294967295:=aa0 (by omega) (by omega);have e1:IntKind.i64.wrap ((i:Int)+j)=((i+j:Nat):Int):=by rw [dF (by omega) (by omega)];omega
   have e2:=dx (n:=(x:Int)) (by omega) (by omega);have e3:=dx (n:=(y:Int)) (by omega) (by omega)
   have e4:IntKind.u64.wrap ((x:Int)*y)=((x*y:Nat):Int):=by
    rw [← Int.natCast_mul];generalize x*y=p at hxy;exact dx (by omega) (by omega)
   have e5:=dx (n:=(o:Int)) (by omega) (by omega)
   have e6:IntKind.u64.wrap (((x*y:Nat):Int)+o)=((x*y+o:Nat):Int):=by
    generalize x*y=p at hxy;rw [dx (by omega) (by omega)];omega
   have e7:IntKind.u64.wrap ((c:Int)+((x*y+o:Nat):Int))=((c+(x*y+o):Nat):Int):=by
    generalize x*y=p at hxy;rw [dx (by omega) (by omega)];omega
   refine aae ?_;simp [e1,e2,e3,e4,e5,e6,e7,hij3,ho2,-Int.natCast_add,-Int.natCast_mul]
   repeat refine ah ?_
   repeat refine ah ?_
   apply hK9;have hbd:c+(x*y+o)<18446744073709551616:=by generalize x*y=p at hxy;omega
   generalize hm:c+(x*y+o)=m at hbd;have f1:IntKind.u32.wrap (m:Int)=((m % 4294967296:Nat):Int):=by rw [pX];omega
   have f2:aj (wK .u32 (lo2++List.replicate ((dO a).length - i) 0)) (i+j) [CV.d (.int .u32 ((m % 4294967296:Nat):Int))]=wK .u32 (lo2.set (i+j) (m % 4294967296)++List.replicate ((dO a).length - i) 0):=by
    rw [iD _ hij2,List.set_append_left _ _ hij]
   have f3:Int.fdiv (m:Int) 4294967296=((m / 4294967296:Nat):Int):=by rw [Zu _ (by omega)];omega
   have f4:(i+j:Int)<(dO a).length+(dO b).length:=by omega
   refine aai fun K9 hK9=>?_;simp [e1,f1,f2,hij3,-Int.natCast_add,-Int.natCast_emod]
   repeat refine ah ?_
   repeat refine ah ?_
   apply hK9;refine aae ?_;simp [IntKind.bits,f3,-Int.natCast_ediv]
   repeat refine ah ?_
   apply hK8;have f5:=dF (n:=(j:Int)+1) (by omega) (by omega);refine aae ?_;simp [f5];refine⟨j+1,lo2.set (i+j) (m % 4294967296),m / 4294967296,Le.mk' _ (by simp) (by simp) (by simp),⟨by omega,by simp [g2],Ly g3 _ (Zl _ (by omega)),?_,?_⟩,by omega⟩
   ·generalize x*y=p at hxy hm;omega
   ·rw [hb2,← hm,← ZC i j 1];exact Lh g5 (by rw [hm];exact hset _)
  ·refine aah (by simp [hlj] <;> omega) (aan (hK4 _ _ ?_));have ej:j=(dO b).length:=by omega
   subst ej;rw [bR (aW _)] at g5;have e1:IntKind.i64.wrap ((i:Int)+(dO b).length)=((i+(dO b).length:Nat):Int):=by rw [dF (by omega) (by omega)];omega
   have e2:=uJ (n:=(c:Int)) (by omega) (by omega);have hz:(dO a).length - i=((dO a).length - i - 1)+1:=by omega
   have f2:aj (wK .u32 (lo2++List.replicate ((dO a).length - i) 0)) (i+(dO b).length) [CV.d (.int .u32 (c:Int))]=wK .u32 (lo2++[c]++List.replicate ((dO a).length - i - 1) 0):=by
    rw [iD _ (by simp;omega),hz,← g2,lQ];simp
   have f6:i+(dO b).length<lo2.length+((dO a).length - i):=by omega
   refine aae ?_;simp [e1,e2,f2,f6,-Int.natCast_add]
   repeat refine ah ?_
   repeat refine ah ?_
   apply hK3;have f5:=dF (n:=(i:Int)+1) (by omega) (by omega);refine aae ?_;simp [f5];have f7:(dO a).length - (i+1)=(dO a).length - i - 1:=by omega
   refine⟨i+1,lo2++[c],Le.mk' _ (by simp [f7]) (by simp) (by simp),⟨by omega,by simp;omega,dH.2 ⟨g3,ck.2 ⟨g4,dX _⟩⟩,?_⟩,by omega⟩;rw [jv,g2,g5,cA hlt,hxe,Y3,Zk]
 ·refine aah (by simp [hlt] <;> omega) (aan (hK _ _ ?_));have e2:i=(dO a).length:=by omega
  subst e2;refine aai fun K hK=>?_;simp;rw [← h2]
  have hout:fF lo=cz 4294967296 (val 4294967296 (dO a)*val 4294967296 (dO b)):=by
   refine iu (by decide) h3 ?_;rw [h4,bR (aW _)]
  refine jr.zz 0 1 0 (by simp;rfl) (by omega) (dy _ _) (by simp) (by simp) (by simp) ?_;simp
  repeat refine ah ?_
  apply hK;exact aad (aH.rt rfl 1 (by simp [hout]))
theorem w7 (G:List (List DV))(a:Option (List Nat))(b:Nat)(hb:b≠0)(ha:(dO a).length≤1000000000000) :
 aa Tryz.prog G 314 [nK .u32 a,.c (.d (.int .u32 b))] (.tup [nK .u32 (some (cz 4294967296 (val 4294967296 (dO a) / b))),.c (.d (.int .u32 ((val 4294967296 (dO a) % b:Nat):Int)))]):=by
 refine aG.iL 0 (by simp) (fun V v h=>jb h) fun hra=>?_;refine aG.iL 1 (by simp) (fun V v h=>Vw.s6 h) fun hrb=>?_;have oka:ok 4294967296 (dO a):=fun d hd=>by have:=hra.2 d hd;simp only [qd] at this;omega
 rw [nO] at hrb;simp only [CF,qd] at hrb;refine aa.en Tryz.func314 rfl fun _=>aab ?_;refine aab ?_;refine aab ?_;refine aaa fun K hK=>aaa fun K1 hK1=>?_;have e1:=dF (n:=((dO a).length:Int) - 1) (by omega) (by omega);refine aat e1 (hK1 _ _ ?_);refine aag ?_
 refine aap (fun (p:Nat × List Nat × Nat)=>⟨bq [(0,nK .u32 a),(1,.c (.d (.int .u32 b))),(4,.c (.aI 0 0 (dO a).length 1)),(6,.c (.d (.int .u64 p.2.2))),(7,.c (.d (.int .i64 ((p.1:Int) - 1))))],
  aD (fun _=>.hole) 0 (.cells true false 322 (wK .u32 (List.replicate p.1 0++p.2.1)))⟩) 1
  (fun p=>p.1+p.2.1.length=(dO a).length∧ok 4294967296 p.2.1∧p.2.2<b∧val 4294967296 ((dO a).drop p.1)=val 4294967296 p.2.1*b+p.2.2)
  (fun p=>p.1) ((dO a).length,[],0) (Le.mk' _ (by simp [ju]) (by simp) (by simp)) (by simp [dX];omega) ?_
 rintro⟨k,qs,r⟩ ⟨h1,h2,h3,h4⟩;simp only at h1 h2 h3 h4;refine aaa fun K3 hK3=>aab ?_
 cases k with
 | zero=>
  refine aaj (aan (hK _ _ (aai fun K hK=>?_)));simp;have e2:(dO a).length=qs.length:=by omega
  have e3:=uJ (n:=(r:Int)) (by omega) (by omega);rw [e2];simp only [abS,Zt,YV] at *
  have hq:val 4294967296 (dO a) / b=val 4294967296 qs:=by
   rw [h4,ZV,Nat.add_mul_div_right _ _ (by omega),abm h3];omega
  have hr:val 4294967296 (dO a) % b=r:=by
   rw [h4,ZV,Nat.add_mul_mod_self_right,ZD h3]
  have hout:fF qs=cz 4294967296 (val 4294967296 (dO a) / b):=iu (by decide) h2 hq.symm;refine jr.zz 0 1 0 (by simp;rfl) (by omega) (dy _ _) (by simp) (by simp) (by simp) ?_;simp [e3]
  repeat refine ah ?_
  apply hK;exact aad (aH.t2 rfl 1 (by simp [hout]) (by simp [hr]))
 | succ k=>
  have hk:k<(dO a).length:=by omega
  have e2:((k+1:Nat):Int) - 1=k:=by omega
  simp only [e2];refine aak (aac (hK3 _ _ (aaa fun K5 hK5=>aag (aaa fun K6 hK6=>?_))));have hx:(dO a)[k]<4294967296:=oka _ (cq hk);have hd:val 4294967296 ((dO a).drop k)=(dO a)[k]+4294967296*val 4294967296 ((dO a).drop (k+1)):=ey hk;generalize hxe:(dO a)[k]=x at hx hd;have f1:IntKind.u64.wrap ((r:Int)*4294967296)=((r*4294967296:Nat):Int):=by rw [dx (by omega) (by omega)];omega
  have f2:=dx (n:=(x:Int)) (by omega) (by omega);have f3:=tv (m:=r) (y:=x) (by omega) hx;refine aae ?_;simp [hk,hxe,f1,f2,f3,IntKind.bits,-Int.natCast_add,-Int.natCast_mul]
  repeat refine ah ?_
  apply hK6
  have hb1:r*4294967296+x<b*4294967296:=by
   have:(r+1)*4294967296≤b*4294967296:=Zg _ h3;omega
  generalize hm:r*4294967296+x=m at hb1;have g1:=dx (n:=(b:Int)) (by omega) (by omega);have g2:m / b<4294967296:=by rw [abn (by omega),Zm];exact hb1
  have hdm:=Nat.div_add_mod m b;have hml:m % b<b:=Zl _ (by omega);have g3:Int.tdiv (m:Int) b=((m / b:Nat):Int):=by rw [abT (abG m),← Int.natCast_ediv]
  have g8:Int.tmod (m:Int) b=((m % b:Nat):Int):=by rw [abU (abG m),← Int.natCast_emod]
  generalize m / b=q at g2 g3 hdm;generalize m % b=r' at g8 hdm hml;have g3':=dx (n:=(q:Int)) (by omega) (by omega);have g4:=uJ (n:=(q:Int)) (by omega) (by omega)
  have g5:aj (wK .u32 (List.replicate (k+1) 0++qs)) k [CV.d (.int .u32 (q:Int))]=wK .u32 (List.replicate k 0++(q::qs)):=by
   rw [iD _ (by simp;omega),Ay]
  have g6:¬ ((b:Int)=0):=by omega
  have g7:(k:Int)<(dO a).length:=by omega
  refine AW.f7 g1 g3 g3' g4 g5 hb hk ?_;refine aae ?_;simp [g1,g8,hb]
  repeat refine ah ?_
  apply hK5;have g9:=dF (n:=(k:Int) - 1) (by omega) (by omega);refine aae ?_;simp [g9];refine⟨k,q::qs,r',Le.mk' _ (by simp) (by simp) (by simp),⟨by simp;omega,ck.2 ⟨g2,h2⟩,hml,?_⟩,by omega⟩;rw [hd,h4,bY];have e9:4294967296*(val 4294967296 qs*b+r)=4294967296*val 4294967296 qs*b+r*4294967296:=by rw [YW,Zk];omega
  rw [e9,Y3,Zm q b];omega
theorem fW (G:List (List DV))(n:Nat)(hn:n<18446744073709551616):aa Tryz.prog G 227 [.c (.d (.int .u64 n))] (nK .u32 (some (cz 4294967296 n))):=by
 refine aa.en Tryz.func227 rfl fun _=>aab ?_;refine aaa fun K hK=>?_;have e1:IntKind.u32.wrap (n:Int)=((n % 4294967296:Nat):Int):=by rw [pX];omega
 have e2:Int.fdiv (n:Int) 4294967296=((n / 4294967296:Nat):Int):=by rw [Zu _ (by omega)];omega
 have e3:IntKind.u32.wrap ((n / 4294967296:Nat):Int)=((n / 4294967296:Nat):Int):=uJ (by omega) (by omega);have hok:ok 4294967296 [n % 4294967296,n / 4294967296]:=ck.2 ⟨by omega,ck.2 ⟨by omega,dX _⟩⟩;have hout:fF [n % 4294967296,n / 4294967296]=cz 4294967296 n:=iu (by decide) hok (by simp;omega);generalize hq:n / 4294967296=q at *
 generalize hr:n % 4294967296=r at *
 refine aae ?_;simp [IntKind.bits,e1,e2,e3,aB,iT,aj,kB];refine jr.zz (l:=[r,q]) 0 1 0 (by simp [wK];rfl) (by simp) (dy _ _) (by simp) (by simp) (by simp) ?_;simp
 repeat refine ah ?_
 apply hK;exact aad (aH.rt rfl 1 (by simp [hout]))
theorem jS (G:List (List DV))(a:Option (List Nat))(ha:can 4294967296 (dO a)):aa Tryz.prog G 228 [nK .u32 a] (.c (.d (.bool (decide (val 4294967296 (dO a)=1))))):=by
 refine aa.en Tryz.func228 rfl fun _=>aab ?_;refine aaa fun K hK=>?_
 have h0:(dO a).length=1↔∃ x,dO a=[x]:=by
  constructor
  ·intro h;match hd:dO a,h with|[x],_=>exact⟨x,rfl⟩
  ·rintro⟨x,h⟩;simp [h]
 by_cases hl:(dO a).length=1
 ·obtain⟨x,hx⟩:=h0.1 hl;have h1:0<(dO a).length:=by omega
  have h2:(dO a)[0]=x:=by simp [hx]
  have h3:val 4294967296 (dO a)=x:=by simp [hx]
  have h4:=ua (P:=Tryz.prog) (T:=222) (lv:=fun _=>.hole) (k:=.u32) (k':=.i64) (o:=a) (i:=0) (by simp) h1;simp only [Int.natCast_zero,h2] at h4;refine aaw hl h4 (hK _ _ ?_);have h5:(x:Int)=1↔x=1:=by omega
  exact aad (aH.rt rfl 0 (by simp [h3,h5]))
 ·have h3:¬ val 4294967296 (dO a)=1:=by
   intro h;have:=jC (by decide:2≤4294967296) ha h;rw [this] at hl;exact hl rfl
  have h4:¬ ((dO a).length:Int)=1:=by omega
  refine aaw hl h4 (hK _ _ ?_);exact aad (aH.rt rfl 0 (by simp [h3]))
def bS (n:Nat):Nat:=if n=0 then 0 else Nat.log2 n+1
theorem Np(h1:2 ^ k≤n) (h2:n<2 ^ (k+1)):bS n=k+1:=by
 have h0:n≠0:=by have:=Zv (a:=2) (n:=k) (by decide);omega
 have:=(Nat.log2_eq_iff h0).2 ⟨h1,h2⟩;simp [bS,h0,this]
theorem Gz (n:Nat):n<2 ^ bS n:=by
 unfold bS;split
 ·simp [*]
 ·exact Nat.lt_log2_self
theorem oN(h:n≠0):2 ^ (bS n - 1)≤n:=by
 simp only [bS,h,if_false,Nat.add_sub_cancel];exact Nat.log2_self_le h
theorem qG(h:2 ^ k≤n):bS n=bS (n / 2 ^ k)+k:=by
 have hk:=Zv (a:=2) (n:=k) (by decide);have h0:n / 2 ^ k≠0:=by have:=Nat.div_pos h hk;omega
 have h1:=oN h0;have h2:=Gz (n / 2 ^ k);have h3:0<bS (n / 2 ^ k):=by simp [bS,h0]
 have h4:2 ^ (bS (n / 2 ^ k) - 1)*2 ^ k≤n:=Za (Zg _ h1) (Nat.div_mul_le_self n _);have h5:n<2 ^ bS (n / 2 ^ k)*2 ^ k:=by rw [← abn hk];exact h2
 rw [← Z4] at h4 h5;have h6:=Np h4 (by rw [show bS (n / 2 ^ k) - 1+k+1=bS (n / 2 ^ k)+k by omega];exact h5);omega
theorem WX (f:List UInt8)(hf:(List.range 256).all (fun i=>(f[i]?.getD 0).toNat == bS i)=true)(x:Nat)(hx:x<256):(f[x]?.getD 0).toNat=bS x:=by
 rw [YU] at hf;simpa using hf x (List.mem_range.2 hx)
theorem p9 (G:List (List DV))(n:Nat)(hn:n<4294967296):aa Tryz.prog G 357 [.c (.d (.int .u32 n))] (.c (.d (.int .i64 (bS n)))):=by
 refine aa.en Tryz.func357 rfl fun _=>aab ?_;refine aaa fun K hK=>aab ?_
 have step2:∀ (x m:Nat) (fr:Nat→AV) (κ:Nat),x<65536→m≤16→bS n=m+bS x→fr 0=.c (.d (.int .u32 x))→fr 2=.c (.d (.int .i64 m))→K ⟨fr,fun _=>.hole⟩ κ:=by
  intro x m fr κ hx hm hb f0 f2
  repeat refine ah ?_
  apply hK;refine aaa fun K hK=>aal f0 ?_
  have step3:∀ (x m:Nat) (fr:Nat→AV) (κ:Nat),x<256→m≤24→bS n=m+bS x→fr 0=.c (.d (.int .u32 x))→fr 2=.c (.d (.int .i64 m))→K ⟨fr,fun _=>.hole⟩ κ:=by
   intro x m fr κ hx hm hb f0 f2
   repeat refine ah ?_
   apply hK;refine aaa fun K hK=>?_;have e1:IntKind.u8.wrap (x:Int)=x:=c9 ⟨by simp only [CF];omega,by simp only [qd];omega⟩
   have hbl:bS x≤8:=by
    by_cases h0:x=0
    ·subst h0;decide
    ·have:=oN h0;apply Zz;intro hc;have h9:2 ^ 8≤2 ^ (bS x - 1):=aaF (by decide) (by omega);omega
   refine aae ?_;simp [f0,f2,e1];rw [WX (x:=x) (hx:=hx)]
   ·have e2:=dF (n:=(bS x:Int)) (by omega) (by omega);have e3:=dF (n:=(m:Int)+bS x) (by omega) (by omega);rw [e2,e3]
    repeat refine ah ?_
    apply hK;exact aad (aH.rt rfl 0 (by simp [hb]))
   ·kernel_rfl
  by_cases h:256≤x
  ·refine aaf (by simp [h] <;> omega) ?_;have e1:Int.fdiv (x:Int) 256=((x / 256:Nat):Int):=by rw [Zu _ (by omega)];omega
   have e2:=dF (n:=(m:Int)+8) (by omega) (by omega);refine aai fun K1 hK1=>?_;simp [f0,IntKind.bits,e1,-Int.natCast_ediv]
   repeat refine ah ?_
   apply hK1;refine aae ?_;simp [f2,e2];refine step3 (x / 256) (m+8) _ _ (by omega) (by omega) ?_ (by simp) (by simp);have:=qG (n:=x) (k:=8) (by omega);rw [hb,this];simp;omega
  ·refine aah (by simp [h] <;> omega) (aac ?_);simp;exact step3 x m _ _ (by omega) (by omega) hb (by simp [f0]) (by simp [f2])
 by_cases h:65536≤n
 ·refine aaf (by simp [h] <;> omega) ?_;have e1:Int.fdiv (n:Int) 65536=((n / 65536:Nat):Int):=by rw [Zu _ (by omega)];omega
  refine aai fun K1 hK1=>?_;simp [IntKind.bits,e1,-Int.natCast_ediv]
  repeat refine ah ?_
  apply hK1;refine aae ?_;simp;refine step2 (n / 65536) 16 _ _ (by omega) (by omega) ?_ (by simp) (by simp);have:=qG (n:=n) (k:=16) (by omega);rw [this];simp;omega
 ·refine aah (by simp [h] <;> omega) (aac ?_);simp;exact step2 n 0 _ _ (by omega) (by omega) (by simp) (by simp) (by simp)
theorem mZ (G:List (List DV))(n:Nat)(hn:n<4294967296):aa Tryz.prog G 325 [.c (.d (.int .u32 n))] (.c (.d (.int .i64 (32 - (bS n:Int))))):=by
 have hbl:bS n≤32:=by
  by_cases h0:n=0
  ·subst h0;decide
  ·have:=oN h0;apply Zz;intro hc;have h9:2 ^ 32≤2 ^ (bS n - 1):=aaF (by decide) (by omega);omega
 refine aa.en Tryz.func325 rfl fun _=>aab ?_;refine aai fun K hK=>?_;simp;refine ag.pure 0 0 (p9 _ n hn) rfl (by simp) rfl ?_;have e2:=dF (n:=32 - (bS n:Int)) (by omega) (by omega);simp [e2]
 repeat refine ah ?_
 apply hK;exact aad (aH.rt rfl 0 (by simp))
theorem p6 (G:List (List DV))(a:Option (List Nat))(ha:can 4294967296 (dO a))(hl:(dO a).length≤1000000000000):aa Tryz.prog G 358 [nK .u32 a] (.c (.d (.int .i64 (bS (val 4294967296 (dO a)))))):=by
 refine aa.en Tryz.func358 rfl fun _=>aab ?_;refine aab ?_;refine aaa fun K hK=>aab ?_
 by_cases h0:dO a=[]
 ·refine aaf (by simp [h0] <;> omega) (aab ?_);exact aad (aH.rt rfl 0 (by simp [h0,bS]))
 ·refine aah (by simp [h0] <;> omega) (aac (hK _ _ (aaa fun K hK=>?_)));have h0':0<(dO a).length:=List.length_pos_iff.2 h0;have hk:(dO a).length - 1<(dO a).length:=by omega
  have e1:IntKind.i64.wrap (((dO a).length:Int) - 1)=(((dO a).length - 1:Nat):Int):=by rw [dF (by omega) (by omega)];omega
  have e2:=dF (n:=32*(((dO a).length - 1:Nat):Int)) (by omega) (by omega);have hx:(dO a)[(dO a).length - 1]<4294967296:=ha.1 _ (cq hk);have hx0:(dO a)[(dO a).length - 1]≠0:=ha.2 _ (by rw [ab0,cn hk]);have hv:=cH (B:=4294967296) (dO a) ((dO a).length - 1) (by omega);rw [ey hk,hO (l:=dO a) (i:=(dO a).length - 1+1) (by omega)] at hv;have hlt:=ig (mo ha.1 ((dO a).length - 1));rw [Zc,ZF (by omega)] at hlt;generalize (dO a).length - 1=k at *
  generalize hxe:(dO a)[k]=x at *
  have hbl:bS x≤32:=by
   have:=oN hx0;apply Zz;intro hc;have h9:2 ^ 32≤2 ^ (bS x - 1):=aaF (by decide) (by omega);omega
  have hb:bS (val 4294967296 (dO a))=32*k+bS x:=by
   have hP:(4294967296:Nat) ^ k=2 ^ (32*k):=by rw [Nat.pow_mul]
   rw [hP] at hv hlt
   have h1:val 4294967296 (dO a) / 2 ^ (32*k)=x:=by
    rw [hv,aaG,ZT,abE _ _ (Zv (by decide)),abm hlt,Y5]
   have h2:=qG (n:=val 4294967296 (dO a)) (k:=32*k) (by
    have:2 ^ (32*k)*1≤2 ^ (32*k)*(x+4294967296*0):=ZG _ (by omega);omega)
   rw [h1] at h2;omega
  refine aae ?_;simp [e1,e2,hk,hxe];refine ag.pure 0 0 (p9 _ x hx) rfl (by simp) rfl ?_;have e3:=dF (n:=32*(k:Int)+bS x) (by omega) (by omega);simp [e3]
  repeat refine ah ?_
  apply hK;exact aad (aH.rt rfl 0 (by simp [hb]))
theorem JS(hx:x<4294967296) (hs:s<32):∃ y h:Nat,(x*2 ^ s) % 4294967296=y*2 ^ s∧(x*2 ^ s) / 4294967296=h∧y*2 ^ s+2 ^ s≤4294967296∧h<2 ^ s∧x*2 ^ s<18446744073709551616:=by
 have hP:(2:Nat) ^ (32 - s)*2 ^ s=4294967296:=by rw [← Z4,Nat.sub_add_cancel (by omega)]
 have h0:0<2 ^ s:=Zv (by decide);have h1:0<2 ^ (32 - s):=Zv (by decide);refine⟨x % 2 ^ (32 - s),_,?_,rfl,?_,?_,?_⟩
 ·rw [← hP,Nat.mul_mod_mul_right]
 ·have:=Zl x h1
  calc x % 2 ^ (32 - s)*2 ^ s+2 ^ s=(x % 2 ^ (32 - s)+1)*2 ^ s:=by rw [Y3,ZK]
   _≤2 ^ (32 - s)*2 ^ s:=Zg _ this
   _=4294967296:=hP
 ·rw [abn (by decide),Zm];exact Nat.mul_lt_mul_of_pos_left hx h0
 ·have h2:2 ^ s<4294967296:=Nat.pow_lt_pow_right (by decide) hs |> fun h=>h
  calc x*2 ^ s≤4294967295*2 ^ s:=Zg _ (by omega)
   _≤4294967295*4294967295:=ZG _ (by omega)
   _<_:=by decide
theorem gw (G:List (List DV))(a:Option (List Nat))(k:Nat)(ha:(dO a).length≤1000000000000)(hk:k≤1000000000000) :
 aa Tryz.prog G 326 [nK .u32 a,.c (.d (.int .i64 k))] (if dO a=[] then nK .u32 none else nK .u32 (some (cz 4294967296 (val 4294967296 (dO a)*2 ^ k)))):=by
 refine aG.iL 0 (by simp) (fun V v h=>jb h) fun hra=>?_;have oka:ok 4294967296 (dO a):=fun d hd=>by have:=hra.2 d hd;simp only [qd] at this;omega
 by_cases h0:dO a=[]
 ·rw [if_pos h0];refine aa.en Tryz.func326 rfl fun _=>aab ?_;refine aaa fun K hK=>aab ?_;refine aaf (by simp [h0] <;> omega) (aab ?_);exact aad (aH.rt rfl 0 (by simp [nK]))
 ·rw [if_neg h0];refine aa.en Tryz.func326 rfl fun _=>aab ?_;refine aaa fun K hK=>aab ?_;refine aah (by simp [h0] <;> omega) (aac (hK _ _ (aaa fun K hK=>?_)));have d1:Int.tdiv (k:Int) 32=((k / 32:Nat):Int):=by rw [abT (by omega)];omega
  have d2:Int.tmod (k:Int) 32=((k % 32:Nat):Int):=by rw [abU (by omega)];omega
  have hks:k=32*(k / 32)+k % 32:=by omega
  have hs:k % 32<32:=by omega
  have hw:k / 32≤1000000000000:=by omega
  have d3:=dF (n:=((k / 32:Nat):Int)) (by omega) (by omega);have d4:=dx (n:=((k % 32:Nat):Int)) (by omega) (by omega);generalize k / 32=w at *
  generalize k % 32=s at *
  refine aaB d1 d2 d3 d4 (hK _ _ ?_);have e1:IntKind.i64.wrap (((dO a).length:Int)+w)=(((dO a).length+w:Nat):Int):=by rw [dF (by omega) (by omega)];omega
  have e2:IntKind.i64.wrap ((((dO a).length+w:Nat):Int)+1)=(((dO a).length+w+1:Nat):Int):=by rw [dF (by omega) (by omega)];omega
  refine aai fun K hK=>?_;simp [e1,e2,-Int.natCast_add]
  repeat refine ah ?_
  apply hK;refine aaa fun K hK=>aab ?_;refine aag ?_
  refine aap (fun (p:Nat × List Nat)=>⟨bq [(0,nK .u32 a),(5,.c (.d (.int .i64 w))),(6,.c (.d (.int .u64 s))),(7,.c (.aI 0 0 ((dO a).length+w+1) 1)),(25,nK .u32 a),(26,.c (.d (.int .i64 (dO a).length))),(27,.c (.d (.int .i64 p.1)))],
   aD (fun _=>.hole) 0 (.cells true false 322 (wK .u32 (p.2++List.replicate ((dO a).length - p.1) 0)))⟩) 1
   (fun p=>p.1≤(dO a).length∧p.2.length=p.1+w+1∧ok 4294967296 p.2∧p.2.getD (p.1+w) 0<2 ^ s∧val 4294967296 p.2=4294967296 ^ w*(val 4294967296 ((dO a).take p.1)*2 ^ s))
   (fun p=>(dO a).length - p.1) (0,List.replicate (w+1) 0) (Le.mk' _ (by simp [ju,show (dO a).length+w+1=w+1+(dO a).length by omega]) (by simp) (by simp)) ⟨by simp,by simp,yD (by omega) _,by simp [Zv],by simp [uM]⟩ ?_
  rintro⟨i,lo⟩ ⟨h1,h2,h3,h4,h5⟩;simp only at h1 h2 h3 h4 h5;refine aab ?_;refine aaa fun K2 hK2=>?_
  by_cases hlt:i<(dO a).length
  ·refine aaf (by simp [hlt] <;> omega) (aac (hK2 _ _ (aaa fun K3 hK3=>aag (aai fun K4 hK4=>?_))));simp [hlt]
   repeat refine ah ?_
   apply hK4;refine aaa fun K4 hK4=>?_;have hx:(dO a)[i]<4294967296:=oka _ (cq hlt);have hbt:val 4294967296 ((dO a).take (i+1))=val 4294967296 ((dO a).take i)+4294967296 ^ i*(dO a)[i]:=cA hlt;generalize (dO a)[i]=x at hx hbt;obtain⟨y,hh,g1,g2,g3,g4,g5⟩:=JS hx hs;have e3:=dx (n:=(x:Int)) (by omega) (by omega)
   have e4:IntKind.u64.wrap ((x:Int)*2 ^ min s 64)=((x*2 ^ s:Nat):Int):=by
    rw [ZF (by omega),show ((x:Int)*2 ^ s)=((x*2 ^ s:Nat):Int) by push_cast;rfl];generalize x*2 ^ s=z at g5;exact dx (by omega) (by omega)
   refine aae ?_;simp [e3,IntKind.bits,e4,-Int.natCast_mul,-Int.natCast_pow]
   repeat refine ah ?_
   apply hK4;have hij:i+w<lo.length:=by omega
   have hij2:i+w<(lo++List.replicate ((dO a).length - i) 0).length:=by simp;omega
   have hij3:i+w<lo.length+((dO a).length - i):=by omega
   have ht:lo[i+w]<2 ^ s:=by rw [hJ,cn hij] at h4;exact h4
   have ho2:(lo++List.replicate ((dO a).length - i) 0)[i+w]=lo[i+w]:=ZB hij;have hset:=BY (B:=4294967296) hij;generalize lo[i+w]=t at ht ho2 hset;have f1:IntKind.i64.wrap ((i:Int)+w)=((i+w:Nat):Int):=by rw [dF (by omega) (by omega)];omega
   have f2:IntKind.u32.wrap ((x*2 ^ s:Nat):Int)=((y*2 ^ s:Nat):Int):=by rw [← g1,pX];generalize x*2 ^ s=z;omega
   have f3:JM .u32 (t:Int) ((y*2 ^ s:Nat):Int)=((y*2 ^ s+t:Nat):Int):=L1 ht (by omega);have f8:y*2 ^ s+t<4294967296:=by omega
   have f4:aj (wK .u32 (lo++List.replicate ((dO a).length - i) 0)) (i+w) [CV.d (.int .u32 ((y*2 ^ s+t:Nat):Int))]=wK .u32 (lo.set (i+w) (y*2 ^ s+t)++List.replicate ((dO a).length - i) 0):=by
    rw [iD _ hij2,List.set_append_left _ _ hij]
   have f5:i+w<(dO a).length+w+1:=by omega
   refine aai fun K4 hK4=>?_;simp [f1,f2,f3,f4,f5,hij3,ho2,-Int.natCast_mul,-Int.natCast_pow,-Int.natCast_add]
   repeat refine ah ?_
   apply hK4;have f6:Int.fdiv ((x*2 ^ s:Nat):Int) 4294967296=(hh:Int):=by rw [Zu _ (by omega),← g2];generalize x*2 ^ s=z;omega
   have f7:IntKind.i64.wrap (((i+w:Nat):Int)+1)=((i+w+1:Nat):Int):=by rw [dF (by omega) (by omega)];omega
   have hs32:(2:Nat) ^ s<4294967296:=Nat.pow_lt_pow_right (by decide) hs |> fun h=>h
   have f9:=uJ (n:=(hh:Int)) (by omega) (by omega);have hz:(dO a).length - i=((dO a).length - i - 1)+1:=by omega
   have f10:aj (wK .u32 (lo.set (i+w) (y*2 ^ s+t)++List.replicate ((dO a).length - i) 0)) (i+w+1) [CV.d (.int .u32 (hh:Int))]=wK .u32 (lo.set (i+w) (y*2 ^ s+t)++[hh]++List.replicate ((dO a).length - i - 1) 0):=by
    rw [iD _ (by simp;omega),hz];have:i+w+1=(lo.set (i+w) (y*2 ^ s+t)).length:=by simp;omega
    rw [this,lQ];simp
   have f11:i+w+1<lo.length+((dO a).length - i):=by omega
   refine aae ?_;simp [f1,f6,f7,f9,f10,f11,IntKind.bits,-Int.natCast_mul,-Int.natCast_pow,-Int.natCast_add]
   repeat refine ah ?_
   apply hK3;have f12:=dF (n:=(i:Int)+1) (by omega) (by omega);refine aae ?_;simp [f12];have f13:(dO a).length - (i+1)=(dO a).length - i - 1:=by omega
   refine⟨i+1,lo.set (i+w) (y*2 ^ s+t)++[hh],Le.mk' _ (by simp [f13]) (by simp) (by simp),⟨by omega,by simp;omega,dH.2 ⟨Ly h3 _ f8,ck.2 ⟨by omega,dX _⟩⟩,?_,?_⟩,by omega⟩
   ·have:i+1+w=(lo.set (i+w) (y*2 ^ s+t)).length:=by simp;omega
    rw [this,Zf (aW _)];simpa using g4
   ·rw [jv,aa1,h2,hbt];have p1:=hset (y*2 ^ s+t);have p2:=nX 4294967296 (i+w) (x*2 ^ s);rw [g1,g2] at p2
    have p3:4294967296 ^ w*((val 4294967296 ((dO a).take i)+4294967296 ^ i*x)*2 ^ s)=4294967296 ^ w*(val 4294967296 ((dO a).take i)*2 ^ s)+4294967296 ^ (i+w)*(x*2 ^ s):=by
     rw [Z4];generalize 2 ^ s=S;generalize 4294967296 ^ w=W;generalize 4294967296 ^ i=I;grind
    rw [p3,← h5,← p2];rw [YW] at p1;omega
  ·refine aah (by simp [hlt] <;> omega) (aan ?_);simp;have e9:i=(dO a).length:=by omega
   subst e9
   repeat refine ah ?_
   apply hK;refine aai fun K hK=>?_;simp;rw [← h2]
   have hout:fF lo=cz 4294967296 (val 4294967296 (dO a)*2 ^ k):=by
    refine iu (by decide) h3 ?_;rw [h5,bR (aW _),hks,Z4,Nat.pow_mul];generalize 2 ^ s=S;generalize val 4294967296 (dO a)=V;have:(2:Nat) ^ 32=4294967296:=by decide
    rw [this];generalize 4294967296 ^ w=W
    grind
   refine jr.zz 0 1 0 (by simp;rfl) (by omega) (dy _ _) (by simp) (by simp) (by simp) ?_;simp
   repeat refine ah ?_
   apply hK;exact aad (aH.rt rfl 1 (by simp [hout]))
theorem lB(h:ok B l) (i:Nat) (hi:i≤l.length):val B l / B ^ i=val B (l.drop i):=by
 have h1:=cH (B:=B) l i hi;have h2:=ig (mo h i);rw [Zc,ZF hi] at h2;have hp:0<B ^ i:=by omega
 rw [h1,abE _ _ hp,abm h2,Y5]
theorem IK {D z:Nat}(hs:s<32) (hD:D=x+4294967296*(y+4294967296*z)):D / 2 ^ s % 4294967296=(y*4294967296+x) / 2 ^ s % 4294967296:=by
 have hP:(2:Nat) ^ (32 - s)*2 ^ s=4294967296:=by rw [← Z4,Nat.sub_add_cancel (by omega)]
 have h0:0<2 ^ s:=Zv (by decide)
 have e:D=(y*4294967296+x)+2 ^ s*(4294967296*(2 ^ (32 - s)*z)):=by
  have aux:∀ S T B:Nat,T*S=B→S*(B*(T*z))=B*(B*z):=by
   intro S T B h
   calc S*(B*(T*z))=(T*S)*(B*z):=by ac_rfl
    _=_:=by rw [h]
  have this:=aux (2 ^ s) (2 ^ (32 - s)) 4294967296 hP;rw [this,hD];omega
 rw [e,abE _ _ h0,abC]
theorem Cl (G:List (List DV))(a:Option (List Nat))(k:Nat)(ha:(dO a).length≤1000000000000)(hk:k≤1000000000000) :
 aa Tryz.prog G 329 [nK .u32 a,.c (.d (.int .i64 k))] (if (dO a).length≤k / 32 then nK .u32 none else nK .u32 (some (cz 4294967296 (val 4294967296 (dO a) / 2 ^ k)))):=by
 refine aG.iL 0 (by simp) (fun V v h=>jb h) fun hra=>?_;have oka:ok 4294967296 (dO a):=fun d hd=>by have:=hra.2 d hd;simp only [qd] at this;omega
 have d1:Int.tdiv (k:Int) 32=((k / 32:Nat):Int):=by rw [abT (by omega)];omega
 have d2:Int.tmod (k:Int) 32=((k % 32:Nat):Int):=by rw [abU (by omega)];omega
 have hks:k=32*(k / 32)+k % 32:=by omega
 have hs:k % 32<32:=by omega
 have hw:k / 32≤1000000000000:=by omega
 have d3:=dF (n:=((k / 32:Nat):Int)) (by omega) (by omega);have d4:=dx (n:=((k % 32:Nat):Int)) (by omega) (by omega);generalize k / 32=w at *
 generalize k % 32=s at *
 by_cases h0:(dO a).length≤w
 ·rw [if_pos h0];refine aa.en Tryz.func329 rfl fun _=>aab ?_;refine aaD d1 d2 d3 d4 ?_;refine aaa fun K hK=>aab ?_;refine aaf (by simp [h0] <;> omega) (aab ?_);exact aad (aH.rt rfl 0 (by simp [nK]))
 ·rw [if_neg h0];refine aa.en Tryz.func329 rfl fun _=>aab ?_;refine aaD d1 d2 d3 d4 ?_;refine aaa fun K hK=>aab ?_;refine aah (by simp [h0] <;> omega) (aac (hK _ _ ?_));have e1:IntKind.i64.wrap (((dO a).length:Int) - w)=(((dO a).length - w:Nat):Int):=by rw [dF (by omega) (by omega)];omega
  have hw1:w≤(dO a).length:=by omega
  have hD:=lB oka w hw1;refine aal e1 ?_;refine aaa fun K hK=>aab ?_;refine aag ?_
  refine aap (fun (pre:List Nat)=>⟨bq [(0,nK .u32 a),(5,.c (.d (.int .i64 w))),(6,.c (.d (.int .u64 s))),(7,.c (.aI 0 0 ((dO a).length - w) 1)),(25,.c (.d (.int .i64 ((dO a).length - w:Nat)))),(26,.c (.d (.int .i64 pre.length)))],
   aD (fun _=>.hole) 0 (.cells true false 322 (wK .u32 (pre++List.replicate ((dO a).length - w - pre.length) 0)))⟩) 1
   (fun pre=>pre.length≤(dO a).length - w∧ok 4294967296 pre∧val 4294967296 pre=(val 4294967296 ((dO a).drop w) / 2 ^ s) % 4294967296 ^ pre.length)
   (fun pre=>(dO a).length - w - pre.length) [] (Le.mk' _ (by simp [ju]) (by simp) (by simp)) ⟨by simp,dX _,by simp [Nat.mod_one]⟩ ?_
  rintro pre ⟨h1,h2,h3⟩;refine aab ?_;refine aaa fun K2 hK2=>?_
  by_cases hlt:pre.length<(dO a).length - w
  ·refine aaf (by simp [hlt] <;> omega) (aac (hK2 _ _ (aaa fun K3 hK3=>aag (aab ?_))));refine aaa fun K4 hK4=>?_;have hi:pre.length+w<(dO a).length:=by omega
   have f1:IntKind.i64.wrap ((pre.length:Int)+w)=((pre.length+w:Nat):Int):=by rw [dF (by omega) (by omega)];omega
   have f2:IntKind.i64.wrap (((pre.length+w:Nat):Int)+1)=((pre.length+w+1:Nat):Int):=by rw [dF (by omega) (by omega)];omega
   have hx:(dO a)[pre.length+w]<4294967296:=oka _ (cq hi)
   have hdr:val 4294967296 ((dO a).drop w) / 4294967296 ^ pre.length=(dO a)[pre.length+w]+4294967296*val 4294967296 ((dO a).drop (pre.length+w+1)):=by
    rw [lB (Bt oka w) _ (by simp;omega),Z9,ZV w,ey hi]
   have hix:=ua (P:=Tryz.prog) (T:=222) (lv:=aD (fun _=>.hole) 0 (.cells true false 322 (wK .u32 (pre++List.replicate ((dO a).length - w - pre.length) 0)))) (k:=.u32) (k':=.i64) (o:=a) (i:=pre.length+w) (by simp) hi;generalize (dO a)[pre.length+w]=x at hx hdr hix;have e3:=dx (n:=(x:Int)) (by omega) (by omega);refine aae ?_;simp [f1,hix,e3,-Int.natCast_add]
   repeat refine ah ?_
   apply hK4;refine aaa fun K5 hK5=>aaa fun K6 hK6=>?_
   have fin:∀ (y z:Nat) (fr:Nat→AV) (κ:Nat),y<4294967296→val 4294967296 ((dO a).drop (pre.length+w+1))=y+4294967296*z →
    fr 0=nK .u32 a→fr 5=.c (.d (.int .i64 w))→fr 6=.c (.d (.int .u64 s))→fr 7=.c (.aI 0 0 ((dO a).length - w) 1)→fr 8=.c (.d (.int .i64 pre.length))→fr 9=.c (.d (.int .u64 ((y*4294967296+x:Nat):Int))) →
    fr 25=.c (.d (.int .i64 ((dO a).length - w:Nat)))→fr 26=.c (.d (.int .i64 pre.length)) →
    K5 ⟨fr,aD (fun _=>.hole) 0 (.cells true false 322 (wK .u32 (pre++List.replicate ((dO a).length - w - pre.length) 0)))⟩ κ:=by
    intro y z fr κ hy hyz q0 q5 q6 q7 q8 q9 q25 q26
    repeat refine ah ?_
    apply hK5;refine aax 2 ?_
    have g1:Int.fdiv ((y*4294967296+x:Nat):Int) (2 ^ min s 64)=(((y*4294967296+x) / 2 ^ s:Nat):Int):=by
     rw [ZF (by omega),Zu _ (Int.le_of_lt (Int.pow_pos (by decide)))];generalize y*4294967296+x=m;rw [Int.natCast_ediv];congr 1
    have g2:IntKind.u32.wrap (((y*4294967296+x) / 2 ^ s:Nat):Int)=(((y*4294967296+x) / 2 ^ s % 4294967296:Nat):Int):=by
     rw [pX];generalize (y*4294967296+x) / 2 ^ s=m;omega
    have hdig:=IK (x:=x) (y:=y) (z:=z) hs (D:=val 4294967296 ((dO a).drop w) / 4294967296 ^ pre.length) (by rw [hdr,hyz]);have hv:(y*4294967296+x) / 2 ^ s % 4294967296<4294967296:=Zl _ (by omega);generalize (y*4294967296+x) / 2 ^ s % 4294967296=v at g2 hdig hv;have hz:(dO a).length - w - pre.length=((dO a).length - w - pre.length - 1)+1:=by omega
    have g3:aj (wK .u32 (pre++List.replicate ((dO a).length - w - pre.length) 0)) pre.length [CV.d (.int .u32 (v:Int))]=wK .u32 (pre++[v]++List.replicate ((dO a).length - w - pre.length - 1) 0):=by
     rw [hz,iD _ (by simp),lQ];simp
    refine aae ?_;simp [q6,q7,q8,q9,IntKind.bits,g1,g2,g3,hlt,-Int.natCast_add,-Int.natCast_mul,-Int.natCast_ediv,-Int.natCast_pow]
    repeat refine ah ?_
    apply hK3;have g4:=dF (n:=(pre.length:Int)+1) (by omega) (by omega);refine aae ?_;simp [q26,g4];have g5:(dO a).length - w - (pre.length+1)=(dO a).length - w - pre.length - 1:=by omega
    refine⟨pre++[v],Le.mk' _ (by simp [g5]) (by simp) (by simp [q0,q5,q6,q7,q25]),⟨by simp;omega,dH.2 ⟨h2,ck.2 ⟨hv,dX _⟩⟩,?_⟩,by simp;omega⟩;rw [jv,YY,aaO,Nat.mod_pow_succ,h3,Nat.div_div_eq_div_mul,Zm (2 ^ s),← Nat.div_div_eq_div_mul,hdig]
   refine aae ?_;simp [f1,f2,-Int.natCast_add]
   repeat refine ah ?_
   apply hK6
   by_cases hlb:pre.length+w+1<(dO a).length
   ·refine aaf (by simp [hlb] <;> omega) ?_;have hy:(dO a)[pre.length+w+1]<4294967296:=oka _ (cq hlb);have hyz:=ey (B:=4294967296) hlb;have hiy:=ua (P:=Tryz.prog) (T:=222) (lv:=aD (fun _=>.hole) 0 (.cells true false 322 (wK .u32 (pre++List.replicate ((dO a).length - w - pre.length) 0)))) (k:=.u32) (k':=.i64) (o:=a) (i:=pre.length+w+1) (by simp) hlb;generalize (dO a)[pre.length+w+1]=y at hy hyz hiy;have p1:=dx (n:=(y:Int)) (by omega) (by omega);have p2:IntKind.u64.wrap ((y:Int)*4294967296)=((y*4294967296:Nat):Int):=by rw [dx (by omega) (by omega)];omega
    have p3:JM .u64 (x:Int) ((y*4294967296:Nat):Int)=((y*4294967296+x:Nat):Int):=by rw [D0];exact tv hy hx
    refine aae ?_;simp [f1,f2,hiy,p1,p2,p3,IntKind.bits,-Int.natCast_add,-Int.natCast_mul];exact fin y _ _ _ hy hyz (by simp) (by simp) (by simp) (by simp) (by simp) (by simp) (by simp) (by simp)
   ·refine aah (by simp [hlb] <;> omega) (aac ?_);simp;exact fin 0 0 _ _ (by omega) (by rw [hO (by omega)]) (by simp) (by simp) (by simp) (by simp) (by simp) (by simp) (by simp) (by simp)
  ·refine aah (by simp [hlt] <;> omega) (aan ?_);simp;have e9:pre.length=(dO a).length - w:=by omega
   repeat refine ah ?_
   apply hK;refine aai fun K hK=>?_;simp
   have hout:fF pre=cz 4294967296 (val 4294967296 (dO a) / 2 ^ k):=by
    refine iu (by decide) h2 ?_;have hl:=ig (Bt oka w);rw [abd,← e9] at hl;rw [h3,ZD (aaY (Nat.div_le_self _ _) hl),← hD,Nat.div_div_eq_div_mul,hks,Z4,Nat.pow_mul]
   rw [← e9];simp only [ZJ,abS,Zr];refine jr.zz 0 1 0 (by simp;rfl) (by omega) (dy _ _) (by simp) (by simp) (by simp) ?_;simp
   repeat refine ah ?_
   apply hK;exact aad (aH.rt rfl 1 (by simp [hout]))
theorem Aj {x0 cb b:Nat}(hx:x0<4294967296) (hc:cb<4294967296) (hb:b≤1) :
 ∃ v b':Nat,v<4294967296∧b'≤1∧v+cb+b=x0+4294967296*b'∧IntKind.u32.wrap (IntKind.u64.wrap (IntKind.u64.wrap ((x0:Int) - cb) - b))=v∧Int.fdiv (IntKind.u64.wrap (IntKind.u64.wrap ((x0:Int) - cb) - b)) 9223372036854775808=b':=by
 simp only [pX,Ap]
 by_cases h:cb+b≤x0
 ·refine⟨x0 - cb - b,0,by omega,by omega,by omega,by omega,?_⟩;rw [Zu _ (by omega)];omega
 ·refine⟨x0+4294967296 - cb - b,1,by omega,by omega,by omega,by omega,?_⟩;rw [Zu _ (by omega)];omega
theorem pz (k:IntKind)(l:List Nat):∀ x∈wK k l,x.pure=true:=by
 intro x hx;simp only [wK,Zo] at hx;obtain⟨y,_,rfl⟩:=hx;rfl
def p7 (w m:Nat):Nat:=if w<m then 1 else 0
theorem LS {W M R bb:Nat}(hbb:bb≤1) (h:R+M=W+L*bb) (hR:R<L):bb=p7 W M∧R=W+L*p7 W M - M:=by
 unfold p7;have:bb=0∨bb=1:=by omega
 rcases this with rfl|rfl <;> split <;> omega
theorem zQ (G:List (List DV))(lo win hi:List Nat)(n t:Nat)(v:Option (List Nat))(hw:win.length=(dO v).length+1)(hn:win.length≤n)(okw:ok 4294967296 win)(ht:t<4294967296)(hl:(lo++win++hi).length≤1000000000000) :
 aG Tryz.prog G 327 [.c (.aI 0 lo.length n 1),nK .u32 v,.c (.d (.int .u64 t))] [.cells false false 322 (wK .u32 (lo++win++hi))]
  (.ret (.c (.d (.bool (decide (p7 (val 4294967296 win) (t*val 4294967296 (dO v))=1))))) [.cells false false 322 (wK .u32 (lo++fZ 4294967296 win.length (val 4294967296 win+4294967296 ^ win.length*p7 (val 4294967296 win) (t*val 4294967296 (dO v)) - t*val 4294967296 (dO v))++hi))] []):=by
 refine aG.iL 1 (by simp) (fun V v h=>jb h) fun hrv=>?_;have okv:ok 4294967296 (dO v):=fun d hd=>by have:=hrv.2 d hd;simp only [qd] at this;omega
 simp only [YY] at hl;refine aG.W9 Tryz.func327 rfl fun _=>aab ?_;refine aab ?_;refine aaa fun K hK=>aab ?_;refine aag ?_
 refine aap (fun (p:List Nat × Nat × Nat)=>⟨bq [(0,.c (.aI 0 lo.length n 1)),(1,nK .u32 v),(2,.c (.d (.int .u64 t))),(7,.c (.d (.int .u64 p.2.1))),(8,.c (.d (.int .u64 p.2.2))),(13,nK .u32 v),(14,.c (.d (.int .i64 (dO v).length))),(15,.c (.d (.int .i64 p.1.length)))],
  aD (fun _=>.hole) 0 (.cells false false 322 (wK .u32 (lo++(p.1++win.drop p.1.length)++hi)))⟩) 1000
  (fun p=>p.1.length≤(dO v).length∧ok 4294967296 p.1∧p.2.1<4294967296∧p.2.2≤1∧val 4294967296 p.1+t*val 4294967296 ((dO v).take p.1.length)=val 4294967296 (win.take p.1.length)+4294967296 ^ p.1.length*(p.2.1+p.2.2))
  (fun p=>(dO v).length - p.1.length) ([],0,0) (Le.mk' _ (by simp) (by simp) (by simp)) ⟨by simp,dX _,by simp,by simp,by simp⟩ ?_
 rintro⟨pre,c,b⟩ ⟨h1,h2,h3,h4,h5⟩;simp only at h1 h2 h3 h4 h5;have hwl:pre.length<win.length:=by omega
 have hwd:win.drop pre.length=win[pre.length]::win.drop (pre.length+1):=ZR hwl;have hwx:win[pre.length]<4294967296:=okw _ (cq hwl);have hwt:=cA (B:=4294967296) hwl;generalize hx0:win[pre.length]=x0 at hwd hwx hwt;generalize hB:lo++(pre++win.drop pre.length)++hi=BL;rw [hwd] at hB;have hget:BL[lo.length+pre.length]?=some x0:=by rw [← hB];exact Hu hi
 have hBl:BL.length=lo.length+(win.length+hi.length):=by rw [← hB];simp;omega
 refine aab ?_;refine aaa fun K2 hK2=>?_
 by_cases hlt:pre.length<(dO v).length
 ·refine aaf (by simp [hlt] <;> omega) (aac (hK2 _ _ (aaa fun K3 hK3=>aag (aai fun K4 hK4=>?_))));simp [hlt]
  repeat refine ah ?_
  apply hK4;refine aaa fun K4 hK4=>?_;have hx:(dO v)[pre.length]<4294967296:=okv _ (cq hlt);have hvt:=cA (B:=4294967296) hlt;generalize (dO v)[pre.length]=x at hx hvt;have htx:t*x≤4294967295*4294967295:=aa0 (by omega) (by omega);have e1:=dx (n:=(x:Int)) (by omega) (by omega)
  have e2:IntKind.u64.wrap ((t:Int)*x)=((t*x:Nat):Int):=by
   rw [← Int.natCast_mul];generalize t*x=p at htx;exact dx (by omega) (by omega)
  have e3:IntKind.u64.wrap ((c:Int)+((t*x:Nat):Int))=((c+t*x:Nat):Int):=by
   generalize t*x=p at htx;rw [dx (by omega) (by omega)];omega
  refine aae ?_;simp [e1,e2,e3,-Int.natCast_add,-Int.natCast_mul]
  repeat refine ah ?_
  apply hK4;generalize hm:c+t*x=m at *
  have hml:m<18446744073709551616:=by rw [← hm];generalize t*x=p at htx;omega
  have e4:IntKind.u32.wrap (m:Int)=((m % 4294967296:Nat):Int):=by rw [pX];omega
  have e5:=dx (n:=((m % 4294967296:Nat):Int)) (by omega) (by omega);have e6:=dx (n:=(x0:Int)) (by omega) (by omega);have hcb:m % 4294967296<4294967296:=Zl _ (by omega);have hdm:=Nat.div_add_mod m 4294967296;obtain⟨d,b',g1,g2,g3,g4,g5⟩:=Aj hwx hcb h4;have e7:Int.fdiv (m:Int) 4294967296=((m / 4294967296:Nat):Int):=by rw [Zu _ (by omega)];omega
  generalize m % 4294967296=mr at *
  generalize m / 4294967296=mq at *
  have i1:=lZ (P:=Tryz.prog) (T:=322) (by simp) .u32 hget
  have i2:aj (wK .u32 BL) (lo.length+pre.length) [CV.d (.int .u32 (d:Int))]=wK .u32 (lo++((pre++[d])++win.drop (pre.length+1))++hi):=by
   rw [iD _ (by omega),← hB,wU]
  have i3:lo.length+pre.length+1≤BL.length:=by omega
  have i4:pre.length<n:=by omega
  refine aai fun K4 hK4=>?_;simp [i1,e4,e5,e6,i4,-Int.natCast_emod]
  repeat refine ah ?_
  apply hK4;refine aaD g4 i2 i3 i4 ?_;refine aai fun K4 hK4=>?_;simp [IntKind.bits,g5]
  repeat refine ah ?_
  apply hK4;refine aae ?_;simp [IntKind.bits,e7,-Int.natCast_ediv]
  repeat refine ah ?_
  apply hK3;have e8:=dF (n:=(pre.length:Int)+1) (by omega) (by omega);refine aae ?_;simp [e8];refine⟨pre++[d],mq,b',Le.mk' _ (by simp) (by simp) (by simp),⟨by simp;omega,dH.2 ⟨h2,ck.2 ⟨g1,dX _⟩⟩,by omega,g2,?_⟩,by simp;omega⟩;rw [YY,aaO,jv,hvt,hwt,Zq];have j1:4294967296 ^ pre.length*(d+mr+b)=4294967296 ^ pre.length*(x0+4294967296*b'):=by rw [g3]
  have j2:4294967296 ^ pre.length*(4294967296*(mq)+mr)=4294967296 ^ pre.length*m:=congrArg (fun z=>4294967296 ^ pre.length*z) hdm;have j3:4294967296 ^ pre.length*m=4294967296 ^ pre.length*c+4294967296 ^ pre.length*(t*x):=by rw [← hm,YW]
  have j4:t*(val 4294967296 ((dO v).take pre.length)+4294967296 ^ pre.length*x)=t*val 4294967296 ((dO v).take pre.length)+4294967296 ^ pre.length*(t*x):=by
   rw [YW,Nat.mul_left_comm t]
  have j5:4294967296 ^ pre.length*4294967296*(mq+b')=4294967296 ^ pre.length*(4294967296*(mq))+4294967296 ^ pre.length*(4294967296*b'):=by
   rw [Zk,YW,YW]
  rw [j4,j5];rw [YW,YW,YW] at j1;rw [YW] at j2 h5;omega
 ·refine aah (by simp [hlt] <;> omega) (aan ?_);simp;have ek:pre.length=(dO v).length:=by omega
  repeat refine ah ?_
  apply hK;have hgl:win.drop (pre.length+1)=[]:=aa6 (by omega);obtain⟨d,b',g1,g2,g3,g4,g5⟩:=Aj hwx h3 h4;have e6:=dx (n:=(x0:Int)) (by omega) (by omega);have i1:=lZ (P:=Tryz.prog) (T:=322) (by simp) .u32 hget
  have i2:aj (wK .u32 BL) (lo.length+pre.length) [CV.d (.int .u32 (d:Int))]=wK .u32 (lo++(pre++[d])++hi):=by
   rw [iD _ (by omega),← hB,wU,hgl,Zr]
  have i3:lo.length+pre.length+1≤BL.length:=by omega
  have i4:pre.length<n:=by omega
  rw [← ek];refine aai fun K hK=>?_;simp [← ek,i1,e6,i4]
  repeat refine ah ?_
  apply hK;refine aai fun K hK=>?_;simp [← ek,i2,i3,i4,g4]
  repeat refine ah ?_
  apply hK;refine aai fun K hK=>?_;simp [IntKind.bits,g5]
  repeat refine ah ?_
  apply hK;have hvv:val 4294967296 ((dO v).take pre.length)=val 4294967296 (dO v):=bR (by omega);have hww:val 4294967296 (win.take (pre.length+1))=val 4294967296 win:=bR (by omega);have hL:win.length=pre.length+1:=by omega
  rw [hvv] at h5
  have hfin:val 4294967296 (pre++[d])+t*val 4294967296 (dO v)=val 4294967296 win+4294967296 ^ win.length*b':=by
   rw [hL,jv,← hww,hwt,Zq];have j1:4294967296 ^ pre.length*(d+c+b)=4294967296 ^ pre.length*(x0+4294967296*b'):=by rw [g3]
   rw [YW,YW,YW,← Zk] at j1;rw [YW] at h5;omega
  have hok:ok 4294967296 (pre++[d]):=dH.2 ⟨h2,ck.2 ⟨g1,dX _⟩⟩;have hlt2:=ig hok;rw [YY,aaO,← hL] at hlt2;obtain⟨q1,q2⟩:=LS g2 hfin hlt2;have hdig:=oH hok q2;rw [YY,aaO,← hL] at hdig;rw [← hdig];have q3:(b':Int)=1↔p7 (val 4294967296 win) (t*val 4294967296 (dO v))=1:=by rw [← q1];omega
  refine aam (κ:=0) (EF.tmp (κ:=0) rfl (by simp [q3]) rfl (by simp) (by simp))
theorem La(hB:0<B)(h:ok B l) (hv:val B l=n % B ^ l.length):l=fZ B l.length n:=by
 have h1:=oH (rW hB l.length n) (lU l.length n);rw [nY] at h1;rw [h1];exact oH h hv
theorem zn (G:List (List DV))(lo win hi:List Nat)(n:Nat)(v:Option (List Nat))(hw:win.length=(dO v).length+1)(hn:win.length≤n)(okw:ok 4294967296 win)(hl:(lo++win++hi).length≤1000000000000) :
 aG Tryz.prog G 328 [.c (.aI 0 lo.length n 1),nK .u32 v] [.cells false false 322 (wK .u32 (lo++win++hi))]
  (.ret (.tup []) [.cells false false 322 (wK .u32 (lo++fZ 4294967296 win.length (val 4294967296 win+val 4294967296 (dO v))++hi))] []):=by
 refine aG.iL 1 (by simp) (fun V v h=>jb h) fun hrv=>?_;have okv:ok 4294967296 (dO v):=fun d hd=>by have:=hrv.2 d hd;simp only [qd] at this;omega
 simp only [YY] at hl;refine aG.W9 Tryz.func328 rfl fun _=>aab ?_;refine aaa fun K hK=>aab ?_;refine aag ?_
 refine aap (fun (p:List Nat × Nat)=>⟨bq [(0,.c (.aI 0 lo.length n 1)),(1,nK .u32 v),(4,.c (.d (.int .u64 p.2))),(7,nK .u32 v),(8,.c (.d (.int .i64 (dO v).length))),(9,.c (.d (.int .i64 p.1.length)))],
  aD (fun _=>.hole) 0 (.cells false false 322 (wK .u32 (lo++(p.1++win.drop p.1.length)++hi)))⟩) 1000
  (fun p=>p.1.length≤(dO v).length∧ok 4294967296 p.1∧p.2≤1∧val 4294967296 p.1+4294967296 ^ p.1.length*p.2=val 4294967296 (win.take p.1.length)+val 4294967296 ((dO v).take p.1.length))
  (fun p=>(dO v).length - p.1.length) ([],0) (Le.mk' _ (by simp) (by simp) (by simp)) ⟨by simp,dX _,by simp,by simp⟩ ?_
 rintro⟨pre,c⟩ ⟨h1,h2,h4,h5⟩;simp only at h1 h2 h4 h5;have hwl:pre.length<win.length:=by omega
 have hwd:win.drop pre.length=win[pre.length]::win.drop (pre.length+1):=ZR hwl;have hwx:win[pre.length]<4294967296:=okw _ (cq hwl);have hwt:=cA (B:=4294967296) hwl;generalize hx0:win[pre.length]=x0 at hwd hwx hwt;generalize hB:lo++(pre++win.drop pre.length)++hi=BL;rw [hwd] at hB;have hget:BL[lo.length+pre.length]?=some x0:=by rw [← hB];exact Hu hi
 have hBl:BL.length=lo.length+(win.length+hi.length):=by rw [← hB];simp;omega
 have i1:=lZ (P:=Tryz.prog) (T:=322) (by simp) .u32 hget;have i3:lo.length+pre.length+1≤BL.length:=by omega
 have i4:pre.length<n:=by omega
 refine aab ?_;refine aaa fun K2 hK2=>?_
 by_cases hlt:pre.length<(dO v).length
 ·refine aaf (by simp [hlt] <;> omega) (aac (hK2 _ _ (aaa fun K3 hK3=>aag (aai fun K4 hK4=>?_))));simp [hlt]
  repeat refine ah ?_
  apply hK4;refine aaa fun K4 hK4=>?_;have hx:(dO v)[pre.length]<4294967296:=okv _ (cq hlt);have hvt:=cA (B:=4294967296) hlt;generalize (dO v)[pre.length]=x at hx hvt;have e1:=dx (n:=(x:Int)) (by omega) (by omega);have e2:=dx (n:=(x0:Int)) (by omega) (by omega);have e3:IntKind.u64.wrap ((x0:Int)+x)=((x0+x:Nat):Int):=by rw [dx (by omega) (by omega)];omega
  have e4:IntKind.u64.wrap ((c:Int)+((x0+x:Nat):Int))=((c+(x0+x):Nat):Int):=by rw [dx (by omega) (by omega)];omega
  refine aae ?_;simp [i1,i4,e1,e2,e3,e4,-Int.natCast_add]
  repeat refine ah ?_
  apply hK4;have hs:=qH 4294967296 pre (c+(x0+x));have hml:c+(x0+x)<8589934592:=by omega
  generalize hm:c+(x0+x)=m at *
  have e5:IntKind.u32.wrap (m:Int)=((m % 4294967296:Nat):Int):=by rw [pX];omega
  have e7:Int.fdiv (m:Int) 4294967296=((m / 4294967296:Nat):Int):=by rw [Zu _ (by omega)];omega
  have hd:m % 4294967296<4294967296:=Zl _ (by omega);have hq:m / 4294967296≤1:=by omega
  generalize m % 4294967296=d at *
  generalize m / 4294967296=q at *
  have i2:aj (wK .u32 BL) (lo.length+pre.length) [CV.d (.int .u32 (d:Int))]=wK .u32 (lo++((pre++[d])++win.drop (pre.length+1))++hi):=by
   rw [iD _ (by omega),← hB,wU]
  refine aaD e5 i2 i3 i4 ?_;refine aae ?_;simp [IntKind.bits,e7]
  repeat refine ah ?_
  apply hK3;have e8:=dF (n:=(pre.length:Int)+1) (by omega) (by omega);refine aae ?_;simp [e8];refine⟨pre++[d],q,Le.mk' _ (by simp) (by simp) (by simp),⟨by simp;omega,dH.2 ⟨h2,ck.2 ⟨hd,dX _⟩⟩,hq,?_⟩,by simp;omega⟩;rw [YY,aaO,hs,hvt,hwt,← hm,YW,YW];omega
 ·refine aah (by simp [hlt] <;> omega) (aan ?_);simp;have ek:pre.length=(dO v).length:=by omega
  repeat refine ah ?_
  apply hK;have hgl:win.drop (pre.length+1)=[]:=aa6 (by omega);have e1:=uJ (n:=(c:Int)) (by omega) (by omega);have hs:=qH 4294967296 pre (x0+c);have e2:IntKind.u32.wrap ((x0:Int)+c)=(((x0+c) % 4294967296:Nat):Int):=by rw [pX];omega
  have hd:(x0+c) % 4294967296<4294967296:=Zl _ (by omega);generalize (x0+c) / 4294967296=q at *
  generalize (x0+c) % 4294967296=d at *
  have i2:aj (wK .u32 BL) (lo.length+pre.length) [CV.d (.int .u32 (d:Int))]=wK .u32 (lo++(pre++[d])++hi):=by
   rw [iD _ (by omega),← hB,wU,hgl,Zr]
  refine aae ?_;simp [← ek,i1,i2,i3,i4,e1,e2];have hvv:val 4294967296 ((dO v).take pre.length)=val 4294967296 (dO v):=bR (by omega);have hww:val 4294967296 (win.take (pre.length+1))=val 4294967296 win:=bR (by omega);have hL:win.length=(pre++[d]).length:=by simp;omega
  rw [hvv] at h5;have hok:ok 4294967296 (pre++[d]):=dH.2 ⟨h2,ck.2 ⟨hd,dX _⟩⟩;have hlt2:=ig hok
  have hval:val 4294967296 win+val 4294967296 (dO v)=val 4294967296 (pre++[d])+4294967296 ^ (pre++[d]).length*q:=by
   rw [YY,aaO,hs,← hww,hwt,YW];omega
  have hdig:pre++[d]=fZ 4294967296 win.length (val 4294967296 win+val 4294967296 (dO v)):=by
   rw [hL];refine La (by decide) hok ?_;rw [hval,abC,ZD hlt2]
  repeat refine ah ?_
  refine EF.none (.inl rfl) rfl (by simp) ?_;rw [← hdig];simp
theorem ID (G:List (List DV))(a b:Option (List Nat))(ha:can 4294967296 (dO a))(hb:can 4294967296 (dO b))(h:val 4294967296 (dO a)<val 4294967296 (dO b)) :
 aa Tryz.prog G 278 [nK .u32 a,nK .u32 b] (.tup [nK .u32 none,nK .u32 a]):=by
 refine aa.en Tryz.func278 rfl fun _=>aab ?_;refine AW.scope ?_;refine aab ?_;refine aaa fun K hK=>aag (aai fun K1 hK1=>?_)
 simp;refine ag.pure 0 0 (gu ha hb) rfl (by simp) rfl ?_;simp [Br h]
 repeat refine ah ?_
 apply hK1;refine aak (aab ?_);exact aad (aH.t2 rfl 0 (by simp [nK]) (by simp))
theorem II (G:List (List DV))(a b:Option (List Nat))(ha:can 4294967296 (dO a))(hb:can 4294967296 (dO b))(h:val 4294967296 (dO b)≤val 4294967296 (dO a))(hn:(dO b).length=1)(hl:(dO a).length≤1000000000000) :
 aa Tryz.prog G 278 [nK .u32 a,nK .u32 b] (.tup [nK .u32 (some (cz 4294967296 (val 4294967296 (dO a) / val 4294967296 (dO b)))),nK .u32 (some (cz 4294967296 (val 4294967296 (dO a) % val 4294967296 (dO b))))]):=by
 obtain⟨x,hx⟩:∃ x,dO b=[x]:=by
  match hd:dO b,hn with|[x],_=>exact⟨x,rfl⟩
 have hxv:val 4294967296 (dO b)=x:=by simp [hx]
 have hx0:x≠0:=hb.2 x (by rw [hx];rfl);have hxl:x<4294967296:=hb.1 x (by rw [hx];simp);have hlt:(0:Nat)<(dO b).length:=by omega
 have hix:=ua (P:=Tryz.prog) (T:=222) (lv:=fun _=>.hole) (k:=.u32) (k':=.i64) (o:=b) (i:=0) (by simp) hlt;have hg:(dO b)[0]=x:=by simp [hx]
 simp only [hg,Int.natCast_zero] at hix;refine aa.en Tryz.func278 rfl fun _=>aab ?_;refine AW.scope ?_;refine aab ?_;refine aaa fun K hK=>aag (aaa fun K1 hK1=>?_)
 have hc:¬ kK (val 4294967296 (dO a)) (val 4294967296 (dO b))<0:=by unfold kK;(repeat' split) <;> omega
 refine aae ?_;simp;refine ag.pure 0 0 (gu ha hb) rfl (by simp) rfl ?_;simp only [hxv] at hc ⊢;simp [hc]
 repeat refine ah ?_
 apply hK1;refine aah (by simp [hc] <;> omega) (aab ?_);refine aaf (by simp [hn] <;> omega) (aai fun K1 hK1=>?_);simp [hix];refine ag.pure 0 0 (w7 _ a x hx0 hl) (by simp [AV.pure,AV.kE];exact⟨rfl,rfl⟩) (by simp) rfl ?_;simp [-Int.natCast_emod]
 repeat refine ah ?_
 apply hK1;have hml:val 4294967296 (dO a) % x<x:=Zl _ (by omega);generalize hr:val 4294967296 (dO a) % x=r at *
 have e1:=dx (n:=(r:Int)) (by omega) (by omega);refine aai fun K1 hK1=>?_;simp [e1];refine ag.pure 0 0 (fW _ r (by omega)) (by simp) (by simp) rfl ?_;simp
 repeat refine ah ?_
 apply hK1;exact aad (aH.t2 rfl 0 (by simp [hxv]) (by simp [hxv,hr]))
theorem NC {lv:Key→LB}(k:IntKind) (l:List Nat):jl lv 1 (nK k (some l))=some (l.length,wK k l):=by
 have h1:(dK k l).all (fun e=>e.length == 1)=true:=by simp [dK]
 have h2:(dK k l).flatten.map CV.d=wK k l:=by
  induction l with
  | nil=>rfl
  | cons x l ih=>simp only [dK,wK,Y0,aaK,Z2] at ih ⊢;simp [ih]
 simp only [jl,nK,h1,if_true,h2];simp [dK]
theorem xy {lo wl hi:List Nat}(h:i<wl.length):(lo++wl++hi)[lo.length+i]?=wl[i]?:=by
 rw [YZ,Zf (by omega),ZE,ZQ h]
theorem We(hn:2≤n) (hl:l.length=n+1):val B l=((l[n]*B+l[n - 1])*B+l[n - 2])*B ^ (n - 2)+val B (l.take (n - 2)):=by
 have h1:=cH (B:=B) l (n - 2) (by omega);have e1:n - 2+1=n - 1:=by omega
 have e2:n - 1+1=n:=by omega
 rw [ey (by omega:n - 2<l.length)] at h1;simp only [e1] at h1;rw [ey (by omega:n - 1<l.length)] at h1;simp only [e2] at h1;rw [ey (by omega:n<l.length),hO (by omega)] at h1;rw [h1,aaG,ZT,Zm (B ^ (n - 2)),ZV];congr 2;rw [Y3,Zm B (l[n - 1]+B*l[n]),Zm B l[n],ZV l[n - 1],ZV l[n - 2]];rw [Y3]
theorem WU(hn:2≤n) (hl:l.length=n):val B l=(l[n - 1]*B+l[n - 2])*B ^ (n - 2)+val B (l.take (n - 2)):=by
 have h1:=cH (B:=B) l (n - 2) (by omega);have e1:n - 2+1=n - 1:=by omega
 rw [ey (by omega:n - 2<l.length)] at h1;simp only [e1] at h1;rw [ey (by omega:n - 1<l.length),hO (by omega)] at h1;rw [h1,aaG,ZT,Zm (B ^ (n - 2)),ZV];congr 2;rw [Zm B,ZV]
structure Dv (dV:List Nat) (n la m U0:Nat):Prop where
 hn:2≤n
 hla:la≤1000000000000
 hm:m+n=la+1
 CD:1≤m
 okV:ok 4294967296 dV
 Yu:dV.length=n
 hU:2147483648≤dV.getD (n - 1) 0
def XM (dV:List Nat)(n m U0:Nat)(p:Nat × List Nat × List Nat × List Nat):Prop:=
 p.1≤m∧p.2.1.length=p.1∧p.2.2.1.length=n∧ok 4294967296 p.2.1∧ok 4294967296 p.2.2.1∧p.2.2.2.length+p.1=m∧ok 4294967296 p.2.2.2∧val 4294967296 p.2.2.1<val 4294967296 dV ∧
  val 4294967296 p.2.1+4294967296 ^ p.1*(val 4294967296 p.2.2.1+val 4294967296 dV*val 4294967296 p.2.2.2)=U0
def Xq (dV:List Nat)(n la m s:Nat)(p:Nat × List Nat × List Nat × List Nat):au:=
 ⟨bq [(4,.c (.aI 1 0 m 1)),(6,.c (.d (.int .i64 n))),(9,.c (.d (.int .i64 s))),(10,nK .u32 (some dV)),(11,.c (.aI 0 0 (la+1) 1)),(12,.c (.d (.int .i64 ((p.1:Int) - 1))))],
  aD (aD (fun _=>.hole) 0 (.cells true false 322 (wK .u32 (p.2.1++p.2.2.1++List.replicate (m - p.1) 0)))) 1 (.cells true false 322 (wK .u32 (List.replicate p.1 0++p.2.2.2)))⟩
theorem QX {b:List Nat}(hb:can 4294967296 b) (hn:b.length=n) (h1:1≤n):∃ t s,b[n - 1]?=some t∧t<4294967296∧s≤31∧bS t+s=32∧val 4294967296 b*2 ^ s<4294967296 ^ n∧4294967296 ^ (n - 1)*2147483648≤val 4294967296 b*2 ^ s:=by
 have hlt:n - 1<b.length:=by omega
 have ht0:b[n - 1]≠0:=hb.2 _ (by rw [ab0,hn,cn hlt]);have htl:b[n - 1]<4294967296:=hb.1 _ (cq hlt);have hv:=cH (B:=4294967296) b (n - 1) (by omega);rw [ey hlt,hO (by omega)] at hv;have hl:=ig (mo hb.1 (n - 1));rw [Zc,ZF (by omega)] at hl;refine⟨b[n - 1],32 - bS b[n - 1],cn hlt,htl,?_⟩;generalize b[n - 1]=t at *
 have hb1:=oN ht0;have hb2:=Gz t;have hb3:1≤bS t:=by simp [bS,ht0]
 have hb4:bS t≤32:=by
  apply Zz;intro hc;have h9:2 ^ 32≤2 ^ (bS t - 1):=aaF (by decide) (by omega);omega
 have p1:2 ^ bS t*2 ^ (32 - bS t)=4294967296:=by
  rw [← Z4];have:bS t+(32 - bS t)=32:=by omega
  rw [this]
 have p2:2 ^ (bS t - 1)*2 ^ (32 - bS t)=2147483648:=by
  rw [← Z4];have:bS t - 1+(32 - bS t)=31:=by omega
  rw [this]
 refine⟨by omega,by omega,?_,?_⟩
 ·have q1:val 4294967296 b+1≤4294967296 ^ (n - 1)*2 ^ bS t:=by
   have:4294967296 ^ (n - 1)*(t+1)≤4294967296 ^ (n - 1)*2 ^ bS t:=ZG _ hb2;rw [YW,aa5] at this;simp only [aaG,ZT] at hv;omega
  have q2:(val 4294967296 b+1)*2 ^ (32 - bS t)≤4294967296 ^ (n - 1)*2 ^ bS t*2 ^ (32 - bS t):=Zg _ q1;have q3:4294967296 ^ (n - 1)*4294967296=4294967296 ^ n:=by rw [← Zq];congr 1;omega
  rw [Zk,p1,q3,Y3,ZK] at q2;have:=Zv (a:=2) (n:=32 - bS t) (by decide);omega
 ·rw [← p2,← Zk];refine Zg _ ?_;have:4294967296 ^ (n - 1)*2 ^ (bS t - 1)≤4294967296 ^ (n - 1)*t:=ZG _ hb1;simp only [aaG,ZT] at hv;omega
theorem OU(hB:0<B) (L n:Nat):fZ B L (n % B ^ L)=fZ B L n:=by
 have h:=oH (rW hB L n) rfl;rw [nY,lU] at h;exact h.symm
theorem Iy(hB:0<B) (L n:Nat):fZ B L (B ^ L+n)=fZ B L n:=by
 rw [← OU hB,Nat.add_mod_left,OU hB]
theorem BF {a b c:LB}:aD (aD (aD (fun _=>LB.hole) 0 a) 1 b) 0 c=aD (aD (fun _=>LB.hole) 0 c) 1 b:=by
 funext k;simp only [aD]
 by_cases h0:k=0
 ·subst h0;simp
 ·simp [h0]
theorem KW (a b:Option (List Nat))(ha:can 4294967296 (dO a))(hb:can 4294967296 (dO b))(h:val 4294967296 (dO b)≤val 4294967296 (dO a))(hn:2≤(dO b).length)(hl:(dO a).length<1000000000000) :
 ∀ G,aa Tryz.prog G 278 [nK .u32 a,nK .u32 b] (.tup [nK .u32 (some (cz 4294967296 (val 4294967296 (dO a) / val 4294967296 (dO b)))),nK .u32 (if val 4294967296 (dO a) % val 4294967296 (dO b)=0 then none else some (cz 4294967296 (val 4294967296 (dO a) % val 4294967296 (dO b))))]):=by
 intro G;obtain⟨t,s,ht,htl,hs,hts,hV1,hV2⟩:=QX hb rfl (by omega)
 have hlen:(dO b).length≤(dO a).length:=by
  apply Zz;intro hc;have:=qM (by omega) ha hb (by omega);omega
 have hb0:dO b≠[]:=fun e=>by rw [e] at hn;simp at hn
 have ha0:dO a≠[]:=fun e=>by rw [e] at hlen;simp at hlen;exact hb0 hlen
 obtain⟨hk,hte⟩:=List.getElem?_eq_some_iff.1 ht;have hlz:=mZ G t htl;have e0:(32 - (bS t:Int))=(s:Int):=by omega
 rw [e0] at hlz;have hsb:=gw G b s (by omega) (by omega);have hsa:=gw G a s (by omega) (by omega);rw [if_neg hb0] at hsb;rw [if_neg ha0] at hsa;refine aa.en Tryz.func278 rfl fun _=>aab ?_;refine AW.scope ?_;refine aab ?_;refine aaa fun K hK=>aag (aaa fun K1 hK1=>?_)
 have hc:¬ kK (val 4294967296 (dO a)) (val 4294967296 (dO b))<0:=by unfold kK;(repeat' split) <;> omega
 refine aae ?_;simp;refine ag.pure 0 0 (gu ha hb) rfl (by simp) rfl ?_;simp [hc]
 repeat refine ah ?_
 apply hK1;refine aah (by simp [hc] <;> omega) (aab ?_);have hn1:¬ (dO b).length=1:=by omega
 refine aah (by simp [hn1] <;> omega) (aac (hK _ _ ?_));have e1:IntKind.i64.wrap (((dO b).length:Int) - 1)=(((dO b).length - 1:Nat):Int):=by rw [dF (by omega) (by omega)];omega
 refine aai fun K hK=>?_;simp [e1,hk,hte];refine ag.pure 0 0 hlz rfl (by simp) rfl ?_;simp
 repeat refine ah ?_
 apply hK;refine aai fun K hK=>?_;simp;refine ag.pure 0 0 hsb (by simp) (by simp) rfl ?_;simp
 repeat refine ah ?_
 apply hK;have e2:=dF (n:=((dO a).length:Int)+1) (by omega) (by omega);refine aal e2 ?_;refine aai fun K hK=>?_;simp;refine ag.pure 1 5 hsa (by simp) (by simp) (by simp) ?_;simp [gR,NC];have hA:=yN (B:=4294967296) (n:=val 4294967296 (dO a)) (by decide);rw [← jC (by decide) ha rfl] at hA;have hU1:val 4294967296 (dO a)*2 ^ s<4294967296 ^ (dO a).length*2 ^ s:=Nat.mul_lt_mul_of_pos_right hA (Zv (by decide));have hs31:(2:Nat) ^ s≤2147483648:=aaF (n:=2) (by decide) hs
 have hU2:val 4294967296 (dO a)*2 ^ s<4294967296 ^ ((dO a).length+1):=by
  rw [Zq];refine ZS hU1 (ZG _ (by omega))
 have hApos:0<val 4294967296 (dO a):=iC ha ha0;have hBpos:0<val 4294967296 (dO b):=iC hb hb0;have hU0:val 4294967296 (dO a)*2 ^ s≠0:=aaP (aaN hApos (Zv (by decide)));have hV0:val 4294967296 (dO b)*2 ^ s≠0:=aaP (aaN hBpos (Zv (by decide)));have hUl:=di (by decide) hU2;have hUp:0<(cz 4294967296 (val 4294967296 (dO a)*2 ^ s)).length:=List.length_pos_iff.2 (fun e=>hU0 ((lq (by decide)).1 e));have okU:=(ez (B:=4294967296) (by decide) (val 4294967296 (dO a)*2 ^ s)).1;have vU:=eJ (B:=4294967296) (by decide) (val 4294967296 (dO a)*2 ^ s);have jG:=ez (B:=4294967296) (by decide) (val 4294967296 (dO b)*2 ^ s);have vV:=eJ (B:=4294967296) (by decide) (val 4294967296 (dO b)*2 ^ s)
 have lV:(cz 4294967296 (val 4294967296 (dO b)*2 ^ s)).length=(dO b).length:=by
  refine Nat.le_antisymm (di (by decide) hV1) ?_;apply Zz;intro hc;have g1:=yN (B:=4294967296) (n:=val 4294967296 (dO b)*2 ^ s) (by decide);have g2:4294967296 ^ (cz 4294967296 (val 4294967296 (dO b)*2 ^ s)).length≤4294967296 ^ ((dO b).length - 1):=aaF (by decide) (by omega);have g3:4294967296 ^ ((dO b).length - 1)*1≤4294967296 ^ ((dO b).length - 1)*2147483648:=ZG _ (by decide);omega
 have hq:val 4294967296 (dO a) / val 4294967296 (dO b)=(val 4294967296 (dO a)*2 ^ s) / (val 4294967296 (dO b)*2 ^ s):=(Nat.mul_div_mul_right _ _ (Zv (by decide))).symm;have hr:(val 4294967296 (dO a)*2 ^ s) % (val 4294967296 (dO b)*2 ^ s)=(val 4294967296 (dO a) % val 4294967296 (dO b))*2 ^ s:=Nat.mul_mod_mul_right _ _ _;generalize hdV:cz 4294967296 (val 4294967296 (dO b)*2 ^ s)=dV at *
 generalize hdU:cz 4294967296 (val 4294967296 (dO a)*2 ^ s)=dU at *
 rw [ZF hUl]
 have hseg:aj (wK .u32 (List.replicate ((dO a).length+1) 0)) 0 ((wK .u32 dU).take dU.length)=wK .u32 (dU++List.replicate ((dO a).length+1 - dU.length) 0):=by
  simp [aj,wK,← abf,← List.map_drop]
 refine⟨⟨hUp,hUl,by omega⟩,?_⟩;simp only [ZH (by simp:(wK .u32 dU).length≤dU.length)] at hseg ⊢;rw [ju,hseg]
 repeat refine ah ?_
 apply hK;refine aax 1 ?_;have e3:IntKind.i64.wrap (((dO a).length:Int) - (dO b).length)=(((dO a).length - (dO b).length:Nat):Int):=by rw [dF (by omega) (by omega)];omega
 have e4:IntKind.i64.wrap ((((dO a).length - (dO b).length:Nat):Int)+1)=(((dO a).length - (dO b).length+1:Nat):Int):=by rw [dF (by omega) (by omega)];omega
 obtain⟨m,hm⟩:∃ m,m=(dO a).length - (dO b).length+1:=⟨_,rfl⟩
 rw [← hm] at e4;refine aar e3 e4 ?_;refine aaa fun K hK=>AW.label ?_;simp
 repeat refine ah ?_
 apply hK;have e5:IntKind.i64.wrap ((m:Int) - 1)=(m:Int) - 1:=dF (by omega) (by omega);refine aaa fun K hK=>aal e5 ?_;refine aag ?_;have hlu:(dU++List.replicate ((dO a).length+1 - dU.length) 0).length=(dO a).length+1:=by simp;omega
 have hok:ok 4294967296 (dU++List.replicate ((dO a).length+1 - dU.length) 0):=dH.2 ⟨okU,yD (by decide) _⟩;have hvu:val 4294967296 (dU++List.replicate ((dO a).length+1 - dU.length) 0)=val 4294967296 (dO a)*2 ^ s:=by rw [iZ,uM,vU];omega
 generalize hu0:dU++List.replicate ((dO a).length+1 - dU.length) 0=u0 at *
 have htd:=cH (B:=4294967296) u0 m (by omega);have hdv:=lB hok m (by omega)
 have hrV:val 4294967296 (u0.drop m)<val 4294967296 dV:=by
  rw [← hdv,hvu,vV]
  have g1:val 4294967296 (dO a)*2 ^ s<4294967296 ^ m*(4294967296 ^ ((dO b).length - 1)*2147483648):=by
   have:4294967296 ^ (dO a).length*2 ^ s≤4294967296 ^ m*(4294967296 ^ ((dO b).length - 1)*2147483648):=by
    rw [← Zk,← Z4];have:m+((dO b).length - 1)=(dO a).length:=by omega
    rw [this];exact ZG _ hs31
   omega
  refine Nat.div_lt_of_lt_mul (ZS g1 (ZG _ hV2))
 have hI0:XM dV (dO b).length m (val 4294967296 (dO a)*2 ^ s) (m,u0.take m,u0.drop m,[]):=by
  refine⟨aW _,by simp;omega,by simp;omega,mo hok _,Bt hok _,by simp,dX _,hrV,?_⟩;simp only [ry,aaG,ZT];rw [← htd,hvu]
 refine aap (Xq dV (dO b).length (dO a).length m s) 2 (XM dV (dO b).length m (val 4294967296 (dO a)*2 ^ s)) (fun p=>p.1) (m,u0.take m,u0.drop m,[]) (Le.mk' _ (by simp [ju]) (by simp) (by simp)) hI0 ?_;rintro⟨k,lo,r,qs⟩ ⟨i1,i2,i3,i4,i5,i6,i7,i8,i9⟩;simp only at i1 i2 i3 i4 i5 i6 i7 i8 i9;unfold Xq;refine aaa fun K3 hK3=>aab ?_
 cases k with
 | zero=>
  refine aaj (aan (hK _ _ (aaa fun K hK=>?_)));have el:lo=[]:=List.length_eq_zero_iff.1 i2;subst el;simp only [ry,Nat.pow_zero,ZK,Y5] at i9;simp only [ZT] at i6
  have hQ:(val 4294967296 (dO a)*2 ^ s) / (val 4294967296 (dO b)*2 ^ s)=val 4294967296 qs:=by
   rw [← vV,← i9,abE _ _ (by omega),abm i8,Y5]
  have hR:(val 4294967296 (dO a)*2 ^ s) % (val 4294967296 (dO b)*2 ^ s)=val 4294967296 r:=by
   rw [← vV,← i9,abC,ZD i8]
  refine aaq mixed (by kernel_rfl) rfl ?_;simp [gp];have hlq:qs.length=m:=i6
  have hQt:fF (qs.take m)=cz 4294967296 (val 4294967296 (dO a) / val 4294967296 (dO b)):=by
   rw [ZH (by omega)];exact iu (by decide) i7 (by rw [hq,hQ])
  have hrt:(r++List.replicate m 0).take (dO b).length=r:=by rw [← i3];simp
  have hRt:fF ((r++List.replicate m 0).take (dO b).length)=cz 4294967296 ((val 4294967296 (dO a) % val 4294967296 (dO b))*2 ^ s):=by
   rw [hrt];exact iu (by decide) i5 (by rw [← hr,hR])
  refine tV.zz (l:=qs) 2 5 1 m (by omega) (by simp;rfl) (by omega) (dy _ _) (by simp) (by simp) (by simp) ?_;have hlr:(dO b).length≤(dO a).length+1:=by omega
  simp [gp]
  repeat refine ah ?_
  refine tV.zz (l:=r++List.replicate m 0) 2 5 0 (dO b).length (by simp;omega) (by simp;rfl) (by simp;omega) (dy _ _) (by simp) (by simp) (by simp) ?_;simp only [hQt,hRt];simp
  have hsh:∀ G,aa Tryz.prog G 329 [nK .u32 (some (cz 4294967296 ((val 4294967296 (dO a) % val 4294967296 (dO b))*2 ^ s))),.c (.d (.int .i64 s))] (nK .u32 (if val 4294967296 (dO a) % val 4294967296 (dO b)=0 then none else some (cz 4294967296 (val 4294967296 (dO a) % val 4294967296 (dO b))))):=by
   intro G
   have hx:(cz 4294967296 ((val 4294967296 (dO a) % val 4294967296 (dO b))*2 ^ s)).length≤1000000000000:=by
    rw [← hRt,hrt];exact Za (JN r) (by omega)
   have key:=Cl G (some (cz 4294967296 ((val 4294967296 (dO a) % val 4294967296 (dO b))*2 ^ s))) s hx (by omega);have hs0:s / 32=0:=by omega
   simp only [dB,hs0] at key;rw [eJ (by decide),Nat.mul_div_cancel _ (Zv (by decide))] at key
   by_cases hz:val 4294967296 (dO a) % val 4294967296 (dO b)=0
   ·rw [hz] at key ⊢;simpa using key
   ·rw [if_neg hz];rw [if_neg] at key
    ·exact key
    ·intro hc;have h9:=List.length_eq_zero_iff.1 (Nat.le_zero.1 hc);have:=(lq (by decide)).1 h9;have h8:=aaN (abV hz) (Zv (a:=2) (n:=s) (by decide));omega
  refine ag.pure 2 5 (hsh _) (by simp) (by simp) (by simp) ?_;simp;refine⟨by kernel_rfl,?_⟩
  repeat refine ah ?_
  apply hK;exact aad (aH.t2 rfl 5 (by simp) (by simp))
 | succ j=>
  refine aak (aac (hK3 _ _ ?_));rcases List.eq_nil_or_concat lo with rfl|⟨lo',x,rfl⟩
  ·simp at i2
  rw [List.concat_eq_append] at *
  have hlo:lo'.length=j:=by simp at i2;exact i2
  obtain⟨oklo,hx1⟩:=dH.1 i4;have hx:x<4294967296:=(ck.1 hx1).1;have e6:((j+1:Nat):Int) - 1=j:=by omega
  simp only [e6];have hwl:(x::r).length=(dO b).length+1:=by simp [i3]
  have okw:ok 4294967296 (x::r):=ck.2 ⟨hx,i5⟩;have hWv:val 4294967296 (x::r)=x+4294967296*val 4294967296 r:=rfl
  have hWV:val 4294967296 (x::r)<4294967296*val 4294967296 dV:=by
   have:4294967296*(val 4294967296 r+1)≤4294967296*val 4294967296 dV:=ZG _ i8;rw [YW] at this;omega
  have hEW:=We (B:=4294967296) hn hwl;have hEV:=WU (B:=4294967296) hn lV;have Ji:=ig (mo okw ((dO b).length - 2));rw [Zc,ZF (by omega)] at Ji;have okV:=jG.1;have MC:=ig (mo okV ((dO b).length - 2));rw [Zc,ZF (by omega)] at MC
  have hv1':val 4294967296 dV / 4294967296 ^ ((dO b).length - 1)=dV[(dO b).length - 1]:=by
   rw [lB okV _ (by omega),ey (by omega:(dO b).length - 1<dV.length),hO (l:=dV) (i:=(dO b).length - 1+1) (by omega)];rfl
  have vw:2147483648≤dV[(dO b).length - 1]:=by
   rw [← hv1',Nat.le_div_iff_mul_le (Zv (by decide)),vV,Zm];exact hV2
  generalize hBL:lo'++[x]++(r++List.replicate (m - (j+1)) 0)=BL;have hBL':lo'++(x::r)++List.replicate (m - (j+1)) 0=BL:=by rw [← hBL];simp
  have hBLl:BL.length=(dO a).length+1:=by rw [← hBL'];simp;omega
  have hb0:BL[j+(dO b).length]?=some (x::r)[(dO b).length]:=by
   rw [← hBL',← hlo,xy (by omega),cn (by omega)]
  have hb1:BL[j+(dO b).length - 1]?=some (x::r)[(dO b).length - 1]:=by
   have:j+(dO b).length - 1=lo'.length+((dO b).length - 1):=by omega
   rw [← hBL',this,xy (by omega),cn (by omega)]
  have hb2:BL[j+(dO b).length - 2]?=some (x::r)[(dO b).length - 2]:=by
   have:j+(dO b).length - 2=lo'.length+((dO b).length - 2):=by omega
   rw [← hBL',this,xy (by omega),cn (by omega)]
  have ha0l:(x::r)[(dO b).length]<4294967296:=okw _ (cq (by omega));have ha1l:(x::r)[(dO b).length - 1]<4294967296:=okw _ (cq (by omega));have ha2l:(x::r)[(dO b).length - 2]<4294967296:=okw _ (cq (by omega));have hv1l:dV[(dO b).length - 1]<4294967296:=okV _ (cq (by omega));have hv2l:dV[(dO b).length - 2]<4294967296:=okV _ (cq (by omega));have hxv1:(dO b).length - 1<(dO (some dV)).length:=by simp;omega
  have hxv2:(dO b).length - 2<(dO (some dV)).length:=by simp;omega
  have gv1:∀ lv,aq Tryz.prog 222 lv (nK .u32 (some dV)) (.c (.d (.int .i64 (((dO b).length - 1:Nat):Int))))=some (.c (.d (.ptr [DV.int .u32 (dV[(dO b).length - 1]:Int)])),[],[],True):=fun lv=>ua (by simp) hxv1
  have gv2:∀ lv,aq Tryz.prog 222 lv (nK .u32 (some dV)) (.c (.d (.int .i64 (((dO b).length - 2:Nat):Int))))=some (.c (.d (.ptr [DV.int .u32 (dV[(dO b).length - 2]:Int)])),[],[],True):=fun lv=>ua (by simp) hxv2
  have hEst:Ph 4294967296 (4294967296 ^ ((dO b).length - 2)) (val 4294967296 dV) (val 4294967296 (x::r)) dV[(dO b).length - 1] dV[(dO b).length - 2] (val 4294967296 (dV.take ((dO b).length - 2))) ((x::r)[(dO b).length]*4294967296+(x::r)[(dO b).length - 1]) (x::r)[(dO b).length - 2] (val 4294967296 ((x::r).take ((dO b).length - 2))):=
   ⟨hEV,hEW,MC,Ji,hv2l,ha2l,hWV,by omega,by omega⟩
  generalize (x::r)[(dO b).length]=a0 at *
  generalize (x::r)[(dO b).length - 1]=a1 at *
  generalize (x::r)[(dO b).length - 2]=a2 at *
  generalize dV[(dO b).length - 1]=v1 at *
  generalize dV[(dO b).length - 2]=v2 at *
  have l0:=lZ (P:=Tryz.prog) (T:=322) (by simp) .u32 hb0;have l1:=lZ (P:=Tryz.prog) (T:=322) (by simp) .u32 hb1;have l2:=lZ (P:=Tryz.prog) (T:=322) (by simp) .u32 hb2;have f1:IntKind.i64.wrap ((j:Int)+(dO b).length)=((j+(dO b).length:Nat):Int):=by rw [dF (by omega) (by omega)];omega
  have f2:IntKind.i64.wrap (((j+(dO b).length:Nat):Int) - 1)=((j+(dO b).length - 1:Nat):Int):=by rw [dF (by omega) (by omega)];omega
  have f3:IntKind.i64.wrap (((j+(dO b).length:Nat):Int) - 2)=((j+(dO b).length - 2:Nat):Int):=by rw [dF (by omega) (by omega)];omega
  have f4:=dx (n:=(a0:Int)) (by omega) (by omega);have f5:=dx (n:=(a1:Int)) (by omega) (by omega);have f6:=dx (n:=(a2:Int)) (by omega) (by omega);have f7:=dx (n:=(v1:Int)) (by omega) (by omega);have f8:=dx (n:=(v2:Int)) (by omega) (by omega);have f9:IntKind.u64.wrap ((a0:Int)*4294967296)=((a0*4294967296:Nat):Int):=by rw [dx (by omega) (by omega)];omega
  obtain⟨top,htp⟩:∃ t,t=a0*4294967296+a1:=⟨_,rfl⟩
  have f10:JM .u64 ((a0*4294967296:Nat):Int) (a1:Int)=(top:Int):=by rw [htp];exact tv ha0l ha1l
  rw [← htp] at hEst;have htop:=hEst.PX;refine aaa fun K5 hK5=>aag (aaa fun K6 hK6=>?_)
  refine aau mixed (by kernel_rfl) rfl rfl ?_;simp [f1,f2,l0,l1,f4,f5,f9,f10,IntKind.bits,-Int.natCast_add,-Int.natCast_mul]
  repeat refine ah ?_
  apply hK6;have htop64:top<18446744073709551616:=by omega
  have f11:Int.tdiv (top:Int) v1=((top / v1:Nat):Int):=by rw [abT (abG top),← Int.natCast_ediv]
  have f12:Int.tmod (top:Int) v1=((top % v1:Nat):Int):=by rw [abU (abG top),← Int.natCast_emod]
  have hdm:=Nat.div_add_mod top v1;have hml:top % v1<v1:=Zl _ (by omega);have hq0:val 4294967296 (x::r) / val 4294967296 dV*val 4294967296 dV≤val 4294967296 (x::r):=Nat.div_mul_le_self _ _;have hVp:0<val 4294967296 dV:=hEst.V0
  have hq1:val 4294967296 (x::r)<(val 4294967296 (x::r) / val 4294967296 dV+1)*val 4294967296 dV:=by
   rw [Zm];exact Nat.lt_mul_div_succ _ hVp
  have hqB:val 4294967296 (x::r) / val 4294967296 dV<4294967296:=by rw [abn hVp];exact hWV
  have hqf:=hEst.first hq0
  have hg0:top / v1≤4294967297:=by
   apply Nat.lt_succ_iff.1;rw [abn (by omega)];omega
  obtain⟨qt,hqt⟩:∃ qt,qt=val 4294967296 (x::r) / val 4294967296 dV:=⟨_,rfl⟩
  rw [← hqt] at hq0 hq1 hqB hqf;obtain⟨g0,hg0'⟩:∃ g,g=top / v1:=⟨_,rfl⟩
  obtain⟨o0,ho0'⟩:∃ o,o=top % v1:=⟨_,rfl⟩
  rw [← hg0'] at f11 hdm hqf hg0;rw [← ho0'] at f12 hdm hml;have f13:=dx (n:=(g0:Int)) (by omega) (by omega);have hv10:¬ v1=0:=by omega
  have f14:IntKind.i64.wrap (((dO b).length:Int) - 1)=(((dO b).length - 1:Nat):Int):=e1;refine aaa fun K6 hK6=>?_;refine aau mixed (by kernel_rfl) rfl rfl ?_;simp [f14,gv1,f7,f11,f12,f13,hv10]
  repeat refine ah ?_
  apply hK6
  have close:∀ (fr:Nat→AV) (κ:Nat),fr 4=.c (.aI 1 0 m 1)→fr 6=.c (.d (.int .i64 (dO b).length))→fr 9=.c (.d (.int .i64 s))→fr 10=nK .u32 (some dV)→fr 11=.c (.aI 0 0 ((dO a).length+1) 1)→fr 12=.c (.d (.int .i64 j)) →
   K5 ⟨fr,aD (aD (fun _=>.hole) 0 (.cells true false 322 (wK .u32 (lo'++(fZ 4294967296 (dO b).length (val 4294967296 (x::r) % val 4294967296 dV)++List.replicate (m - j) 0))))) 1 (.cells true false 322 (wK .u32 (List.replicate j 0++(qt::qs))))⟩ κ:=by
   intro fr κ q4 q6 q9 q10 q11 q12
   repeat refine ah ?_
   apply hK5;have g1:=dF (n:=(j:Int) - 1) (by omega) (by omega);refine aae ?_;simp [q12,g1];have hml2:val 4294967296 (x::r) % val 4294967296 dV<val 4294967296 dV:=Zl _ hVp;have hVn:val 4294967296 dV<4294967296 ^ (dO b).length:=by rw [vV];exact hV1
   refine⟨j,lo',fZ 4294967296 (dO b).length (val 4294967296 (x::r) % val 4294967296 dV),qt::qs,Le.mk' _ (by simp) (by simp) (by simp [q4,q6,q9,q10,q11]),⟨by omega,hlo,nY _ _ _,oklo,rW (by decide) _ _,by simp only [Zn];omega,ck.2 ⟨hqB,i7⟩,?_,?_⟩,by omega⟩
   ·simp only [lU];rw [ZD (Nat.lt_trans hml2 hVn)];exact hml2
   ·simp only [lU];rw [bY 4294967296 qt qs,ZD (Nat.lt_trans hml2 hVn),← i9,iZ,hlo,Zq];have hdm2:=Nat.mod_add_div (val 4294967296 (x::r)) (val 4294967296 dV);rw [← hqt] at hdm2
    have h1:val 4294967296 (x::r) % val 4294967296 dV+val 4294967296 dV*(qt+4294967296*val 4294967296 qs)=x+4294967296*(val 4294967296 r+val 4294967296 dV*val 4294967296 qs):=by
     rw [YW,← ZC,hdm2,hWv,YW,Nat.mul_left_comm,ZC]
    rw [h1,bY,ry,aaG,ZT,YW,Zk,ZC]
  refine aaa fun K6 hK6=>aag ?_
  have fin:∀ (g:Nat) (fr:Nat→AV) (κ:Nat),g<4294967296→qt≤g→g≤qt+1→fr 4=.c (.aI 1 0 m 1)→fr 6=.c (.d (.int .i64 (dO b).length))→fr 9=.c (.d (.int .i64 s))→fr 10=nK .u32 (some dV)→fr 11=.c (.aI 0 0 ((dO a).length+1) 1)→fr 12=.c (.d (.int .i64 j))→fr 14=.c (.d (.int .u64 g)) →
   K6 ⟨fr,aD (aD (fun _=>.hole) 0 (.cells true false 322 (wK .u32 BL))) 1 (.cells true false 322 (wK .u32 (List.replicate (j+1) 0++qs)))⟩ κ:=by
   intro g fr κ hg1 hg2 hg3 q4 q6 q9 q10 q11 q12 q14
   repeat refine ah ?_
   apply hK6;refine aax 2 ?_;have hVn:val 4294967296 dV<4294967296 ^ (dO b).length:=by rw [vV];exact hV1
   have hmlt:val 4294967296 (x::r) % val 4294967296 dV<4294967296 ^ (dO b).length:=Nat.lt_trans (Zl _ hVp) hVn;have hsn:fZ 4294967296 ((dO b).length+1) (val 4294967296 (x::r) % val 4294967296 dV)=fZ 4294967296 (dO b).length (val 4294967296 (x::r) % val 4294967296 dV)++[0]:=xA hmlt;have hmj1:m - j=(m - (j+1))+1:=by rw [Nat.sub_succ];exact (Nat.succ_pred_eq_of_pos (Nat.sub_pos_of_lt i1)).symm
   have hmj:List.replicate (m - j) (0:Nat)=0::List.replicate (m - (j+1)) 0:=by
    rw [hmj1];exact aba
   have hmodq:val 4294967296 (x::r) % val 4294967296 dV=val 4294967296 (x::r) - qt*val 4294967296 dV:=by
    rw [hqt,Zm];exact Nat.mod_def _ _
   have hLq:List.replicate (j+1) (0:Nat)++qs=List.replicate j 0++(0::qs):=by
    rw [List.replicate_succ',YZ];rfl
   refine aaa fun K7 hK7=>aal q14 ?_
   by_cases hgz:g=0
   ·refine aaf (by simp [hgz] <;> omega) (aan ?_);simp;have hqz:qt=0:=by omega
    have e9:fZ 4294967296 ((dO b).length+1) (val 4294967296 (x::r))=x::r:=by rw [← hwl];exact NO okw
    have e8:val 4294967296 (x::r) % val 4294967296 dV=val 4294967296 (x::r):=by rw [hmodq,hqz];simp
    have e6:fZ 4294967296 (dO b).length (val 4294967296 (x::r) % val 4294967296 dV)++[0]=x::r:=by rw [← hsn,e8,e9]
    have e5:∀ (A B:List Nat),A++(0::B)=(A++[0])++B:=fun A B=>by simp
    have e7:lo'++(fZ 4294967296 (dO b).length (val 4294967296 (x::r) % val 4294967296 dV)++List.replicate (m - j) 0)=BL:=by
     rw [hmj,e5,e6,← hBL',YZ]
    have hcl:∀ (fr':Nat→AV) (κ':Nat),fr' 4=.c (.aI 1 0 m 1)→fr' 6=.c (.d (.int .i64 (dO b).length))→fr' 9=.c (.d (.int .i64 s))→fr' 10=nK .u32 (some dV)→fr' 11=.c (.aI 0 0 ((dO a).length+1) 1)→fr' 12=.c (.d (.int .i64 j)) →
     K5 ⟨fr',aD (aD (fun _=>.hole) 0 (.cells true false 322 (wK .u32 BL))) 1 (.cells true false 322 (wK .u32 (List.replicate (j+1) 0++qs)))⟩ κ':=by
     intro fr' κ' z1 z2 z3 z4 z5 z6;have hcl:=close fr' κ' z1 z2 z3 z4 z5 z6;rw [e7,hqz,← hLq] at hcl;exact hcl
    exact hcl _ _ (by simp [q4]) (by simp [q6]) (by simp [q9]) (by simp [q10]) (by simp [q11]) (by simp [q12])
   ·refine aah (by simp [hgz] <;> omega) (aac (hK7 _ _ (aaa fun K7 hK7=>aaa fun K8 hK8=>?_)))
    have store:∀ (fr':Nat→AV) (κ':Nat),fr' 4=.c (.aI 1 0 m 1)→fr' 6=.c (.d (.int .i64 (dO b).length))→fr' 9=.c (.d (.int .i64 s))→fr' 10=nK .u32 (some dV)→fr' 11=.c (.aI 0 0 ((dO a).length+1) 1)→fr' 12=.c (.d (.int .i64 j))→fr' 14=.c (.d (.int .u64 qt)) →
     K7 ⟨fr',aD (aD (fun _=>.hole) 0 (.cells true false 322 (wK .u32 (lo'++(fZ 4294967296 ((dO b).length+1) (val 4294967296 (x::r) % val 4294967296 dV)++List.replicate (m - (j+1)) 0))))) 1 (.cells true false 322 (wK .u32 (List.replicate (j+1) 0++qs)))⟩ κ':=by
     intro fr' κ' z1 z2 z3 z4 z5 z6 z7
     repeat refine ah ?_
     apply hK7;have y1:IntKind.u32.wrap (qt:Int)=(qt:Int):=uJ (by omega) (by omega)
     have y2:aj (wK .u32 (List.replicate (j+1) 0++qs)) j [CV.d (.int .u32 (qt:Int))]=wK .u32 (List.replicate j 0++(qt::qs)):=by
      rw [iD _ (by simp;omega),Ay]
     have y3:lo'++(fZ 4294967296 (dO b).length (val 4294967296 (x::r) % val 4294967296 dV)++List.replicate (m - j) 0)=lo'++(fZ 4294967296 ((dO b).length+1) (val 4294967296 (x::r) % val 4294967296 dV)++List.replicate (m - (j+1)) 0):=by
      rw [hmj,hsn];simp only [YZ,Z3,Zt]
     refine aae ?_;simp [z1,z6,z7,y1,y2,-bY,-List.append_assoc];refine⟨by omega,?_⟩;have hcl:=close (κ:=κ'+1) (fr:=aD (aD (aD (aD (aD fr' 156 (.c (.aI 1 0 m 1))) 157 (.c (.d (.int .i64 j)))) 158 (.c (.d (.int .u64 qt)))) 159 (.c (.d (.int .u32 qt)))) 160 (.c (.ptr 1 j))) (by simp [z1]) (by simp [z2]) (by simp [z3]) (by simp [z4]) (by simp [z5]) (by simp [z6]);rw [y3] at hcl;exact hcl
    have hwin:(x::r).length=(dO (some dV)).length+1:=by rw [hwl];simp [lV]
    have hT:=fun (G:List (List DV))=>zQ G lo' (x::r) (List.replicate (m - (j+1)) 0) ((dO a).length+1 - j) g (some dV) hwin (by rw [hwl];omega) okw hg1 (by rw [hBL',hBLl];omega)
    simp only [hBL',hlo,hwl,dB] at hT
    have hWB:val 4294967296 (x::r)<4294967296 ^ ((dO b).length+1):=by
     have:=ig okw;rwa [hwl] at this
    by_cases too:val 4294967296 (x::r)<g*val 4294967296 dV
    ·have hb1:p7 (val 4294967296 (x::r)) (g*val 4294967296 dV)=1:=by unfold p7;rw [if_pos too]
     have hgq:g=qt+1:=by
      rcases Z7 qt g with hc|hc
      ·exact Nat.le_antisymm hg3 hc
      ·exact absurd too (Nat.not_lt.2 (Za (Zg _ hc) hq0))
     simp only [hb1,aa5,eq_self,decide_true] at hT;obtain⟨R,hR⟩:∃ R,R=fZ 4294967296 ((dO b).length+1) (val 4294967296 (x::r)+4294967296 ^ ((dO b).length+1) - g*val 4294967296 dV):=⟨_,rfl⟩
     simp only [← hR] at hT;have hRl:R.length=(dO b).length+1:=by rw [hR,nY]
     have hRo:ok 4294967296 R:=by rw [hR];exact rW (by decide) _ _
     have hgV:g*val 4294967296 dV=qt*val 4294967296 dV+val 4294967296 dV:=by rw [hgq,Y3,ZK]
     have hRv:val 4294967296 R+val 4294967296 dV=4294967296 ^ ((dO b).length+1)+val 4294967296 (x::r) % val 4294967296 dV:=by
      rw [hR,lU,hmodq]
      have hVE:val 4294967296 dV≤4294967296 ^ ((dO b).length+1):=by
       rw [Zq];exact Za (Nat.le_of_lt hVn) (Nat.le_mul_of_pos_right _ (by decide))
      have key:∀ (W E gv qv V:Nat),W<gv→gv=qv+V→qv≤W→V≤E→W+E - gv<E∧(W+E - gv)+V=E+(W - qv):=by intros;omega
      obtain⟨k1,k2⟩:=key _ _ _ _ _ too hgV hq0 hVE;rw [ZD k1];exact k2
     have hRd:fZ 4294967296 ((dO b).length+1) (val 4294967296 R+val 4294967296 dV)=fZ 4294967296 ((dO b).length+1) (val 4294967296 (x::r) % val 4294967296 dV):=by
      rw [hRv,Iy (by decide)]
     have hwin':R.length=(dO (some dV)).length+1:=by rw [hRl];simp [lV]
     have hll:(lo'++R++List.replicate (m - (j+1)) 0).length≤1000000000000:=by
      simp only [YY,List.length_replicate,hlo,hRl];omega
     have hGv:=fun (G:List (List DV))=>zn G lo' R (List.replicate (m - (j+1)) 0) ((dO a).length+1 - j) (some dV) hwin' (by rw [hRl];omega) hRo hll
     simp only [hlo,hRl,dB,hRd,YZ] at hGv;simp only [YZ] at hT;refine aae ?_;simp [q11,q12,q10,q14,-bY];refine⟨by omega,?_⟩
     refine jr.Mm 3 9 0 (by simp;rfl) (pz _ _) (pz _ _) (hT _) rfl rfl (by
      intro i h h'
      match i,h with
      | 0,_=>exact .inr (.inl ⟨_,_,_,rfl,rfl⟩)
      | 1,_=>exact .inl ⟨by simp,rfl⟩
      | 2,_=>exact .inl ⟨rfl,rfl⟩) (by simp) (by decide) ?_
     simp [-bY,BF]
     repeat refine ah ?_
     apply hK8;refine aak (aaa fun K8 hK8=>?_);have y5:IntKind.u64.wrap ((g:Int) - 1)=(qt:Int):=by rw [dx (by omega) (by omega)];omega
     refine aae ?_;simp [q14,y5,-bY]
     repeat refine ah ?_
     apply hK8;refine aae ?_;simp [q11,q12,q10,-bY];refine⟨by omega,?_⟩
     refine jr.Mm 4 9 0 (own:=true) (T:=322) (cs:=wK .u32 (lo'++(R++List.replicate (m - (j+1)) 0))) (by simp) (pz _ _) (pz _ _) (hGv _) rfl rfl (by
      intro i h h'
      match i,h with
      | 0,_=>exact .inr (.inl ⟨_,_,_,rfl,rfl⟩)
      | 1,_=>exact .inl ⟨by simp,rfl⟩) (by simp) (by decide) ?_
     simp [-bY,BF];exact store _ _ (by simp [q4]) (by simp [q6]) (by simp [q9]) (by simp [q10]) (by simp [q11]) (by simp [q12]) (by simp)
    ·have hb1:p7 (val 4294967296 (x::r)) (g*val 4294967296 dV)=0:=by unfold p7;rw [if_neg too]
     have hgq:g=qt:=by
      rcases Z7 qt g with hc|hc
      ·have:(qt+1)*val 4294967296 dV≤g*val 4294967296 dV:=Zg _ hc;omega
      ·exact Nat.le_antisymm hc hg2
     have hWm:val 4294967296 (x::r)+4294967296 ^ ((dO b).length+1)*0 - g*val 4294967296 dV=val 4294967296 (x::r) % val 4294967296 dV:=by
      rw [hmodq,hgq,aaG,ZT]
     simp only [hb1,hWm,Nat.zero_ne_one,decide_false,YZ] at hT;refine aae ?_;simp [q11,q12,q10,q14,-bY];refine⟨by omega,?_⟩
     refine jr.Mm 3 9 0 (by simp;rfl) (pz _ _) (pz _ _) (hT _) rfl rfl (by
      intro i h h'
      match i,h with
      | 0,_=>exact .inr (.inl ⟨_,_,_,rfl,rfl⟩)
      | 1,_=>exact .inl ⟨by simp,rfl⟩
      | 2,_=>exact .inl ⟨rfl,rfl⟩) (by simp) (by decide) ?_
     simp [-bY,BF]
     repeat refine ah ?_
     apply hK8;refine aaj (aac ?_);simp [-bY];exact store _ _ (by simp [q4]) (by simp [q6]) (by simp [q9]) (by simp [q10]) (by simp [q11]) (by simp [q12]) (by simp [q14,hgq])
  refine aap (fun (p:Nat × Nat)=>⟨bq [(4,.c (.aI 1 0 m 1)),(6,.c (.d (.int .i64 (dO b).length))),(9,.c (.d (.int .i64 s))),(10,nK .u32 (some dV)),(11,.c (.aI 0 0 ((dO a).length+1) 1)),(12,.c (.d (.int .i64 j))),(14,.c (.d (.int .u64 p.1))),(15,.c (.d (.int .u64 p.2)))],
   aD (aD (fun _=>.hole) 0 (.cells true false 322 (wK .u32 BL))) 1 (.cells true false 322 (wK .u32 (List.replicate (j+1) 0++qs)))⟩) 2
   (fun p=>p.1*v1+p.2=top∧qt≤p.1∧p.1≤4294967297∧p.2<4294967296) (fun p=>p.1) (g0,o0) (Le.mk' _ rfl (by simp) (by simp)) ⟨by rw [Zm];exact hdm,hqf,hg0,by omega⟩ ?_
  rintro⟨g,o⟩ ⟨w1,w2,w3,w4⟩;simp only at w1 w2 w3 w4;refine aaa fun K7 hK7=>aaa fun K8 hK8=>?_
  have dec:∀ (fr:Nat→AV) (κ:Nat),qt<g→fr 4=.c (.aI 1 0 m 1)→fr 6=.c (.d (.int .i64 (dO b).length))→fr 9=.c (.d (.int .i64 s))→fr 10=nK .u32 (some dV)→fr 11=.c (.aI 0 0 ((dO a).length+1) 1)→fr 12=.c (.d (.int .i64 j))→fr 14=.c (.d (.int .u64 g))→fr 15=.c (.d (.int .u64 o)) →
   K7 ⟨fr,aD (aD (fun _=>.hole) 0 (.cells true false 322 (wK .u32 BL))) 1 (.cells true false 322 (wK .u32 (List.replicate (j+1) 0++qs)))⟩ κ:=by
   intro fr κ hg q4 q6 q9 q10 q11 q12 q14 q15
   repeat refine ah ?_
   apply hK7;refine aax 2 ?_;refine aag ?_;have g1:IntKind.u64.wrap ((g:Int) - 1)=((g - 1:Nat):Int):=by rw [dx (by omega) (by omega)];omega
   have g2:IntKind.u64.wrap ((o:Int)+v1)=((o+v1:Nat):Int):=by rw [dx (by omega) (by omega)];omega
   refine aar q14 g1 ?_;refine aai fun K9 hK9=>?_;simp [q15,q10,q6,f14,gv1,f7,g2,-Int.natCast_add]
   repeat refine ah ?_
   apply hK9;refine aaa fun K9 hK9=>?_
   have w1':(g - 1)*v1+(o+v1)=top:=by
    rw [← w1];obtain⟨g',rfl⟩:∃ g',g=g'+1:=⟨g - 1,by omega⟩
    rw [Nat.add_sub_cancel,Y3,ZK];omega
   by_cases ho:o+v1<4294967296
   ·have g3:Int.fdiv ((o+v1:Nat):Int) 4294967296=0:=by rw [Zu _ (by omega)];omega
    refine aae ?_;simp [IntKind.bits,g3,-Int.natCast_add]
    repeat refine ah ?_
    apply hK9;refine aaj (aac ?_);simp;refine⟨g - 1,o+v1,Le.mk' _ rfl (by simp) (by simp [q4,q6,q9,q10,q11,q12]),⟨w1',by omega,by omega,ho⟩,by omega⟩
   ·have g3:Int.fdiv ((o+v1:Nat):Int) 4294967296=1:=by rw [Zu _ (by omega)];omega
    refine aae ?_;simp [IntKind.bits,g3,-Int.natCast_add]
    repeat refine ah ?_
    apply hK9;refine aak (aan ?_);simp
    have hgB:g - 1<4294967296:=by
     apply Zz;intro hc;have:4294967296*v1≤(g - 1)*v1:=Zg _ (by omega);rw [YW] at htop;omega
    have hnear:=hEst.near hq1 w1' hgB (by
     have h1:(g - 1)*v2≤4294967296*4294967296:=aa0 (by omega) (by omega);have h2:4294967296*4294967296≤(o+v1)*4294967296:=Zg _ (by omega);omega)
    exact fin (g - 1) _ _ hgB (by omega) hnear (by simp [q4]) (by simp [q6]) (by simp [q9]) (by simp [q10]) (by simp [q11]) (by simp [q12]) (by simp)
  by_cases hgB:4294967296≤g
  ·have g1:Int.fdiv (g:Int) 4294967296=1:=by rw [Zu _ (by omega)];omega
   refine aau mixed (by kernel_rfl) rfl rfl ?_;simp [IntKind.bits,g1]
   repeat refine ah ?_
   apply hK8;refine aak (aac ?_);simp;exact dec _ _ (by omega) (by simp) (by simp) (by simp) (by simp) (by simp) (by simp) (by simp) (by simp)
  ·have g1:Int.fdiv (g:Int) 4294967296=0:=by rw [Zu _ (by omega)];omega
   have hgv:g*v2≤4294967295*4294967295:=aa0 (by omega) (by omega)
   have g2:IntKind.u64.wrap ((g:Int)*v2)=((g*v2:Nat):Int):=by
    rw [← Int.natCast_mul];generalize g*v2=p at hgv;exact dx (by omega) (by omega)
   have g3:IntKind.u64.wrap ((o:Int)*4294967296)=((o*4294967296:Nat):Int):=by rw [dx (by omega) (by omega)];omega
   have g4:=tv w4 ha2l;have g5:IntKind.i64.wrap (((dO b).length:Int) - 2)=(((dO b).length - 2:Nat):Int):=by rw [dF (by omega) (by omega)];omega
   have hgo:∀ {P Q:Nat},((P:Nat):Int)<((Q:Nat):Int)↔P<Q:=by intro P Q;omega
   refine aau mixed (by kernel_rfl) rfl rfl ?_;simp [IntKind.bits,g1,g5,gv2,f8,g2,g3,f1,f3,l2,f6,g4,-Int.natCast_add,-Int.natCast_mul]
   repeat refine ah ?_
   apply hK8
   by_cases ht:o*4294967296+a2<g*v2
   ·refine aaf (by simp [ht] <;> omega) (aac ?_);simp;exact dec _ _ (hEst.over hq0 w1 ht) (by simp) (by simp) (by simp) (by simp) (by simp) (by simp) (by simp) (by simp)
   ·refine aah (by simp [ht] <;> omega) (aan ?_);simp;exact fin g _ _ (by omega) w2 (hEst.near hq1 w1 (by omega) (by omega)) (by simp) (by simp) (by simp) (by simp) (by simp) (by simp) (by simp)
def vR (a b:Option (List Nat)):Option (List Nat):=if val 4294967296 (dO a)<val 4294967296 (dO b) then none else some (cz 4294967296 (val 4294967296 (dO a) / val 4294967296 (dO b)))
def lE (a b:Option (List Nat)):Option (List Nat):=
 if val 4294967296 (dO a)<val 4294967296 (dO b) then a
 else if (dO b).length=1 then some (cz 4294967296 (val 4294967296 (dO a) % val 4294967296 (dO b)))
 else if val 4294967296 (dO a) % val 4294967296 (dO b)=0 then none else some (cz 4294967296 (val 4294967296 (dO a) % val 4294967296 (dO b)))
theorem P9:dO (vR a b)=cz 4294967296 (val 4294967296 (dO a) / val 4294967296 (dO b)):=by
 unfold vR;split
 ·rename_i h;rw [abm h];rfl
 ·rfl
theorem Gq(ha:can 4294967296 (dO a)):dO (lE a b)=cz 4294967296 (val 4294967296 (dO a) % val 4294967296 (dO b)):=by
 unfold lE;split
 ·rename_i h;rw [ZD h];exact jC (by decide) ha rfl
 ·split
  ·rfl
  ·split
   ·rename_i h;rw [h];rfl
   ·rfl
theorem m5 (G:List (List DV))(a b:Option (List Nat))(ha:can 4294967296 (dO a))(hb:can 4294967296 (dO b))(h0:dO b≠[])(hl:(dO a).length<1000000000000) :
 aa Tryz.prog G 278 [nK .u32 a,nK .u32 b] (.tup [nK .u32 (vR a b),nK .u32 (lE a b)]):=by
 by_cases h:val 4294967296 (dO a)<val 4294967296 (dO b)
 ·have:=ID G a b ha hb h;simpa only [vR,lE,if_pos h] using this
 ·by_cases hn:(dO b).length=1
  ·have:=II G a b ha hb (abe h) hn (Nat.le_of_lt hl);simpa only [vR,lE,if_neg h,if_pos hn] using this
  ·have h1:0<(dO b).length:=List.length_pos_iff.2 h0;have:=KW a b ha hb (abe h) (by omega) hl G;simp only [vR,lE,if_neg h,if_neg hn];split
   ·rename_i hz;rw [if_pos hz] at this;exact this
   ·rename_i hz;rw [if_neg hz] at this;exact this
def ji (a b:Option (List Nat)):Nat→Option (List Nat)
 | 0=>a
 | n+1=>if dO b=[] then a else ji b (lE a b) n
theorem yp(h:dO b=[]) (n:Nat):ji a b n=a:=by
 cases n <;> simp [ji,h]
theorem uz (o o':Option (List Nat)):(AV.tup [nK .u32 o,nK .u32 o']).pure=true:=by
 cases o <;> cases o' <;> rfl
theorem jR {m:Nat}(hB:2≤B) (h:m≤n):(cz B m).length≤(cz B n).length:=
 di hB (aaY h (yN hB))
theorem oG:∀ (n:Nat) (a b:Option (List Nat)),can 4294967296 (dO a)→can 4294967296 (dO b)→val 4294967296 (dO b)≤n→ji a b n=ji a b (val 4294967296 (dO b))∧dO (ji a b n)=cz 4294967296 (Nat.gcd (val 4294967296 (dO a)) (val 4294967296 (dO b)))
 | 0,a,b,ha,hb,h=>by
  have h0:val 4294967296 (dO b)=0:=by omega
  rw [h0];exact⟨rfl,by rw [Nat.gcd_zero_right];exact jC (by decide) ha rfl⟩
 | n+1,a,b,ha,hb,h=>by
  by_cases he:dO b=[]
  ·rw [yp he,yp he];refine⟨rfl,?_⟩;rw [he];simp only [ry,Nat.gcd_zero_right];exact jC (by decide) ha rfl
  ·have hv0:0<val 4294967296 (dO b):=iC hb he;have hR:=Gq (b:=b) ha;have hRc:can 4294967296 (dO (lE a b)):=by rw [hR];exact ez (by decide) _
   have hlt:val 4294967296 (dO (lE a b))<val 4294967296 (dO b):=by rw [hR,eJ (by decide)];exact Zl _ hv0
   obtain⟨k,hk⟩:∃ k,val 4294967296 (dO b)=k+1:=⟨val 4294967296 (dO b) - 1,by omega⟩
   have r1:=oG n b (lE a b) hb hRc (by omega);have r2:=oG k b (lE a b) hb hRc (by omega);have e1:ji a b (n+1)=ji b (lE a b) n:=by simp only [ji,if_neg he]
   have e2:ji a b (val 4294967296 (dO b))=ji b (lE a b) k:=by rw [hk];simp only [ji,if_neg he]
   refine⟨by rw [e1,e2,r1.1,r2.1],?_⟩;rw [e1,r1.2,hR,eJ (by decide),Nat.gcd_comm (val 4294967296 (dO b)),← Nat.gcd_rec,Nat.gcd_comm]
 termination_by n a b=>val 4294967296 (dO b)
theorem Ig(ha:can 4294967296 (dO a)) (hb:can 4294967296 (dO b)) (he:dO b≠[]):ji b (lE a b) (val 4294967296 (dO (lE a b)))=ji a b (val 4294967296 (dO b)):=by
 have hv0:0<val 4294967296 (dO b):=iC hb he;have hR:=Gq (b:=b) ha;have hRc:can 4294967296 (dO (lE a b)):=by rw [hR];exact ez (by decide) _
 have hlt:val 4294967296 (dO (lE a b))<val 4294967296 (dO b):=by rw [hR,eJ (by decide)];exact Zl _ hv0
 obtain⟨k,hk⟩:∃ k,val 4294967296 (dO b)=k+1:=⟨val 4294967296 (dO b) - 1,by omega⟩
 have e2:ji a b (val 4294967296 (dO b))=ji b (lE a b) k:=by rw [hk];simp only [ji,if_neg he]
 rw [e2,(oG k b (lE a b) hb hRc (by omega)).1]
theorem xw(ha:can 4294967296 (dO a)) (hb:can 4294967296 (dO b)):dO (ji a b (val 4294967296 (dO b)))=cz 4294967296 (Nat.gcd (val 4294967296 (dO a)) (val 4294967296 (dO b))):=
 (oG _ a b ha hb (aW _)).2
theorem tu (G:List (List DV))(a b:Option (List Nat))(ha:can 4294967296 (dO a))(hb:can 4294967296 (dO b))(hl:(dO a).length<1000000000000)(hl':(dO b).length<1000000000000) :
 aa Tryz.prog G 229 [nK .u32 a,nK .u32 b] (nK .u32 (ji a b (val 4294967296 (dO b)))):=by
 refine aa.en Tryz.func229 rfl fun _=>aab ?_;refine aaa fun K hK=>aag ?_
 refine aap (fun (p:Option (List Nat) × Option (List Nat))=>⟨bq [(0,nK .u32 p.1),(1,nK .u32 p.2)],fun _=>.hole⟩) 0
  (fun p=>can 4294967296 (dO p.1)∧can 4294967296 (dO p.2)∧(dO p.1).length<1000000000000∧(dO p.2).length<1000000000000∧ji p.1 p.2 (val 4294967296 (dO p.2))=ji a b (val 4294967296 (dO b)))
  (fun p=>val 4294967296 (dO p.2)) (a,b) (Le.mk' _ rfl (by intro k own es h;cases h) (by simp)) ⟨ha,hb,hl,hl',rfl⟩ ?_
 rintro⟨x,y⟩ ⟨i1,i2,i3,i4,i5⟩;simp only at i1 i2 i3 i4 i5;refine aaa fun K3 hK3=>aab ?_
 by_cases hy:dO y=[]
 ·have hy':¬ (0:Int)<((dO y).length:Int):=by rw [hy];simp
  refine aah (by simp [hy'] <;> omega) (aan (hK _ _ ?_));rw [yp hy] at i5;refine aab ?_;exact aad (aH.rt rfl 4 (by simp [i5]))
 ·have hy1:0<(dO y).length:=List.length_pos_iff.2 hy;have hy':(0:Int)<((dO y).length:Int):=by omega
  refine aaf (by simp [hy'] <;> omega) (aac (hK3 _ _ (aag (aai fun K5 hK5=>?_))));simp;refine ag.pure 0 0 (m5 _ _ _ i1 i2 hy i3) (uz _ _) (by simp) rfl ?_;simp
  repeat refine ah ?_
  apply hK5;refine aae ?_;simp;have hv0:0<val 4294967296 (dO y):=iC i2 hy;have hR:=Gq (b:=y) i1;have hlt:val 4294967296 (dO (lE x y))<val 4294967296 (dO y):=by rw [hR,eJ (by decide)];exact Zl _ hv0
  refine⟨y,lE x y,Le.mk' _ rfl (by intro k own es h;cases h) (by simp),⟨i2,by rw [hR];exact ez (by decide) _,i4,?_,?_⟩,hlt⟩
  ·rw [hR];refine aaY (jR (by decide) (Nat.le_of_lt (Zl _ hv0))) ?_;rw [← jC (by decide) i2 rfl];exact i4
  ·rw [Ig i1 i2 hy];exact i5
noncomputable def yE:Code:=match Tryz.f226.body with|some (.seq _ (.seq _ (.seq (.seq _ (.block _ (.rangeFunc _ _ _ b))) _)))=>b|_=>.skip
noncomputable def Ai:Code:=match Tryz.f226.body with|some (.seq _ (.seq _ (.seq (.seq _ (.block _ (.rangeFunc _ _ b _))) _)))=>b|_=>.skip
def jQ (u:List UInt8)(d:DV):Key→LB:=aD (aD (fun _=>.hole) 0 (.cells false false 9 [.d (.str u)])) 1 (.cells false false 222 [.d d])
theorem JV (u:List UInt8)(d:DV):∀ k,jQ u d k=.hole∨∃ T cs,jQ u d k=.cells false false T cs:=by
 intro k;unfold jQ aD
 by_cases h1:k=1
 ·simp [h1]
 ·by_cases h0:k=0 <;> simp [h0,h1]
theorem NG (u:List UInt8)(d d':DV):aD (jQ u d) 1 (.cells false false 222 [.d d'])=jQ u d':=by
 funext k;unfold jQ aD
 by_cases h1:k=1 <;> simp [h1]
theorem I0 (G:List (List DV))(v sz:Nat)(hv:v<4294967296)(hz:sz<4294967296)(o:Option (List Nat))(dv:DV)(hdv:(.c (.d dv):AV)=nK .u32 o)(hl:(dO o).length≤100000000000)(L:Nat)(hL:L≤100000000000)(hval:val 4294967296 (dO o)<4294967296 ^ L)(u:List UInt8)(r:Option Nat)(fr:Nat→AV)
 (f3:fr 3=.c (.ptr 1 0)) (f4:fr 4=.c (.d (.int .u32 v))) (f5:fr 5=.c (.d (.int .u32 sz))) :
 ∀ c:Ctx,c.P=Tryz.prog→c.G=G→c.n=20→AW c r yE ⟨fr,jQ u dv⟩ 0 (fun x s _=>x=.normal∧s.lv=jQ u (.sl (dK .u32 (cz 4294967296 (val 4294967296 (dO o)*sz+v))))):=by
 rintro⟨_,Gc,w0,F0,W0,_,js,β0⟩ rfl hG rfl;have hG:Gc=G:=hG;subst hG;have g1:jQ u dv 1=.cells false false 222 [.d dv]:=by simp [jQ]
 have g5:jQ u dv 5=.hole:=by simp [jQ,aD]
 have w1:IntKind.u64.wrap (sz:Int)=sz:=dx (by omega) (by omega);have w2:IntKind.u64.wrap (v:Int)=v:=dx (by omega) (by omega);have hp:(AV.c (.d dv)).pure=true:=by rw [hdv];cases o <;> rfl
 have b1:(cz 4294967296 sz).length≤1:=di (by decide) (by omega);have b2:(cz 4294967296 v).length≤1:=di (by decide) (by omega)
 have b3:(cz 4294967296 (val 4294967296 (dO o)*sz)).length≤L+1:=di (by decide) (by
  rw [Zq];exact aaY (ZG _ (Nat.le_of_lt hz)) (Nat.mul_lt_mul_of_pos_right hval (by decide)))
 have m1:aa Tryz.prog Gc 238 [.c (.d dv),nK .u32 (some (cz 4294967296 sz))] (nK .u32 (some (cz 4294967296 (val 4294967296 (dO o)*sz)))):=by
  have:=gy Gc o (some (cz 4294967296 sz)) (by omega) (by simp;omega);rw [← hdv] at this;simpa [eJ] using this
 have m2:aa Tryz.prog Gc 280 [nK .u32 (some (cz 4294967296 (val 4294967296 (dO o)*sz))),nK .u32 (some (cz 4294967296 v))] (nK .u32 (some (cz 4294967296 (val 4294967296 (dO o)*sz+v)))):=by
  have:=sR Gc (some (cz 4294967296 (val 4294967296 (dO o)*sz))) (some (cz 4294967296 v)) (by simp;omega) (by simp;omega);simpa [eJ] using this
 refine aag ?_;refine aaq mixed (by kernel_rfl) rfl ?_;simp [f3,f4,f5,g1,w1,w2];refine ag.pure 0 5 (fW _ sz (by omega)) (by simp) (by simp) g5 ?_;simp;refine ag.pure 0 5 m1 (by simp) (by simp [hp]) g5 ?_;simp [f4,w2];refine ag.pure 0 5 (fW _ v (by omega)) (by simp) (by simp) g5 ?_;simp;refine ag.pure 0 5 m2 (by simp) (by simp) g5 ?_;generalize cz 4294967296 (val 4294967296 (dO o)*sz+v)=ds at *
 have e1:nK .u32 (some ds)=.c (.d (.sl (dK .u32 ds))):=rfl;simp [f3,g1,e1,aj];refine⟨by kernel_rfl,?_⟩;exact NG u dv (.sl (dK .u32 ds))
end Go.Am
namespace Go.Proofs
open Go.Shelf
def Tryz.Dn:Go.Shelf.Ren:=⟨fun|217=>255|266=>301|n=>n,fun|9=>9|5=>5|3=>3|n=>n,fun|n=>n⟩
theorem Tryz.Oq:Go.Proofs.Lays.n217 Tryz.prog Tryz.Dn:={
 mixed:=by kernel_rfl
 f217:=Tryz.func255.trans (congrArg some (by kernel_rfl))
 f266:=Tryz.func301.trans (congrArg some (by kernel_rfl))
 t3:=Tryz.underlying3
 a3:=Tryz.isAgg3
 z3:=Tryz.sizeOf3
 v3:=Tryz.zeroValue3
 t5:=Tryz.underlying5
 a5:=Tryz.isAgg5
 z5:=Tryz.sizeOf5
 v5:=Tryz.zeroValue5
 t9:=Tryz.underlying9
 a9:=Tryz.isAgg9
 z9:=Tryz.sizeOf9
 v9:=Tryz.zeroValue9 }
def Tryz.C0:Go.Shelf.Ren:=⟨fun|219=>253|217=>255|225=>298|224=>299|267=>300|266=>301|314=>341|n=>n,fun|9=>9|3=>3|4=>4|5=>5|46=>324|146=>371|51=>322|n=>n,fun|1=>4|n=>n⟩
theorem Tryz.MR:Go.Proofs.Lays.n219 Tryz.prog Tryz.C0:={
 mixed:=by kernel_rfl
 f217:=Tryz.func255.trans (congrArg some (by kernel_rfl))
 f219:=Tryz.func253.trans (congrArg some (by kernel_rfl))
 f224:=Tryz.func299.trans (congrArg some (by kernel_rfl))
 f225:=Tryz.func298.trans (congrArg some (by kernel_rfl))
 f266:=Tryz.func301.trans (congrArg some (by kernel_rfl))
 f267:=Tryz.func300.trans (congrArg some (by kernel_rfl))
 f314:=Tryz.func341.trans (congrArg some (by kernel_rfl))
 t3:=Tryz.underlying3
 a3:=Tryz.isAgg3
 z3:=Tryz.sizeOf3
 v3:=Tryz.zeroValue3
 t4:=Tryz.underlying4
 a4:=Tryz.isAgg4
 z4:=Tryz.sizeOf4
 v4:=Tryz.zeroValue4
 t5:=Tryz.underlying5
 a5:=Tryz.isAgg5
 z5:=Tryz.sizeOf5
 v5:=Tryz.zeroValue5
 t9:=Tryz.underlying9
 a9:=Tryz.isAgg9
 z9:=Tryz.sizeOf9
 v9:=Tryz.zeroValue9
 t46:=Tryz.underlying324
 a46:=Tryz.isAgg324
 z46:=Tryz.sizeOf324
 v46:=Tryz.zeroValue324
 t51:=Tryz.underlying322
 a51:=Tryz.isAgg322
 z51:=Tryz.sizeOf322
 v51:=Tryz.zeroValue322
 t146:=Tryz.underlying371
 a146:=Tryz.isAgg371
 z146:=Tryz.sizeOf371
 v146:=Tryz.zeroValue371
 g1:=by kernel_rfl }
def Tryz.DS:Go.Shelf.Ren:=⟨fun|138=>175|195=>250|218=>252|143=>176|219=>253|217=>255|225=>298|224=>299|267=>300|266=>301|314=>341|n=>n,fun|9=>9|3=>3|4=>4|5=>5|0=>0|46=>324|146=>371|51=>322|n=>n,fun|1=>4|n=>n⟩
theorem Tryz.Ns:Go.Proofs.Lays.n138 Tryz.prog Tryz.DS:={
 mixed:=by kernel_rfl
 f138:=Tryz.func175.trans (congrArg some (by kernel_rfl))
 f143:=Tryz.func176.trans (congrArg some (by kernel_rfl))
 f195:=Tryz.func250.trans (congrArg some (by kernel_rfl))
 f217:=Tryz.func255.trans (congrArg some (by kernel_rfl))
 f218:=Tryz.func252.trans (congrArg some (by kernel_rfl))
 f219:=Tryz.func253.trans (congrArg some (by kernel_rfl))
 f224:=Tryz.func299.trans (congrArg some (by kernel_rfl))
 f225:=Tryz.func298.trans (congrArg some (by kernel_rfl))
 f266:=Tryz.func301.trans (congrArg some (by kernel_rfl))
 f267:=Tryz.func300.trans (congrArg some (by kernel_rfl))
 f314:=Tryz.func341.trans (congrArg some (by kernel_rfl))
 t0:=Tryz.underlying0
 a0:=Tryz.isAgg0
 z0:=Tryz.sizeOf0
 v0:=Tryz.zeroValue0
 t3:=Tryz.underlying3
 a3:=Tryz.isAgg3
 z3:=Tryz.sizeOf3
 v3:=Tryz.zeroValue3
 t4:=Tryz.underlying4
 a4:=Tryz.isAgg4
 z4:=Tryz.sizeOf4
 v4:=Tryz.zeroValue4
 t5:=Tryz.underlying5
 a5:=Tryz.isAgg5
 z5:=Tryz.sizeOf5
 v5:=Tryz.zeroValue5
 t9:=Tryz.underlying9
 a9:=Tryz.isAgg9
 z9:=Tryz.sizeOf9
 v9:=Tryz.zeroValue9
 t46:=Tryz.underlying324
 a46:=Tryz.isAgg324
 z46:=Tryz.sizeOf324
 v46:=Tryz.zeroValue324
 t51:=Tryz.underlying322
 a51:=Tryz.isAgg322
 z51:=Tryz.sizeOf322
 v51:=Tryz.zeroValue322
 t146:=Tryz.underlying371
 a146:=Tryz.isAgg371
 z146:=Tryz.sizeOf371
 v146:=Tryz.zeroValue371
 g1:=by kernel_rfl }
open Go.RowKit Go.Lib in
theorem Tryz.stringslite_IndexByte (s:ByteArray)(c:Int)(w:World) :
 Calls Tryz.prog 255 #[.string s,.int .u8 c] w fun e w'=>e=.returned (.int .i64 (Lib.indexByte s.data.toList c.toNat.toUInt8))∧w'=w:=Any.stringslite_IndexByte Tryz.Oq s c w
open Go.RowKit Go.Lib in
theorem Tryz.stringslite_Index (s sub:ByteArray)(m:Int)(w:World)(hs:s.size<4294967281)(hm:w.cell? ⟨4,0,none⟩=some (.int .i64 m)) :
 Calls Tryz.prog 253 #[.string s,.string sub] w fun e w'=>e=.returned (.int .i64 (Lib.index s.data.toList sub.data.toList))∧w'=w:=Any.stringslite_Index Tryz.MR s sub m w hs hm
open Go.RowKit Go.Lib in
theorem Tryz.strings_Count_one (s:ByteArray)(c:UInt8)(w:World) :
 Calls Tryz.prog 175 #[.string s,.string ⟨#[c]⟩] w fun e w'=>e=.returned (.int .i64 (Lib.countByte s.data.toList c))∧w'=w:=Any.strings_Count_one Tryz.Ns s c w
end Go.Proofs
namespace Go.Am
open Go.Proofs Go.Lib
variable {x:AV}{off T n:Nat}{us:List AV}{V:Vw}{P:Program}{G:List (List DV)}{lv:Key→LB}{vs:Array Value}{w:World}
def MK (T off len:Nat):Bool:=(Nat.beq T 140 && (Nat.beq off 0 && Nat.ble 2 len)) || (Nat.beq T 142 && (Nat.beq off 8 && Nat.ble 10 len))
theorem Hh {len:Nat}(h:MK T off len=true):(T=140∧off=0∧2≤len)∨(T=142∧off=8∧10≤len):=by
 simp only [MK,Zp,cy] at h;rcases h with ⟨h1,h2,h3⟩|⟨h1,h2,h3⟩
 ·exact .inl ⟨Y9 h1,Y9 h2,Ze h3⟩
 ·exact .inr ⟨Y9 h1,Y9 h2,Ze h3⟩
theorem O3:(Tryz.prog.info? 140).map (·.size)=some 2:=by kernel_rfl
theorem QW:Tryz.prog.cellsOf 140=2:=by kernel_rfl
theorem Ng:Tryz.prog.cellsOf 142=10:=by kernel_rfl
theorem Po:∃ d,Tryz.prog.depth=d+1:=⟨Tryz.prog.depth - 1,by kernel_rfl⟩
theorem VQ:rowAt Tryz.prog (sameLayout Tryz.prog Tryz.prog.depth · 140) Tryz.prog.depth 140 1 0 1=true:=by kernel_rfl
theorem Sz:rowAt Tryz.prog (sameLayout Tryz.prog Tryz.prog.depth · 140) Tryz.prog.depth 142 1 8 1=true:=by kernel_rfl
theorem yw {p:Program}{fits:TypeId→Bool}{d:Nat}{e:TypeId}{c c':Nat}(h:rowAt p fits d e c off n=true) (hc:c≤c'):rowAt p fits d e c' off n=true:=by
 cases d with
 | zero=>simp [rowAt] at h
 | succ d=>
  unfold rowAt at h ⊢;simp only at h ⊢;split at h
  ·cases h
  ·rename_i h0
   rw [if_neg h0];rw [Zp] at h ⊢;rcases h with h|h
   ·left;simp only [cy,decide_eq_true_eq] at h ⊢;exact⟨⟨h.1.1,by omega⟩,h.2⟩
   ·right;rw [cy] at h ⊢;refine⟨?_,h.2⟩;have:=h.1;simp only [decide_eq_true_eq] at this ⊢;omega
theorem Sa(h:MK T off n=true):liesAt Tryz.prog Tryz.prog.depth T (n / Tryz.prog.cellsOf T) off 140 1=true:=by
 obtain⟨d,hd⟩:=Po
 have key:∀ T off c,rowAt Tryz.prog (sameLayout Tryz.prog Tryz.prog.depth · 140) Tryz.prog.depth T c off 1=true→liesAt Tryz.prog Tryz.prog.depth T c off 140 1=true:=by
  intro T off c h;rw [hd] at h ⊢;unfold liesAt;rw [hd,h];simp
 rcases Hh h with ⟨rfl,rfl,h3⟩|⟨rfl,rfl,h3⟩
 ·rw [QW];exact key _ _ _ (yw VQ (by omega))
 ·rw [Ng];exact key _ _ _ (yw Sz (by omega))
theorem NI (b off:Nat)(w:World)(h0:w.cell? ⟨b,off,none⟩=some (.pointer (some ⟨b,off,none⟩))) :
 Calls Tryz.prog 215 #[.pointer (some ⟨b,off,none⟩)] w fun e w'=>e=.returned (.tuple #[])∧w'=w:=by
 obtain⟨j,hj,_⟩:=Option.map_eq_some_iff.1 O3
 go_enter Tryz.func215,Tryz.ntmps215
 go_wp2
 rw [Lib.run_neq_ptr_same w _ Tryz.underlying137 hj]
 go_wp2
 go_end0
 exact⟨rfl,rfl⟩
theorem Lf (b off n:Nat)(T:TypeId)(w:World)(h0:w.cell? ⟨b,off,none⟩=some (.pointer none))(hn:MK T off n=true)(hsh:w.shape? b=some (T,n))(hfz:w.frozen? ⟨b,off,none⟩=false) :
 Calls Tryz.prog 215 #[.pointer (some ⟨b,off,none⟩)] w fun e w'=>e=.returned (.tuple #[])∧w'=w.setCell ⟨b,off,none⟩ (.pointer (some ⟨b,off,none⟩)):=by
 obtain⟨j,hj,hjs⟩:=Option.map_eq_some_iff.1 O3;have hlt:off<n:=by rcases Hh hn with ⟨_,h1,h2⟩|⟨_,h1,h2⟩ <;> omega
 go_enter Tryz.func215,Tryz.ntmps215
 go_wp2
 rw [Lib.run_to_unsafe w ⟨b,off,none⟩ Tryz.underlying137 Tryz.underlying311 hj (by rw [hjs];decide) hsh hlt];simp only [Result.andThen];rw [Oper.upon_value]
 go_wp2
 rw [run_callFunc_extern Tryz.func271 (by kernel_rfl) (by kernel_rfl) (by kernel_rfl) (e:=Extern.AbiNoEscape.same) (by kernel_rfl)];rw [Lib.run_noEscape];simp only [Result.andThen];rw [Oper.upon_value]
 go_wp2
 rw [Lib.run_from_unsafe w ⟨b,off,none⟩ Tryz.underlying311 Tryz.underlying137 hj hsh (Sa hn)];simp only [Result.andThen];rw [Oper.upon_value]
 go_wp2
 go_end0
 exact⟨rfl,rfl⟩
theorem bO.of_same{f:FuncId}(hx:x.flat=true)
 (h:∀ (F:Nat→Prop) (β:Key→Nat) (w:World) (vs:Array Value),cG (cQ P G w F β lv) F β lv w→vs.size=us.length→(∀ i (h:i<us.length) (h':i<vs.size),(Vw.mk F β lv w).av vs[i] us[i]) →
  ∃ v,(Vw.mk F β lv w).av v x∧Calls P f vs w fun e w'=>e=.returned v∧w'=w):bO P G f us lv (.ret x lv):=by
 intro F β w vs hS hl hv;obtain⟨v,h1,h2⟩:=h F β w vs hS hl hv;refine h2.mono fun e w' he=>?_;obtain⟨rfl,rfl⟩:=he;exact⟨v,F,β,rfl,hS,h1⟩
theorem args1(hl:vs.size=[x].length) (hv:∀ i (h:i < [x].length) (h':i<vs.size),V.av vs[i] [x][i]):∃ u,vs=#[u]∧V.av u x:=by
 have h1:vs.size=1:=hl;refine⟨vs[0],?_,hv 0 (by simp) (by omega)⟩;apply Array.ext
 ·simpa using h1
 ·intro i p q;have:i=0:=by omega
  subst this;rfl
theorem args2{y:AV}(hl:vs.size=[x,y].length) (hv:∀ i (h:i < [x,y].length) (h':i<vs.size),V.av vs[i] [x,y][i]):∃ u v,vs=#[u,v]∧V.av u x∧V.av v y:=by
 have h1:vs.size=2:=hl;refine⟨vs[0],vs[1],?_,hv 0 (by simp) (by omega),hv 1 (by simp) (by omega)⟩;apply Array.ext
 ·simpa using h1
 ·intro i p q;have:i=0∨i=1:=by omega
  rcases this with rfl|rfl <;> rfl
def xS:List UInt8→List UInt8→Bool
 | [],_=>true
 | a::l,b::m=>Nat.beq a.toNat b.toNat && xS l m
 | _::_,[]=>false
theorem D3 (a b:UInt8):Nat.beq a.toNat b.toNat=(a == b):=by
 rw [Bool.eq_iff_iff];constructor
 ·intro h;have:=Y9 h;simpa using UInt8.toNat_inj.1 this
 ·intro h;have:a=b:=by simpa using h
  rw [this];exact Nat.beq_refl _
theorem xX:∀ (l m:List UInt8),xS l m=l.isPrefixOf m
 | [],m=>by simp [xS]
 | a::l,b::m=>by simp only [xS,List.isPrefixOf,D3,xX l m]
 | a::l,[]=>by simp [xS]
def A5 (t:List UInt8):List UInt8→Nat→Option Nat
 | [],i=>bif xS t [] then some i else none
 | a::l,i=>bif xS t (a::l) then some i else A5 t l (Nat.succ i)
def BJ:Option Nat→Int
 | some i=>Int.ofNat i
 | none=>Int.negSucc 0
theorem HG (t:List UInt8):∀ (s:List UInt8) (i:Nat),BJ (A5 t s i)=if Lib.index s t = -1 then -1 else Lib.index s t+i
 | [],i=>by
  simp only [A5,xX,Lib.index]
  cases t with
  | nil=>simp [BJ]
  | cons a t=>simp [BJ]
 | a::l,i=>by
  have ih:=HG t l (Nat.succ i);have e:Lib.index (a::l) t=if t.isPrefixOf (a::l) then 0 else (if Lib.index l t == -1 then -1 else Lib.index l t+1):=by simp only [Lib.index]
  simp only [A5,xX]
  cases hp:t.isPrefixOf (a::l) with
  | true=>
   have e2:Lib.index (a::l) t=0:=by rw [e,if_pos hp]
   rw [e2];simp [BJ]
  | false=>
   have e2:Lib.index (a::l) t=if Lib.index l t == -1 then -1 else Lib.index l t+1:=by rw [e,if_neg (by simp [hp])]
   rw [e2];simp only [cond_false];rw [ih]
   by_cases h:Lib.index l t = -1
   ·simp [h]
   ·have hge:=index_ge l t;have h2:¬ (Lib.index l t+1 = -1):=by omega
    have h3:(Lib.index l t == -1)=false:=by simpa using h
    rw [h3,if_neg h];simp only [Y2,if_false];rw [if_neg h2];omega
theorem mR (s t:List UInt8):Lib.index s t=BJ (A5 t s 0):=by
 rw [HG];split
 ·assumption
 ·simp
theorem index_one (s:List UInt8)(c:UInt8):Lib.indexByte s c=Lib.index s [c]:=by
 induction s with
 | nil=>simp [Lib.indexByte,Lib.index]
 | cons a s ih=>
  simp only [Lib.indexByte,Lib.index,ih]
  have:[c].isPrefixOf (a::s)=(a == c):=by
   simp only [List.isPrefixOf,aa7];exact BEq.comm
  rw [this]
def B3:List AV→Option AV
 | [.c (.d (.str s)),.c (.d (.str t))]=>bif Nat.blt s.length 4294967281 then some (.c (.d (.int .i64 (BJ (A5 t s 0))))) else none
 | _=>none
def wY:List AV→Option AV
 | [.c (.d (.str s)),.c (.d (.int .u8 (.ofNat n)))]=>bif Nat.blt s.length 4294967281 then some (.c (.d (.int .i64 (BJ (A5 [UInt8.ofNat n] s 0))))) else none
 | _=>none
def Bv (c:Nat):List UInt8→Nat
 | []=>0
 | a::l=>bif Nat.beq a.toNat c then Nat.succ (Bv c l) else Bv c l
theorem Cj (c:UInt8):∀ l:List UInt8,Bv c.toNat l=Lib.countByte l c
 | []=>rfl
 | a::l=>by
  have ih:=Cj c l;unfold Lib.countByte at *
  simp only [Bv,D3,aaQ]
  cases (a == c) <;> simp [ih]
def A6:List AV→Option AV
 | [.c (.d (.str s)),.c (.d (.str [t]))]=>bif Nat.blt s.length 4294967281 then some (.c (.d (.int .i64 (.ofNat (Bv t.toNat s))))) else none
 | _=>none
theorem BR{n:Int}(h:-9223372036854775808≤n∧n≤9223372036854775807):V.av (.int .i64 n) (.c (.d (.int .i64 n))):=
 Vw.jB _ _ _ (c9 (by simpa [CF,qd] using h))
theorem Af (s t:List UInt8)(h:s.length<4294967281):-9223372036854775808≤Lib.index s t∧Lib.index s t≤9223372036854775807:=by
 have h1:=index_ge s t
 have h2:Lib.index s t≤s.length:=by
  clear h h1
  induction s with
  | nil=>simp only [Lib.index];split <;> simp
  | cons a s ih=>
   simp only [Lib.index];split
   ·simp;omega
   ·split <;> simp <;> omega
 omega
theorem Ic{F:Nat→Prop}{β:Key→Nat}{g:Nat}{k:IntKind}{n:Int}(hS:cG (cQ P G w F β lv) F β lv w) (hg:G[g]?=some [.int k n]):w.cell? ⟨g,0,none⟩=some (.int k n):=by
 have:=hS.pK g _ hg
 cases this with
 | ptr b off vs cs hm ho hr=>
  have h1:=hm 0 (by simp);have h2:=hr 0 (by simp);simp only [Zx] at h2;have h3:=h1.2;generalize vs 0=u at h2 h3
  cases h2
  exact h3
theorem H6 (m:Int)(h:B3 us=some x) (lv:Key→LB):bO Tryz.prog (GG m) 253 us lv (.ret x lv):=by
 unfold B3 at h;split at h
 ·rename_i s t
  cases hb:Nat.blt s.length 4294967281 with
  | false=>rw [hb] at h;cases h
  | true=>
   rw [hb] at h;simp only [cond_true,ai] at h;subst h;have hs:s.length<4294967281:=Ze hb;refine bO.of_same (by rfl) fun F β w vs hS hl hv=>?_;obtain⟨u,v,rfl,hu,hv⟩:=args2 hl hv;have:=Tryz.stringslite_Index ⟨s.toArray⟩ ⟨t.toArray⟩ m w (by rw [cY];exact hs) (Ic hS rfl);refine⟨.int .i64 (BJ (A5 t s 0)),?_,?_⟩
   ·rw [← mR];exact BR (Af s t hs)
   ·rw [Vw.iR hu,Vw.iR hv];simpa [mR] using this
 ·cases h
theorem FA (m:Int)(h:wY us=some x) (lv:Key→LB):bO Tryz.prog (GG m) 255 us lv (.ret x lv):=by
 unfold wY at h;split at h
 ·rename_i s n
  cases hb:Nat.blt s.length 4294967281 with
  | false=>rw [hb] at h;cases h
  | true=>
   rw [hb] at h;simp only [cond_true,ai] at h;subst h;have hs:s.length<4294967281:=Ze hb;refine bO.of_same (by rfl) fun F β w vs hS hl hv=>?_;obtain⟨u,v,rfl,hu,hv⟩:=args2 hl hv;have:=Tryz.stringslite_IndexByte ⟨s.toArray⟩ n w;refine⟨.int .i64 (BJ (A5 [UInt8.ofNat n] s 0)),?_,?_⟩
   ·rw [← mR];exact BR (Af s _ hs)
   ·rw [Vw.iR hu,Vw.fP hv];simpa [← mR,index_one] using this
 ·cases h
theorem Iz (m:Int)(h:A6 us=some x) (lv:Key→LB):bO Tryz.prog (GG m) 175 us lv (.ret x lv):=by
 unfold A6 at h;split at h
 ·rename_i s t
  cases hb:Nat.blt s.length 4294967281 with
  | false=>rw [hb] at h;cases h
  | true=>
   rw [hb] at h;simp only [cond_true,ai] at h;subst h;have hs:s.length<4294967281:=Ze hb;refine bO.of_same (by rfl) fun F β w vs hS hl hv=>?_;obtain⟨u,v,rfl,hu,hv⟩:=args2 hl hv;have:=Tryz.strings_Count_one ⟨s.toArray⟩ t w;have hle:Bv t.toNat s≤s.length:=by rw [Cj];exact abo
   refine⟨.int .i64 (.ofNat (Bv t.toNat s)),?_,?_⟩
   ·exact BR ⟨by show _≤((Bv t.toNat s:Nat):Int);omega,by show ((Bv t.toNat s:Nat):Int)≤_;omega⟩
   ·rw [Vw.iR hu,Vw.iR hv];simpa [Cj] using this
 ·cases h
theorem vi{b:Nat}{arr:Array Value}{T:TypeId}{v:Value}{fr:Nat × Nat}(hb:w.heap[b]?=some (.cells arr T fr)) (off:Nat) :
 w.setCell ⟨b,off,none⟩ v=w.setRow b (arr.setIfInBounds off v):=by
 unfold World.setCell World.setRow
 have:(w.heap.modify b fun
  | .cells c elem frozen=>.cells (c.setIfInBounds off v) elem frozen
  | o=>o)=w.heap.modify b fun
  | .cells _ elem frozen=>.cells (arr.setIfInBounds off v) elem frozen
  | o=>o:=by
  apply Array.ext
  ·simp
  ·intro i p q;simp only [Array.getElem_modify];split
   ·rename_i hi
    subst hi;obtain⟨h1,h2⟩:=Array.getElem?_eq_some_iff.1 hb;rw [h2]
   ·rfl
 simp only [Option.isSome_none,Y2,if_false];exact congrArg (fun h=>({ w with heap:=h }:World)) this
theorem Md {m:Nat}(h:MK T off n=true) (hm:n≤m):MK T off m=true:=by
 have key:∀ k,n≤m→Nat.ble k n=true→Nat.ble k m=true:=fun k h1 h2=>Nat.ble_eq_true_of_le (Za (Ze h2) h1)
 simp only [MK,Zp,cy] at h ⊢;rcases h with ⟨h1,h2,h3⟩|⟨h1,h2,h3⟩
 ·exact .inl ⟨h1,h2,key _ hm h3⟩
 ·exact .inr ⟨h1,h2,key _ hm h3⟩
theorem HU {α:Type}{cs r:List α}{x:α}(h:cs.drop off=x::r):∃ hlt:off<cs.length,cs[off]=x:=by
 have hlt:off<cs.length:=by
  apply Zz;intro hc;rw [aa6 (by omega)] at h;cases h
 rw [ZR hlt] at h;simp only [Zh] at h;exact⟨hlt,h.1⟩
theorem HX (m:Int)(lv:Key→LB)(k off T:Nat)(cs r:List CV)(hk:lv k=.cells false false T cs)(hc:cs.drop off=.ptr k off::r) :
 bO Tryz.prog (GG m) 215 [.c (.ptr k off)] lv (.ret (.tup []) lv):=by
 intro F β w vs hS hl hv;obtain⟨u,rfl,hu⟩:=args1 hl hv
 have hu1:u=.pointer (some ⟨β k,off,none⟩):=by
  obtain⟨h1,_⟩:=hu;simpa only [Vw.de,hk] using h1
 subst hu1;have hb:=hS.bx k;unfold Vw.bx at hb;simp only [hk] at hb;obtain⟨arr,b1,b2,b3,_⟩:=hb;obtain⟨hlt,hx⟩:=HU hc;have hpos:off<arr.size:=by omega
 have h0:=b3 off hlt hpos;rw [hx] at h0;obtain⟨h0,_⟩:=h0;simp only [Vw.de,hk] at h0
 have hcell:w.cell? ⟨β k,off,none⟩=some (.pointer (some ⟨β k,off,none⟩)):=by
  rw [cell_of_heap b1];simp [hpos,h0]
 refine (NI _ _ w hcell).mono fun e w' he=>?_;obtain⟨rfl,rfl⟩:=he;exact⟨_,F,β,rfl,hS,⟨#[],rfl,rfl,fun i h=>absurd h (by simp)⟩⟩
theorem FT (m:Int)(lv:Key→LB)(k off T:Nat)(cs r:List CV)(hok:MK T off cs.length=true)(hk:lv k=.cells false false T cs)(hc:cs.drop off=.d .nilp::r) :
 bO Tryz.prog (GG m) 215 [.c (.ptr k off)] lv (.ret (.tup []) (aD lv k (.cells false false T (aj cs off [.ptr k off])))):=by
 intro F β w vs hS hl hv;obtain⟨u,rfl,hu⟩:=args1 hl hv
 have hu1:u=.pointer (some ⟨β k,off,none⟩):=by
  obtain⟨h1,_⟩:=hu;simpa only [Vw.de,hk] using h1
 subst hu1;have hb:=hS.bx k;unfold Vw.bx at hb;simp only [hk] at hb;obtain⟨arr,b1,b2,b3,_⟩:=hb;obtain⟨hlt,hx⟩:=HU hc;have hpos:off<arr.size:=by omega
 have h0:=b3 off hlt hpos;rw [hx] at h0
 have h0':arr[off]=.pointer none:=by
  obtain⟨h0,_⟩:=h0;have h0:Rd _ arr[off] .nilp:=h0;generalize arr[off]=v at h0
  cases h0;rfl
 have hcell:w.cell? ⟨β k,off,none⟩=some (.pointer none):=by
  rw [cell_of_heap b1];simp [hpos,h0']
 refine (Lf _ off arr.size T w hcell (Md hok b2) (by simp [World.shape?,b1]) (frozen_of_heap b1 off)).mono fun e w' he=>?_;obtain⟨rfl,rfl⟩:=he;have hset:=vi (v:=.pointer (some ⟨β k,off,none⟩)) b1 off;have hle:off+[CV.ptr k off].length≤cs.length:=by simp;omega
 have hS2:=hS.setRow (arr:=arr.setIfInBounds off (.pointer (some ⟨β k,off,none⟩))) (cs':=aj cs off [.ptr k off]) hk b1 (by simp) (by rw [aO _ _ _ hle];simpa using b2) (by
  intro i p q;rw [Array.getElem_setIfInBounds (by simpa using q),dm _ _ _ hle i p]
  by_cases hi:off=i
  ·subst hi;rw [if_pos rfl,dif_pos ⟨aW _,by simp⟩];simp only [ZJ,Zx];refine⟨?_,rfl⟩;simp only [Vw.de,hk]
  ·rw [if_neg hi,dif_neg (by simp;omega)];exact b3 i _ _)
 rw [hset];exact⟨_,F,β,rfl,hS2,⟨#[],rfl,rfl,fun i h=>absurd h (by simp)⟩⟩
end Go.Am
namespace Go.Am
open Go.Proofs Go.Lib Go.RowKit
theorem FF (p:Addr)(w:World) :
 CallsD Tryz.prog 110 #[.pointer (some p)] .returning w fun e u' w'=>e=.returned (.tuple #[])∧u'=.returning∧w'=w:=by
 refine callsD_of_wpS Tryz.func110 rfl fun c₀ cs hu=>?_;apply wpS_seq;apply wpS_region;simp [wpOpsS,go_sem,recoverD,hu,Tryz.ntmps110,Exit.thenS];refine wpS_of_wp ?_
 go_wp2
 cases c₀
 simp_all [bodyPostS,results,Tryz.results110]
theorem IW (b:Nat)(n m:Int)(w:World)(hc:w.cell? ⟨b,0,none⟩=some (.int .i64 m))(hz:w.frozen? ⟨b,0,none⟩=false) :
 CallsD Tryz.prog 110 #[.pointer (some ⟨b,0,none⟩)] (.panicking [{ v:=.iface 179 (.agg #[.int .i64 n]),recovered:=false }]) w fun e u' w'=>e=.returned (.tuple #[])∧u'=.panicking [{ v:=.iface 179 (.agg #[.int .i64 n]),recovered:=true }]∧w'=(w.setCell ⟨b,0,none⟩ (.int .i64 n)).alloc (.cells #[.int .i64 n] 179):=by
 have ha:∀ (d:Value) (w:World),(Instr.typeAssert (.iface 179 d) 20 179 true).run Tryz.prog w=.ok (.tuple #[d,.bool true]) w:=by
  intro d w;simp [Instr.typeAssert,run_underlying Tryz.underlying179]
 have hlt:b<w.heap.size:=by
  rcases Z7 b w.heap.size with h'|h'
  ·exact h'
  ·simp [World.cell?,abv h'] at hc
 have hcA:(w.alloc (.cells #[.int .i64 n] 179)).cell? ⟨b,0,none⟩=some (.int .i64 m):=by rw [World.cell?_alloc_lt _ _ ⟨b,0,none⟩ hlt];exact hc
 have hzA:(w.alloc (.cells #[.int .i64 n] 179)).frozen? ⟨b,0,none⟩=false:=by
  unfold World.frozen? at hz ⊢;rw [heap_alloc,if_neg (by simp;omega)];exact hz
 refine callsD_of_wpS Tryz.func110 rfl fun c₀ cs hu=>?_;apply wpS_seq;apply wpS_region;simp [wpOpsS,go_sem,recoverD,hu,Tryz.ntmps110,Exit.thenS];refine wpS_of_wp ?_
 go_wp2
 cases c₀
 simp_all [bodyPostS,results,Tryz.results110]
theorem FP (t:FuncId)(fs cs:Array Value)(w:World)(Q:World→Prop)(hf:aT Tryz.prog t=true)
 (h:Calls Tryz.prog t (fs++cs) (w.alloc (.cells #[.int .i64 0] 31)) fun e w2=>(∃ v,e=.returned v)∧Q w2∧w2.cell? ⟨w.heap.size,0,none⟩=some (.int .i64 0)∧w2.frozen? ⟨w.heap.size,0,none⟩=false) :
 Calls Tryz.prog 59 #[.func (.func t) fs cs] w fun e w'=>∃ w2,Q w2∧w2.cell? ⟨w.heap.size,0,none⟩=some (.int .i64 0)∧e=.returned (.int .i64 0)∧w'=w2.setCell ⟨w.heap.size,0,none⟩ (.int .i64 0):=by
 have hmf:∀ (fn:Fn) (first cap:Array Value) (w:World),(Instr.makeFunc fn first cap).run Tryz.prog w=.ok (.func fn first cap) w:=fun _ _ _ _=>rfl
 have hcall:∀ (args:Array Value) (w:World),(callFunc t args).run Tryz.prog w=.ok (.enter t args) w:=fun args w=>iN hf args w
 go_enter_defers Tryz.func59,Tryz.ntmps59
 go_wp2
 refine h.mono ?_;rintro e w2 ⟨⟨v,rfl⟩,hQ,hc,hz⟩;simp only
 go_wp2
 refine leaves_cons (f:=110) (args:=#[.pointer (some ⟨w.heap.size,0,none⟩)]) (by simp) (by simp [go_sem]) ?_;refine (FF ⟨w.heap.size,0,none⟩ _).mono ?_;rintro e u' w'' ⟨rfl,rfl,rfl⟩;simp [Leaves,settle,results,Tryz.results59,go_sem,hc];exact⟨w2,hQ,hc,rfl⟩
theorem Ga (t:FuncId)(fs cs:Array Value)(w:World)(Q:World→Prop)(n:Int)(hf:aT Tryz.prog t=true)
 (h:Calls Tryz.prog t (fs++cs) (w.alloc (.cells #[.int .i64 0] 31)) fun e w2=>e=.panicked [{ v:=.iface 179 (.agg #[.int .i64 n]),recovered:=false }]∧Q w2∧w2.cell? ⟨w.heap.size,0,none⟩=some (.int .i64 0)∧w2.frozen? ⟨w.heap.size,0,none⟩=false) :
 Calls Tryz.prog 59 #[.func (.func t) fs cs] w fun e w'=>∃ w2,Q w2∧w2.cell? ⟨w.heap.size,0,none⟩=some (.int .i64 0)∧e=.returned (.int .i64 n)∧w'=(w2.setCell ⟨w.heap.size,0,none⟩ (.int .i64 n)).alloc (.cells #[.int .i64 n] 179):=by
 have hmf:∀ (fn:Fn) (first cap:Array Value) (w:World),(Instr.makeFunc fn first cap).run Tryz.prog w=.ok (.func fn first cap) w:=fun _ _ _ _=>rfl
 have hcall:∀ (args:Array Value) (w:World),(callFunc t args).run Tryz.prog w=.ok (.enter t args) w:=fun args w=>iN hf args w
 go_enter_defers Tryz.func59,Tryz.ntmps59
 go_wp2
 refine h.mono ?_;rintro e w2 ⟨rfl,hQ,hc,hz⟩;simp only;refine leaves_cons (f:=110) (args:=#[.pointer (some ⟨w.heap.size,0,none⟩)]) (by simp) (by simp [go_sem]) ?_;refine (IW w.heap.size n 0 _ hc hz).mono ?_;rintro e u' w'' ⟨rfl,rfl,rfl⟩
 have hlt:w.heap.size<w2.heap.size:=by
  rcases Z7 w.heap.size w2.heap.size with h'|h'
  ·exact h'
  ·simp [World.cell?,abv h'] at hc
 have hc2:((w2.setCell ⟨w.heap.size,0,none⟩ (.int .i64 n)).alloc (.cells #[.int .i64 n] 179)).cell? ⟨w.heap.size,0,none⟩=some (.int .i64 n):=by
  rw [World.cell?_alloc_lt _ _ ⟨w.heap.size,0,none⟩ (by simpa [World.setCell] using hlt)];exact World.cell?_setCell_same _ _ _ hc
 simp [Leaves,settle,results,Tryz.results59,go_sem,hc2];exact⟨w2,hQ,hc,rfl⟩
end Go.Am
namespace Go.Am
open Go.Proofs Go.Lib
variable {F:Nat→Prop}{β:Key→Nat}{w:World}{c:Ctx}{s:au}{a:Act}
theorem aE.Xf{w':World}(h:aE c F β s a w) (B:Nat→Prop)
 (hs:∀ b,¬ B b→b<w.heap.size→w'.heap[b]?=w.heap[b]?) (hF:∀ b,B b→¬ F b) (hL:∀ k,(s.lv k).live=true→¬ B (β k)) (hW:∀ b,B b→c.w0.heap.size≤b)
 (hsz:w.heap.size≤w'.heap.size) (ha:∀ b,cw w b≤cw w' b) (hoo:w'.os=w.os∧w'.output=w.output:=by exact⟨rfl,rfl⟩):aE c F β s a w':=by
 have hm:∀ b,F b→w'.heap[b]?=w.heap[b]?:=fun b hb=>hs b (fun hB=>hF b hB hb) (h.mh b hb).1
 have:=h.step (hoo:=hoo) (F':=F) (β':=β) (lv':=s.lv) (w':=w') (fun _ h=>h) hm (fun k=>LB.bl _) (fun _ _ _=>rfl) ha ?_ h.inj (fun b hb=>.inl hb) hsz ?_
 ·exact this
 ·intro k hK;have hb:=h.bx k
  have key:(s.lv k).live=true→(Vw.mk F β s.lv w').bx c k:=fun hl=>
   Vw.bp hb hK rfl rfl (hs _ (hL k hl) (h.fO hl)) (fun _ h=>h)
  cases e:s.lv k with
  | cells own fz T cs=>
   cases fz with
   | false=>exact key (by rw [e];rfl)
   | true=>
    refine Vw.bp hb hK rfl rfl (hm _ ?_) (fun _ h=>h);unfold Vw.bx at hb;simp only [e] at hb;obtain⟨x,h1,h2,h3,h4,h5⟩:=hb;simpa using h4
  | map own es=>exact key (by rw [e];rfl)
  | hole=>unfold Vw.bx;simp only [e]
  | dead=>unfold Vw.bx;simp only [e]
  | bk=>unfold Vw.bx;simp only [e]
 ·intro b hb hW0;exact hs b (fun hB=>by have:=hW b hB;omega) (ZS hb h.ge)
theorem aE.sJ(h:aE c F β s a w) (o:Obj):aE c F β s a (w.alloc o):=
 h.Xf (fun _=>False) (fun b _ hb=>by rw [heap_alloc,if_neg (by omega)]) (fun _ h=>h.elim) (fun _ _ h=>h.elim) (fun _ h=>h.elim) (by simp) (iJ w o)
theorem aE.Kj(h:aE c F β s a w) {b:Nat}{arr:Array Value}{T:TypeId}{fr:Nat × Nat}(hb:w.heap[b]?=some (.cells arr T fr)) (v:Value)
 (hF:¬ F b) (hL:∀ k,(s.lv k).live=true→β k≠b) (hW:c.w0.heap.size≤b):aE c F β s a (w.setCell ⟨b,0,none⟩ v):=by
 rw [vi hb];refine h.Xf (fun x=>x=b) (fun x hx _=>setRow_other _ _ _ _ hx) (fun x hx=>hx ▸ hF) (fun k hk=>hL k hk) (fun x hx=>hx ▸ hW) (by simp) (fun x=>?_);rw [gh w b arr _ T fr hb (by simp)];exact aW _
theorem AD {P:Program}{G:List (List DV)}{t:FuncId}{us:List AV}{lv:Key→LB}{o:LL}(ho:cN lv) (hc:bO P G t us lv o){vs:Array Value}
 (hS:cG (cQ P G w F β lv) F β lv w) (hl:vs.size=us.length) (hv:∀ i (h:i<us.length) (h':i<vs.size),(Vw.mk F β lv w).av vs[i] us[i]) (ob:Obj) :
 Calls P t vs (w.alloc ob) fun e w2=>w2.heap[w.heap.size]?=some ob∧match o with
  | .ret _ lv'=>(∃ v,e=.returned v)∧∃ F' β',cG (cQ P G w F β lv) F' β' lv' w2∧¬ F' w.heap.size∧∀ k,(lv' k).live=true→β' k≠w.heap.size
  | .tq d lv'=>∃ v,e=.panicked [{ v:=v,recovered:=false }]∧∃ F' β',cG (cQ P G w F β lv) F' β' lv' w2∧¬ F' w.heap.size∧(∀ k,(lv' k).live=true→β' k≠w.heap.size)∧Rd (kI w2 F') v d:=by
 have h1:=aE.sJ hS ob;have h2:cG (cQ P G (w.alloc ob) F β lv) F β lv (w.alloc ob):=h1.uT ho
 have PB:∀ i (h:i<us.length) (h':i<vs.size),(Vw.mk F β lv (w.alloc ob)).av vs[i] us[i]:=fun i p q=>
  (Vw.iG (V:=Vw.mk F β lv w) (V':=Vw.mk F β lv (w.alloc ob)) (fun _ h=>h) (fun b hb=>by
   have:=(hS.mh b hb).1;show (w.alloc ob).heap[b]?=_;rw [heap_alloc,if_neg (by omega)]) (fun k=>LB.bl _) (fun _ _ _=>rfl) (iJ w ob)).av (hv i p q)
 have key:∀ F' β' lv' w2,cG (cQ P G (w.alloc ob) F β lv) F' β' lv' w2→w2.heap[w.heap.size]?=some ob∧cG (cQ P G w F β lv) F' β' lv' w2∧¬ F' w.heap.size∧∀ k,(lv' k).live=true→β' k≠w.heap.size:=by
  intro F' β' lv' w2 hX;have hsz:(w.alloc ob).heap.size=w.heap.size+1:=by show (w.heap.push ob).size=_;exact Array.size_push _
  refine⟨?_,?_,?_,?_⟩
  ·have:=hX.old w.heap.size (by show w.heap.size<(w.alloc ob).heap.size;omega) (by
    rintro⟨k,hk,he⟩;have:=hS.fO (k:=k) hk;omega)
   rw [this];show (w.alloc ob).heap[w.heap.size]?=_;rw [heap_alloc,if_pos rfl]
  ·exact h1.AO hX
  ·intro hb;rcases (hX.mh _ hb).2 with h3|h3
   ·have:=(hS.mh _ h3).1;omega
   ·have:(w.alloc ob).heap.size≤w.heap.size:=h3;omega
  ·intro k hk he;rcases hX.eM (k:=k) hk with h3|⟨j,hj,hj2⟩
   ·have:(w.alloc ob).heap.size≤β' k:=h3;omega
   ·have:=hS.fO (k:=j) hj;omega
 refine (hc F β (w.alloc ob) vs h2 hl PB).mono fun e w2 he=>?_
 cases o with
 | ret x lv'=>
  obtain⟨v,F',β',rfl,hX,_⟩:=he;obtain⟨k1,k2,k3,k4⟩:=key _ _ _ _ hX;exact⟨k1,⟨v,rfl⟩,F',β',k2,k3,k4⟩
 | tq d lv'=>
  obtain⟨v,F',β',rfl,hX,hr⟩:=he;obtain⟨k1,k2,k3,k4⟩:=key _ _ _ _ hX;exact⟨k1,v,rfl,F',β',k2,k3,k4,hr⟩
theorem Fe (m:Int)(v:AV)(t:FuncId)(fs cs:List AV)(lv lv':Key→LB)(x:AV)(ht:cj v=some (t,fs,cs))(hf:aT Tryz.prog t=true)(ho:cN lv)(hc:bO Tryz.prog (GG m) t (fs++cs) lv (.ret x lv')) :
 bO Tryz.prog (GG m) 59 [v] lv (.ret (.c (.d (.int .i64 0))) lv'):=by
 intro F β w vs hS hl hv;obtain⟨u,rfl,hu⟩:=args1 hl hv;obtain⟨fs',cs',h1,h2,h3,h4,h5⟩:=lA hu ht;subst h1;have hv':=pe (V:=Vw.mk F β lv w) (args':=#[]) h2 (show (#[]:Array Value).size=([]:List AV).length from rfl) h3 h4 (fun i p q=>absurd p (by simp)) h5;simp only [Zr,Array.append_empty] at hv';have hcall:=AD ho hc hS hv'.1 hv'.2 (.cells #[.int .i64 0] 31)
 have:=FP t fs' cs' w (fun w2=>∃ F' β',cG (cQ Tryz.prog (GG m) w F β lv) F' β' lv' w2∧¬ F' w.heap.size∧(∀ k,(lv' k).live=true→β' k≠w.heap.size)∧w2.heap[w.heap.size]?=some (.cells #[.int .i64 0] 31)) hf
  (hcall.mono fun e w2 he=>⟨he.2.1,(let ⟨F',β',k2,k3,k4⟩:=he.2.2;⟨F',β',k2,k3,k4,he.1⟩),by simp [World.cell?,he.1],by simp [World.frozen?,he.1]⟩)
 refine this.mono fun e w' he=>?_;obtain⟨w2,⟨F',β',k2,k3,k4,k5⟩,_,rfl,rfl⟩:=he;exact⟨_,F',β',rfl,aE.Kj k2 k5 _ k3 k4 (aW _),Vw.jB _ _ _ (by decide)⟩
theorem F2 (m:Int)(v:AV)(t:FuncId)(fs cs:List AV)(lv lv':Key→LB)(n:Int)(ht:cj v=some (t,fs,cs))(hf:aT Tryz.prog t=true)(ho:cN lv)(hc:bO Tryz.prog (GG m) t (fs++cs) lv (.tq (.iface 179 (.agg [.int .i64 n])) lv')) :
 bO Tryz.prog (GG m) 59 [v] lv (.ret (.c (.d (.int .i64 n))) lv'):=by
 intro F β w vs hS hl hv;obtain⟨u,rfl,hu⟩:=args1 hl hv;obtain⟨fs',cs',h1,h2,h3,h4,h5⟩:=lA hu ht;subst h1;have hv':=pe (V:=Vw.mk F β lv w) (args':=#[]) h2 (show (#[]:Array Value).size=([]:List AV).length from rfl) h3 h4 (fun i p q=>absurd p (by simp)) h5;simp only [Zr,Array.append_empty] at hv';have hcall:=AD ho hc hS hv'.1 hv'.2 (.cells #[.int .i64 0] 31)
 have hval:∀ (M:Mem) (v:Value),Rd M v (.iface 179 (.agg [.int .i64 n]))→v=.iface 179 (.agg #[.int .i64 n])∧IntKind.i64.wrap n=n:=by
  intro M v h
  cases h with
  | iface _ u _ hu=>
   cases hu with
   | agg arr _ hl _ hr=>
    have h0:=hr 0 (by simp);have hl1:arr.size=1:=hl;simp only [Zx] at h0
    have:arr=#[arr[0]]:=by
     apply Array.ext
     ·simpa using hl1
     ·intro i p q;have:i=0:=by simp at q;omega
      subst this;rfl
    generalize arr[0]=z at h0 this
    cases h0 with
    | int _ _ hw=>exact⟨by rw [this],hw⟩
 have:=Ga t fs' cs' w (fun w2=>IntKind.i64.wrap n=n∧∃ F' β',cG (cQ Tryz.prog (GG m) w F β lv) F' β' lv' w2∧¬ F' w.heap.size∧(∀ k,(lv' k).live=true→β' k≠w.heap.size)∧w2.heap[w.heap.size]?=some (.cells #[.int .i64 0] 31)) n hf
  (hcall.mono fun e w2 he=>by
   obtain⟨he1,v,rfl,F',β',k2,k3,k4,hr⟩:=he;obtain⟨rfl,hw⟩:=hval _ _ hr;exact⟨rfl,⟨hw,F',β',k2,k3,k4,he1⟩,by simp [World.cell?,he1],by simp [World.frozen?,he1]⟩)
 refine this.mono fun e w' he=>?_;obtain⟨w2,⟨hw,F',β',k2,k3,k4,k5⟩,_,rfl,rfl⟩:=he;exact⟨_,F',β',rfl,aE.sJ (aE.Kj k2 k5 _ k3 k4 (aW _)) _,Vw.jB _ _ _ hw⟩
end Go.Am
namespace Go.Am
variable {l n κ:Nat}{P:Program}{G:List (List DV)}{fr:Nat→AV}{lv js lv':Key→LB}{F0 F:Nat→Prop}{β0 β:Key→Nat}{w w0:World}{o:Obj}{s:au}{a:Act}{rec:Loop}
section
variable {c:Ctx}{r:Option Nat}{F:Nat→Prop}{β:Key→Nat}{s:au}{a:Act}{w w':World}
theorem AW.fresh{code:Code}{Q:Ex→au→Nat→Prop}(h:aE c F β ⟨fr,lv⟩ a w) (ho:cN lv)
 (hA:∀ c':Ctx,c'.P=c.P→c'.G=c.G→c'.n=c.n→c'.js=lv→AW c' r code ⟨fr,lv⟩ κ Q) :
 code.wpIn (nS r) 0 c.P (fun e a' w'=>∃ x s' κ' F' β',Q x s' κ'∧aE c F' β' s' a' w'∧EC x e F' w'∧w.heap.size≤w'.heap.size∧(∀ b,F' b→F b∨w.heap.size≤b)∧(∀ k,(s'.lv k).live=true→w.heap.size≤β' k∨∃ j,(lv j).live=true∧β j=β' k) ∧
  ∀ b,b<w.heap.size→(∀ k,(lv k).live=true→β k≠b)→w'.heap[b]?=w.heap[b]?) a w:=by
 let c':Ctx:={ cQ c.P c.G w F β lv with n:=c.n }
 have h1:aE c' F β ⟨fr,lv⟩ a w:=cG.with (c:=c') (h.uT ho) h.size h.defers h.fr;refine wpIn_mono (hA c' rfl rfl rfl rfl F β a w h1) ?_;rintro e a' w' ⟨x,s',κ',F',β',hQ,h2,hx⟩;have hx0:cG (cQ c.P c.G w F β lv) F' β' s'.lv w':=aE.wu (c:=c') h2;have h3:aE c F' β' ⟨fr,s'.lv⟩ a w':=h.AO hx0;have h4:aE c F' β' s' a' w':=cG.with (c:=c) (aE.wu h3) h2.size h2.defers h2.fr;refine⟨x,s',κ',F',β',hQ,h4,hx,h2.ge,fun b hb=>(h2.mh b hb).2,fun k hk=>h2.eM hk,fun b hb hn=>?_⟩;exact h2.old b hb (fun⟨k,hk,he⟩=>hn k hk he)
theorem aE.V4 (h:aE c F β s a w)(B:Nat→Prop)
 (hs:∀ b,¬ B b→b<w.heap.size→w'.heap[b]?=w.heap[b]?) (hF:∀ b,B b→¬ F b) (hL:∀ k,(s.lv k).live=true→¬ B (β k)) (hW:∀ b,B b→c.w0.heap.size≤b∨c.W0 b)
 (hsz:w.heap.size≤w'.heap.size) (ha:∀ b,cw w b≤cw w' b) (hoo:w'.os=w.os∧w'.output=w.output:=by exact⟨rfl,rfl⟩):aE c F β s a w':=by
 have hm:∀ b,F b→w'.heap[b]?=w.heap[b]?:=fun b hb=>hs b (fun hB=>hF b hB hb) (h.mh b hb).1
 have:=h.step (hoo:=hoo) (F':=F) (β':=β) (lv':=s.lv) (w':=w') (fun _ h=>h) hm (fun k=>LB.bl _) (fun _ _ _=>rfl) ha ?_ h.inj (fun b hb=>.inl hb) hsz ?_
 ·exact this
 ·intro k hK;have hb:=h.bx k
  have key:(s.lv k).live=true→(Vw.mk F β s.lv w').bx c k:=fun hl=>
   Vw.bp hb hK rfl rfl (hs _ (hL k hl) (h.fO hl)) (fun _ h=>h)
  cases e:s.lv k with
  | cells own fz T cs=>
   cases fz with
   | false=>exact key (by rw [e];rfl)
   | true=>
    refine Vw.bp hb hK rfl rfl (hm _ ?_) (fun _ h=>h);unfold Vw.bx at hb;simp only [e] at hb;obtain⟨x,h1,h2,h3,h4,h5⟩:=hb;simpa using h4
  | map own es=>exact key (by rw [e];rfl)
  | hole=>unfold Vw.bx;simp only [e]
  | dead=>unfold Vw.bx;simp only [e]
  | bk=>unfold Vw.bx;simp only [e]
 ·intro b hb hW0;exact hs b (fun hB=>(hW b hB).elim (fun h1=>by omega) hW0) (ZS hb h.ge)
theorem aE.BB (h:aE c F β s a w)(o':Obj) (hl:w.heap[l]?=some o) (hc:∀ x y z,o≠.cells x y z) (hF:¬ F l) (hL:∀ k,(s.lv k).live=true→β k≠l) (hW:c.w0.heap.size≤l∨c.W0 l):aE c F β s a (w.putObj l o'):=by
 refine h.V4 (fun x=>x=l) (fun x hx _=>abW hx) (fun x hx=>hx ▸ hF) (fun k hk=>hL k hk) (fun x hx=>hx ▸ hW) (by simp) (fun b=>?_)
 by_cases e:b=l
 ·subst e;unfold cw;rw [hl]
  cases o with
  | cells x y z=>exact absurd rfl (hc x y z)
  | _=>exact Y4 _
 ·unfold cw;rw [abW e];exact aW _
end
def MZ (P:Program)(G:List (List DV))(w:World)(F:Nat→Prop)(β:Key→Nat)(lv:Key→LB)(n l:Nat):Ctx:=
 ⟨P,G,w,F,fun b=>(∃ k,(lv k).live=true∧β k=b)∨b=l,n,lv,β⟩
theorem aE.Yx(l:Nat) (h:aE { cQ P G w0 F0 β0 js with n:=n } F β s a w) :
 aE (MZ P G w0 F0 β0 js n l) F β s a w:=by
 refine⟨fun k=>Vw.GO ?_ (h.bx k),h.inj,h.fr,h.size,h.defers,h.mh,h.F0,fun b hb hW=>h.old b hb (fun hx=>hW (.inl hx)),h.ge,h.pK,h.keep,h.Ht,h.Et⟩;intro o ho;unfold eH at ho ⊢
 cases o with
 | true=>exact ho
 | false=>exact ho.imp id .inl
theorem aE.Yj(h:aE (MZ P G w0 F0 β0 js n l) F β s a w)
 (hl0:w0.heap[l]?=some o) (hl:w.heap[l]?=some o) (hc:∀ x y z,o≠.cells x y z) (hm:∀ x y,o≠.map x y):cG (cQ P G w0 F0 β0 js) F β s.lv w:=by
 refine⟨fun k=>?_,h.inj,fun _=>trivial,rfl,rfl,h.mh,h.F0,fun b hb hW=>?_,h.ge,h.pK,h.keep,h.Ht,h.Et⟩
 ·have hb:=h.bx k
  have key:∀ ow,eH (MZ P G w0 F0 β0 js n l) ow (β k)→β k≠l→eH { cQ P G w0 F0 β0 js with n:=0 } ow (β k):=by
   intro ow ho hne;unfold eH at ho ⊢
   cases ow with
   | true=>exact ho
   | false=>
    rcases ho with h1|h1|h1
    ·exact .inl h1
    ·exact .inr h1
    ·exact absurd h1 hne
  unfold Vw.bx at hb ⊢
  cases e:s.lv k with
  | cells own fz T cs=>
   simp only [e] at hb ⊢;obtain⟨arr,b1,b2,b3,b4,b5⟩:=hb;exact⟨arr,b1,b2,b3,b4,key _ b5 (fun he=>by rw [he,hl] at b1;simp only [ai] at b1;exact hc _ _ _ b1)⟩
  | map own es=>
   simp only [e] at hb ⊢;obtain⟨x,y,b1,b2,b3,b4,b5⟩:=hb;exact⟨x,y,b1,b2,b3,b4,key _ b5 (fun he=>by rw [he,hl] at b1;simp only [ai] at b1;exact hm _ _ b1)⟩
  | hole=>simp only [e]
  | dead=>simp only [e]
  | bk=>simp only [e]
 ·by_cases e:b=l
  ·subst e;show w.heap[b]?=w0.heap[b]?;rw [hl,hl0]
  ·refine h.old b hb ?_;rintro (h1|h1)
   ·exact hW h1
   ·exact e h1
theorem sH.yield{w1:World}{ops:Array Oper}{o:Oper}{cl:Call}{fo:Operand}{xs:List AV}(hd:∀ d,o.dst=some d→d<n)
 (hg:o.guard=none) (ho:o.op=.call cl) (hcal:cl.callee=.value fo) (hfo:(au.mk fr lv).val G fo=.c (.d (.func (.yield l) [] [])))
 (hxs:cl.args.toList.map ((au.mk fr lv).val G)=xs) (hps:rec.params.size=xs.length) (hl:w1.heap[l]?=some (.loop rec)) (hnl:∀ k,(js k).live=true→β0 k≠l) (hok:cN lv)
 (hround:∀ (F:Nat→Prop) (β:Key→Nat) (w:World) (vs:Array Value),cG (cQ P G w1 F0 β0 js) F β lv w→cG (cQ P G w F β lv) F β lv w→w.heap[l]?=some (.loop rec)→vs.size=xs.length→(∀ i (h:i<xs.length) (h':i<vs.size),(Vw.mk F β lv w).av vs[i] xs[i]) →
  RoundIn (nS none) 0 P l rec.fn ((rec.params.zip vs).foldl (fun tmps (t,a)=>tmps.setIfInBounds t a) rec.tmps) rec.assign rec.body w fun e w'=>e=.returned (.bool true)∧∃ F' β',cG (cQ P G w F β lv) F' β' lv' w') :
 sH { cQ P G w1 F0 β0 js with n:=n } none ops o ⟨fr,lv⟩ (au.put ⟨fr,lv'⟩ o.dst (.c (.d (.bool true)))):=by
 intro F β a w K Q hs hK;have hw:Region.wanted o (yielded ops a.tmps)=true:=by unfold Region.wanted;rw [hg]
 rw [if_pos hw];have hS:cG (cQ P G w1 F0 β0 js) F β lv w:=aE.wu hs
 have hlw:w.heap[l]?=some (.loop rec):=by
  rw [← hl];have hlt:=(Array.getElem?_eq_some_iff.1 hl).1;exact hs.old l hlt (fun⟨k,hk,he⟩=>hnl k hk he)
 have hv0:=hs.val fo
 have vw:a.eval fo=.func (.yield l) #[] #[]:=by
  have h1:(Vw.mk F β lv w).av (a.eval fo) (.c (.d (.func (.yield l) [] []))):=hfo ▸ hv0;obtain⟨h1,_⟩:=h1;generalize a.eval fo=u at h1
  cases h1 with
  | func _ fs cs _ _ hf hc _ _=>
   have e1:fs=#[]:=Array.size_eq_zero_iff.1 (by simpa using hf);have e2:cs=#[]:=Array.size_eq_zero_iff.1 (by simpa using hc);rw [e1,e2]
 have hsz:(cl.args.map a.eval).size=xs.length:=by rw [← hxs];simp
 have hav:∀ i (h:i<xs.length) (h':i<(cl.args.map a.eval).size),(Vw.mk F β lv w).av (cl.args.map a.eval)[i] xs[i]:=by
  intro i p q;subst hxs;simp only [abq,sr,Zw];exact hs.val _
 have hr:(execOp a.eval o).run P w=.ok (.round l rec.fn ((rec.params.zip (cl.args.map a.eval)).foldl (fun tmps (t,a)=>tmps.setIfInBounds t a) rec.tmps) rec.assign rec.body) w:=by
  simp only [execOp,ho,resolve,hcal,vw,Deferred.ofValue,cK,Zi,rP,invoke];have:=run_yield (P:=P) (args:=cl.args.map a.eval) hlw (by rw [hsz,hps]);simpa using this
 refine⟨fun _ _=>trivial,?_⟩;rw [Oper.semAt_eq _ _ _ (fun c h=>by rw [ho] at h;cases h)];show o.uponIn (nS none) 0 P a K Q ((execOp a.eval o).run P w);rw [hr,Oper.uponIn_round];refine⟨fun h=>by simp [nS,Fence.wide] at h,?_⟩;refine (hround F β w _ hS (hs.uT hok) hlw hsz hav).mono fun e w' he=>?_;obtain⟨rfl,F',β',hX⟩:=he;exact hK F' β' _ _ (aE.AX (hs.AO hX) hd (Vw.m7 _ _))
theorem DN{tmps:Array Value}{fr2:Nat→AV}(hS:cG (cQ P G w F β lv) F β lv w) (hok:cN lv)
 (hlw:w.heap[l]?=some (.loop rec)) (hst:rec.state=.ready) (hpe:rec.pending=none) (hn:tmps.size=n) (hfr:∀ t,(Vw.mk F β lv w).av (tmps.getD t undef) (fr t)) (hFl:¬ F l)
 (h1:∀ c:Ctx,c.P=P→c.G=G→c.n=n→c.js=lv→AW c (some l) rec.assign ⟨fr,lv⟩ κ (fun x s _=>x=.normal∧s=⟨fr2,lv⟩))
 (h2:∀ c:Ctx,c.P=P→c.G=G→c.n=n→c.js=lv→AW c (some l) rec.body ⟨fr2,lv⟩ κ (fun x s _=>x=.normal∧s.lv=lv')) :
 RoundIn (nS none) 0 P l rec.fn tmps rec.assign rec.body w fun e w'=>e=.returned (.bool true)∧∃ F' β',cG (cQ P G w F β lv) F' β' lv' w':=by
 have hlt:l<w.heap.size:=(Array.getElem?_eq_some_iff.1 hlw).1
 have hnot:∀ (F:Nat→Prop) (β:Key→Nat) (lv:Key→LB) (c:Ctx) (s:au) (a:Act) (w:World) (r:Loop),aE c F β s a w→w.heap[l]?=some (.loop r)→∀ k,(s.lv k).live=true→β k≠l:=by
  intro F β lv c s a w r h hl k hk he;have hb:=h.bx k;unfold Vw.bx at hb
  cases e:s.lv k with
  | cells own fz T cs=>simp only [e] at hb;obtain⟨arr,b1,_⟩:=hb;rw [he,hl] at b1;cases b1
  | map own es=>simp only [e] at hb;obtain⟨x,y,b1,_⟩:=hb;rw [he,hl] at b1;cases b1
  | hole=>rw [e] at hk;cases hk
  | dead=>rw [e] at hk;cases hk
  | bk=>rw [e] at hk;cases hk
 have s0:aE (MZ P G w F β lv n l) F β ⟨fr,lv⟩ ⟨tmps,[]⟩ w:=aE.Yx l (cG.enter hS (a:=⟨tmps,[]⟩) hn rfl hfr);refine roundIn_of_wpIn trivial ?_;show rec.assign.wpIn (nS (some l)) 0 P _ _ w;refine wpIn_mono (AW.fresh (r:=some l) s0 hok (h1 ·)) ?_;rintro e a1 w1 ⟨x,s1,κ1,F1,β1,⟨rfl,rfl⟩,s1',hx,z1,z2,z2b,z3⟩
 cases hx
 have hl1:w1.heap[l]?=some (.loop rec):=by rw [z3 l hlt (hnot F β lv _ _ _ w rec s0 hlw)];exact hlw
 refine⟨_,run_beginRound hl1 hst,?_⟩
 have hF1:¬ F1 l:=fun h=>by
  rcases z2 l h with h|h
  ·exact hFl h
  ·omega
 have s2:=s1'.BB (.loop { rec with state:=.busy }) hl1 (fun _ _ _ h=>by cases h) hF1 (hnot _ _ lv _ _ _ _ _ s1' hl1) (.inr (.inr rfl));have hl2:(w1.putObj l (.loop { rec with state:=.busy })).heap[l]?=some (.loop { rec with state:=.busy }):=World.putObj_heap_same (by omega);show rec.body.wpIn (nS (some l)) 0 P _ _ _;refine wpIn_mono (AW.fresh (r:=some l) s2 hok (h2 ·)) ?_;rintro e a3 w3 ⟨x,s3,κ3,F3,β3,⟨rfl,hlv⟩,s3',hx,y1,y2,y2b,y3⟩
 cases hx
 have hl3:w3.heap[l]?=some (.loop { rec with state:=.busy }):=by rw [y3 l (by simp;omega) (hnot _ _ lv _ _ _ _ _ s2 hl2)];exact hl2
 have hF3:¬ F3 l:=fun h=>by
  rcases y2 l h with h|h
  ·exact hF1 h
  ·simp at h;omega
 have hrec:({ { rec with state:=.busy } with state:=.ready,pending:=none }:Loop)=rec:=by
  cases rec;simp only at hst hpe;subst hst;subst hpe;rfl
 have s4:=s3'.BB (.loop rec) hl3 (fun _ _ _ h=>by cases h) hF3 (hnot _ _ lv _ _ _ _ _ s3' hl3) (.inr (.inr rfl));have hl4:(w3.putObj l (.loop rec)).heap[l]?=some (.loop rec):=World.putObj_heap_same (Array.getElem?_eq_some_iff.1 hl3).1;have hS4:=s4.Yj hlw hl4 (fun _ _ _ h=>by cases h) (fun _ _ h=>by cases h);refine⟨.bool true,w3.putObj l (.loop rec),?_,rfl,F3,β3,hlv ▸ hS4⟩;have:=run_endRound (P:=P) none hl3;simp only [Option.isNone_none,if_true] at this;rw [this];rw [hrec]
end Go.Am
namespace Go.Am
open Go.Am.Ty Go.Proofs N
def cD:List UInt8→Nat→Nat
 | [],n=>n
 | c::l,n=>cD l (10*n+(c.toNat - 48))
def ML (l:List UInt8):Prop:=∀ c∈l,48≤c.toNat∧c.toNat≤57
theorem xR:∀ (a b:List UInt8) (n:Nat),cD (a++b) n=cD b (cD a n)
 | [],b,n=>rfl
 | c::a,b,n=>by simp [cD,xR a b]
theorem jZ:∀ (l:List UInt8) (n:Nat),cD l n=n*10 ^ l.length+cD l 0
 | [],n=>by simp [cD]
 | c::l,n=>by
  simp only [cD,Zn,Zq];rw [jZ l (10*n+_),jZ l (10*0+_)];simp only [aaG,Y5,Y3,Zk];rw [show 10*(n*10 ^ l.length)=n*(10 ^ l.length*10) by rw [Zm 10,Zk]];omega
theorem ri:∀ {l:List UInt8},ML l→cD l 0<10 ^ l.length
 | [],_=>by simp [cD]
 | c::l,h=>by
  have h1:=h c (ZP ..);have ih:=ri (l:=l) (fun x hx=>h x (ZX _ hx));simp only [cD,Zn,Zq];rw [jZ];have h2:(10*0+(c.toNat - 48))*10 ^ l.length≤9*10 ^ l.length:=Zg _ (by omega);omega
theorem sH.plain {c:Ctx}{r:Option Nat}{ops:Array Oper}{o:Oper}{s:au}{κ:Key}{x:AV}{vc:Prop}(hd:∀ d,o.dst=some d→d<c.n) (hg:o.guard=none)
 (h:aZ c.P o.op (o.op.operands.toList.map (s.val c.G)) s.lv κ=some (x,[],[],vc)) (hvc:vc) {s1:au}(h1:s1=s.put o.dst x):sH c r ops o s s1:=by
 subst h1;exact sH.P3 (cO.plain hd (by unfold eC;rw [hg]) h hvc)
def oO (st:Bool)(n:Nat):Option (List Nat):=if st then some (cz 4294967296 n) else none
def nD:Option (List Nat)→DV
 | none=>.nilsl
 | some l=>.sl (dK .u32 l)
theorem OQ (o:Option (List Nat)):(AV.c (.d (nD o)))=nK .u32 o:=by cases o <;> rfl
@[simp] theorem TI (u:List UInt8)(d:DV):jQ u d 0=.cells false false 9 [.d (.str u)]:=by simp [jQ,aD]
@[simp] theorem OR (u:List UInt8)(d:DV):jQ u d 1=.cells false false 222 [.d d]:=by simp [jQ,aD]
@[simp] theorem RO (u u':List UInt8)(d:DV):aD (jQ u d) 0 (.cells false false 9 [.d (.str u')])=jQ u' d:=by
 funext k;unfold jQ aD
 by_cases h0:k=0
 ·subst h0;simp
 ·simp [h0]
theorem o9 (u:List UInt8)(d:DV):iw (jQ u d):=by
 intro k own es h;rcases JV u d k with h1|⟨T,cs,h1⟩ <;> rw [h1] at h <;> cases h
theorem JF (G:List (List DV))(v sz:Nat)(lv:Key→LB)(r:Option Nat)(fr:Nat→AV)(f8:fr 8=.c (.d (.int .u32 v)))(f9:fr 9=.c (.d (.int .u32 sz))) :
 ∀ c:Ctx,c.P=Tryz.prog→c.G=G→c.n=20→AW c r Ai ⟨fr,lv⟩ 0 (fun x s _=>x=.normal∧s=⟨aD (aD fr 4 (.c (.d (.int .u32 v)))) 5 (.c (.d (.int .u32 sz))),lv⟩):=by
 rintro⟨_,Gc,w0,F0,W0,_,js,β0⟩ rfl rfl rfl;unfold Ai;refine aal f8 ?_;refine aae ?_;simp [f9]
noncomputable def Ge:Code:=match Tryz.f330.body with|some b=>b|_=>.skip
def NW (c:Ctx)(Y:AV):Prop:=
 ∀ (u:List UInt8) (n:Nat) (st:Bool) (v sz L:Nat) (fr:Nat→AV) (ops:Array Oper) (o:Oper) (cl:Call),v<4294967296→sz<4294967296→(st=false→n=0)→L≤10000000000→n<4294967296 ^ L →
  o.dst=some 32→o.guard=none→o.op=.call cl→cl.callee=.value (.tmp 29)→cl.args=#[.tmp 30,.tmp 31]→fr 29=Y→fr 30=.c (.d (.int .u32 v))→fr 31=.c (.d (.int .u32 sz)) →
  sH c none ops o ⟨fr,jQ u (nD (oO st n))⟩ (au.put ⟨fr,jQ u (nD (oO true (n*sz+v)))⟩ (some 32) (.c (.d (.bool true))))
def pw (j:Nat):Nat:=10 ^ j
theorem Nb (j:Nat):pw (j+1)=10*pw j:=by unfold pw;rw [Zq,Zm]
theorem Oi:pw 0=1:=rfl
theorem WG {j:Nat}(h:j≤9):pw j≤1000000000:=by
 unfold pw;have:=aaF (n:=10) (by decide) h;simpa using this
theorem Ft {u:List UInt8}{j:Nat}{ch:UInt8}{rest:List UInt8}(h:u.drop j=ch::rest):u.take (j+1)=u.take j++[ch]∧u.drop (j+1)=rest∧j<u.length:=by
 have hlt:j<u.length:=by
  apply Zz;intro hc;rw [aa6 (by omega)] at h;cases h
 have e:u.drop j=u[j]::u.drop (j+1):=ZR hlt;rw [e] at h;simp only [Zh] at h;refine⟨?_,h.2,hlt⟩;rw [abj,cn hlt,h.1];rfl
theorem Oz (G:List (List DV))(s0:List UInt8)(hD:ML s0)(hlen:s0.length≤1000000000)(Y:AV)(hY:Y.bu=true) :
 ∀ c:Ctx,c.P=Tryz.prog→c.G=G→c.n=34→NW c Y→AW c none Ge ⟨fun t=>[Y,.c (.ptr 0 0)].getD t .undef,jQ s0 .nilsl⟩ 0 (fun x s _=>x=.normal∧s.lv=jQ [] (nD (oO (!s0.isEmpty) (cD s0 0)))):=by
 rintro⟨_,Gc,w0,F0,W0,_,js,β0⟩ rfl rfl rfl hy;unfold Ge;refine aag ?_
 refine aap (fun (p:List UInt8 × Nat × Bool × Nat)=>⟨bq [(0,Y),(1,.c (.ptr 0 0))],jQ p.1 (nD (oO p.2.2.1 p.2.1))⟩) 0
  (fun p=>ML p.1∧p.2.2.2+p.1.length≤1000000000∧p.2.1<4294967296 ^ p.2.2.2∧cD p.1 p.2.1=cD s0 0∧(p.2.2.1=false→p.2.1=0∧p.1=s0)∧(p.2.2.1=true→s0≠[]))
  (fun p=>p.1.length) (s0,0,false,0) (Le.mk' _ (by simp [oO,nD]) (o9 _ _) (by simp [hY])) (by simp;exact⟨hD,hlen⟩) ?_
 rintro⟨u,n,st,L⟩ ⟨h1,h2,h3,h4,h5,h6⟩;simp only at h1 h2 h3 h4 h5 h6;refine aaa fun K hK=>aab ?_
 by_cases hu:u=[]
 ·subst hu;refine aaj (aan ?_);simp;have e1:n=cD s0 0:=h4
  have e2:st = !s0.isEmpty:=by
   cases st with
   | true=>have:=h6 rfl;cases s0 <;> simp_all
   | false=>have:=(h5 rfl).2;simp [← this]
  rw [← e1,← e2]
 have hu0:0<u.length:=List.length_pos_iff.2 hu
 have hs0:s0≠[]:=by
  cases st with
  | true=>exact h6 rfl
  | false=>rw [← (h5 rfl).2];exact hu
 refine aaf (by simp [hu0] <;> omega) (aac (hK _ _ (aag (aab ?_))));refine aaa fun K hK=>?_
 have fin:∀ (j:Nat) (fr:Nat→AV) (κ:Nat),0<j→j≤9→j≤u.length→fr 0=Y→fr 1=.c (.ptr 0 0)→fr 3=.c (.d (.int .u32 (cD (u.take j) 0)))→fr 4=.c (.d (.int .u32 (pw j)))→K ⟨fr,jQ (u.drop j) (nD (oO st n))⟩ κ:=by
  intro j fr κ hj0 hj9 hju f0 f1 f3 f4
  have hvj:cD (u.take j) 0<pw j:=by
   unfold pw;have:=ri (l:=u.take j) (fun c hc=>h1 c (Z6 hc))
   rwa [Zc,ZF hju] at this
  have hpj:=WG hj9
  have hdec:cD (u.drop j) (n*pw j+cD (u.take j) 0)=cD s0 0:=by
   rw [← h4]
   conv=>rhs;rw [← abw j u]
   rw [xR,jZ (u.take j) n,Zc,ZF hju];rfl
  have hbig:n*pw j+cD (u.take j) 0<4294967296 ^ (L+1):=by
   rw [Zq];have g1:n*pw j+cD (u.take j) 0<(n+1)*pw j:=by rw [Y3];omega
   exact ZS g1 (aa0 (by omega) (by omega))
  generalize cD (u.take j) 0=v at *
  generalize hpw:pw j=q at *
  apply hK;refine aaa fun K2 hK2=>?_;have hd:∀ t:Nat,t<34→∀ d,some t=some d→d<34:=fun t ht d h=>by cases h;exact ht
  refine AW.N7 (s':=⟨aD (aD (aD (aD (aD fr 29 Y) 30 (.c (.d (.int .u32 v)))) 31 (.c (.d (.int .u32 q)))) 32 (.c (.d (.bool true)))) 33 (.c (.d (.bool false))),jQ (u.drop j) (nD (oO true (n*q+v)))⟩) ?_ ?_
  ·refine⟨⟨aD fr 29 Y,jQ (u.drop j) (nD (oO st n))⟩,?_,⟨aD (aD fr 29 Y) 30 (.c (.d (.int .u32 v))),jQ (u.drop j) (nD (oO st n))⟩,?_,⟨aD (aD (aD fr 29 Y) 30 (.c (.d (.int .u32 v)))) 31 (.c (.d (.int .u32 q))),jQ (u.drop j) (nD (oO st n))⟩,?_,
    ⟨aD (aD (aD (aD fr 29 Y) 30 (.c (.d (.int .u32 v)))) 31 (.c (.d (.int .u32 q)))) 32 (.c (.d (.bool true))),jQ (u.drop j) (nD (oO true (n*q+v)))⟩,?_,⟨aD (aD (aD (aD (aD fr 29 Y) 30 (.c (.d (.int .u32 v)))) 31 (.c (.d (.int .u32 q)))) 32 (.c (.d (.bool true)))) 33 (.c (.d (.bool false))),jQ (u.drop j) (nD (oO true (n*q+v)))⟩,?_,rfl⟩
   ·exact sH.plain (κ:=0) (x:=fr 0) (hd 29 (by decide)) rfl rfl trivial (by rw [f0];rfl)
   ·exact sH.plain (κ:=0) (x:=fr 3) (hd 30 (by decide)) rfl rfl trivial (by rw [f3];rfl)
   ·exact sH.plain (κ:=0) (x:=fr 4) (hd 31 (by decide)) rfl rfl trivial (by rw [f4];rfl)
   ·exact hy (u.drop j) n st v q L _ _ _ _ (by omega) (by omega) (fun h=>(h5 h).1) (by omega) h3 rfl rfl rfl rfl rfl (by simp) (by simp) (by simp)
   ·exact sH.plain (κ:=0) (x:=.c (.d (.bool false))) (hd 33 (by decide)) rfl rfl trivial rfl
  ·simp only [pR];apply hK2;refine aaj (aac ?_);simp only [um,pR];refine⟨(u.drop j,n*q+v,true,L+1),Le.mk' _ rfl (o9 _ _) (by simp [hY,f0,f1]),⟨fun c hc=>h1 c (aaJ hc),by simp;omega,hbig,hdec,(by intro h;cases h),(fun _=>hs0)⟩,by simp;omega⟩
 refine aab ?_;refine aag ?_
 refine aap (fun (j:Nat)=>⟨bq [(0,Y),(1,.c (.ptr 0 0)),(3,.c (.d (.int .u32 (cD (u.take j) 0)))),(4,.c (.d (.int .u32 (pw j:Int)))),(5,.c (.d (.int .i64 j)))],jQ (u.drop j) (nD (oO st n))⟩) 0
  (fun j=>j≤9∧j≤u.length) (fun j=>9 - j) 0 (Le.mk' _ (by simp) (o9 _ _) (by simp [hY,cD,Oi])) (by simp) ?_
 rintro j ⟨hj,hju⟩
 have hvj:cD (u.take j) 0<pw j:=by
  unfold pw;have:=ri (l:=u.take j) (fun c hc=>h1 c (Z6 hc))
  rwa [Zc,ZF hju] at this
 have hpj:=WG hj;refine aaa fun K2 hK2=>aaa fun K3 hK3=>?_
 by_cases hj9:j<9
 ·have hj9':(j:Int)<9:=by omega
  by_cases hje:j=u.length
  ·subst hje;refine aaw hj9 hj9' (hK3 _ _ ?_);refine aaj (aan ?_);simp;have:=fin u.length;simp at this;refine this _ _ hu0 hj (by simp) (by simp) (by simp) (by simp)
  ·have hlt:j<u.length:=by omega
   obtain⟨ch,rest,hcr⟩:∃ ch rest,u.drop j=ch::rest:=⟨u[j],u.drop (j+1),ZR hlt⟩
   obtain⟨t1,t2,_⟩:=Ft hcr;have hch:48≤ch.toNat∧ch.toNat≤57:=h1 ch (aaJ (by rw [hcr];exact ZP ..));have hlt':0<u.length - j:=by omega
   refine aaB hj9 hj9' hlt hlt' (hK3 _ _ ?_);refine aaf (by simp [hlt,hlt'] <;> omega) (aac (hK2 _ _ (aaa fun K2 hK2=>aag (aaa fun K3 hK3=>?_))));have hpj':=WG (j:=j+1) (by omega);have hps:=Nb j;obtain⟨x,hx⟩:∃ x,ch.toNat - 48=x:=⟨_,rfl⟩
   obtain⟨v,hv⟩:∃ v,cD (u.take j) 0=v:=⟨_,rfl⟩
   obtain⟨v',hv'⟩:∃ v',cD (u.take (j+1)) 0=v':=⟨_,rfl⟩
   obtain⟨q',hq'⟩:∃ q',pw (j+1)=q':=⟨_,rfl⟩
   have hvv:v'=10*v+x:=by rw [← hv',t1,xR,hv,← hx];rfl
   rw [hq'] at hps hpj';rw [hv] at hvj
   have w1:IntKind.u8.wrap ((ch.toNat:Int) - 48)=(x:Int):=by
    rw [c9 ⟨by simp only [CF];omega,by simp only [qd];omega⟩];omega
   have w2:IntKind.u32.wrap (x:Int)=(x:Int):=uJ (by omega) (by omega);have w3:IntKind.u32.wrap (10*(v:Int))=10*(v:Int):=uJ (by omega) (by omega);have w4:IntKind.u32.wrap (10*(v:Int)+(x:Int))=(v':Int):=by rw [uJ (by omega) (by omega)];omega
   have w5:IntKind.u32.wrap (10*(pw j:Int))=(q':Int):=by rw [uJ (by omega) (by omega)];omega
   have w6:IntKind.i64.wrap ((j:Int)+1)=((j+1:Nat):Int):=by rw [c9 ⟨by simp only [CF];omega,by simp only [qd];omega⟩];omega
   refine aae ?_;simp [hcr,hv,w1,w2,w3,w4,w5]
   repeat refine ah ?_
   apply hK3;refine aaw hcr @aj.eq_1 (hK2 _ _ ?_);refine aax 0 ?_;refine aae ?_;simp [w6];refine⟨j+1,Le.mk' _ (by simp [t2]) (o9 _ _) (by simp [hY,hv',hq']),?_,?_⟩
   ·omega
   ·omega
 ·have hj':j=9:=by omega
  subst hj';refine AW.l0 (hK3 _ _ ?_);refine aaj (aan ?_);simp;refine fin 9 _ _ (by omega) (by omega) hju (by simp) (by simp) (by simp) (by simp)
end Go.Am
namespace Go.Am
open Go.Proofs Go.Am.Ty N
variable {P:Program}{G:List (List DV)}{lv:Key→LB}{F:Nat→Prop}{β:Key→Nat}{w:World}
theorem Jb:Tryz.f330.body=some Ge:=rfl
theorem FV (s:ByteArray)(w:World):Calls Tryz.prog 279 #[.string s] w fun e w'=>e=.returned (.func (.func 330) #[] #[.pointer (some ⟨w.heap.size,0,none⟩)])∧w'=w.alloc (.cells #[.string s] 9):=by
 have hmf:∀ (fn:Fn) (first cap:Array Value) (w:World),(Instr.makeFunc fn first cap).run Tryz.prog w=.ok (.func fn first cap) w:=fun _ _ _ _=>rfl
 go_enter Tryz.func279,Tryz.ntmps279
 go_wp2
 go_ret
 exact⟨rfl,rfl⟩
def Pn (s:ByteArray)(w:World):World:=(w.alloc (.cells #[.slice none 0 0] 222)).alloc (.cells #[.string s] 9)
def MW (s:ByteArray)(w:World):Array Value:=#[.string s,undef,.slice none 0 0,.pointer (some ⟨w.heap.size,0,none⟩),undef,undef,.string s,.func (.func 330) #[] #[.pointer (some ⟨w.heap.size+1,0,none⟩)],undef,undef,undef,undef,undef,undef,undef,undef,undef,undef,undef,undef]
theorem L9 (s:ByteArray)(w:World)(R:Ending→World→Prop)
 (h:(Code.rangeFunc (.tmp 7) #[8,9] Ai yE).wpIn Fence.wide 0 Tryz.prog (fun e a' W=>e=.normal∧∃ D v,a'={ tmps:=MW s w,defers:=[{ target:=.collected D,args:=#[] }] }∧W.heap[D]?=some (.deferred (some []))∧W.cell? ⟨w.heap.size,0,none⟩=some v∧R (.returned v) (W.putObj D (.deferred none))) ⟨MW s w,[]⟩ (Pn s w)) :
 Calls Tryz.prog 226 #[.string s] w R:=by
 refine (callsIn_wide (n:=0)).1 ?_;refine callsIn_of_wp_marks Tryz.func226 rfl trivial ?_ rfl;simp only [Tryz.ntmps226,abu,Zn,aaX,Nat.reduceAdd,Nat.reduceSub,Array.replicate_succ,Array.replicate_zero,List.push_toArray,List.append_toArray,Zt,Z3]
 gi_wp2
 refine⟨trivial,rfl,((callsIn_wide (n:=0)).2 (FV s _)).mono ?_⟩;rintro e w' ⟨rfl,rfl⟩
 gi_wp2
 refine wpIn_mono (show (Code.rangeFunc (.tmp 7) #[8,9] Ai yE).wpIn Fence.wide 0 Tryz.prog _ _ _ from h) ?_;rintro e a' W ⟨rfl,D,v,rfl,hD,hc,hR⟩;simp only [Exit.inBlock,Exit.then]
 apply_assumption
 unfold MW
 gi_wp2
 refine⟨by simp,.inl ⟨_,_,rfl,run_takeDeferred hD,?_⟩⟩;exact⟨_,results_tmp rfl _ _ _,by simpa using hR⟩
theorem LA{f:FuncId}{fn:Func}{code:Code}{args:List AV}{lv':Key→LB}{κ:Nat}(hf:P.funcs[f]?=some fn) (hb:fn.body=some code) (hl:args.length≤fn.ntmps) (hres:fn.results=#[]){vs:Array Value}(hS:cG (cQ P G w F β lv) F β lv w) (hvl:vs.size=args.length) (hv:∀ i (h:i<args.length) (h':i<vs.size),(Vw.mk F β lv w).av vs[i] args[i])
 (h:AW { cQ P G w F β lv with n:=fn.ntmps } none code ⟨fun t=>args.getD t .undef,lv⟩ κ (fun x s _=>x=.normal∧s.lv=lv')) :
 Calls P f vs w fun e w'=>(∃ v,e=.returned v)∧∃ F' β',cG (cQ P G w F β lv) F' β' lv' w':=by
 refine calls_of_wp hf hb ?_
 let a:Act:={ tmps:=vs++Array.replicate (fn.ntmps - vs.size) undef,defers:=[] }
 have hst:aE { cQ P G w F β lv with n:=fn.ntmps } F β ⟨fun t=>args.getD t .undef,lv⟩ a w:=by
  refine cG.with (c:={ cQ P G w F β lv with n:=fn.ntmps }) hS ?_ rfl (fun t=>?_)
  ·show (vs++Array.replicate (fn.ntmps - vs.size) undef).size=fn.ntmps;simp;omega
  ·show (Vw.mk F β lv w).av ((vs++Array.replicate (fn.ntmps - vs.size) undef).getD t undef) (args.getD t .undef)
   by_cases ht:t<args.length
   ·have h1:args.getD t .undef=args[t]:=cZ ht
    have h2:(vs++Array.replicate (fn.ntmps - vs.size) undef).getD t undef=vs[t]'(by omega):=by
     rw [ZA,abY (by omega),ZL (by omega)];rfl
    rw [h1,h2];exact hv t ht (by omega)
   ·have h1:args.getD t .undef=.undef:=c8 ht
    have h2:(vs++Array.replicate (fn.ntmps - vs.size) undef).getD t undef=undef:=by
     rw [ZA,abZ (by omega),aa4];split <;> rfl
    rw [h1,h2];rfl
 have hw:=(wpIn_wide (n:=0)).1 (h F β a w hst);refine wp_mono hw fun e a' w' hp=>?_;obtain⟨e',s',κ',F',β',⟨rfl,hq⟩,hs',he⟩:=hp
 cases he
 exact⟨hs'.defers,.tuple #[],by simp [results,hres],⟨_,rfl⟩,F',β',hq ▸ hs'.wu⟩
theorem uf (u:List UInt8)(d:DV):cN (jQ u d):=by
 intro k;rcases JV u d k with h|⟨T,cs,h⟩ <;> rw [h] <;> rfl
theorem Mg (s:List UInt8)(d:DV):aD (aD (aD (aD (fun _=>LB.hole) 1 (.cells true false 222 [.d d])) 1 (.cells false false 222 [.d d])) 0 (.cells true false 9 [.d (.str s)])) 0 (.cells false false 9 [.d (.str s)])=jQ s d:=by
 funext k;unfold jQ aD
 by_cases h0:k=0
 ·subst h0;simp
 ·by_cases h1:k=1 <;> simp [h0,h1]
theorem My{s:List UInt8}(hlv:lv=fun _=>.hole) (hS:cG (cQ P G w F β lv) F β lv w) (hs:s.length≤9223372036854775807) :
 ∃ β2:Key→Nat,cG (cQ P G w F β lv) F β2 (jQ s .nilsl) (Pn ⟨s.toArray⟩ w)∧β2 1=w.heap.size∧β2 0=w.heap.size+1:=by
 subst hlv
 have h1:=aE.alloc (κ:=1) hS rfl (arr:=#[.slice none 0 0]) 222 (cs:=[.d .nilsl]) (by simp) (fun i p q=>by
  have:i=0:=by simp at p;omega
  subst this;exact⟨.nilsl,rfl⟩)
 have h2:=h1.nu (k:=1) (T:=222) (cs:=[.d .nilsl]) false (by simp only [az])
 have h3:=aE.alloc (κ:=0) h2 (by simp [aD]) (arr:=#[.string ⟨s.toArray⟩]) 9 (cs:=[.d (.str s)]) (by simp) (fun i p q=>by
  have:i=0:=by simp at p;omega
  subst this;refine⟨?_,rfl⟩;have:=Rd.str (M:=(Vw.mk F (aD β 1 w.heap.size) (aD (aD (fun _=>LB.hole) 1 (.cells true false 222 [.d .nilsl])) 1 (.cells false false 222 [.d .nilsl])) (w.alloc (.cells #[.slice none 0 0] 222))).mem) ⟨s.toArray⟩ (by simpa using hs);simpa using this)
 have h4:=h3.nu (k:=0) (T:=9) (cs:=[.d (.str s)]) false (by simp only [az]);refine⟨aD (aD β 1 w.heap.size) 0 (w.alloc (.cells #[.slice none 0 0] 222)).heap.size,?_,?_,?_⟩
 ·have:=h4.wu;rw [← Mg s .nilsl];exact this
 ·simp [aD]
 ·simp [aD]
theorem pW (G:List (List DV))(s:List UInt8)(hD:ML s)(hlen:s.length≤1000000000):aa Tryz.prog G 226 [.c (.d (.str s))] (nK .u32 (oO (!s.isEmpty) (cD s 0))):=by
 intro F β w vs hS hl hv;have hlv:bn [] []=fun _=>LB.hole:=jV
 obtain⟨u,rfl,hu⟩:=args1 hl hv;rw [Vw.iR hu];obtain⟨β2,hS2,e1,e0⟩:=My hlv hS (s:=s) (by omega);refine L9 _ w _ ?_;refine wpIn_rangeFunc ?_;intro fn hfn;obtain⟨rec,hrec⟩:∃ rec:Loop,rec={ state:=.ready,pending:=none,fn,tmps:=MW ⟨s.toArray⟩ w,params:=#[8,9],assign:=Ai,body:=yE,defers:=(Pn ⟨s.toArray⟩ w).heap.size }:=⟨_,rfl⟩
 have hsz:(Pn ⟨s.toArray⟩ w).heap.size=w.heap.size+2:=by simp [Pn]
 obtain⟨w1,hw1⟩:∃ w1,((Pn ⟨s.toArray⟩ w).alloc (.deferred (some []))).alloc (.loop rec)=w1:=⟨_,rfl⟩
 have hD1:w1.heap[w.heap.size+2]?=some (.deferred (some [])):=by
  rw [← hw1,heap_alloc,if_neg (by simp [hsz]),heap_alloc,if_pos hsz.symm]
 have hL1:w1.heap[w.heap.size+3]?=some (.loop rec):=by
  rw [← hw1,heap_alloc,if_pos (by simp [hsz])]
 have hw1s:w1.heap.size=w.heap.size+4:=by rw [← hw1];simp [hsz]
 have hS3:cG (cQ Tryz.prog G w F β (bn [] [])) F β2 (jQ s .nilsl) w1:=by
  rw [← hw1];exact (hS2.sJ _).sJ _
 have hS4:cG (cQ Tryz.prog G w1 F β2 (jQ s .nilsl)) F β2 (jQ s .nilsl) w1:=aE.uT hS3 (uf _ _);have hFw:∀ b,F b→b<w.heap.size:=fun b hb=>(hS.mh b hb).1
 have hnot:∀ b,w.heap.size+2≤b→∀ k,(jQ s .nilsl k).live=true→β2 k≠b:=by
  intro b hb k hk he
  by_cases h1:k=1
  ·subst h1;omega
  ·by_cases h0:k=0
   ·subst h0;omega
   ·rw [show jQ s .nilsl k=.hole by unfold jQ aD;simp [h0,h1]] at hk;cases hk
 refine⟨w.heap.size+3,[{ target:=.collected (w.heap.size+2),args:=#[] }],w1,{ target:=.fn (.func 330) #[.pointer (some ⟨w.heap.size+1,0,none⟩)],args:=#[.func (.yield (w.heap.size+3)) #[] #[]] },w1,330,
  #[.func (.yield (w.heap.size+3)) #[] #[]]++#[.pointer (some ⟨w.heap.size+1,0,none⟩)],w1,?_,?_,fun _ _=>trivial,?_,(fun h=>by simp [Fence.wide] at h),?_⟩
 ·have:=run_enterLoop_outer (P:=Tryz.prog) (w:=Pn ⟨s.toArray⟩ w) fn (MW ⟨s.toArray⟩ w) #[8,9] Ai yE;rw [← hrec,hw1,hsz] at this;exact this
 ·have hg:(Act.eval ⟨MW ⟨s.toArray⟩ w,[]⟩ (.tmp 7))=.func (.func 330) #[] #[.pointer (some ⟨w.heap.size+1,0,none⟩)]:=rfl;simp only [resolve,hg];simp [go_sem]
 ·have:=iN (P:=Tryz.prog) (f:=330) (by kernel_rfl) (#[.func (.yield (w.heap.size+3)) #[] #[]]++#[.pointer (some ⟨w.heap.size+1,0,none⟩)]) w1;simpa [invoke,go_sem] using this
 ·refine (callsIn_wide (n:=0)).2 ?_
  let Y:AV:=.c (.d (.func (.yield (w.heap.size+3)) [] []))
  have hit:=LA (κ:=0) (lv':=jQ [] (nD (oO (!s.isEmpty) (cD s 0)))) (args:=[Y,.c (.ptr 0 0)]) (vs:=#[.func (.yield (w.heap.size+3)) #[] #[]]++#[.pointer (some ⟨w.heap.size+1,0,none⟩)]) Tryz.func330 Jb (by rw [Tryz.ntmps330];simp) rfl hS4 rfl (fun i p q=>by
   have:i=0∨i=1:=by simp at p;omega
   rcases this with rfl|rfl
   ·exact⟨.func _ _ _ _ _ rfl rfl (fun i h=>absurd h (ZN i)) (fun i h=>absurd h (ZN i)),rfl⟩
   ·refine⟨?_,rfl⟩;simp only [Vw.de,TI,e0];rfl) (Oz G s hD hlen Y rfl _ rfl rfl rfl ?_)
  ·refine hit.mono fun e w3 he=>?_;obtain⟨⟨v,rfl⟩,F3,β3,hX⟩:=he;have hold:∀ b,w.heap.size+2≤b→b<w1.heap.size→w3.heap[b]?=w1.heap[b]?:=fun b h1 h2=>hX.old b h2 (fun⟨k,hk,he⟩=>hnot b h1 k hk he)
   have hL3:w3.heap[w.heap.size+3]?=some (.loop rec):=(hold _ (by omega) (by omega)).trans hL1;have hD3:w3.heap[w.heap.size+2]?=some (.deferred (some [])):=(hold _ (by omega) (by omega)).trans hD1
   have hF3:∀ b,w.heap.size+2≤b→b<w1.heap.size→¬ F3 b:=by
    intro b h1 h2 hb;rcases (hX.mh _ hb).2 with h|h
    ·have:=hFw _ h;omega
    ·have:w1.heap.size≤b:=h;omega
   have hlv3:∀ b,w.heap.size+2≤b→b<w1.heap.size→∀ k,(jQ [] (nD (oO (!s.isEmpty) (cD s 0))) k).live=true→β3 k≠b:=by
    intro b h1 h2 k hk he;rcases hX.eM (k:=k) hk with h|⟨j,hj,hj2⟩
    ·have:w1.heap.size≤β3 k:=h;omega
    ·exact hnot b h1 j hj (hj2.trans he)
   have hc1:β3 1=w.heap.size:=by
    have h0:jQ s DV.nilsl 1≠.hole:=by simp
    rcases hX.keep 1 h0 with h|⟨h,_⟩
    ·simp at h
    ·rw [h];exact e1
   have q1:aE { cQ Tryz.prog G w F β (bn [] []) with n:=0 } F3 β3 ⟨fun _=>.junk,jQ [] (nD (oO (!s.isEmpty) (cD s 0)))⟩ ⟨#[],[]⟩ w3:=hS3.AO hX;have q2:=q1.BB (.loop { rec with state:=.exhausted }) hL3 (fun _ _ _ h=>by cases h) (hF3 _ (by omega) (by omega)) (hlv3 _ (by omega) (by omega)) (.inl (by show w.heap.size≤_;omega));have hD4:(w3.putObj (w.heap.size+3) (.loop { rec with state:=.exhausted })).heap[w.heap.size+2]?=some (.deferred (some [])):=(abW (by omega)).trans hD3;have q3:=q2.BB (.deferred none) hD4 (fun _ _ _ h=>by cases h) (hF3 _ (by omega) (by omega)) (hlv3 _ (by omega) (by omega)) (.inl (by show w.heap.size≤_;omega));have hb:=q2.bx 1;unfold Vw.bx at hb;simp only [OR] at hb;obtain⟨arr,b1,b2,b3,_⟩:=hb;have hpos:0<arr.size:=by simp at b2;omega
   have h0:=b3 0 (by simp) hpos;simp only [Zx] at h0;refine⟨none,w3.putObj (w.heap.size+3) (.loop { rec with state:=.exhausted }),?_,rfl,w.heap.size+2,arr[0],rfl,hD4,?_,arr[0],F3,β3,rfl,?_,?_⟩
   ·have:=run_endLoop (P:=Tryz.prog) hL3 (by rw [hrec];simp);rw [this,hrec]
   ·rw [hc1] at b1;simp only [World.cell?];rw [b1];simp [hpos]
   ·refine⟨fun k=>?_,fun k k' h=>?_,fun _=>trivial,rfl,rfl,q3.mh,q3.F0,q3.old,q3.ge,q3.pK,fun k h=>?_,q3.Ht,q3.Et⟩
    ·unfold Vw.bx;simp only [hlv]
    ·rw [hlv] at h;cases h
    ·exact absurd (by rw [hlv];rfl) h
   ·have hR:∀ x,(Vw.mk F3 β3 (jQ [] (nD (oO (!s.isEmpty) (cD s 0)))) (w3.putObj (w.heap.size+3) (.loop { rec with state:=.exhausted }))).cv arr[0] (.d x)→(Vw.mk F3 β3 (bn [] []) ((w3.putObj (w.heap.size+3) (.loop { rec with state:=.exhausted })).putObj (w.heap.size+2) (.deferred none))).av arr[0] (.c (.d x)):=by
     rintro x ⟨g1,g2⟩;refine⟨Rd.mono (gm (fun _ h=>h) (fun b hb=>?_)) g1,g2⟩;refine abW (fun e=>?_);subst e;exact hF3 _ (by omega) (by omega) hb
    rw [← OQ];exact hR _ h0
  ·intro u n st v sz L fr ops o cl hv hz hst hL hn hdst hg ho hcal hargs f29 f30 f31;rw [← hdst];refine sH.yield (xs:=[.c (.d (.int .u32 v)),.c (.d (.int .u32 sz))]) (fun d hd=>?_) hg ho hcal f29 (by rw [hargs];simp [au.val,f30,f31]) (by rw [hrec];rfl) hL1 (fun k hk=>hnot _ (by omega) k hk) (uf _ _) ?_
   ·rw [hdst] at hd;cases hd;rw [Tryz.ntmps330];decide
   intro F' β' w' vs' hX hXe hl' hvs hav;obtain⟨x,y,rfl,hx,hy⟩:=args2 hvs hav;have ht:(rec.params.zip #[x,y]).foldl (fun tmps (t,a)=>tmps.setIfInBounds t a) rec.tmps=((MW ⟨s.toArray⟩ w).setIfInBounds 8 x).setIfInBounds 9 y:=by rw [hrec];simp only [List.zip_toArray,List.zip_cons_cons,List.zip_nil_right,List.foldl_toArray,abc,List.foldl_nil]
   rw [ht]
   have hb1:β' 1=w.heap.size:=by
    have h0:jQ s DV.nilsl 1≠.hole:=by simp
    rcases hX.keep 1 h0 with h|⟨h,_⟩
    ·simp at h
    ·rw [h];exact e1
   have hFl:¬ F' (w.heap.size+3):=by
    intro hb;rcases (hX.mh _ hb).2 with h|h
    ·have:=hFw _ h;omega
    ·have:w1.heap.size≤w.heap.size+3:=h;omega
   let fr0:Nat→AV:=fun t=>if t=3 then .c (.ptr 1 0) else if t=8 then .c (.d (.int .u32 v)) else if t=9 then .c (.d (.int .u32 sz)) else .junk
   have hval:val 4294967296 (dO (oO st n))=n:=by
    cases st with
    | false=>have:=hst rfl;subst this;rfl
    | true=>exact eJ (by decide) n
   have hlenO:(dO (oO st n)).length≤L:=by
    cases st with
    | false=>simp [oO,dO]
    | true=>exact di (by decide) hn
   refine DN (n:=20) (κ:=0) (fr:=fr0) (fr2:=aD (aD fr0 4 (.c (.d (.int .u32 v)))) 5 (.c (.d (.int .u32 sz)))) hXe (uf _ _) hl' (by rw [hrec]) (by rw [hrec]) (by simp [MW]) (fun t=>?_) hFl ?_ ?_
   ·show (Vw.mk F' β' _ w').av _ (if t=3 then .c (.ptr 1 0) else if t=8 then .c (.d (.int .u32 v)) else if t=9 then .c (.d (.int .u32 sz)) else .junk)
    by_cases h3:t=3
    ·subst h3;simp only [if_true];have:(((MW ⟨s.toArray⟩ w).setIfInBounds 8 x).setIfInBounds 9 y).getD 3 undef=.pointer (some ⟨w.heap.size,0,none⟩):=rfl;rw [this];refine⟨?_,rfl⟩;simp only [Vw.de,OR,hb1]
    ·by_cases h8:t=8
     ·subst h8;exact hx
     ·by_cases h9:t=9
      ·subst h9;exact hy
      ·simp only [h3,h8,h9,if_false];trivial
   ·intro c hP hG hn' _;rw [hrec];exact JF G v sz _ _ fr0 rfl rfl c hP hG hn'
   ·intro c hP hG hn' _;rw [hrec];have:=I0 G v sz hv hz (oO st n) (nD (oO st n)) (OQ _) (by omega) L (by omega) (by rw [hval];exact hn) u (some (w.heap.size+3)) (aD (aD fr0 4 (.c (.d (.int .u32 v)))) 5 (.c (.d (.int .u32 sz)))) (by simp [aD,fr0]) (by simp [aD]) (by simp [aD]) c hP hG hn';rw [hval] at this;exact this
end Go.Am
namespace Go.Am
open Go.Proofs N
variable {x:AV}{V V':Vw}{v:Value}{us:List AV}
theorem u5(hm:∀ a v,V.mem a v→V'.mem a v){x:CV}(hx:x.pure=true) (h:V.cv v x):V'.cv v x:=by
 cases x with
 | d x=>exact⟨Rd.mono hm h.1,h.2⟩
 | junk=>exact h
 | _=>cases hx
theorem mG(hm:∀ a v,V.mem a v→V'.mem a v)(hx:x.kE=true) (h:V.kF v x):V'.kF v x:=by
 cases x with
 | c x=>exact u5 hm hx h
 | agg cs=>
  obtain⟨arr,h1,h2,h3⟩:=h;refine⟨arr,h1,h2,fun i p q=>u5 hm ?_ (h3 i p q)⟩;simp only [AV.kE,YU] at hx;exact hx _ (cq p)
 | tup l=>exact h.elim
 | undef=>exact h
 | junk=>trivial
theorem vo(hm:∀ a v,V.mem a v→V'.mem a v)(hx:x.pure=true) (h:V.av v x):V'.av v x:=by
 cases x with
 | tup l=>
  obtain⟨arr,h1,h2,h3⟩:=h;refine⟨arr,h1,h2,fun i p q=>mG hm ?_ (h3 i p q)⟩;simp only [AV.pure,YU] at hx;exact hx _ (cq p)
 | c x=>
  have hx':(AV.c x).kE=true:=hx;exact mG (x:=.c x) hm hx' h
 | agg cs=>
  have hx':(AV.agg cs).kE=true:=hx;exact mG (x:=.agg cs) hm hx' h
 | undef=>exact h
 | junk=>trivial
theorem bO.uQ {P:Program}{G:List (List DV)}{f:FuncId}{lv:Key→LB}(hus:∀ u∈us,u.pure=true) (hx:x.pure=true) (h:aa P G f us x):bO P G f us lv (.ret x lv):=by
 intro F β w vs hS hl hv;have hlv:bn [] []=fun _=>LB.hole:=jV
 have hS0:cG (cQ P G w F β (bn [] [])) F β (bn [] []) w:=by
  rw [hlv];exact⟨fun k=>trivial,fun k k' h=>(by cases h),fun _=>trivial,rfl,rfl,fun b hb=>⟨(hS.mh b hb).1,.inl hb⟩,fun _ hb=>hb,fun _ _ _=>rfl,aW _,hS.pK,fun k hk=>absurd rfl hk,fun _=>aW _,⟨rfl,rfl⟩⟩
 refine (h F β w vs hS0 hl (fun i p q=>vo (V:=Vw.mk F β lv w) (V':=Vw.mk F β (bn [] []) w) (fun _ _ h=>h) (hus _ (cq p)) (hv i p q))).mono fun e w' he=>?_;obtain⟨v,F',β',rfl,hX,hav⟩:=he
 have hold:∀ b,b<w.heap.size→w'.heap[b]?=w.heap[b]?:=fun b hb=>hX.old b hb (by
  rintro⟨k,hk,_⟩;rw [hlv] at hk;cases hk)
 have hFl:∀ b,F' b→F b∨w.heap.size≤b:=fun b hb=>(hX.mh b hb).2
 refine⟨v,F',β,rfl,?_,vo (V:=Vw.mk F' β' (bn [] []) w') (V':=Vw.mk F' β lv w') (fun _ _ h=>h) hx hav⟩;refine aE.step (hoo:=hX.Et) (c:={ cQ P G w F β lv with n:=0 }) (s:=⟨fun _=>.junk,lv⟩) hS hX.F0 (fun b hb=>hold b (hS.mh b hb).1) (fun k=>LB.bl _) (fun _ _ _=>rfl) hX.Ht ?_ hS.inj (fun b hb=>(hFl b hb).imp id fun h=>⟨(hX.mh b hb).1,h⟩) hX.ge (fun b hb _=>hold b hb);intro k hK;have hb:=hS.bx k
 have key:(lv k).live=true→(Vw.mk F' β lv w').bx { cQ P G w F β lv with n:=0 } k:=fun hl=>
  Vw.bp hb hK rfl rfl (hold _ (hS.fO hl)) (fun _ hf=>by
   rcases hFl _ hf with h|h
   ·exact h
   ·have:=hS.fO (k:=k) hl;exact absurd h (by show ¬ w.heap.size≤β k;omega))
 cases e:lv k with
 | cells own fz T cs=>
  cases fz with
  | false=>exact key (by rw [e];rfl)
  | true=>
   unfold Vw.bx at hb ⊢;simp only [e] at hb ⊢;obtain⟨arr,b1,b2,b3,b4,b5⟩:=hb;simp only [if_true] at b4 ⊢;exact⟨arr,by rw [hold _ (hS.mh _ b4).1];exact b1,b2,fun i p q=>hK.cv (b3 i p q),hX.F0 _ b4,b5⟩
 | map own es=>exact key (by rw [e];rfl)
 | hole=>unfold Vw.bx;simp only [e]
 | dead=>unfold Vw.bx;simp only [e]
 | bk=>unfold Vw.bx;simp only [e]
noncomputable def zP (f:Nat)(x:Spec)(t:Tb Spec):Tb Spec:=t.set .body x (pathOf f)
theorem mj (f j:Nat)(x:Spec)(t:Tb Spec):(zP f x t).get .body (pathOf j)=if j=f then x else t.get .body (pathOf j):=by
 have:Decidable (pathOf j=pathOf f):=Classical.propDecidable _;unfold zP;rw [Tb.kQ]
 by_cases e:j=f
 ·subst e;simp
 ·rw [if_neg e,if_neg (fun h=>e (qn h))]
def J9:List UInt8→Bool
 | []=>true
 | c::l=>(Nat.ble 48 c.toNat && Nat.ble c.toNat 57) && J9 l
theorem EK:∀ {l:List UInt8},J9 l=true→ML l
 | [],_=>fun c hc=>by cases hc
 | c::l,h=>by
  simp only [J9,cy] at h;intro d hd;rcases List.mem_cons.1 hd with rfl|hd
  ·exact⟨Ze h.1.1,Ze h.1.2⟩
  ·exact EK h.2 d hd
def GX:List AV→Option AV
 | [.c (.d (.str s))]=>bif J9 s && Nat.ble s.length 1000000000 then some (nK .u32 (oO (!s.isEmpty) (cD s 0))) else none
 | _=>none
theorem Kq (m:Int)(h:GX us=some x) (lv:Key→LB):bO Tryz.prog (GG m) 226 us lv (.ret x lv):=by
 unfold GX at h;split at h
 ·rename_i s
  cases hb:J9 s && Nat.ble s.length 1000000000 with
  | false=>rw [hb] at h;cases h
  | true=>
   rw [hb] at h;simp only [cond_true,ai] at h;subst h;simp only [cy] at hb;exact bO.uQ (fun u hu=>by simp at hu;subst hu;rfl) (by simp) (pW (GG m) s (EK hb.1) (Ze hb.2))
 ·cases h
noncomputable def Sd:Tb Spec:=zP 59 .caught (zP 215 (.self MK) (zP 253 (.pure B3) (zP 255 (.pure wY) (zP 175 (.pure A6) (zP 226 (.pure GX) .leaf)))))
theorem tf (f:Nat):Sd.get .body (pathOf f)=if f=59 then .caught else if f=215 then .self MK else if f=253 then .pure B3 else if f=255 then .pure wY else if f=175 then .pure A6 else if f=226 then .pure GX else .body:=by
 unfold Sd;simp only [mj,Tb.dZ]
theorem KM (m:Int):xb Tryz.prog (GG m) Sd 179 where
 pure:=by
  intro f g us x h hg lv ho;rw [tf] at h;split at h
  ·cases h
  split at h
  ·cases h
  split at h
  ·rename_i e;subst e;cases h;exact H6 m hg lv
  split at h
  ·rename_i e;subst e;cases h;exact FA m hg lv
  split at h
  ·rename_i e;subst e;cases h;exact Iz m hg lv
  split at h
  ·rename_i e;subst e;cases h;exact Kq m hg lv
  ·cases h
 wX:=by
  intro f h v t fs cs lv lv' x ht hf ho hc;rw [tf] at h;split at h
  ·rename_i e;subst e;exact Fe m v t fs cs lv lv' x ht hf ho hc
  ·repeat (split at h;· cases h)
   cases h
 wP:=by
  intro f h v t fs cs lv lv' n ht hf ho hc;rw [tf] at h;split at h
  ·rename_i e;subst e;exact F2 m v t fs cs lv lv' n ht hf ho hc
  ·repeat (split at h;· cases h)
   cases h
 Hv:=by
  intro f g h lv k off T cs r ho hok hk hc;rw [tf] at h;split at h
  ·cases h
  split at h
  ·rename_i e;subst e;cases h;exact FT m lv k off T cs r hok hk hc
  ·repeat (split at h;· cases h)
   cases h
 HB:=by
  intro f g h lv k off T cs r ho hok hk hc;rw [tf] at h;split at h
  ·cases h
  split at h
  ·rename_i e;subst e;cases h;exact HX m lv k off T cs r hk hc
  ·repeat (split at h;· cases h)
   cases h
theorem Gp (m:Int)(n:Nat):ke Tryz.prog (GG m) (Rx Tryz.prog (GG m) Sd 179 n):=Gm mixed (KM m) n
end Go.Am
namespace Go.Am
open Go.Proofs
variable {ks:List Key}{x y X':AV}{lv lv':Key→LB}{v:Value}{P:Program}{G:List (List DV)}{f:FuncId}{us:List AV}
def fT (lv:Key→LB):AV→Option (AV × List Key)
 | .tup l=>(jn lv l).map fun p=>(.tup p.1,p.2)
 | x=>fq lv x
theorem AM(h:fT lv x=some (y,ks)):∀ k∈ks,∃ own fz T cs,lv k=.cells own fz T cs:=by
 cases x with
 | tup l=>
  simp only [fT,Y8] at h;obtain⟨⟨ys,ks'⟩,h1,h2⟩:=h;simp only [fy] at h2;obtain⟨rfl,rfl⟩:=h2;exact qk h1
 | c x=>exact uH (x:=.c x) h
 | agg x=>exact uH (x:=.agg x) h
 | undef=>cases h
 | junk=>cases h
theorem Kf {V:Vw}(h:fq lv x=some (y,ks)) (hv:V.av v y):V.kF v y:=by
 cases x with
 | c x=>
  simp only [fq,Y8] at h;obtain⟨p,_,h2⟩:=h;simp only [fy] at h2;obtain⟨rfl,rfl⟩:=h2;exact hv
 | agg cs=>
  simp only [fq,Y8] at h;obtain⟨p,_,h2⟩:=h;simp only [fy] at h2;obtain⟨rfl,rfl⟩:=h2;exact hv
 | _=>cases h
theorem cG.fT {c:Ctx}{F Fz:Nat→Prop}{β:Key→Nat}{s:au}{w:World}(h:cG c F β s.lv w) (hF:∀ b,F b→Fz b) {β':Key→Nat}(ht:Am.fT s.lv x=some (y,ks))
 (hk:∀ k∈ks,Fz (β k)) (hv:(Vw.mk F β s.lv w).av v x):(Vw.mk Fz β' lv' w).av v y:=by
 cases x with
 | tup l=>
  simp only [Am.fT,Y8] at ht;obtain⟨⟨ys,ks'⟩,h1,h2⟩:=ht;simp only [fy] at h2;obtain⟨rfl,rfl⟩:=h2;obtain⟨g1,g2⟩:=uc h1;obtain⟨arr,a1,a2,a3⟩:=hv;refine⟨arr,a1,by omega,fun i p q=>?_⟩;obtain⟨k,h3,h4⟩:=g2 i p (by omega)
  have hx:(Vw.mk F β s.lv w).av arr[i] (l[i]'(by omega)):=by
   have:=a3 i (by omega) q;generalize l[i]'(by omega)=z at this h3
   cases z with
   | tup l=>cases h3
   | _=>exact this
  exact Kf h3 (h.fq hF h3 (fun k' hk'=>hk k' (h4 k' hk')) hx)
 | c x=>exact h.fq (x:=.c x) hF ht hk hv
 | agg cs=>exact h.fq (x:=.agg cs) hF ht hk hv
 | undef=>cases ht
 | junk=>cases ht
theorem aa.Ej{X:AV}(h:bO P G f us (fun _=>.hole) (.ret X lv')) (hd:fT lv' X=some (X',ks)):aa P G f us X':=by
 intro F β w vs hS hl hv;have hlv:bn [] []=fun _=>LB.hole:=jV
 rw [hlv] at hS hv;refine (h F β w vs hS hl hv).mono fun e w' he=>?_;obtain⟨v,F',β',rfl,hX,hav⟩:=he;have hFz:∀ b,F' b→(F' b∨∃ k∈ks,b=β' k):=fun b hb=>.inl hb
 refine⟨v,fun b=>F' b∨∃ k∈ks,b=β' k,β',rfl,?_,?_⟩
 ·rw [hlv];refine⟨fun k=>trivial,fun k k' h=>(by cases h),fun _=>trivial,rfl,rfl,fun b hb=>?_,fun b hb=>.inl (hX.F0 b hb),fun b hb hW=>hX.old b hb (by rintro⟨k,hk,_⟩;cases hk),hX.ge,fun g cs hg=>Rd.mono (gm hFz (fun _ _=>rfl)) (hX.pK g cs hg),fun k hk=>absurd rfl hk,hX.Ht,hX.Et⟩;rcases hb with hb|⟨k,hk,rfl⟩
  ·exact hX.mh b hb
  ·obtain⟨own,fz,T,cs',e⟩:=AM hd k hk;have hlt:β' k<w'.heap.size:=aE.rG hX e
   cases fz with
   | false=>
    refine⟨hlt,?_⟩;rcases hX.eM (k:=k) (by show (lv' k).live=true;rw [e];rfl) with h1|⟨j,hj,_⟩
    ·exact .inr h1
    ·cases hj
   | true=>
    have hb:=hX.bx k;unfold Vw.bx at hb;simp only [e] at hb;obtain⟨arr,b1,b2,b3,b4,b5⟩:=hb;simp only [if_true] at b4;exact hX.mh _ b4
 ·exact cG.fT (s:=⟨fun _=>.junk,lv'⟩) hX hFz hd (fun k hk=>.inr ⟨k,hk,rfl⟩) hav
noncomputable def G9:E2:=fun x lv nx lg=>.done x lv nx []
noncomputable def UY (r:cV):Option AV:=
 cV.rec (motive:=fun _=>Option AV) (fun _ _=>none) (fun x lv _ _=>(fT (aV lv) x).map (·.1)) (fun _ _ _ _=>none) r
theorem aa.G1{ev:er}(hc:ke P G ev)(h:UY (ev f us .leaf 0 [] G9 .tq)=some X'):aa P G f us X':=by
 have h0:cN (aV .leaf):=fun k=>by simp [aV,Tb.dZ,LB.okB]
 have e0:aV .leaf=fun _=>LB.hole:=by funext k;simp [aV,Tb.dZ]
 generalize hr:ev f us .leaf 0 [] G9 .tq=r at h
 cases r with
 | bad n o=>cases h
 | tq d lv nx lg=>cases h
 | done X LV nx lg=>
  rcases hc f us .leaf 0 [] G9 .tq _ hr (fun n o h=>by cases h) h0 with ⟨x,lv',nx',l,q1,q2,_⟩|⟨d,lv',nx',l,q1,_⟩
  ·simp only [G9,cV.done.injEq] at q1;obtain⟨rfl,rfl,_,_⟩:=q1;rw [e0] at q2;have h1:(fT (aV lv') x).map (·.1)=some X':=h;obtain⟨⟨y,ks⟩,h2,h3⟩:=Option.map_eq_some_iff.1 h1;simp only at h3;subst h3;exact aa.Ej q2 h2
  ·cases q1
end Go.Am
namespace Go.Am
variable {fn:Func}{x:AV}{P:Program}{G:List (List DV)}{f:FuncId}{code:Code}{args:List AV}
def dA (c:Ctx)(fn:Func)(x:AV):Ex→au→Nat→Prop
 | .normal,s,_|.ret,s,_=>cM c.P s fn.results.toList=some x
 | _,_,_=>False
def jz (c:Ctx)(fn:Func)(x:AV):Ex→au→Nat→Prop
 | .normal,s,_|.ret,s,_=>∃ X ks,cM c.P s fn.results.toList=some X∧fT s.lv X=some (x,ks)
 | _,_,_=>False
theorem aa.KQ(hf:P.funcs[f]?=some fn) (hb:fn.body=some code) (hl:args.length≤fn.ntmps)
 (h:∀ c:Ctx,c.P=P→c.G=G→c.n=fn.ntmps→c.js=(fun _=>.hole)→AW c none code ⟨fun t=>args.getD t .undef,fun _=>.hole⟩ 0 (jz c fn x)):aa P G f args x:=by
 intro F β w vs hS hvl hv;have hlv:bn [] []=fun _=>LB.hole:=jV
 rw [hlv] at hS hv;refine xC hf hb hl hS hvl hv (h _ rfl rfl rfl rfl) (fun e s κ hq=>by cases e <;> first|exact .inl rfl|exact .inr rfl|exact hq.elim) fun e s' κ F' β' a' w' hq hX0=>?_;obtain⟨X,ks,h0,hd⟩:∃ X ks,cM P s' fn.results.toList=some X∧fT s'.lv X=some (x,ks):=by cases e <;> first|exact hq|exact hq.elim
 obtain⟨v,h4,hav⟩:=tg hX0 h0;have hX:cG (cQ P G w F β (fun _=>.hole)) F' β' s'.lv w':=hX0.wu;have hFz:∀ b,F' b→(F' b∨∃ k∈ks,b=β' k):=fun b hb=>.inl hb
 refine⟨hX0.defers,v,h4,v,fun b=>F' b∨∃ k∈ks,b=β' k,β',rfl,?_,?_⟩
 ·rw [hlv];refine⟨fun k=>trivial,fun k k' h=>(by cases h),fun _=>trivial,rfl,rfl,fun b hb=>?_,fun b hb=>.inl (hX.F0 b hb),fun b hb hW=>hX.old b hb (by rintro⟨k,hk,_⟩;cases hk),hX.ge,fun g cs hg=>Rd.mono (gm hFz (fun _ _=>rfl)) (hX.pK g cs hg),fun k hk=>absurd rfl hk,hX.Ht,hX.Et⟩;rcases hb with hb|⟨k,hk,rfl⟩
  ·exact hX.mh b hb
  ·obtain⟨own,fz,T,cs',e⟩:=AM hd k hk;have hlt:β' k<w'.heap.size:=aE.rG hX e
   cases fz with
   | false=>
    refine⟨hlt,?_⟩;rcases hX.eM (k:=k) (by show (s'.lv k).live=true;rw [e];rfl) with h1|⟨j,hj,_⟩
    ·exact .inr h1
    ·cases hj
   | true=>
    have hb:=hX.bx k;unfold Vw.bx at hb;simp only [e] at hb;obtain⟨arr,b1,b2,b3,b4,b5⟩:=hb;simp only [if_true] at b4;exact hX.mh _ b4
 ·rw [hlv];exact cG.fT (s:=⟨fun _=>.junk,s'.lv⟩) hX hFz hd (fun k hk=>.inr ⟨k,hk,rfl⟩) hav
theorem dA.d {c:Ctx}{e:Ex}{s:au}{κ:Nat}(hx:fT s.lv x=some (x,[])) (h:dA c fn x e s κ):jz c fn x e s κ:=by
 cases e <;> first|exact⟨x,[],h,hx⟩|exact h.elim
theorem aa.PU(hf:P.funcs[f]?=some fn) (hb:fn.body=some code) (hl:args.length≤fn.ntmps)
 (hx:∀ lv,fT lv x=some (x,[]))
 (h:∀ c:Ctx,c.P=P→c.G=G→c.n=fn.ntmps→AW c none code ⟨fun t=>args.getD t .undef,fun _=>.hole⟩ 0 (dA c fn x)):aa P G f args x:=
 aa.KQ hf hb hl fun c h1 h2 h3 _=>(h c h1 h2 h3).mono fun e s κ hq=>dA.d (hx _) hq
theorem aa.enc(hf:P.funcs[f]?=some fn) (hb:fn.body=some code) (hx:∀ lv,fT lv x=some (x,[]))
 (h:∀ z:Ev,AW ⟨P,G,z.w,z.F,z.W,fn.ntmps,z.q,z.b⟩ none code ⟨fun t=>args.getD t .undef,fun _=>.hole⟩ 0 (dA ⟨P,G,z.w,z.F,z.W,fn.ntmps,z.q,z.b⟩ fn x)) (hl:Nat.ble args.length fn.ntmps=true:=by kernel_rfl):aa P G f args x:=
 aa.PU hf hb (Ze hl) hx fun⟨_,_,w,F,W,_,q,b⟩ h1 h2 h3=>by cases h1;cases h2;cases h3;exact h ⟨w,F,W,q,b⟩
end Go.Am
namespace Go.Am
open Go.Am.Ty Go.Proofs N
variable {c:Ctx}{fn:Func}{x:AV}{t k off κ:Nat}{T U:TypeId}{own fz:Bool}{cs:List CV}{s:au}
def nC:Option (List Nat)→CV
 | none=>.d .nilsl
 | some l=>.d (.sl (dK .u32 l))
theorem kZ (o:Option (List Nat)):nK .u32 o=.c (nC o):=by cases o <;> rfl
@[simp] theorem fQ (lv:Key→LB)(b:Bool)(p q:Option (List Nat)):fT lv (.agg [.d (.bool b),nC p,nC q])=some (.agg [.d (.bool b),nC p,nC q],[]):=by
 cases p <;> cases q <;> rfl
@[simp] theorem TP (o:Option (List Nat)):(nC o).pure=true:=by cases o <;> rfl
@[simp] theorem TB (o:Option (List Nat)):(AV.c (nC o)).bu=true:=by cases o <;> rfl
@[simp] theorem R9 (o:Option (List Nat)):(AV.c (nC o)).pure=true:=by cases o <;> rfl
theorem dA.cell(hr:fn.results=#[.cell t T]) (ht:s.fr t=.c (.ptr k off)) (hk:s.lv k=.cells own fz U cs)
 (hx:dQ c.P T (cs.drop off)=some x):dA c fn x .ret s κ:=by
 show cM c.P s fn.results.toList=some x;rw [hr];simp [cM,gz,iB,ht,hk,hx]
theorem dA.nU{y:AV}{u:Nat}(hr:fn.results=#[.cell t T,.tmp u]) (ht:s.fr t=.c (.ptr k off)) (hk:s.lv k=.cells own fz U cs)
 (hx:dQ c.P T (cs.drop off)=some x) (hy:s.fr u=y) (hn:x.bV=true) (hm:y.bV=true):dA c fn (.tup [x,y]) .ret s κ:=by
 show cM c.P s fn.results.toList=some _;rw [hr];simp [cM,gz,iB,ht,hk,hx,hy,hn,hm]
attribute [local irreducible] dA
theorem Hx:fK Tryz.prog 224 [] []=some (.agg [.d (.bool false),.d .nilsl,.d .nilsl],[],[],True):=by kernel_rfl
theorem FJ (b p q:CV):fK Tryz.prog 224 [0,1,2] [.c b,.c p,.c q]=some (.agg [b,p,q],[],[],True):=by kernel_rfl
theorem bE (b p q:CV):dQ Tryz.prog 224 [b,p,q]=some (.agg [b,p,q]):=by kernel_rfl
abbrev pJ (neg:Bool)(p q:Option (List Nat)):AV:=.agg [.d (.bool neg),nC p,nC q]
def gO (p q:Option (List Nat)):Option (List Nat):=ji p q (val 4294967296 (dO q))
def mP (p q:Option (List Nat)):Option (List Nat):=if val 4294967296 (dO q)=1 then p else if val 4294967296 (dO (gO p q))=1 then p else vR p (gO p q)
def OL (p q:Option (List Nat)):Option (List Nat):=if val 4294967296 (dO q)=1 then q else if val 4294967296 (dO (gO p q))=1 then q else vR q (gO p q)
def mQ (p q:Option (List Nat)):Option (List Nat):=if val 4294967296 (dO (OL p q))=1 then none else OL p q
def jI (neg:Bool)(p q:Option (List Nat)):AV:=if dO p=[] then pJ false none none else pJ neg (mP p q) (mQ p q)
theorem Ff (lv:Key→LB)(neg:Bool)(p q:Option (List Nat)):fT lv (jI neg p q)=some (jI neg p q,[]):=by
 unfold jI;split <;> exact fQ ..
theorem pP (G:List (List DV))(neg:Bool)(p q:Option (List Nat))(hp:can 4294967296 (dO p))(hq:can 4294967296 (dO q))(hq0:dO q≠[])(hl:(dO p).length<1000000000000)(hl':(dO q).length<1000000000000) :
 aa Tryz.prog G 225 [.c (.d (.bool neg)),nK .u32 p,nK .u32 q] (jI neg p q):=by
 have hgd:=xw hp hq;have hgc:can 4294967296 (dO (gO p q)):=by unfold gO;rw [hgd];exact ez (by decide) _
 have hqv:0<val 4294967296 (dO q):=iC hq hq0
 have hg0:dO (gO p q)≠[]:=by
  unfold gO;rw [hgd];intro h;have:=(lq (by decide)).1 h;have:=Nat.gcd_pos_of_pos_right (val 4294967296 (dO p)) hqv;omega
 refine aa.enc Tryz.func225 rfl (fun lv=>Ff lv _ _ _) fun _=>aab ?_;refine aaa fun K hK=>aab ?_
 by_cases hpe:dO p=[]
 ·refine aaf (by simp [hpe] <;> omega) (aal Hx ?_);refine aam ?_;refine dA.cell (T:=224) (t:=6) (k:=0) (off:=0) (own:=true) (fz:=false) (U:=224) (cs:=[.d (.bool false),.d .nilsl,.d .nilsl]) rfl ?_ ?_ ?_
  ·simp
  ·simp [aj]
  ·rw [YV,bE];simp [jI,hpe,nC]
 refine aah (by simp [hpe] <;> omega) (aac (hK _ _ (aaa fun K hK=>?_)))
 have rest:∀ (fr:Nat→AV) (κ:Nat) (p' q':Option (List Nat)),fr 0=.c (.d (.bool neg))→fr 1=nK .u32 p'→fr 2=nK .u32 q'→fr 6=.c (.ptr 0 0)→can 4294967296 (dO q')→mP p q=p'→OL p q=q' →
  K ⟨fr,aD (fun _=>.hole) 0 (.cells true false 224 [.d (.bool false),.d .nilsl,.d .nilsl])⟩ κ:=by
  intro fr κ p' q' z0 z1 z2 z6 hc e1 e2
  repeat refine ah ?_
  apply hK;refine aaa fun K1 hK1=>aai fun K2 hK2=>?_;simp [z2];refine ag.pure κ 9 (jS _ _ hc) rfl (by simp) (by simp) ?_;simp
  repeat refine ah ?_
  apply hK2
  by_cases h1:val 4294967296 (dO q')=1
  ·refine aaf (by simp [h1] <;> omega) (AW.l0 (hK1 _ _ ?_));refine AW.f5 z0 z1 z6 @kZ @FJ ?_;refine aam ?_;refine dA.cell (T:=224) (t:=6) (k:=0) (off:=0) (own:=true) (fz:=false) (U:=224) (cs:=[.d (.bool neg),nC p',.d .nilsl]) rfl ?_ ?_ ?_
   ·simp [z6]
   ·simp [aj]
   ·rw [YV,bE];simp [jI,hpe,e1,mQ,e2,h1,nC]
  ·refine aah (by simp [h1] <;> omega) (aac (hK1 _ _ (AW.f6 z0 z1 z2 z6 @kZ @FJ ?_)));refine aam ?_;refine dA.cell (T:=224) (t:=6) (k:=0) (off:=0) (own:=true) (fz:=false) (U:=224) (cs:=[.d (.bool neg),nC p',nC q']) rfl ?_ ?_ ?_
   ·simp [z6]
   ·simp [aj]
   ·rw [YV,bE];simp [jI,hpe,e1,mQ,e2,h1]
 refine aai fun K1 hK1=>?_;simp;refine ag.pure 1 9 (jS _ _ hq) rfl (by simp) (by simp) ?_;simp
 repeat refine ah ?_
 apply hK1
 by_cases h1:val 4294967296 (dO q)=1
 ·refine aah (by simp [h1] <;> omega) (aac ?_);simp;exact rest _ _ p q (by simp) (by simp) (by simp) (by simp) hq (by simp [mP,h1]) (by simp [OL,h1])
 refine aaf (by simp [h1] <;> omega) (aai fun K1 hK1=>?_);simp;refine ag.pure 1 9 (tu _ _ _ hp hq hl hl') (by simp) (by simp) (by simp) ?_;simp
 repeat refine ah ?_
 apply hK1;refine aai fun K1 hK1=>?_;simp;refine ag.pure 1 9 (jS _ (ji p q (val 4294967296 (dO q))) hgc) rfl (by simp) (by simp) ?_;simp
 repeat refine ah ?_
 apply hK1
 by_cases h2:val 4294967296 (dO (gO p q))=1
 ·have h2':val 4294967296 (dO (ji p q (val 4294967296 (dO q))))=1:=h2;refine aah (by simp [h2'] <;> omega) (aac ?_);simp;exact rest _ _ p q (by simp) (by simp) (by simp) (by simp) hq (by simp [mP,h2]) (by simp [OL,h2])
 have h2':¬ val 4294967296 (dO (ji p q (val 4294967296 (dO q))))=1:=h2;refine aaf (by simp [h2'] <;> omega) (aai fun K1 hK1=>?_);simp;refine ag.pure 1 9 (m5 _ _ (ji p q (val 4294967296 (dO q))) hp hgc hg0 hl) (uz _ _) (by simp) (by simp) ?_;simp
 repeat refine ah ?_
 apply hK1;refine aae ?_;simp;refine ag.pure 1 9 (m5 _ _ (ji p q (val 4294967296 (dO q))) hq hgc hg0 hl') (uz _ _) (by simp) (by simp) ?_;simp;exact rest _ _ (vR p (gO p q)) (vR q (gO p q)) (by simp) (by simp;rfl) (by simp;rfl) (by simp) (by rw [P9];exact ez (by decide) _) (by simp [mP,h1,h2]) (by simp [OL,h1,h2])
end Go.Am
namespace Go.Am
open Go.Am.Ty Go.Proofs N
variable {a L n b m:Nat}{x:Rat}{q p:Option (List Nat)}{k:Int}{neg neg':Bool}
theorem OO (q:Option (List Nat)):aJ Tryz.prog .eql 222 (.c (nC q)) (.c (.d .nilsl))=some (.c (.d (.bool q.isNone)),[],[],True):=by
 cases q with
 | none=>kernel_rfl
 | some l=>exact (show ∀ es,aJ Tryz.prog .eql 222 (.c (.d (.sl es))) (.c (.d .nilsl))=some (.c (.d (.bool false)),[],[],True) from fun es=>by kernel_rfl) _
theorem Wu (lv:Key→LB)(o:Option (List Nat)):dW Tryz.prog 222 lv (.c (nC o))=some (.c (.d (.int .i64 (dO o).length)),[],[],True):=by
 rw [← kZ];exact mA gp
@[simp] theorem Tp (neg:Bool)(p q:Option (List Nat)):(AV.agg [.d (.bool neg),nC p,nC q]).pure=true:=by cases p <;> cases q <;> rfl
def vn (neg:Bool)(p:Option (List Nat)):Int:=if dO p=[] then 0 else if neg then -1 else 1
def fc:Option (List Nat)→Option (List Nat)
 | none=>some (cz 4294967296 1)
 | some l=>some l
theorem lz (G:List (List DV))(neg:Bool)(p q:Option (List Nat)):aa Tryz.prog G 231 [pJ neg p q] (.c (.d (.int .i64 (vn neg p)))):=by
 refine aa.en Tryz.func231 rfl fun _=>aab ?_;refine aaa fun K hK=>aag (aal @Wu ?_)
 by_cases hp:dO p=[]
 ·refine aaf (by simp [hp] <;> omega) (aab ?_);exact aad (aH.rt rfl 2 (by simp [vn,hp]))
 ·refine aah (by simp [hp] <;> omega) (aab ?_)
  cases neg with
  | true=>
   refine aak (aab ?_);exact aad (aH.rt rfl 2 (by simp [vn,hp]))
  | false=>
   refine aaj (aac (hK _ _ (aab ?_)));exact aad (aH.rt rfl 2 (by simp [vn,hp]))
theorem dD (G:List (List DV))(neg:Bool)(p q:Option (List Nat)):aa Tryz.prog G 239 [pJ neg p q] (.c (nC (fc q))):=by
 have hof:=fW G 1 (by decide);simp only [kZ] at hof;refine aa.en Tryz.func239 rfl fun _=>aab ?_;refine aaa fun K hK=>aai fun K1 hK1=>?_;simp [OO]
 repeat refine ah ?_
 apply hK1
 cases q with
 | none=>
  refine aak (aai fun K1 hK1=>?_);simp;refine ag.pure 1 9 hof (by simp) (by simp) (by simp) ?_;simp
  repeat refine ah ?_
  apply hK1;exact aad (aH.rt rfl 2 (by simp [fc]))
 | some l=>
  refine aaj (aac (hK _ _ (aab ?_)));exact aad (aH.rt rfl 2 (by simp [fc]))
theorem Cd (G:List (List DV))(neg:Bool)(p q:Option (List Nat)):aa Tryz.prog G 235 [pJ neg p q] (.c (.d (.bool q.isNone))):=by
 refine aa.en Tryz.func235 rfl fun _=>aab ?_;refine aai fun K hK=>?_;simp [OO]
 repeat refine ah ?_
 apply hK;exact aad (aH.rt rfl 2 (by simp))
theorem F9 (G:List (List DV))(neg:Bool)(p q:Option (List Nat)):aa Tryz.prog G 236 [pJ neg p q] (pJ false p q):=by
 refine aa.enc Tryz.func236 rfl (fun lv=>fQ lv _ _ _) fun _=>aab ?_;refine aal @FJ ?_;refine aam ?_;refine dA.cell (T:=224) (t:=2) (k:=1) (off:=0) (own:=true) (fz:=false) (U:=224) (cs:=[.d (.bool false),nC p,nC q]) rfl ?_ ?_ ?_
 ·simp
 ·simp [aj]
 ·rw [YV,bE]
def Ri (neg:Bool)(p q:Option (List Nat))(neg':Bool)(p' q':Option (List Nat)):Int:=
 if vn neg p=vn neg' p' then vn neg p*kK (val 4294967296 (dO p)*val 4294967296 (dO (fc q'))) (val 4294967296 (dO p')*val 4294967296 (dO (fc q)))
 else if vn neg p<vn neg' p' then -1 else 1
theorem Ll (a b:Nat):-1≤kK a b∧kK a b≤1:=by unfold kK;(repeat' split) <;> omega
theorem Pw (neg:Bool)(p:Option (List Nat))(a b:Nat):IntKind.i64.wrap (vn neg p*kK a b)=vn neg p*kK a b:=by
 have h1:=Ll a b;have h2:vn neg p=0∨vn neg p=1∨vn neg p = -1:=by unfold vn;split <;> (try split) <;> simp
 rcases h2 with h|h|h <;> rw [h] <;> exact dF (by omega) (by omega)
theorem rZ(h:(dO q).length≤n) (hn:1≤n):(dO (fc q)).length≤n:=by
 cases q with
 | none=>exact Za (di (m:=1) (by decide) (by decide)) hn
 | some l=>exact h
theorem FR (G:List (List DV))(neg neg':Bool)(p q p' q':Option (List Nat))(h1:(dO p).length≤100000000000)(h2:(dO q).length≤100000000000)(h3:(dO p').length≤100000000000)(h4:(dO q').length≤100000000000) :
 aa Tryz.prog G 161 [pJ neg p q,pJ neg' p' q'] (.c (.d (.int .i64 (Ri neg p q neg' p' q')))):=by
 have b1:=rZ h2 (by decide);have b2:=rZ h4 (by decide);have m1:=gy G p (fc q') (by omega) (by omega);have m2:=gy G p' (fc q) (by omega) (by omega);have m3:=gu (G:=G) (a:=some (cz 4294967296 (val 4294967296 (dO p)*val 4294967296 (dO (fc q'))))) (b:=some (cz 4294967296 (val 4294967296 (dO p')*val 4294967296 (dO (fc q))))) (ez (by decide) _) (ez (by decide) _);simp only [dB,eJ (by decide:2≤4294967296)] at m3;simp only [kZ] at m1 m2 m3;refine aa.en Tryz.func161 rfl fun _=>aab ?_;refine aaa fun K hK=>?_;refine aaq mixed (by kernel_rfl) rfl ?_;simp;refine ag.pure 2 9 (lz _ neg p q) (by simp) (by simp) rfl ?_;simp;refine ag.pure 2 9 (lz _ neg' p' q') (by simp) (by simp) rfl ?_;simp;refine⟨by kernel_rfl,?_⟩
 repeat refine ah ?_
 apply hK;refine aaa fun K hK=>aab ?_
 by_cases hs:vn neg p=vn neg' p'
 ·refine aah (by simp [hs] <;> omega) (aac (hK _ _ (aaa fun K hK=>?_)));refine aaq mixed (by kernel_rfl) rfl ?_;simp [hs];refine ag.pure 2 9 (dD _ neg' p' q') (by simp) (by simp) rfl ?_;simp;refine ag.pure 2 9 m1 (by simp) (by simp) rfl ?_;simp;refine ag.pure 2 9 (dD _ neg p q) (by simp) (by simp) rfl ?_;simp;refine ag.pure 2 9 m2 (by simp) (by simp) rfl ?_;simp;refine ag.pure 2 9 m3 (by simp) (by simp) rfl ?_;simp [Pw];refine⟨by kernel_rfl,?_⟩
  repeat refine ah ?_
  apply hK;exact aad (aH.rt rfl 4 (by simp [Ri,hs]))
 ·refine aaf (by simp [hs] <;> omega) (aaa fun K1 hK1=>aab ?_)
  by_cases hlt:vn neg p<vn neg' p'
  ·refine aaf (by simp [hlt] <;> omega) (aab ?_);exact aad (aH.rt rfl 4 (by simp [Ri,hs,hlt]))
  ·refine aah (by simp [hlt] <;> omega) (aac (hK1 _ _ (aab ?_)));exact aad (aH.rt rfl 4 (by simp [Ri,hs,hlt]))
def cX (n:Nat):Option (List Nat):=if n=0 then none else some (cz 4294967296 n)
def eA (n:Nat):Option (List Nat):=if n=1 then none else some (cz 4294967296 n)
abbrev fS (x:Rat):AV:=pJ (decide (x.num<0)) (cX x.num.natAbs) (eA x.den)
def gL (neg:Bool)(a:Nat):Int:=if neg then -(a:Int) else a
theorem nr (n:Nat):dO (cX n)=(cz 4294967296 n):=by
 unfold cX;split
 ·rename_i h;subst h;rfl
 ·rfl
theorem BV (n:Nat):fc (eA n)=some (cz 4294967296 n):=by
 unfold eA;split
 ·rename_i h;subst h;rfl
 ·rfl
theorem eu (n:Nat):val 4294967296 (cz 4294967296 n)=n:=eJ (by decide) n
theorem gj (n:Nat):can 4294967296 (cz 4294967296 n):=ez (by decide) n
theorem uP (n:Nat):(val 4294967296 (dO (cX n)))=n:=by rw [nr,eu]
theorem Bw (n:Nat):(val 4294967296 (dO (fc (eA n))))=n:=by rw [BV,dB,eu]
theorem n9 (n:Nat):can 4294967296 (dO (cX n)):=by rw [nr];exact gj n
theorem EE (n:Nat):can 4294967296 (dO (fc (eA n))):=by rw [BV];exact gj n
theorem lJ(h:n≠0):(cz 4294967296 n)≠[]:=fun e=>h ((lq (by decide)).1 e)
theorem yG {o:Option (List Nat)}(hc:can 4294967296 (dO o)) (h:dO o≠[]):o=some (cz 4294967296 (val 4294967296 (dO o))):=by
 cases o with
 | none=>exact absurd rfl h
 | some l=>exact congrArg some (jC (by decide) hc rfl)
theorem yJ (neg:Bool)(hb:b≠0):(mkRat (gL neg a) b).num=gL neg (a / Nat.gcd a b)∧(mkRat (gL neg a) b).den=b / Nat.gcd a b:=by
 have h1:(gL neg a).natAbs=a:=by unfold gL;split <;> omega
 rw [Rat.num_mkRat,Rat.den_mkRat,if_neg hb,if_neg hb,h1,Nat.gcd_comm b a];refine⟨?_,rfl⟩
 cases neg with
 | false=>rfl
 | true=>
  show -(a:Int) / ((Nat.gcd a b:Nat):Int) = -((a / Nat.gcd a b:Nat):Int)
  rw [Int.neg_ediv_of_dvd (Int.ofNat_dvd.2 (Nat.gcd_dvd_left a b))];rfl
theorem AT (neg:Bool)(a:Nat):(gL neg a).natAbs=a:=by unfold gL;split <;> omega
theorem Hg (neg:Bool)(h:a≠0):decide (gL neg a<0)=neg:=by
 cases neg <;> simp [gL] <;> omega
theorem TK(hp:can 4294967296 (dO p)) (hq:can 4294967296 (dO q)) (h0:dO p≠[]):mP p q=cX ((val 4294967296 (dO p)) / Nat.gcd (val 4294967296 (dO p)) (val 4294967296 (dO q))):=by
 have ha:0<(val 4294967296 (dO p)):=iC hp h0;have ep:=yG hp h0;have hgv:(val 4294967296 (dO (gO p q)))=Nat.gcd (val 4294967296 (dO p)) (val 4294967296 (dO q)):=by unfold gO;rw [xw hp hq,eu]
 have hgp:0<Nat.gcd (val 4294967296 (dO p)) (val 4294967296 (dO q)):=Nat.gcd_pos_of_pos_left _ ha;have hle:Nat.gcd (val 4294967296 (dO p)) (val 4294967296 (dO q))≤(val 4294967296 (dO p)):=Nat.le_of_dvd ha (Nat.gcd_dvd_left _ _);have hag:(val 4294967296 (dO p)) / Nat.gcd (val 4294967296 (dO p)) (val 4294967296 (dO q))≠0:=aaP (Nat.div_pos hle hgp);unfold cX;rw [if_neg hag];unfold mP;split
 ·rename_i h;rw [h,Nat.gcd_one_right,Nat.div_one];exact ep
 ·split
  ·rename_i h;rw [hgv] at h;rw [h,Nat.div_one];exact ep
  ·unfold vR;rw [hgv,if_neg (Nat.not_lt.2 hle)]
theorem Sw(hp:can 4294967296 (dO p)) (hq:can 4294967296 (dO q)) (h0:dO q≠[]):mQ p q=eA ((val 4294967296 (dO q)) / Nat.gcd (val 4294967296 (dO p)) (val 4294967296 (dO q))):=by
 have hb:0<(val 4294967296 (dO q)):=iC hq h0;have eq:=yG hq h0;have hgv:(val 4294967296 (dO (gO p q)))=Nat.gcd (val 4294967296 (dO p)) (val 4294967296 (dO q)):=by unfold gO;rw [xw hp hq,eu]
 have hle:Nat.gcd (val 4294967296 (dO p)) (val 4294967296 (dO q))≤(val 4294967296 (dO q)):=Nat.le_of_dvd hb (Nat.gcd_dvd_right _ _)
 have e:OL p q=some (cz 4294967296 ((val 4294967296 (dO q)) / Nat.gcd (val 4294967296 (dO p)) (val 4294967296 (dO q)))):=by
  unfold OL;split
  ·rename_i h;rw [h,Nat.gcd_one_right,Nat.div_one,← h];exact eq
  ·split
   ·rename_i h;rw [hgv] at h;rw [h,Nat.div_one];exact eq
   ·unfold vR;rw [hgv,if_neg (Nat.not_lt.2 hle)]
 unfold mQ eA;rw [e,dB,eu]
theorem AB (neg:Bool)(hp:can 4294967296 (dO p)) (hq:can 4294967296 (dO q)) (hq0:dO q≠[]):jI neg p q=fS (mkRat (gL neg (val 4294967296 (dO p))) (val 4294967296 (dO q))):=by
 have hb:(val 4294967296 (dO q))≠0:=aaP (iC hq hq0);unfold jI
 by_cases h0:dO p=[]
 ·have e:gL neg (val 4294967296 (dO p))=0:=by rw [h0,ry];cases neg <;> rfl
  rw [if_pos h0,e,Rat.zero_mkRat];rfl
 ·have ha:0<(val 4294967296 (dO p)):=iC hp h0;have hgp:0<Nat.gcd (val 4294967296 (dO p)) (val 4294967296 (dO q)):=Nat.gcd_pos_of_pos_left _ ha;have hle:Nat.gcd (val 4294967296 (dO p)) (val 4294967296 (dO q))≤(val 4294967296 (dO p)):=Nat.le_of_dvd ha (Nat.gcd_dvd_left _ _);have hag:(val 4294967296 (dO p)) / Nat.gcd (val 4294967296 (dO p)) (val 4294967296 (dO q))≠0:=aaP (Nat.div_pos hle hgp);obtain⟨n1,n2⟩:=yJ neg (a:=(val 4294967296 (dO p))) hb;rw [if_neg h0,TK hp hq h0,Sw hp hq hq0];show pJ neg _ _=pJ (decide (_<0)) (cX _) (eA _);rw [n1,n2,AT,Hg neg hag]
theorem uh (x:Rat):gL (decide (x.num<0)) x.num.natAbs=x.num:=by
 unfold gL
 by_cases h:x.num<0
 ·rw [decide_eq_true h,if_pos rfl];omega
 ·rw [decide_eq_false h,if_neg (by decide)];omega
def nl (n:Nat):Nat:=(cz 4294967296 n).length
theorem DB(h:n<4294967296 ^ m):nl n≤m:=di (by decide) h
theorem CN (n:Nat):n<4294967296 ^ nl n:=yN (by decide)
theorem oP(h:m≤n):nl m≤nl n:=jR (by decide) h
theorem lC (a b:Nat):nl (a*b)≤nl a+nl b:=by
 refine DB ?_;rw [Z4];exact Nat.mul_lt_mul'' (CN a) (CN b)
theorem KF (a b:Nat):nl (a+b)≤max (nl a) (nl b)+1:=by
 refine DB ?_;have h1:a<4294967296 ^ max (nl a) (nl b):=ZS (CN a) (aaF (by decide) (by omega));have h2:b<4294967296 ^ max (nl a) (nl b):=ZS (CN b) (aaF (by decide) (by omega));rw [Zq];generalize 4294967296 ^ max (nl a) (nl b)=z at *
 omega
theorem Pe (m:Nat):(2:Nat) ^ (32*m)=4294967296 ^ m:=by rw [Nat.pow_mul]
theorem Cx (k:Nat):nl (2 ^ k)≤k / 32+1:=by
 refine DB ?_;rw [← Pe];exact Nat.pow_lt_pow_right (by decide) (by omega)
theorem qc:nl 1=1:=by unfold nl;rw [I4 (by decide) (by decide) (by decide)];rfl
theorem Qj(h:a<10 ^ L):nl a≤(L+8) / 9:=by
 refine DB (ZS h ?_);have h1:(10:Nat) ^ L≤10 ^ (9*((L+8) / 9)):=aaF (by decide) (by omega);rw [Nat.pow_mul] at h1;exact Za h1 (Nat.pow_le_pow_left (by decide) _)
theorem wD(h:n≠0):bS n≤32*nl n:=by
 have h1:=CN n;rw [← Pe] at h1;have h2:=oN h;have h3:bS n - 1<32*nl n:=(Nat.pow_lt_pow_iff_right (by decide)).1 (aaY h2 h1);omega
def oS (x:Rat)(L:Nat):Prop:=nl x.num.natAbs≤L∧nl x.den≤L
theorem fV{M:Nat}(h:oS x L) (hm:L≤M):oS x M:=⟨Za h.1 hm,Za h.2 hm⟩
theorem qE (neg:Bool)(hb:b≠0) (h1:nl a≤L) (h2:nl b≤L):oS (mkRat (gL neg a) b) L:=by
 obtain⟨n1,n2⟩:=yJ neg (a:=a) hb;unfold oS;rw [n1,n2,AT];exact⟨Za (oP (Nat.div_le_self _ _)) h1,Za (oP (Nat.div_le_self _ _)) h2⟩
theorem Ba(h:oS x L):oS (-x) L:=by
 unfold oS at *;rw [Rat.neg_num,Rat.neg_den,Int.natAbs_neg];exact h
def cE (x:Rat)(k:Int):Rat:=if k<0 then mkRat x.num (x.den*2 ^ (-k).toNat) else mkRat (x.num*2 ^ k.toNat) x.den
theorem yV (x:Rat)(k:Nat):x.den*2 ^ k≠0:=aaP (aaN x.den_pos (Zv (by decide)))
theorem za(h:k<0):cE x k=mkRat (gL (decide (x.num<0)) x.num.natAbs) (x.den*2 ^ (-k).toNat):=by rw [uh];unfold cE;rw [if_pos h]
theorem tr (neg:Bool)(a b:Nat):gL neg a*(b:Int)=gL neg (a*b):=by
 unfold gL;cases neg
 ·simp
 ·simp [Int.neg_mul]
theorem xF(h:¬ k<0):cE x k=mkRat (gL (decide (x.num<0)) (x.num.natAbs*2 ^ k.toNat)) x.den:=by
 unfold cE;rw [if_neg h,← tr,uh];congr 2
theorem ue(h:oS x L) (k:Int):oS (cE x k) (L+k.natAbs / 32+1):=by
 by_cases hk:k<0
 ·rw [za hk];refine qE _ (yV _ _) (by have:=h.1;omega) ?_;have h1:=lC x.den (2 ^ (-k).toNat);have h2:=Cx (-k).toNat;have h3:(-k).toNat=k.natAbs:=by omega
  have:=h.2;rw [h3] at h1 h2 ⊢;omega
 ·rw [xF hk];refine qE _ x.den_nz ?_ (by have:=h.2;omega);have h1:=lC x.num.natAbs (2 ^ k.toNat);have h2:=Cx k.toNat;have h3:k.toNat=k.natAbs:=by omega
  have:=h.1;rw [h3] at h1 h2 ⊢;omega
theorem JP (x y:Rat):x+y=mkRat (gL (decide (x.num<0)) (x.num.natAbs*y.den)+gL (decide (y.num<0)) (y.num.natAbs*x.den)) (x.den*y.den):=by
 rw [Rat.add_def',← tr,← tr,uh,uh]
theorem HF (neg:Bool)(a b:Nat):gL neg a+gL neg b=gL neg (a+b):=by unfold gL;cases neg <;> simp <;> omega
theorem LY(h:neg≠neg')(hab:a<b):gL neg a+gL neg' b=gL neg' (b - a):=by
 unfold gL;cases neg <;> cases neg' <;> simp_all <;> omega
theorem Mv(h:neg≠neg')(hab:¬ a<b):gL neg a+gL neg' b=gL neg (a - b):=by
 unfold gL;cases neg <;> cases neg' <;> simp_all <;> omega
theorem NM {y:Rat}(hx:oS x L) (hy:oS y L):oS (x+y) (2*L+1):=by
 have hd:x.den*y.den≠0:=aaP (aaN x.den_pos y.den_pos);have e1:=lC x.num.natAbs y.den;have e2:=lC y.num.natAbs x.den;have e3:=lC x.den y.den;obtain⟨a1,a2⟩:=hx;obtain⟨b1,b2⟩:=hy;rw [JP]
 by_cases h:decide (x.num<0)=decide (y.num<0)
 ·rw [h,HF];refine qE _ hd ?_ (by omega);have:=KF (x.num.natAbs*y.den) (y.num.natAbs*x.den);omega
 ·by_cases hab:x.num.natAbs*y.den<y.num.natAbs*x.den
  ·rw [LY h hab];refine qE _ hd ?_ (by omega);have:=oP (Nat.sub_le (y.num.natAbs*x.den) (x.num.natAbs*y.den));omega
  ·rw [Mv h hab];refine qE _ hd ?_ (by omega);have:=oP (Nat.sub_le (x.num.natAbs*y.den) (y.num.natAbs*x.den));omega
def xh (x y:Rat):Int:=if x<y then -1 else if y<x then 1 else 0
end Go.Am
