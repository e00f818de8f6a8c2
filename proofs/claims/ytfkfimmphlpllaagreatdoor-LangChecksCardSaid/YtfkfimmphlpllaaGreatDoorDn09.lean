/- Helpers: an abstract machine for Go functions, and walks of functions of the program. -/
import Derived.Test.YtfkfimmphlpllaaGreatDoorDn08

set_option linter.all false

namespace Go.Am
open Go.Am.Ty Go.Proofs N
theorem tS {s:List UInt8}(h:ef s=true) (h0:s≠[48]) (h1:s≠[49]):2≤aP s 0:=by
 obtain⟨hD,hne⟩:=mF h;unfold ef at h;simp only [Bool.and_eq_true,Bool.or_eq_true,Bool.not_eq_true',decide_eq_true_eq,decide_eq_false_iff_not] at h
 have h4:s.getD 0 0≠48:=by
  rcases h.2 with h3|h3
  ·exact absurd h3 h0
  ·exact h3
 cases s with
 | nil=>exact absurd rfl hne
 | cons c l=>
  have hc:=hD c (by simp);have hc48:c≠48:=h4;have hcn:c.toNat≠48:=fun e=>hc48 (UInt8.toNat_inj.1 (by rw [e];rfl))
  have e:aP (c::l) 0=(c.toNat - 48)*10 ^ l.length+aP l 0:=by
   show aP l (10*0+(c.toNat - 48))=_;rw [eI,Nat.mul_zero,Nat.zero_add]
  rw [e]
  cases l with
  | nil=>
   have hc49:c.toNat≠49:=fun e=>h1 (by rw [UInt8.toNat_inj.1 (show c.toNat=(49:UInt8).toNat by rw [e];rfl)])
   show 2≤(c.toNat - 48)*10 ^ 0+0;omega
  | cons d l=>
   have h10:10≤10 ^ (d::l).length:=by
    rw [List.length_cons,Nat.pow_succ];have:=Nat.pow_pos (a:=10) (n:=l.length) (by decide);omega
   have:1*10≤(c.toNat - 48)*10 ^ (d::l).length:=Nat.mul_le_mul (by omega) h10;omega
def mU (neg:Bool)(top bot:List UInt8)(brk:Bool):Rat:=if c6 neg top bot brk=0 then mkRat (dg neg (aP top 0)) (if brk=true then aP bot 0 else 1) else 0
theorem HI (s:List UInt8):(val 4294967296 (dO (nj s)))=aP s 0:=by show val 4294967296 (aI 4294967296 (aP s 0))=_;rw [dF]
theorem yO (s:List UInt8):can 4294967296 (dO (nj s)):=fJ _
theorem Uk (s t:List UInt8):(val 4294967296 (dO (gO (nj s) (nj t))))=Nat.gcd (aP s 0) (aP t 0):=by
 unfold gO;rw [wk (yO s) (yO t),dF,HI,HI]
theorem DA {neg:Bool}{top bot:List UInt8}{brk:Bool}(h:gX neg top bot brk=false):ef top=true∧(brk=true→ef bot=true∧bot≠[48]∧bot≠[49]):=by
 unfold gX at h;simp only [Bool.or_eq_false_iff,Bool.not_eq_false',Bool.and_eq_false_iff,decide_eq_false_iff_not] at h;obtain⟨⟨h1,_⟩,h3⟩:=h;refine⟨h1,fun hb=>?_⟩;rcases h3 with h3|h3
 ·rw [hb] at h3;cases h3
 ·exact⟨h3.1.1,h3.1.2,h3.2⟩
theorem DY (neg:Bool)(top bot:List UInt8)(brk:Bool):ec neg top bot brk=.tup [fc (mU neg top bot brk),.c (.d (.int .i64 (c6 neg top bot brk)))]:=by
 by_cases h1:gX neg top bot brk=true
 ·have e:c6 neg top bot brk=6:=by unfold c6;rw [if_pos h1]
  have e2:mU neg top bot brk=0:=by unfold mU;rw [e,if_neg (by decide)]
  rw [e,e2];unfold ec;rw [if_pos h1];rfl
 by_cases h2:2000<max top.length bot.length
 ·have e:c6 neg top bot brk=3:=by unfold c6;rw [if_neg h1,if_pos h2]
  have e2:mU neg top bot brk=0:=by unfold mU;rw [e,if_neg (by decide)]
  rw [e,e2];unfold ec;rw [if_neg h1,if_pos h2];rfl
 obtain⟨g1,g2⟩:=DA (by simpa using h1)
 by_cases h3:brk=false
 ·have e:c6 neg top bot brk=0:=by unfold c6;rw [if_neg h1,if_neg h2,if_pos h3]
  have e2:mU neg top bot brk=mkRat (dg neg (aP top 0)) 1:=by unfold mU;rw [e,if_pos rfl,h3];rfl
  rw [e,e2];unfold ec;rw [if_neg h1,if_neg h2,if_pos h3];rw [yl neg (yO top) (q:=some (aI 4294967296 1)) (fJ 1) (kG (by decide)),HI,aV,dF]
 have hb:brk=true:=by simpa using h3
 obtain⟨r1,r2,r3⟩:=g2 hb;have hge:=tS r1 r2 r3
 by_cases h4:(val 4294967296 (dO (gO (nj top) (nj bot))))=1
 ·have e:c6 neg top bot brk=0:=by unfold c6;rw [if_neg h1,if_neg h2,if_neg h3,if_pos h4]
  have e2:mU neg top bot brk=mkRat (dg neg (aP top 0)) (aP bot 0):=by unfold mU;rw [e,if_pos rfl,hb];rfl
  rw [e,e2];unfold ec;rw [if_neg h1,if_neg h2,if_neg h3,if_pos h4];rw [Uk] at h4;have ha:aP top 0≠0:=by intro h0;rw [h0,Nat.gcd_zero_left] at h4;omega
  obtain⟨n1,n2⟩:=gN neg (a:=aP top 0) (b:=aP bot 0) (by omega);rw [h4,Nat.div_one] at n1 n2;show AV.tup [nX neg (some (aI 4294967296 (aP top 0))) (some (aI 4294967296 (aP bot 0))),_]=AV.tup [nX (decide ((mkRat (dg neg (aP top 0)) (aP bot 0)).num<0)) (cG (mkRat (dg neg (aP top 0)) (aP bot 0)).num.natAbs) (dA (mkRat (dg neg (aP top 0)) (aP bot 0)).den),_];rw [n1,n2,ri,Ei neg ha];unfold cG dA;rw [if_neg ha,if_neg (by omega)]
 ·have e:c6 neg top bot brk=6:=by unfold c6;rw [if_neg h1,if_neg h2,if_neg h3,if_neg h4]
  have e2:mU neg top bot brk=0:=by unfold mU;rw [e,if_neg (by decide)]
  rw [e,e2];unfold ec;rw [if_neg h1,if_neg h2,if_neg h3,if_neg h4];rfl
theorem H6 (L:Nat)(h:1≤L):iN 0 L:=⟨by show nl 0≤_;exact Nat.zero_le _,by show nl 1≤_;rw [o9];exact h⟩
theorem qK {s:List UInt8}(h:tK s) (hl:s.length≤2000):nl (aP s 0)≤300:=by
 have:=OU (lq h);omega
theorem LA (neg:Bool)(top bot:List UInt8)(brk:Bool):iN (mU neg top bot brk) 300:=by
 unfold mU;split
 ·rename_i h
  have h1:¬ gX neg top bot brk=true:=by
   intro hb;unfold c6 at h;rw [if_pos hb] at h;cases h
  have h2:¬ 2000<max top.length bot.length:=by
   intro hb;unfold c6 at h;rw [if_neg h1,if_pos hb] at h;cases h
  obtain⟨g1,g2⟩:=DA (by simpa using h1);split
  ·rename_i hb
   obtain⟨r1,r2,r3⟩:=g2 hb;have hge:=tS r1 r2 r3;exact mS _ (by omega) (qK (mF g1).1 (by omega)) (qK (mF r1).1 (by omega))
  ·exact mS _ (by decide) (qK (mF g1).1 (by omega)) (by rw [o9];decide)
 ·exact H6 _ (by decide)
def dW (r:List UInt8):Int:=c6 (qP r [45]) (rj (jP r [45]) [47]) (qS (jP r [45]) [47]) (decide (0≤jj (jP r [45]) [47]))
def eK (r:List UInt8):Rat:=mU (qP r [45]) (rj (jP r [45]) [47]) (qS (jP r [45]) [47]) (decide (0≤jj (jP r [45]) [47]))
theorem uj (r:List UInt8):iN (eK r) 300:=LA ..
theorem xN (m:Int)(r:List UInt8):aj Tryz.prog (GG m) 159 [.c (.d (.str r))] (.tup [fc (eK r),.c (.d (.int .i64 (dW r)))]):=by
 have h:=AG m r;rw [DY] at h;exact h
theorem FO (m:Int)(r:List UInt8):aj Tryz.prog (GG m) 163 [.c (.d (.str r))] (.c (.d (.int .i64 (dW r)))):=wZ m r
end Go.Am

namespace Go.Am
open Go.Am.Ty Go.Proofs N
theorem Ir (c:UInt8):iW c=true↔48≤c.toNat∧c.toNat≤57:=by simp [iW]
theorem Pc {l:List UInt8}(h:∀ x∈l,iW x=true):l.dropWhile iW=[]:=by
 induction l with
 | nil=>rfl
 | cons a l ih=>rw [List.dropWhile_cons,if_pos (h a (by simp))];exact ih fun x hx=>h x (by simp [hx])
theorem Ck {s:List UInt8}(h:tK s):qA s=[]:=by
 have h1:s.reverse.dropWhile iW=[]:=Pc fun x hx=>(Ir x).2 (h x (List.mem_reverse.1 hx))
 unfold qA iV;rw [h1];rfl
def isRow (s:List UInt8):Prop:=tK s∧s≠[]∧(s=[48]∨s.getD 0 0≠48)
theorem mG {s:List UInt8}:ef s=true↔isRow s:=by
 constructor
 ·intro h;obtain⟨h1,h2⟩:=mF h;unfold ef at h;simp only [Bool.and_eq_true,Bool.or_eq_true,Bool.not_eq_true',decide_eq_true_eq,decide_eq_false_iff_not] at h;exact⟨h1,h2,h.2⟩
 ·rintro⟨h1,h2,h3⟩;unfold ef;rw [decide_eq_false h2,decide_eq_true (Ck h1)];rcases h3 with h3|h3
  ·rw [decide_eq_true h3];rfl
  ·rw [decide_eq_false h3];simp
theorem gD8 {s:List UInt8}{i:Nat}(h:i<s.length):s.getD i 0=s[i]:=by rw [List.getD_eq_getElem?_getD,List.getElem?_eq_getElem h];rfl
theorem I4 (G:List (List DV))(s:List UInt8):aj Tryz.prog G 288 [.c (.d (.str s))] (.c (.d (.bool (ef s)))):=by
 refine aZ.iQ 0 (by simp) (fun V v h=>(show s.length≤9223372036854775807 by cases h.1 with|str _ hl=>exact hl)) fun hs=>?_;refine aj.aH Tryz.func288 rfl (by rw [Tryz.ntmps288];simp) ?_;rintro⟨_,_,w0,F0,W0,_,bq,β0⟩ rfl rfl rfl;refine aac fun K hK=>?_;refine aad rfl ?_;simp;apply hK;clear hK K;refine aac fun K hK=>?_;refine aac fun K1 hK1=>?_;refine aad rfl ?_;simp;apply hK1;clear hK1 K1;refine aak ?_;refine aax (fun (i:Nat)=>⟨bt [(0,.c (.d (.str s))),(3,.c (.d (.int .i64 (i:Int))))],fun _=>.hole⟩) 0 (fun i=>i≤s.length∧tK (s.take i)) (fun i=>s.length - i) 0 (Le.mk' _ rfl aA (by simp)) ⟨Nat.zero_le _,fun c hc=>by simp at hc⟩ ?_;rintro i ⟨hi,hd⟩;refine aac fun K3 hK3=>aac fun K4 hK4=>?_;refine aad rfl ?_;simp;apply hK4;clear hK4 K4
 by_cases hlt:i<s.length
 ·have hlt':(i:Int)<(s.length:Int):=by omega
  have wi:=bK (n:=(i:Int)+1) (by omega) (by omega);have hg:=gD8 hlt;have hg2:s[i]?.getD 0=s[i]:=by rw [List.getElem?_eq_getElem hlt];rfl
  obtain⟨c,hc⟩:∃ c,s[i]=c:=⟨_,rfl⟩
  rw [hc] at hg hg2;have hcm:c∈s:=by rw [← hc];exact List.getElem_mem hlt
  have bad:¬ (48≤c.toNat∧c.toNat≤57)→ef s=false:=fun h=>by
   cases hr:ef s with
   | false=>rfl
   | true=>exact absurd ((mG.1 hr).1 c hcm) h
  refine aap (by simp [hlt] <;> omega) ?_;refine aah ?_;simp;apply hK3;refine aac fun K5 hK5=>?_;refine aak ?_;refine aac fun K6 hK6=>?_
  by_cases c1:c.toNat<48
  ·have c1':(c.toNat:Int)<48:=by omega
   refine aad rfl ?_;simp [hlt,hlt',hc,c1,c1'];apply hK6;clear hK6 K6;refine aaq ?_;refine aac fun K6 hK6=>?_;refine aad rfl ?_;simp;apply hK6;clear hK6 K6;exact aag (κ:=0) (au.t (κ:=0) (t:=2) rfl 9 (by simp [(bad (by omega))]))
  ·have c1':¬ (c.toNat:Int)<48:=by omega
   by_cases c2:57<c.toNat
   ·have c2':(57:Int)<(c.toNat:Int):=by omega
    refine aad rfl ?_;simp [hlt,hlt',hc,c1,c1',c2,c2'];apply hK6;clear hK6 K6;refine aaq ?_;refine aac fun K6 hK6=>?_;refine aad rfl ?_;simp;apply hK6;clear hK6 K6;exact aag (κ:=0) (au.t (κ:=0) (t:=2) rfl 9 (by simp [(bad (by omega))]))
   ·have c2':¬ (57:Int)<(c.toNat:Int):=by omega
    refine aad rfl ?_;simp [hlt,hlt',hc,c1,c1',c2,c2'];apply hK6;clear hK6 K6;refine aat ?_;refine aah ?_;simp;apply hK5;refine aad rfl ?_;simp [wi];refine⟨i+1,Le.mk' _ rfl aA (by simp),⟨by omega,?_⟩,by omega⟩;intro x hx;rw [List.take_add_one,List.getElem?_eq_getElem hlt,List.mem_append] at hx;rcases hx with hx|hx
    ·exact hd x hx
    ·simp only [Option.toList_some,List.mem_singleton] at hx;rw [hx,hc];omega
 ·have he:i=s.length:=by omega
  subst he;rw [List.take_length] at hd;refine aao (by simp [hlt] <;> omega) ?_;refine aav ?_;simp;apply hK;refine aac fun K hK=>?_
  cases s with
  | nil=>
   refine aad rfl ?_;simp;apply hK;clear hK K;exact aag (κ:=0) (au.t (κ:=0) (t:=2) rfl 9 (by simp [ef]))
  | cons a l=>
   have hrow:ef (a::l)=(decide (a::l=[48]) || !decide (a=48)):=by
    unfold ef;rw [decide_eq_true (Ck hd)];simp
   have ha:((a.toNat:Int)=48)↔a=48:=by
    constructor
    ·intro h;exact UInt8.toNat_inj.1 (by show a.toNat=48;omega)
    ·intro h;subst h;rfl
   have hpos:(0:Int)<((l.length:Int)+1):=by omega
   by_cases h0:a::l=[48]
   ·obtain⟨rfl,rfl⟩:=List.cons.inj h0;refine aad rfl ?_;simp [eqStr];apply hK;clear hK K;exact aag (κ:=0) (au.t (κ:=0) (t:=2) rfl 9 (by simp [hrow]))
   ·refine aad rfl ?_;simp [eqStr,h0,hpos];apply hK;clear hK K;exact aag (κ:=0) (au.t (κ:=0) (t:=2) rfl 9 (by simp [hrow,h0,ha]))
end Go.Am

namespace Go.Am
open Go.Am.Ty Go.Proofs N
def GD (l:List Nat):LB:=if l=[] then .hole else .cells true false 2 (wK .i64 l)
def JJ (l:List Nat):AV:=if l=[] then .c (.d .nilsl) else .c (.aX 0 0 l.length 1)
theorem OY {lv:Key→LB}{k:Key}(h:lv k=.hole):aJ lv k .hole=lv:=by
 funext j;unfold aJ;split
 ·rename_i e;rw [e,h]
 ·rfl
theorem YR (j:Nat):10 ^ (9*j)=1000000000 ^ j:=by rw [Nat.pow_mul]
theorem BC {s:List UInt8}(h:tK s) (n:Nat):tK (s.take n):=fun c hc=>h c (List.mem_of_mem_take hc)
theorem AA {s:List UInt8}(h:tK s) (n:Nat):tK (s.drop n):=fun c hc=>h c (List.mem_of_mem_drop hc)
set_option maxHeartbeats 4000000 in
theorem yp (G:List (List DV))(s:List UInt8)(hd:tK s)(hne:s≠[])(hl:s.length≤100000):aj Tryz.prog G 243 [.c (.d (.str s))] (nK .i64 (some (aI 1000000000 (aP s 0)))):=by
 have hbs:∀ (lv:Key→LB) (h:lv 1=.hole) (a:CV),aq Tryz.prog 213 1 [0] lv 1 [.c a]=some (.c (.aX 1 0 1 1),[(1,.cells true false 2 [a])],[],True):=fun lv h a=>Bj lv 1 h a
 refine aj.lS Tryz.func243 rfl (by rw [Tryz.ntmps243];simp)  ?_;rintro⟨_,_,w0,F0,W0,_,bq,β0⟩ rfl rfl rfl rfl;refine aac fun K hK=>?_;refine aad rfl ?_;simp;apply hK;clear hK K;refine aac fun K hK=>?_;refine aad rfl ?_;simp;apply hK;clear hK K;refine aac fun K hK=>?_;refine aac fun K1 hK1=>?_;refine aad rfl ?_;simp;apply hK1;clear hK1 K1;refine aak ?_
 refine aax (fun (p:List Nat)=>⟨bt [(0,.c (.d (.str s))),(3,JJ p),(4,.c (.d (.int .i64 ((s.length:Int) - 9*(p.length:Int)))))],aJ (fun _=>.hole) 0 (GD p)⟩) 1
  (fun p=>ok 1000000000 p∧val 1000000000 p=aP (s.drop (s.length - 9*p.length)) 0∧(9*p.length<s.length+9)) (fun p=>s.length+9 - 9*p.length) [] (Le.mk' _ (OY rfl).symm aA (by simp [JJ])) ⟨cg _,by simp [aP],by simp⟩ ?_
 rintro p ⟨h1,h2,h3⟩;obtain⟨z,hz⟩:∃ z:Int,(s.length:Int) - 9*(p.length:Int)=z:=⟨_,rfl⟩
 simp only [hz];refine aac fun K3 hK3=>aac fun K4 hK4=>?_;refine aad rfl ?_;simp;apply hK4;clear hK4 K4
 by_cases hgo:0<z
 ·obtain⟨i,rfl⟩:∃ i:Nat,z=i:=⟨z.toNat,by omega⟩
  have hi:s.length - 9*p.length=i:=by omega
  have hil:i≤s.length:=by omega
  rw [hi] at h2;obtain⟨lo,hlo⟩:∃ lo,i - 9=lo:=⟨_,rfl⟩
  obtain⟨y,hy⟩:∃ y:Int,(i:Int) - 9=y:=⟨_,rfl⟩
  have w1:IntKind.i64.wrap ((i:Int) - 9)=y:=by rw [bK (by omega) (by omega)];exact hy
  have hmx:(if y<0 then 0 else y)=(lo:Int):=by split <;> omega
  have w9:=bK (n:=(i:Int) - 9) (by omega) (by omega);rw [hy] at w9;refine aap (by simp [hgo] <;> omega) ?_;refine aah ?_;simp;apply hK3;refine aac fun K5 hK5=>?_;refine aak ?_;refine aac fun K6 hK6=>?_;refine aad rfl ?_;simp;apply hK6;clear hK6 K6;refine aac fun K6 hK6=>?_;refine aac fun K7 hK7=>?_;refine aad rfl ?_;simp [cX,w1,hmx];apply hK7;clear hK7 K7;refine aak ?_
  refine aax (fun (k:Nat)=>⟨bt [(0,.c (.d (.str s))),(3,JJ p),(4,.c (.d (.int .i64 (i:Int)))),(5,.c (.d (.int .i64 ((aP ((s.take k).drop lo) 0:Nat):Int)))),(6,.c (.d (.int .i64 (k:Int))))],aJ (fun _=>.hole) 0 (GD p)⟩) 1
   (fun k=>lo≤k∧k≤i) (fun k=>i - k) lo (Le.keys [(0,0,GD p)] 19 _ rfl rfl (by simp) (by simp) (by simp) ?_ ?_) ⟨Nat.le_refl _,by omega⟩ ?_
  ·intro e he;simp only [List.mem_cons,List.not_mem_nil,or_false] at he;subst he;simp only [aB];unfold GD;split
   ·rfl
   ·exact jq .i64 2 p _
  ·have e0:List.drop lo (List.take lo s)=[]:=List.drop_eq_nil_of_le (by rw [List.length_take];omega);simp [e0,aP,fM];unfold JJ;split <;> simp [fM]
  rintro k ⟨k1,k2⟩;refine aac fun K8 hK8=>aac fun K9 hK9=>?_;refine aad rfl ?_;simp;apply hK9;clear hK9 K9
  by_cases hlk:k<i
  ·have hks:k<s.length:=by omega
   have hks':(k:Int)<(s.length:Int):=by omega
   obtain⟨c,hc⟩:∃ c,s[k]=c:=⟨_,rfl⟩
   have hcd:=hd c (by rw [← hc];exact List.getElem_mem hks);have hlt:=lq (AA (BC hd k) lo);have hln:(List.drop lo (List.take k s)).length=k - lo:=by rw [List.length_drop,List.length_take];omega
   have hp9:10 ^ (List.drop lo (List.take k s)).length≤10 ^ 8:=Nat.pow_le_pow_right (by decide) (by omega)
   have hnx:aP ((s.take (k+1)).drop lo) 0=10*aP ((s.take k).drop lo) 0+(c.toNat - 48):=by
    have e:(s.take (k+1)).drop lo=(s.take k).drop lo++[c]:=by
     rw [List.take_add_one,List.getElem?_eq_getElem hks,hc,List.drop_append,show lo - (List.take k s).length=0 by rw [List.length_take];omega];rfl
    rw [e,ju];rfl
   obtain⟨N0,hN0e⟩:∃ N0,aP ((s.take k).drop lo) 0=N0:=⟨_,rfl⟩
   obtain⟨N1,hN1e⟩:∃ N1,aP ((s.take (k+1)).drop lo) 0=N1:=⟨_,rfl⟩
   rw [hN0e] at hlt hnx;rw [hN1e] at hnx;simp only [hN0e];have hN0:N0≤100000000:=by omega
   have v1:IntKind.i64.wrap (10*(N0:Int))=((10*N0:Nat):Int):=by rw [bK (by omega) (by omega)];omega
   have v2:IntKind.u8.wrap ((c.toNat:Int) - 48)=((c.toNat - 48:Nat):Int):=by rw [cA ⟨by simp only [yz];omega,by simp only [nV];omega⟩];omega
   have v3:=bK (n:=((c.toNat - 48:Nat):Int)) (by omega) (by omega);have v4:IntKind.i64.wrap (((10*N0:Nat):Int)+((c.toNat - 48:Nat):Int))=(N1:Int):=by rw [bK (by omega) (by omega)];omega
   have v5:=bK (n:=(k:Int)+1) (by omega) (by omega);refine aap (by simp [hlk] <;> omega) ?_;refine aah ?_;simp;apply hK8;refine aac fun K9 hK9=>?_;refine aak ?_;refine aad rfl ?_;simp [hks,hks',hc,v1,v2,v3,v4,-Int.natCast_mul];apply hK9;clear hK9 K9;refine aad rfl ?_;simp [v5];refine⟨k+1,Le.keys [(0,0,GD p)] 19 _ rfl rfl (by simp) (by simp) (by simp) ?_ ?_,⟨by omega,by omega⟩,by omega⟩
   ·intro e he;simp only [List.mem_cons,List.not_mem_nil,or_false] at he;subst he;simp only [aB];unfold GD;split
    ·rfl
    ·exact jq .i64 2 p _
   ·simp [fM,hN1e];unfold JJ;split <;> simp [fM]
  ·obtain rfl:k=i:=by omega
   refine aao (by simp [hlk] <;> omega) ?_;refine aav ?_;simp;apply hK6;refine aaA 1 ?_;have hlt:=lq (AA (BC hd k) lo);have hln:(List.drop lo (List.take k s)).length=k - lo:=by rw [List.length_drop,List.length_take];omega
   have hp9:10 ^ (List.drop lo (List.take k s)).length≤10 ^ 9:=Nat.pow_le_pow_right (by decide) (by omega)
   have hv:aP (s.drop lo) 0=aP ((s.take k).drop lo) 0*1000000000 ^ p.length+aP (s.drop k) 0:=by
    have e:s.drop lo=(s.take k).drop lo++s.drop k:=by
     conv=>lhs;rw [← List.take_append_drop k s]
     rw [List.drop_append,show lo - (List.take k s).length=0 by rw [List.length_take];omega];rfl
    have e2:(s.drop k).length=9*p.length:=by rw [List.length_drop];omega
    rw [e,ju,eI,e2,YR]
   have hz2:(s.length:Int) - 9*(((p.length+1:Nat)):Int)=y:=by omega
   have hz3:s.length - 9*(p.length+1)=lo:=by omega
   obtain⟨N,hN⟩:∃ N,aP ((s.take k).drop lo) 0=N:=⟨_,rfl⟩
   simp only [hN] at hlt hv ⊢;have hok:ok 1000000000 (p++[N]):=b8.2 ⟨h1,bB.2 ⟨by omega,cg _⟩⟩
   have hvl:val 1000000000 (p++[N])=aP (s.drop (s.length - 9*(p++[N]).length)) 0:=by
    rw [List.length_append,List.length_singleton,hz3,ey,h2,hv,Nat.mul_comm];omega
   have hB1:GD (p++[N])=.cells true false 2 (wK .i64 (p++[N])):=if_neg (by simp);have hV1:JJ (p++[N])=.c (.aX 0 0 (p.length+1) 1):=by unfold JJ;rw [if_neg (by simp)];simp
   by_cases hp:p=[]
   ·subst hp;refine aad rfl ?_;simp [JJ,GD,hbs,gI,keyOf,-aq];apply hK5;refine aad rfl ?_;simp [w1];refine⟨[]++[N],Le.keys [(0,2,GD ([]++[N]))] 19 _ rfl rfl (by simp) (by simp) (by simp) ?_ ?_,⟨hok,hvl,by simp <;> omega⟩,by simp <;> omega⟩
    ·intro e he;simp only [List.mem_cons,List.not_mem_nil,or_false] at he;subst he;rw [hB1];simpa [wK] using jq .i64 2 ([]++[N]) _
    ·rw [hV1];have hz2':(s.length:Int) - 9=y:=by simpa using hz2
     simp [fM,hz2']
   ·have hB0:GD p=.cells true false 2 (wK .i64 p):=if_neg hp;have hV0:JJ p=.c (.aX 0 0 p.length 1):=if_neg hp;refine aad rfl ?_;simp [hB0,hV0,hbs,gI,keyOf,zQ,-aq]
    repeat refine ag ?_
    apply hK5;refine aad rfl ?_;simp [w1];refine⟨p++[N],Le.keys [(0,2,GD (p++[N]))] 19 _ rfl rfl (by simp) (by simp) (by simp) ?_ ?_,⟨hok,hvl,by simp;omega⟩,by simp;omega⟩
    ·intro e he;simp only [List.mem_cons,List.not_mem_nil,or_false] at he;subst he;rw [hB1];simpa using jq .i64 2 (p++[N]) _
    ·rw [hV1];have hz2':(s.length:Int) - 9*((p.length:Int)+1)=y:=by simpa using hz2
     simp [fM,hz2']
 ·have hp:p≠[]:=by
   intro e;subst e;have:=List.length_pos_iff.2 hne;simp at hz;omega
  have hB0:GD p=.cells true false 2 (wK .i64 p):=if_neg hp;have hV0:JJ p=.c (.aX 0 0 p.length 1):=if_neg hp;have h0:s.length - 9*p.length=0:=by omega
  rw [h0,List.drop_zero] at h2;have hout:cN p=aI 1000000000 (aP s 0):=di (by decide) h1 h2;rw [hB0,hV0];refine aao (by simp [hgo] <;> omega) ?_;refine aav ?_;simp;apply hK;refine aac fun K hK=>?_;refine aad rfl ?_;simp;refine fq.n7 (T:=2) (k:=.i64) (l:=p) 1 9 0 (by simp) (by omega) (iw _ _ (by omega)) (by simp) (by simp) (by simp) ?_;simp;apply hK;clear hK K;exact aag (κ:=0) (au.t (κ:=0) (t:=2) rfl 9 (by simp [hout]))
end Go.Am

namespace Go.Am
open Go.Am.Ty Go.Proofs N
def F8 (d:Nat):UInt8:=UInt8.ofNat (48+d)
theorem jW {d:Nat}(h:d<10):(F8 d).toNat=48+d:=by simp [F8];omega
theorem GN {c:UInt8}(h:48≤c.toNat∧c.toNat≤57):F8 (c.toNat - 48)=c:=UInt8.toNat_inj.1 (by rw [jW (by omega)];omega)
def Ct (n:Nat):Nat→List UInt8
 | 0=>[]
 | i+1=>F8 (n / 10 ^ i % 10)::Ct n i
theorem tU (n:Nat):∀ i,(Ct n i).length=i
 | 0=>rfl
 | i+1=>by rw [Ct,List.length_cons,tU n i]
theorem Mq (n:Nat):∀ i,tK (Ct n i)
 | 0=>fun c hc=>by cases hc
 | i+1=>fun c hc=>by
  rw [Ct] at hc;rcases List.mem_cons.1 hc with rfl|hc
  ·rw [jW (by omega)];omega
  ·exact Mq n i c hc
theorem L6 (n:Nat):∀ i,aP (Ct n i) 0=n % 10 ^ i
 | 0=>by simp [Ct,aP,Nat.mod_one]
 | i+1=>by
  have ih:=L6 n i
  have e:aP (Ct n (i+1)) 0=(n / 10 ^ i % 10)*10 ^ i+n % 10 ^ i:=by
   rw [Ct];show aP (Ct n i) (10*0+((F8 (n / 10 ^ i % 10)).toNat - 48))=_;rw [eI,ih,tU,jW (by omega),Nat.mul_zero,Nat.zero_add,Nat.add_sub_cancel_left]
  rw [e,Nat.pow_succ,Nat.mod_mul,Nat.mul_comm,Nat.add_comm]
theorem qM (s t:List UInt8):aO Tryz.prog .add 9 (.c (.d (.str s))) (.c (.d (.str t)))=some (.c (.d (.str (s++t))),[],[],s.length+t.length≤9223372036854775807):=by
 simp [aO,IW,oH]
theorem M6:eJ Tryz.prog 138=some (5,1):=by simp
theorem RX (lv:Key→LB)(κ:Key)(h:lv κ=.hole)(a:CV):aq Tryz.prog 138 1 [0] lv κ [.c a]=some (.c (.aX κ 0 1 1),[(κ,.cells true false 5 [a])],[],True):=by
 unfold aq;rw [h];kernel_rfl
theorem Gq (G:List (List DV))(n:Nat)(hn:n<1000000000):aj Tryz.prog G 273 [.c (.d (.int .i64 (n:Int)))] (.c (.d (.str (Ct n 9)))):=by
 have hbs:∀ (lv:Key→LB) (h:lv 0=.hole) (a:CV),aq Tryz.prog 138 1 [0] lv 0 [.c a]=some (.c (.aX 0 0 1 1),[(0,.cells true false 5 [a])],[],True):=fun lv h a=>RX lv 0 h a
 refine aj.lS Tryz.func273 rfl (by rw [Tryz.ntmps273];simp)  ?_;rintro⟨_,_,w0,F0,W0,_,bq,β0⟩ rfl rfl rfl rfl;refine aac fun K hK=>?_;refine aad rfl ?_;simp;apply hK;clear hK K;refine aac fun K hK=>?_;refine aad rfl ?_;simp;apply hK;clear hK K;refine aac fun K hK=>?_;refine aac fun K1 hK1=>?_;refine aad rfl ?_;simp;apply hK1;clear hK1 K1;refine aak ?_;refine aax (fun (i:Nat)=>⟨bt [(0,.c (.d (.int .i64 ((n / 10 ^ i:Nat):Int)))),(3,.c (.d (.str (Ct n i)))),(4,.c (.d (.int .i64 (i:Int))))],fun _=>.hole⟩) 0 (fun i=>i≤9) (fun i=>9 - i) 0 (Le.mk' _ rfl aA (by simp [Ct])) (by omega) ?_;intro i hi
 try simp only at hi
 have hle:n / 10 ^ i≤n:=Nat.div_le_self _ _;have hnx:n / 10 ^ (i+1)=n / 10 ^ i / 10:=by rw [Nat.pow_succ,Nat.div_div_eq_div_mul]
 have hds:Ct n (i+1)=F8 (n / 10 ^ i % 10)::Ct n i:=rfl;have hdl:=tU n i;obtain⟨q,hq⟩:∃ q,n / 10 ^ i=q:=⟨_,rfl⟩
 obtain⟨T,hT⟩:∃ T,Ct n i=T:=⟨_,rfl⟩
 rw [hq] at hle hnx hds;rw [hT] at hds hdl;simp only [hq,hT];refine aac fun K3 hK3=>aac fun K4 hK4=>?_;refine aad rfl ?_;simp;apply hK4;clear hK4 K4
 by_cases hlt:i<9
 ·have hlt':(i:Int)<9:=by omega
  have e1:(q:Int).tmod 10=((q % 10:Nat):Int):=rz q 10;have e2:IntKind.i64.wrap (48+((q % 10:Nat):Int))=((48+q % 10:Nat):Int):=by rw [bK (by omega) (by omega)];omega
  have e3:IntKind.u8.wrap ((48+q % 10:Nat):Int)=((48+q % 10:Nat):Int):=cA ⟨by simp only [yz];omega,by simp only [nV];omega⟩;have e4:(q:Int).tdiv 10=((q / 10:Nat):Int):=ld q 10;have w4:=bK (n:=((q / 10:Nat):Int)) (by omega) (by omega);have w5:=bK (n:=(i:Int)+1) (by omega) (by omega);refine aap (by simp [hlt,hlt'] <;> omega) ?_;refine aah ?_;simp;apply hK3;refine aac fun K5 hK5=>?_;refine aak ?_;refine aac fun K6 hK6=>?_;refine AW.ua ?_;refine mh.run 5 rfl ?_;simp [e1,e2,e3,hbs,-aq,-Int.natCast_add,-Int.natCast_emod];refine mh.He (κ:=0) (off:=0) (own:=true) (fz:=false) (T':=5) (e:=5) (cs:=[.d (.int .u8 ((48+q % 10:Nat):Int))]) (n:=((48+q % 10:Nat):Int)) 1 rfl rfl rfl (by simp) (by simp) (by simp) M6 Tryz.underlying5 (by simp) ?_;refine mh.run 3 rfl ?_;simp [qM]
  repeat refine ag ?_
  refine mh.done ?_;apply hK6;clear hK6 K6;refine aad rfl ?_;simp [e4,w4,-Int.natCast_ediv];apply hK5;refine aad rfl ?_;simp [w5];refine⟨i+1,Le.keys [] 19 _ rfl rfl (by simp) (by simp) (by simp) (by simp) ?_,by omega,by omega⟩
  have f0:(q:Int) / 10=(n:Int) / 10 ^ (i+1):=by
   have:=congrArg (fun x:Nat=>(x:Int)) hnx;simpa using this.symm
  have f1:(48+(q:Int) % 10).toNat=48+q % 10:=by omega
  simp [fM,hds,F8];exact⟨f0,by rw [f1];simp⟩
 ·obtain rfl:i=9:=by omega
  refine aao (by simp [hlt] <;> omega) ?_;refine aav ?_;simp;apply hK;refine aac fun K9 hK9=>?_;refine aad rfl ?_;simp;apply hK9;clear hK9 K9;exact aag (κ:=0) (au.t (κ:=0) (t:=2) rfl 9 (by simp [hT]))
def rZ:Nat→Nat→List UInt8
 | 0,n=>[F8 n]
 | f+1,n=>if n<10 then [F8 n] else rZ f (n / 10)++[F8 (n % 10)]
def ig (n:Nat):List UInt8:=rZ n n
theorem An:∀ (f n:Nat),n≤f→rZ f n=ig n
 | 0,n,h=>by have:n=0:=by omega
             subst this;rfl
 | f+1,n,h=>by
  unfold ig
  by_cases h10:n<10
  ·cases n with
   | zero=>rfl
   | succ n=>rw [rZ,if_pos h10,rZ,if_pos h10]
  ·obtain⟨m,rfl⟩:∃ m,n=m+1:=⟨n - 1,by omega⟩
   rw [rZ,if_neg h10,rZ,if_neg h10,An f ((m+1) / 10) (by omega),An m ((m+1) / 10) (by omega)]
theorem Ep {n:Nat}(h:n<10):ig n=[F8 n]:=by
 unfold ig
 cases n with
 | zero=>rfl
 | succ n=>rw [rZ,if_pos h]
theorem E5 {n:Nat}(h:¬ n<10):ig n=ig (n / 10)++[F8 (n % 10)]:=by
 obtain⟨m,rfl⟩:∃ m,n=m+1:=⟨n - 1,by omega⟩
 conv=>lhs;unfold ig
 rw [rZ,if_neg h,An m ((m+1) / 10) (by omega)]
theorem xW (l:List UInt8)(c:UInt8):aP (l++[c]) 0=10*aP l 0+(c.toNat - 48):=by rw [ju];rfl
theorem Lx {l:List UInt8}(h:tK l) (hne:l≠[]) (h0:l.getD 0 0≠48):1≤aP l 0:=by
 cases l with
 | nil=>exact absurd rfl hne
 | cons c l=>
  have hc:=h c (by simp);have hc48:c≠48:=h0;have hcn:c.toNat≠48:=fun e=>hc48 (UInt8.toNat_inj.1 (by rw [e];rfl))
  show 1≤aP l (10*0+(c.toNat - 48));rw [eI];have:1*1≤(10*0+(c.toNat - 48))*10 ^ l.length:=Nat.mul_le_mul (by omega) (Nat.pow_pos (by decide));omega
theorem JD:∀ (k:Nat) (s:List UInt8),s.length=k→isRow s→s=ig (aP s 0)
 | 0,s,hk,h=>absurd (List.eq_nil_of_length_eq_zero hk) h.2.1
 | k+1,s,hk,⟨h1,h2,h3⟩=>by
  rcases List.eq_nil_or_concat s with rfl|⟨l,c,rfl⟩
  ·exact absurd rfl h2
  ·rw [List.concat_eq_append] at *
   have hc:=h1 c (by simp);have hl:tK l:=fun x hx=>h1 x (by simp [hx])
   rw [xW]
   by_cases hle:l=[]
   ·subst hle;show [c]=ig (10*aP [] 0+(c.toNat - 48));rw [show 10*aP [] 0+(c.toNat - 48)=c.toNat - 48 by simp [aP],Ep (by omega),GN hc]
   ·have h0:l.getD 0 0≠48:=by
     rcases h3 with h3|h3
     ·exfalso;have:=congrArg List.length h3;simp at this;exact hle this
     ·cases l with
      | nil=>exact absurd rfl hle
      | cons a l=>exact h3
    have hp:=Lx hl hle h0;have ih:=JD k l (by simpa using hk) ⟨hl,hle,.inr h0⟩;rw [E5 (by omega),show (10*aP l 0+(c.toNat - 48)) / 10=aP l 0 by omega,show (10*aP l 0+(c.toNat - 48)) % 10=c.toNat - 48 by omega,← ih,GN hc]
theorem tV {s:List UInt8}(h:isRow s):s=ig (aP s 0):=JD _ s rfl h
end Go.Am

namespace Go.Am
open Go.Am.Ty Go.Proofs N
set_option maxHeartbeats 4000000 in
theorem ym (G:List (List DV))(A:Nat)(o:Option (List Nat))(ho:dO o=aI 1000000000 A)(hl:(aI 1000000000 A).length≤100000):aj Tryz.prog G 217 [.c (rC o)] (.c (.d (.str (ig A)))):=by
 have hok:=(bk (B:=1000000000) (by decide) A).1;have hval:=bg (B:=1000000000) (by decide) A;obtain⟨D,hD⟩:∃ D,aI 1000000000 A=D:=⟨_,rfl⟩
 rw [hD] at hok hval hl ho;have nineG:=fun n h=>Gq G n h
 rw [← eY];have hw0:=bK (n:=(D.length:Int) - 1) (by omega) (by omega);refine aj.aH Tryz.func217 rfl (by rw [Tryz.ntmps217];simp) ?_;rintro⟨_,_,w0,F0,W0,_,bq,β0⟩ rfl rfl rfl;refine aac fun K hK=>?_;refine aad rfl ?_;simp;apply hK;clear hK K;refine aac fun K hK=>?_;refine aad rfl ?_;simp;apply hK;clear hK K;refine aac fun K hK=>?_;refine aac fun K1 hK1=>?_;refine aad rfl ?_;simp [ho,hw0];apply hK1;clear hK1 K1;refine aak ?_
 refine aax (fun (p:Nat × List UInt8)=>⟨bt [(0,nK .i64 o),(3,.c (.d (.str p.2))),(4,.c (.d (.int .i64 ((p.1:Int) - 1))))],fun _=>.hole⟩) 0
  (fun p=>p.1≤D.length∧tK p.2∧aP p.2 0=val 1000000000 (D.drop p.1)∧p.2.length=9*(D.length - p.1)) (fun p=>p.1) (D.length,[]) (Le.mk' _ rfl aA (by simp [hw0])) ⟨Nat.le_refl _,fun c hc=>(by cases hc),by simp [aP],by simp⟩ ?_
 rintro⟨k,S⟩ ⟨h1,h2,h3,h4⟩;simp only at h1 h2 h3 h4;refine aac fun K3 hK3=>aac fun K4 hK4=>?_;refine aad rfl ?_;simp;apply hK4;clear hK4 K4
 cases k with
 | succ k=>
  have hk:k<D.length:=by omega
  have hko:k<(dO o).length:=by rw [ho];exact hk
  have e2:((k+1:Nat):Int) - 1=k:=by omega
  simp only [e2];obtain⟨x,hx⟩:∃ x,(dO o)[k]=x:=⟨_,rfl⟩
  have hxD:D[k]=x:=by rw [← hx];congr 1;exact ho.symm
  have hxB:x<1000000000:=by rw [← hxD];exact hok _ (List.getElem_mem hk)
  have hv:=cz (B:=1000000000) hk;rw [hxD] at hv;have nn:=nineG x hxB;have hnd:=Mq x 9;have hnv:=L6 x 9;have hnl:=tU x 9;obtain⟨T,hT⟩:∃ T,Ct x 9=T:=⟨_,rfl⟩
  rw [hT] at nn hnd hnv hnl;have w9:=bK (n:=(k:Int) - 1) (by omega) (by omega);refine aaq ?_;refine aah ?_;simp;apply hK3;refine aac fun K5 hK5=>?_;refine aak ?_;refine aad rfl ?_;simp [hko,hx];refine ai.p 0 9 nn ?_;simp [qM]
  repeat refine ag ?_
  apply hK5;refine aad rfl ?_;simp [w9];refine⟨k,S++T,Le.mk' _ rfl aA (by simp),⟨by omega,?_,?_,?_⟩,by omega⟩
  ·intro c hc;rcases List.mem_append.1 hc with hc|hc
   ·exact h2 c hc
   ·exact hnd c hc
  ·rw [ju,eI,hnv,hnl,h3,hv,Nat.mod_eq_of_lt hxB];omega
  ·rw [List.length_append,h4,hnl];omega
 | zero=>
  rw [List.drop_zero,hval] at h3;refine aat ?_;refine aav ?_;simp;apply hK;refine aac fun K hK=>?_;refine aak ?_
  refine aax (fun (S:List UInt8)=>⟨bt [(3,.c (.d (.str S)))],fun _=>.hole⟩) 0
   (fun S=>tK S∧aP S 0=A∧S.length≤9*D.length) (fun S=>S.length) S (Le.mk' _ rfl aA (by simp)) ⟨h2,h3,by omega⟩ ?_
  rintro S ⟨q1,q2,q3⟩
  have fin:∀ (fr:Nat→AV) (κ:Nat),S≠[]→isRow S→fr 3=.c (.d (.str S))→K ⟨fr,fun _=>.hole⟩ κ:=by
   intro fr κ hne hr z3;have hrd:=tV hr;rw [q2] at hrd;apply hK;refine aac fun K6 hK6=>?_;refine aac fun K7 hK7=>?_;refine aad rfl ?_;simp [z3,tP,hne];apply hK7;clear hK7 K7;refine aat ?_;refine aah ?_;simp;apply hK6;refine aac fun K7 hK7=>?_;refine aad rfl ?_;simp [z3];apply hK7;clear hK7 K7;exact aag (κ:=0) (au.t (κ:=0) (t:=2) rfl 9 (by simp [hrd.symm]))
  refine aac fun K4 hK4=>aac fun K5 hK5=>?_
  cases S with
  | nil=>
   have hA:A=0:=q2.symm;refine aad rfl ?_;simp;apply hK5;refine aat ?_;refine aav ?_;simp;apply hK;refine aac fun K6 hK6=>?_;refine aac fun K7 hK7=>?_;refine aad rfl ?_;simp [tP];apply hK7;clear hK7 K7;refine aaq ?_;refine aad rfl ?_;simp;apply hK6;refine aac fun K7 hK7=>?_;refine aad rfl ?_;simp;apply hK7;clear hK7 K7;have hs:ig A=[48]:=by rw [hA];rfl
   exact aag (κ:=0) (au.t (κ:=0) (t:=2) rfl 9 (by simp [hs]))
  | cons c l=>
   have hc:=q1 c (by simp)
   cases l with
   | nil=>
    refine aad rfl ?_;simp;apply hK5;refine aat ?_;refine aav ?_;simp;refine fin _ _ (by simp) ⟨q1,by simp,?_⟩ (by simp)
    by_cases h:c=48
    ·exact .inl (by rw [h])
    ·exact .inr h
   | cons d l=>
    have hl2:(1:Int)<((l.length:Int)+1+1):=by omega
    have hl3:(0:Int)<((l.length:Int)+1+1):=by omega
    have ll:l.length≤900000:=by simp at q3;omega
    by_cases h:c=48
    ·subst h;refine aad rfl ?_;simp [hl2,hl3];apply hK5;refine aaq ?_;refine aah ?_;simp;apply hK4;refine aak ?_;refine aad rfl ?_;simp
     repeat refine ag ?_
     have ht:List.take (((l.length:Int)+1+1).toNat) ((48:UInt8)::d::l)=48::d::l:=List.take_of_length_le (by simp;omega);exact⟨d::l,Le.mk' _ rfl aA (by simp [ht]),⟨fun x hx=>q1 x (List.mem_cons_of_mem _ hx),q2,by simp at q3 ⊢;omega⟩,by simp⟩
    ·have hcn:¬ (c.toNat:Int)=48:=fun e=>h (UInt8.toNat_inj.1 (by show c.toNat=48;omega))
     have hcn2:¬ c.toNat=48:=by omega
     refine aad rfl ?_;simp [hl2,hl3,hcn,hcn2];apply hK5;refine aat ?_;refine aav ?_;simp;exact fin _ _ (by simp) ⟨q1,by simp,.inr h⟩ (by simp)
end Go.Am

namespace Go.Am
open Go.Am.Ty Go.Proofs N
def xm (x:Rat):List UInt8:=(if x.num<0 then [45] else [])++ig x.num.natAbs++(if x.den=1 then [] else [47]++ig x.den)
theorem Gh {n L:Nat}(h:n<10 ^ L) (hL:1≤L):(ig n).length≤L:=by
 induction L generalizing n with
 | zero=>omega
 | succ L ih=>
  by_cases h10:n<10
  ·rw [Ep h10];simp
  ·rw [E5 h10,List.length_append,List.length_singleton]
   have hL1:1≤L:=by
    rcases Nat.eq_zero_or_pos L with h0|h0
    ·subst h0;simp at h;omega
    ·exact h0
   have:=ih (n:=n / 10) (by rw [Nat.div_lt_iff_lt_mul (by decide),← Nat.pow_succ];exact h) hL1;omega
theorem Ez (n:Nat):(ig n).length≤10*nl n+1:=by
 have h1:=vN n;have h2:4294967296 ^ nl n≤(10 ^ 10) ^ nl n:=Nat.pow_le_pow_left (by decide) _;rw [← Nat.pow_mul] at h2;have h3:n<10 ^ (10*nl n+1):=Nat.lt_of_lt_of_le (Nat.lt_of_lt_of_le h1 h2) (Nat.pow_le_pow_right (by decide) (by omega));exact Gh h3 (by omega)
theorem KP {x:Rat}:eo x<0↔x.num<0:=by
 unfold eo
 by_cases h:x.num=0
 ·rw [if_pos h];omega
 ·rw [if_neg h];split <;> omega
theorem FV (G:List (List DV))(x:Rat)(hx:iN x 20000):aj Tryz.prog G 153 [cT x] (.c (.d (.str (xm x)))):=by
 have h1:=I6 hx.1;have h2:=I6 hx.2;have t1:=ym G x.num.natAbs (iK x) (lB x) (by omega);have ii:=vh G x;have l1:=Ez x.num.natAbs;have l2:=Ez x.den;have hx1:=hx.1;have hx2:=hx.2;have hn:=KP (x:=x)
 have t2:¬ x.den=1→aj Tryz.prog G 217 [.c (rC (kJ x))] (.c (.d (.str (ig x.den)))):=fun h=>by
  have h0:x.num≠0:=fun e=>h (Ay e)
  refine ym G x.den (kJ x) (by rw [y7 h0];rfl) (by omega)
 have hS:xm x=(if x.num<0 then [45] else [])++ig x.num.natAbs++(if x.den=1 then [] else [47]++ig x.den):=rfl;generalize xm x=Z at *
 generalize ig x.num.natAbs=P at *
 generalize ig x.den=Q at *
 refine aj.aH Tryz.func153 rfl (by rw [Tryz.ntmps153];simp) ?_;rintro⟨_,_,w0,F0,W0,_,bq,β0⟩ rfl rfl rfl;refine aac fun K hK=>?_;refine aad rfl ?_;simp;apply hK;clear hK K;refine aac fun K hK=>?_;refine aad rfl ?_;simp;refine ai.p 1 9 t1 ?_;simp;apply hK;clear hK K;refine aac fun K hK=>?_
 have fin:∀ (S:List UInt8) (fr:Nat→AV) (κ:Nat),S=(if x.num<0 then [45] else [])++P→fr 1=.c (.ptr 0 0)→fr 3=.c (.d (.str S))→K ⟨fr,aJ (fun _=>.hole) 0 (.cells true false 215 [.d (.int .i64 (eo x)),rC (iK x),rC (kJ x)])⟩ κ:=by
  intro S fr κ hSe z1 z3;have hSl:S.length≤P.length+1:=by rw [hSe];split <;> simp <;> omega
  rw [← hSe] at hS;apply hK;refine aac fun K1 hK1=>?_;refine aac fun K2 hK2=>?_
  by_cases hd:x.den=1
  ·rw [if_pos hd,List.append_nil] at hS;refine aad rfl ?_;simp [z1];refine ai.p 1 9 ii ?_;simp [hd];apply hK2;clear hK2 K2;refine aat ?_;refine aah ?_;simp;apply hK1;refine aac fun K2 hK2=>?_;refine aad rfl ?_;simp [z3];apply hK2;clear hK2 K2;exact aag (κ:=0) (au.t (κ:=0) (t:=2) rfl 9 (by simp [hS]))
  ·have t2':=t2 hd;rw [if_neg hd] at hS;refine aad rfl ?_;simp [z1];refine ai.p 1 9 ii ?_;simp [hd];apply hK2;clear hK2 K2;refine aaq ?_;refine aad rfl ?_;simp [z1,z3,qM]
   repeat refine ag ?_
   refine ai.pure 1 9 t2' (by simp) (by simp) (by simp) ?_;simp [qM]
   repeat refine ag ?_
   apply hK1;refine aac fun K2 hK2=>?_;refine aad rfl ?_;simp;apply hK2;clear hK2 K2;exact aag (κ:=0) (au.t (κ:=0) (t:=2) rfl 9 (by simp [hS]))
 refine aac fun K1 hK1=>?_
 by_cases hneg:x.num<0
 ·have hr:=hn.2 hneg;refine aad rfl ?_;simp [hr];apply hK1;clear hK1 K1;refine aaq ?_;refine aad rfl ?_;simp [qM]
  repeat refine ag ?_
  exact fin ([45]++P) _ _ (by rw [if_pos hneg]) (by simp) (by simp)
 ·have hr:¬ eo x<0:=fun h=>hneg (hn.1 h)
  refine aad rfl ?_;simp [hr];apply hK1;clear hK1 K1;refine aat ?_;refine aah ?_;simp;exact fin P _ _ (by rw [if_neg hneg];rfl) (by simp) (by simp)
end Go.Am

namespace Go.Am
open Go.Am.Ty Go.Proofs N
theorem au.Vf {c:Ctx}{fn:Func}{x y z u:AV}{t1 t2 t3 t4:Nat}{s:aG}{κ:Nat}(hr:fn.results=#[.tmp t1,.tmp t2,.tmp t3,.tmp t4]) (kh:Key) (hx:s.fr t1=x) (hy:s.fr t2=y) (hz:s.fr t3=z) (hu:s.fr t4=u) (hp:x.pure=true) (hq:y.pure=true) (hw:z.pure=true) (hv:u.pure=true) (hh:s.lv kh=.hole)
 (n1:x.cP=true) (n2:y.cP=true) (n3:z.cP=true) (n4:u.cP=true) (h12:t1≠t2) (h13:t1≠t3) (h14:t1≠t4) (h23:t2≠t3) (h24:t2≠t4) (h34:t3≠t4):au c fn (.tup [x,y,z,u]) .ret s κ:=by
 refine⟨[(t1,x),(t2,y),(t3,z),(t4,u)],kh,by simp [hp,hx,hq,hy,hw,hz,hv,hu],hh,?_⟩;rw [hr];simp [dH,kq,n5,bt,h12.symm,h13.symm,h14.symm,h23.symm,h24.symm,h34.symm,n1,n2,n3,n4]
theorem uw:∀ {s:List UInt8},(∀ c∈s,c≠47)→jj s [47] = -1
 | [],_=>rfl
 | a::s,h=>by
  have ha:=h a (by simp);have ih:=uw (s:=s) fun c hc=>h c (by simp [hc])
  unfold jj at ih ⊢;rw [Lib.index];have hp:([47]:List UInt8).isPrefixOf (a::s)=false:=by simp [List.isPrefixOf,Ne.symm ha]
  rw [hp,ih];rfl
theorem Dl:∀ {a b:List UInt8},(∀ c∈a,c≠47)→jj (a++47::b) [47]=a.length
 | [],b,_=>by simp [jj,Lib.index,List.isPrefixOf]
 | x::a,b,h=>by
  have hx:=h x (by simp);have ih:=Dl (a:=a) (b:=b) fun c hc=>h c (by simp [hc])
  unfold jj at ih ⊢;rw [List.cons_append,Lib.index];have hp:([47]:List UInt8).isPrefixOf (x::(a++47::b))=false:=by simp [List.isPrefixOf,Ne.symm hx]
  rw [hp,ih];have h1:((a.length:Int) == -1)=false:=by rw [beq_eq_false_iff_ne];omega
  simp only [Bool.false_eq_true,if_false,h1,List.length_cons];omega
def Xr (s:List UInt8):List UInt8:=rj s [47]
def Q6 (s:List UInt8):List UInt8:=if 0≤jj s [47] then qS s [47] else [49]
def AP (neg:Bool):Int:=if neg then -1 else 1
abbrev MN (neg:Bool)(s:List UInt8):AV:=.tup [.c (.d (.str (Xr s))),.c (.d (.str (Q6 s))),.c (.d (.int .i64 (AP neg))),.c (.d (.bool (!gX neg (rj s [47]) (qS s [47]) (decide (0≤jj s [47])))))]
set_option maxHeartbeats 4000000 in
theorem FP (G:List (List DV))(r:List UInt8):aj Tryz.prog G 242 [.c (.d (.str r))] (MN (qP r [45]) (jP r [45])):=by
 refine aZ.iQ 0 (by simp) (fun V v h=>(show r.length≤9223372036854775807 by cases h.1 with|str _ hl=>exact hl)) fun hs=>?_;have rowG:=fun s=>I4 G s
 have hsl:(jP r [45]).length≤r.length:=by unfold jP;split <;> simp
 have hdec:(qP r [45]=true∧∃ l,r=45::l∧jP r [45]=l)∨(qP r [45]=false∧jP r [45]=r∧(r=[]∨∃ c l,r=c::l∧c≠45)):=by
  cases r with
  | nil=>exact .inr ⟨rfl,rfl,.inl rfl⟩
  | cons c l=>
   by_cases hc:c=45
   ·subst hc;have:qP (45::l) [45]=true:=by simp [qP]
    exact .inl ⟨this,l,rfl,by unfold jP;rw [if_pos this];rfl⟩
   ·have:qP (c::l) [45]=false:=by simp [qP,hc]
    exact .inr ⟨this,by unfold jP;rw [if_neg (by rw [this];decide)],.inr ⟨c,l,rfl,hc⟩⟩
 generalize jP r [45]=s at *
 generalize qP r [45]=neg at *
 refine aj.aH Tryz.func242 rfl (by rw [Tryz.ntmps242];simp) ?_;rintro⟨_,_,w0,F0,W0,_,bq,β0⟩ rfl rfl rfl;refine aac fun K hK=>?_;refine aad rfl ?_;simp;apply hK;clear hK K;refine aac fun K hK=>?_;refine aad rfl ?_;simp;apply hK;clear hK K;refine aac fun K hK=>?_
 have main:∀ (fr:Nat→AV) (κ:Nat),fr 6=.c (.d (.str s))→fr 7=.c (.d (.int .i64 (AP neg)))→K ⟨fr,fun _=>.hole⟩ κ:=by
  intro fr κ z6 z7;apply hK;refine aac fun K hK=>?_;refine aac fun K1 hK1=>?_;refine aad rfl ?_;simp;apply hK1;clear hK1 K1;refine aak ?_;refine aax (fun (i:Nat)=>⟨bt [(6,.c (.d (.str s))),(7,.c (.d (.int .i64 (AP neg)))),(8,.c (.d (.int .i64 (i:Int))))],fun _=>.hole⟩) 0 (fun i=>i≤s.length∧∀ c∈s.take i,c≠47) (fun i=>s.length - i) 0 (Le.mk' _ rfl aA (by simp [z6,z7])) ⟨Nat.zero_le _,fun c hc=>by simp at hc⟩ ?_;rintro i ⟨hi,hd⟩;refine aac fun K3 hK3=>aac fun K4 hK4=>?_;refine aad rfl ?_;simp;apply hK4;clear hK4 K4
  by_cases hlt:i<s.length
  ·have hlt':(i:Int)<(s.length:Int):=by omega
   have wi:=bK (n:=(i:Int)+1) (by omega) (by omega);obtain⟨c,hc⟩:∃ c,s[i]=c:=⟨_,rfl⟩
   refine aap (by simp [hlt] <;> omega) ?_;refine aah ?_;simp;apply hK3;refine aac fun K5 hK5=>?_;refine aak ?_;refine aac fun K6 hK6=>?_;refine aad rfl ?_;simp [hlt,hlt',hc];apply hK6;clear hK6 K6
   by_cases h47:c=47
   ·have hcn:(c.toNat:Int)=47:=by rw [h47];rfl
    have hcn2:c.toNat=47:=by rw [h47];rfl
    have hsp:s=s.take i++47::s.drop (i+1):=by
     conv=>lhs;rw [← List.take_append_drop i s,List.drop_eq_getElem_cons hlt,hc,h47]
    have hidx:jj s [47]=i:=by
     have:=Dl (b:=s.drop (i+1)) hd;rw [← hsp,List.length_take,Nat.min_eq_left (by omega)] at this;exact this
    have hge:0≤jj s [47]:=by rw [hidx];omega
    have hA:rj s [47]=s.take i:=by unfold rj;rw [if_pos hge,hidx,Int.toNat_natCast]
    have hB:qS s [47]=s.drop (i+1):=by unfold qS;rw [if_pos hge,hidx,Int.toNat_natCast];rfl
    have hT:Xr s=s.take i:=hA;have hB2:Q6 s=s.drop (i+1):=by unfold Q6;rw [if_pos hge,hB]
    have hbad:(!gX neg (rj s [47]) (qS s [47]) (decide (0≤jj s [47])))=(ef (s.take i) && ef (s.drop (i+1)) && !decide (s.drop (i+1)=[48]) && !decide (s.drop (i+1)=[49]) && (!decide (s.take i=[48]) || decide (0<AP neg))):=by
     rw [hA,hB,decide_eq_true hge];unfold gX AP
     cases ef (s.take i) <;> cases ef (s.drop (i+1)) <;> cases neg <;> cases decide (s.take i=[48]) <;> cases decide (s.drop (i+1)=[48]) <;> cases decide (s.drop (i+1)=[49]) <;> rfl
    have e1:∀ l:List UInt8,(l.take ((i:Int)).toNat).drop (0:Int).toNat=l.take i:=fun l=>rfl
    have hdr:(s.take ((s.length:Int)).toNat).drop ((i+1:Nat):Int).toNat=s.drop (i+1):=by rw [Int.toNat_natCast,Int.toNat_natCast,List.take_length]
    obtain⟨p,hp⟩:∃ p,s.take i=p:=⟨_,rfl⟩
    obtain⟨q,hq⟩:∃ q,s.drop (i+1)=q:=⟨_,rfl⟩
    have rp:=rowG p;have rq:=rowG q;rw [hp] at hT;rw [hq] at hB2;rw [hp,hq] at hbad;have hp':List.drop 0 (List.take i s)=p:=hp;refine aap (by simp [hcn,hcn2] <;> omega) ?_;refine aac fun K6 hK6=>?_;refine aay mixed (by kernel_rfl) rfl ?_;simp [wi,hp,hq,hlt]
    repeat refine ag ?_
    refine⟨by kernel_rfl,?_⟩;apply hK6;clear hK6 K6;refine aac fun K6 hK6=>?_
    have fin:∀ (b:Bool) (fr:Nat→AV) (κ:Nat),fr 2=.c (.d (.str p))→fr 3=.c (.d (.str q))→fr 4=.c (.d (.int .i64 (AP neg)))→fr 5=.c (.d (.bool b)) →
     b=(ef p && ef q && !decide (q=[48]) && !decide (q=[49]) && (!decide (p=[48]) || decide (0<AP neg)))→K6 ⟨fr,fun _=>.hole⟩ κ:=by
     intro b fr κ z2 z3 z4 z5 hb;rw [← hbad] at hb;apply hK6;exact aag (κ:=0) (au.Vf (κ:=0) rfl 9 (by simp [z2,hT]) (by simp [z3,hB2]) (by simp [z4]) (by simp [z5,hb]) rfl rfl rfl rfl rfl rfl rfl rfl rfl (by decide) (by decide) (by decide) (by decide) (by decide) (by decide))
    cases r1:ef p with
    | false=>
     refine aad rfl ?_;simp;refine ai.p 0 9 rp ?_;simp [r1];exact fin false _ _ (by simp) (by simp) (by simp) (by simp) (by simp [r1])
    | true=>
    cases r2:ef q with
    | false=>
     refine aad rfl ?_;simp;refine ai.p 0 9 rp ?_;simp [r1];refine ai.p 0 9 rq ?_;simp [r2];exact fin false _ _ (by simp) (by simp) (by simp) (by simp) (by simp [r1,r2])
    | true=>
    by_cases q0:q=[48]
    ·subst q0;refine aad rfl ?_;simp;refine ai.p 0 9 rp ?_;simp [r1];refine ai.p 0 9 rq ?_;simp [r2,sV];exact fin false _ _ (by simp) (by simp) (by simp) (by simp) (by simp [r1,r2])
    by_cases q1:q=[49]
    ·subst q1;refine aad rfl ?_;simp;refine ai.p 0 9 rp ?_;simp [r1];refine ai.p 0 9 rq ?_;simp [r2,sV];exact fin false _ _ (by simp) (by simp) (by simp) (by simp) (by simp [r1,r2])
    by_cases p0:p=[48]
    ·subst p0;refine aad rfl ?_;simp;refine ai.p 0 9 rp ?_;simp [r1];refine ai.p 0 9 rq ?_;simp [r2,sV,q0,q1];exact fin (decide (0<AP neg)) _ _ (by simp) (by simp) (by simp) (by simp) (by simp [r1,r2,q0,q1])
    ·refine aad rfl ?_;simp;refine ai.p 0 9 rp ?_;simp [r1];refine ai.p 0 9 rq ?_;simp [r2,sV,q0,q1,p0];exact fin true _ _ (by simp) (by simp) (by simp) (by simp) (by simp [r1,r2,q0,q1,p0])
   ·have hcn:¬ (c.toNat:Int)=47:=fun e=>h47 (UInt8.toNat_inj.1 (by show c.toNat=47;omega))
    have hcn2:¬ c.toNat=47:=by omega
    refine aao (by simp [hcn,hcn2] <;> omega) ?_;refine aah ?_;simp;apply hK5;refine aad rfl ?_;simp [wi];refine⟨i+1,Le.mk' _ rfl aA (by simp),⟨by omega,?_⟩,by omega⟩;intro x hx;rw [List.take_add_one,List.getElem?_eq_getElem hlt,List.mem_append] at hx;rcases hx with hx|hx
    ·exact hd x hx
    ·simp only [Option.toList_some,List.mem_singleton] at hx;rw [hx,hc];exact h47
  ·have he:i=s.length:=by omega
   subst he;rw [List.take_length] at hd;have hidx:=uw hd;have hge:¬ 0≤jj s [47]:=by rw [hidx];decide
   have hA:rj s [47]=s:=if_neg hge;have hT:Xr s=s:=hA;have hB2:Q6 s=[49]:=if_neg hge
   have hbad:(!gX neg (rj s [47]) (qS s [47]) (decide (0≤jj s [47])))=(ef s && (!decide (s=[48]) || decide (0<AP neg))):=by
    rw [hA,decide_eq_false hge];unfold gX AP
    cases ef s <;> cases neg <;> cases decide (s=[48]) <;> rfl
   have rs:=rowG s;refine aao (by simp [hlt] <;> omega) ?_;refine aav ?_;simp;apply hK;refine aac fun K6 hK6=>?_
   have fin:∀ (b:Bool) (fr:Nat→AV) (κ:Nat),fr 2=.c (.d (.str s))→fr 3=.c (.d (.str [49]))→fr 4=.c (.d (.int .i64 (AP neg)))→fr 5=.c (.d (.bool b)) →
    b=(ef s && (!decide (s=[48]) || decide (0<AP neg)))→K6 ⟨fr,fun _=>.hole⟩ κ:=by
    intro b fr κ z2 z3 z4 z5 hb;rw [← hbad] at hb;apply hK6;exact aag (κ:=0) (au.Vf (κ:=0) rfl 9 (by simp [z2,hT]) (by simp [z3,hB2]) (by simp [z4]) (by simp [z5,hb]) rfl rfl rfl rfl rfl rfl rfl rfl rfl (by decide) (by decide) (by decide) (by decide) (by decide) (by decide))
   cases r1:ef s with
   | false=>
    refine aad rfl ?_;simp;refine ai.p 0 9 rs ?_;simp [r1];exact fin false _ _ (by simp) (by simp) (by simp) (by simp) (by simp [r1])
   | true=>
   by_cases p0:s=[48]
   ·subst p0;refine aad rfl ?_;simp;refine ai.p 0 9 rs ?_;simp [r1,sV];exact fin (decide (0<AP neg)) _ _ (by simp) (by simp) (by simp) (by simp) (by simp [r1])
   ·refine aad rfl ?_;simp;refine ai.p 0 9 rs ?_;simp [r1,sV,p0];exact fin true _ _ (by simp) (by simp) (by simp) (by simp) (by simp [r1,p0])
 refine aac fun K1 hK1=>?_;rcases hdec with ⟨hn,l,hr,hl⟩|⟨hn,hl,hr|⟨c,l,hr,hc⟩⟩
 ·subst hr;subst hl;have ht:List.take (((s.length:Int)+1).toNat) ((45:UInt8)::s)=45::s:=List.take_of_length_le (by simp);have hp:(0:Int)<(s.length:Int)+1:=by omega
  have hll:s.length+1≤9223372036854775807:=by simpa using hs
  refine aad rfl ?_;simp [hp];apply hK1;clear hK1 K1;refine aaq ?_;refine aad rfl ?_;simp [ht]
  repeat refine ag ?_
  exact main _ _ (by simp [ht]) (by simp [AP,hn])
 ·subst hr;subst hl;refine aad rfl ?_;simp;apply hK1;clear hK1 K1;refine aat ?_;refine aah ?_;simp;exact main _ _ (by simp) (by simp [AP,hn])
 ·subst hr;subst hl;have hcn:¬ (c.toNat:Int)=45:=fun e=>hc (UInt8.toNat_inj.1 (by show c.toNat=45;omega))
  have hcn2:¬ c.toNat=45:=by omega
  have hp:(0:Int)<(l.length:Int)+1:=by omega
  refine aad rfl ?_;simp [hp,hcn,hcn2];apply hK1;clear hK1 K1;refine aat ?_;refine aah ?_;simp;exact main _ _ (by simp) (by simp [AP,hn])
end Go.Am

namespace Go.Am
open Go.Am.Ty Go.Proofs N
attribute [local irreducible] bM
theorem xV:∀ (s:List UInt8),(∀ c∈s,c≠47)∨∃ a b,s=a++47::b∧∀ c∈a,c≠47
 | []=>.inl fun c hc=>by cases hc
 | x::s=>by
  by_cases hx:x=47
  ·subst hx;exact .inr ⟨[],s,rfl,fun c hc=>by cases hc⟩
  ·rcases xV s with h|⟨a,b,h,ha⟩
   ·exact .inl fun c hc=>by rcases List.mem_cons.1 hc with rfl|hc;exact hx;exact h c hc
   ·exact .inr ⟨x::a,b,by rw [h];rfl,fun c hc=>by rcases List.mem_cons.1 hc with rfl|hc;exact hx;exact ha c hc⟩
theorem vj:∀ {a a' b b':List UInt8},(∀ c∈a,c≠47)→(∀ c∈a',c≠47)→a++47::b=a'++47::b'→b=b'
 | [],[],b,b',_,_,h=>(List.cons.inj h).2
 | [],x::a',b,b',_,h',h=>absurd (List.cons.inj h).1.symm (h' x (by simp))
 | x::a,[],b,b',h',_,h=>absurd (List.cons.inj h).1 (h' x (by simp))
 | x::a,y::a',b,b',h1,h2,h=>vj (fun c hc=>h1 c (by simp [hc])) (fun c hc=>h2 c (by simp [hc])) (List.cons.inj h).2
theorem Dd {s:List UInt8}(h:tK s):∀ c∈s,c≠47:=fun c hc e=>by
 have:=h c hc;rw [e] at this;have h2:(47:UInt8).toNat=47:=rfl;omega
theorem DS:∀ (f n:Nat),n≤f→tK (rZ f n)∧aP (rZ f n) 0=n
 | 0,n,h=>by
  have:n=0:=by omega
  subst this;refine⟨fun c hc=>?_,rfl⟩;rw [rZ,List.mem_singleton] at hc;rw [hc,jW (by decide)];omega
 | f+1,n,h=>by
  rw [rZ]
  by_cases h10:n<10
  ·rw [if_pos h10];refine⟨fun c hc=>?_,?_⟩
   ·rw [List.mem_singleton] at hc;rw [hc,jW h10];omega
   ·show 10*0+((F8 n).toNat - 48)=n;rw [jW h10];omega
  ·rw [if_neg h10];obtain⟨h1,h2⟩:=DS f (n / 10) (by omega);refine⟨fun c hc=>?_,?_⟩
   ·rcases List.mem_append.1 hc with hc|hc
    ·exact h1 c hc
    ·rw [List.mem_singleton] at hc;rw [hc,jW (by omega)];omega
   ·rw [xW,h2,jW (by omega)];omega
theorem GV (n:Nat):tK (ig n):=(DS n n (Nat.le_refl _)).1
theorem Oi (n:Nat):aP (ig n) 0=n:=(DS n n (Nat.le_refl _)).2
theorem HM (r:List UInt8):r=(if qP r [45] then [45] else [])++jP r [45]:=by
 unfold jP
 cases h:qP r [45] with
 | false=>rfl
 | true=>
  unfold qP at h;simp only [List.length_singleton,Bool.and_eq_true,decide_eq_true_eq] at h;show r=[45]++r.drop 1;rw [← h.2];have:=List.take_append_drop 1 r;rw [h.2] at this ⊢;exact this.symm
theorem Ac (neg:Bool){P Q:Nat}(hP:P≠0) (hQ:Q≠0):xm (mkRat (dg neg P) Q)=(if neg then [45] else [])++ig (P / Nat.gcd P Q)++(if Q / Nat.gcd P Q=1 then [] else [47]++ig (Q / Nat.gcd P Q)):=by
 obtain⟨n1,n2⟩:=gN neg (a:=P) hQ;have hg:P / Nat.gcd P Q≠0:=Nat.ne_of_gt (Nat.div_pos (Nat.le_of_dvd (by omega) (Nat.gcd_dvd_left _ _)) (Nat.gcd_pos_of_pos_left _ (by omega)));unfold xm;rw [n1,n2,ri]
 cases neg with
 | true=>
  rw [if_pos (show dg true (P / Nat.gcd P Q)<0 from Int.neg_neg_of_pos (Int.ofNat_lt.2 (Nat.pos_of_ne_zero hg)))];rfl
 | false=>
  rw [if_neg (show ¬ dg false (P / Nat.gcd P Q)<0 from Int.not_lt.2 (Int.natCast_nonneg _))];rfl
theorem yq:xm 0=[48]:=rfl
theorem E6 (neg:Bool)(Q:Nat):mkRat (dg neg 0) Q=0:=by
 have e2:dg neg 0=0:=by cases neg <;> rfl
 rw [e2];exact Rat.zero_mkRat Q
theorem Dj {neg:Bool}{T:List UInt8}(hT:isRow T) (h0:¬ (neg=true∧T=[48])):xm (mkRat (dg neg (aP T 0)) 1)=(if neg then [45] else [])++T:=by
 have hd:=tV hT
 by_cases hP:aP T 0=0
 ·rw [hP,E6,yq];have:T=[48]:=by rw [hd,hP];rfl
  have hn:neg=false:=by cases neg with
   | false=>rfl
   | true=>exact absurd ⟨rfl,this⟩ h0
  rw [hn,this];rfl
 ·rw [Ac neg hP (by decide),Nat.gcd_one_right,Nat.div_one,Nat.div_one,← hd,if_pos rfl,List.append_nil]
theorem FF {neg:Bool}{T B:List UInt8}(hT:isRow T) (hB:isRow B) (hQ:2≤aP B 0):xm (mkRat (dg neg (aP T 0)) (aP B 0))=(if neg then [45] else [])++(T++47::B)↔Nat.gcd (aP T 0) (aP B 0)=1:=by
 have hdT:=tV hT;have hdB:=tV hB
 have h45:∀ c∈(if neg then [45] else []:List UInt8),c≠47:=by
  intro c hc;split at hc
  ·rw [List.mem_singleton] at hc;rw [hc];decide
  ·cases hc
 have hmem:(47:UInt8)∈(if neg then [45] else []:List UInt8)++(T++47::B):=by simp
 constructor
 ·intro h;apply Classical.byContradiction;intro hg
  by_cases hP:aP T 0=0
  ·rw [hP,E6,yq] at h;rw [← h] at hmem;simp at hmem
  ·rw [Ac neg hP (by omega)] at h;generalize hgg:Nat.gcd (aP T 0) (aP B 0)=g at *
   have hg0:0<g:=by rw [← hgg];exact Nat.gcd_pos_of_pos_left _ (by omega)
   by_cases h1:aP B 0 / g=1
   ·rw [if_pos h1,List.append_nil] at h;rw [← h] at hmem;rcases List.mem_append.1 hmem with hm|hm
    ·exact h45 47 hm rfl
    ·exact Dd (GV _) 47 hm rfl
   ·rw [if_neg h1,← List.append_assoc] at h
    have h2:((if neg then [45] else [])++ig (aP T 0 / g))++47::ig (aP B 0 / g)=((if neg then [45] else [])++T)++47::B:=by
     rw [List.append_assoc,List.append_assoc] at h ⊢;simpa using h
    have h3:=vj (fun c hc=>by
     rcases List.mem_append.1 hc with hc|hc
     ·exact h45 c hc
     ·exact Dd (GV _) c hc) (fun c hc=>by
     rcases List.mem_append.1 hc with hc|hc
     ·exact h45 c hc
     ·exact Dd hT.1 c hc) h2
    have h4:=congrArg (fun l=>aP l 0) h3;simp only [Oi] at h4;have:aP B 0 / g<aP B 0:=Nat.div_lt_self (by omega) (by omega);omega
 ·intro hg;have hP:aP T 0≠0:=by intro e;rw [e,Nat.gcd_zero_left] at hg;omega
  rw [Ac neg hP (by omega),hg,Nat.div_one,Nat.div_one,← hdT,← hdB,if_neg (show ¬ aP B 0=1 by omega),List.append_assoc];rfl
theorem KI:isRow [49]:=⟨by intro c hc;rw [List.mem_singleton] at hc;rw [hc];decide,by decide,.inr (by decide)⟩
theorem yH (s t:List UInt8):aO Tryz.prog .neq 53 (.c (.d (.str s))) (.c (.d (.str t)))=some (.c (.d (.bool (!decide (s=t)))),[],[],True):=by
 rw [← JX];kernel_rfl
theorem bM.HC {c:Ctx}{fn:Func}{z:Rat}{e:Int}{t u k:Nat}{s:aG}{κ:Nat}(hr:fn.results=#[.cell t 215,.tmp u]) (ht:s.fr t=.c (.ptr k 0)) (hk:s.lv k=.cells true false 215 [.d (.int .i64 (eo z)),rC (iK z),rC (kJ z)]) (hu:s.fr u=.c (.d (.int .i64 e))) (hP:c.P=Tryz.prog):bM c fn (.tup [cT z,.c (.d (.int .i64 e))]) .ret s κ:=
 bM.kY hr ht hk (by rw [List.drop_zero,hP,ic]) hu rfl rfl
theorem I9 {neg:Bool}{top bot:List UInt8}{brk:Bool}(h:gX neg top bot brk=false):isRow top∧¬ (neg=true∧top=[48])∧(brk=true→isRow bot∧bot≠[48]∧bot≠[49]):=by
 obtain⟨h1,h2⟩:=DA h;refine⟨mG.1 h1,?_,fun hb=>?_⟩
 ·rintro⟨rfl,rfl⟩;unfold gX at h;simp at h
 ·obtain⟨a,b,c⟩:=h2 hb;exact⟨mG.1 a,b,c⟩
theorem Jo {r:List UInt8}(h:dW r≠0):eK r=0:=if_neg h
@[simp] theorem VY {x y z u:AV}(h:x.cP=true):si 0 (.tup [x,y,z,u])=some (x,[],[],True):=by
 cases x <;> first|rfl|cases h
@[simp] theorem WE {x y z u:AV}(h:y.cP=true):si 1 (.tup [x,y,z,u])=some (y,[],[],True):=by
 cases y <;> first|rfl|cases h
@[simp] theorem X5 {x y z u:AV}(h:z.cP=true):si 2 (.tup [x,y,z,u])=some (z,[],[],True):=by
 cases z <;> first|rfl|cases h
@[simp] theorem W2 {x y z u:AV}(h:u.cP=true):si 3 (.tup [x,y,z,u])=some (u,[],[],True):=by
 cases u <;> first|rfl|cases h
set_option maxHeartbeats 4000000 in
theorem pg (G:List (List DV))(r:List UInt8):aj Tryz.prog G 167 [.c (.d (.str r))] (.tup [cT (eK r),.c (.d (.int .i64 (dW r)))]):=by
 have rw0:=FP G r;have hE:dW r=c6 (qP r [45]) (rj (jP r [45]) [47]) (qS (jP r [45]) [47]) (decide (0≤jj (jP r [45]) [47])):=rfl;have hP:eK r=mU (qP r [45]) (rj (jP r [45]) [47]) (qS (jP r [45]) [47]) (decide (0≤jj (jP r [45]) [47])):=rfl;have hsp:=HM r;obtain⟨s,hs⟩:∃ s,jP r [45]=s:=⟨_,rfl⟩
 obtain⟨neg,hn⟩:∃ n,qP r [45]=n:=⟨_,rfl⟩
 rw [hs,hn] at rw0 hE hP hsp;unfold MN at rw0;have hbad0:=Jo (r:=r);have dz:∀ e:Int,gH (fun _=>LB.hole) (.tup [cT 0,.c (.d (.int .i64 e))])=some (.tup [cT 0,.c (.d (.int .i64 e))],[]):=fun e=>jk _ _ _ _ _
 cases hb:gX neg (rj s [47]) (qS s [47]) (decide (0≤jj s [47])) with
 | true=>
  have e6:dW r=6:=by rw [hE];unfold c6;rw [if_pos hb]
  rw [hbad0 (by rw [e6];decide),e6];rw [hb] at rw0;refine aj.bH Tryz.func167 rfl (by rw [Tryz.ntmps167];simp) (fun lv=>jk lv _ _ _ _) ?_;rintro⟨_,_,w0,F0,W0,_,bq,β0⟩ rfl rfl rfl;refine aac fun K hK=>?_;refine aad rfl ?_;simp;apply hK;clear hK K;refine aac fun K hK=>?_;refine aad rfl ?_;simp;refine ai.p 1 9 rw0 ?_;simp;apply hK;clear hK K;refine aac fun K hK=>?_;refine aac fun K1 hK1=>?_;refine aad rfl ?_;simp;apply hK1;clear hK1 K1;refine aaq ?_;refine aac fun K1 hK1=>?_;refine aad rfl ?_;simp [Ve,ak];apply hK1;clear hK1 K1;exact aag (bM.HC (k:=0) rfl (by simp) (by simp <;> exact⟨rfl,rfl,rfl⟩) (by simp) rfl)
 | false=>
 rw [hb] at rw0;obtain⟨hT,hT0,hB⟩:=I9 hb;obtain⟨T,hTe⟩:∃ T,rj s [47]=T:=⟨_,rfl⟩
 have hrT:Xr s=T:=hTe;obtain⟨B,hBe⟩:∃ B,Q6 s=B:=⟨_,rfl⟩
 rw [hTe] at hT hT0
 have hsame:(2000<max (rj s [47]).length (qS s [47]).length)↔(2000<T.length∨2000<B.length):=by
  rw [hTe]
  by_cases hk:0≤jj s [47]
  ·have:B=qS s [47]:=by rw [← hBe];exact if_pos hk
   rw [this];omega
  ·have h1:B=[49]:=by rw [← hBe];exact if_neg hk
   have h2:qS s [47]=[]:=if_neg hk;rw [h1,h2];simp <;> omega
 have hBrow:isRow B∧1≤aP B 0:=by
  by_cases hk:0≤jj s [47]
  ·have h1:B=qS s [47]:=by rw [← hBe];exact if_pos hk
   obtain⟨a,b,c⟩:=hB (decide_eq_true hk);rw [h1];exact⟨a,by have:=tS (mG.2 a) b c;omega⟩
  ·have h1:B=[49]:=by rw [← hBe];exact if_neg hk
   rw [h1];exact⟨KI,by decide⟩
 rw [hrT,hBe] at rw0
 by_cases hlong:2000<T.length∨2000<B.length
 ·have e3:dW r=3:=by rw [hE];unfold c6;rw [if_neg (by rw [hb];decide),if_pos (hsame.2 hlong)]
  rw [hbad0 (by rw [e3];decide),e3];refine aj.bH Tryz.func167 rfl (by rw [Tryz.ntmps167];simp) (fun lv=>jk lv _ _ _ _) ?_;rintro⟨_,_,w0,F0,W0,_,bq,β0⟩ rfl rfl rfl;refine aac fun K hK=>?_;refine aad rfl ?_;simp;apply hK;clear hK K;refine aac fun K hK=>?_;refine aad rfl ?_;simp;refine ai.p 1 9 rw0 ?_;simp;apply hK;clear hK K;refine aac fun K hK=>?_;refine aac fun K1 hK1=>?_;refine aad rfl ?_;simp;apply hK1;clear hK1 K1;refine aat ?_;refine aah ?_;simp;apply hK;clear hK K;refine aac fun K hK=>?_;refine aac fun K1 hK1=>?_
  by_cases l1:2000<T.length
  ·have l1':(2000:Int)<(T.length:Int):=by omega
   refine aad rfl ?_;simp [l1,l1'];apply hK1;clear hK1 K1;refine aaq ?_;refine aac fun K1 hK1=>?_;refine aad rfl ?_;simp [Ve,ak];apply hK1;clear hK1 K1;exact aag (bM.HC (k:=0) rfl (by simp) (by simp <;> exact⟨rfl,rfl,rfl⟩) (by simp) rfl)
  ·have l1':¬ (2000:Int)<(T.length:Int):=by omega
   have l2:2000<B.length:=by omega
   have l2':(2000:Int)<(B.length:Int):=by omega
   refine aad rfl ?_;simp [l1,l1',l2,l2'];apply hK1;clear hK1 K1;refine aaq ?_;refine aac fun K1 hK1=>?_;refine aad rfl ?_;simp [Ve,ak];apply hK1;clear hK1 K1;exact aag (bM.HC (k:=0) rfl (by simp) (by simp <;> exact⟨rfl,rfl,rfl⟩) (by simp) rfl)
 have l1:¬ 2000<T.length:=fun h=>hlong (.inl h)
 have l2:¬ 2000<B.length:=fun h=>hlong (.inr h)
 have l1':¬ (2000:Int)<(T.length:Int):=by omega
 have l2':¬ (2000:Int)<(B.length:Int):=by omega
 have rd1:=yp G T hT.1 hT.2.1 (by omega);have rd2:=yp G B hBrow.1.1 hBrow.1.2.1 (by omega);rw [eY] at rd1 rd2;have n1:=qK hT.1 (by omega:T.length≤2000);have n2:=qK hBrow.1.1 (by omega:B.length≤2000);have mk:=qu G (AP neg) neg (aP T 0) (aP B 0) 300 (some (aI 1000000000 (aP T 0))) rfl (fun _=>rfl) hBrow.2 n1 n2 (by decide);have hsz:iN (mkRat (dg neg (aP T 0)) (aP B 0)) 300:=mS _ (by omega) n1 n2;have tx:=FV G _ (bQ hsz (by decide:300≤20000))
 have hres:(xm (mkRat (dg neg (aP T 0)) (aP B 0))=r∧dW r=0∧eK r=mkRat (dg neg (aP T 0)) (aP B 0))∨(xm (mkRat (dg neg (aP T 0)) (aP B 0))≠r∧dW r=6∧eK r=0):=by
  rcases xV s with h47|⟨a,b,hab,ha⟩
  ·have hk:¬ 0≤jj s [47]:=by rw [uw h47];decide
   have hTs:T=s:=by rw [← hTe];exact if_neg hk
   have hB1:B=[49]:=by rw [← hBe];exact if_neg hk
   have hd1:aP B 0=1:=by rw [hB1];rfl
   left;have e0:dW r=0:=by rw [hE];unfold c6;rw [if_neg (by rw [hb];decide),if_neg (fun h=>hlong (hsame.1 h)),if_pos (decide_eq_false hk)]
   refine⟨?_,e0,?_⟩
   ·rw [hd1,Dj hT hT0,hTs];exact hsp.symm
   ·rw [hP];unfold mU;rw [← hE,if_pos e0,hTe,decide_eq_false hk,hd1];rfl
  ·have hidx:=Dl (b:=b) ha;rw [← hab] at hidx;have hk:0≤jj s [47]:=by rw [hidx];omega
   have hA:rj s [47]=a:=by unfold rj;rw [if_pos hk,hidx,Int.toNat_natCast,hab,List.take_left]
   have hBb:qS s [47]=b:=by
    unfold qS;rw [if_pos hk,hidx,Int.toNat_natCast,hab];rw [show a++47::b=(a++[47])++b by simp];exact List.drop_left' (by simp)
   have hTa:T=a:=by rw [← hTe];exact hA
   have hBb2:B=b:=by rw [← hBe];unfold Q6;rw [if_pos hk,hBb]
   obtain⟨c1,c2,c3⟩:=hB (decide_eq_true hk);have hge:=tS (mG.2 c1) c2 c3;rw [hBb,← hBb2] at hge c1;have htf:=FF (neg:=neg) hT c1 hge;have hsr:r=(if neg then [45] else [])++(T++47::B):=by rw [hTa,hBb2,← hab];exact hsp
   rw [← hsr] at htf
   have hpe:dW r=if Nat.gcd (aP T 0) (aP B 0)=1 then 0 else 6:=by
    rw [hE];unfold c6;rw [if_neg (by rw [hb];decide),if_neg (fun h=>hlong (hsame.1 h)),if_neg (by rw [decide_eq_true hk];decide),Uk,hTe,hBb,← hBb2]
   by_cases hg:Nat.gcd (aP T 0) (aP B 0)=1
   ·left;rw [if_pos hg] at hpe;refine⟨htf.2 hg,hpe,?_⟩;rw [hP];unfold mU;rw [← hE,if_pos hpe,hTe,hBb,← hBb2,decide_eq_true hk];rfl
   ·right;rw [if_neg hg] at hpe;exact⟨fun h=>hg (htf.1 h),hpe,hbad0 (by rw [hpe];decide)⟩
 generalize mkRat (dg neg (aP T 0)) (aP B 0)=z at *
 rcases hres with ⟨q1,q2,q3⟩|⟨q1,q2,q3⟩
 ·rw [q2,q3];refine aj.bH Tryz.func167 rfl (by rw [Tryz.ntmps167];simp) (fun lv=>jk lv _ _ _ _) ?_;rintro⟨_,_,w0,F0,W0,_,bq,β0⟩ rfl rfl rfl;refine aac fun K hK=>?_;refine aad rfl ?_;simp;apply hK;clear hK K;refine aac fun K hK=>?_;refine aad rfl ?_;simp;refine ai.p 1 9 rw0 ?_;simp;apply hK;clear hK K;refine aac fun K hK=>?_;refine aac fun K1 hK1=>?_;refine aad rfl ?_;simp;apply hK1;clear hK1 K1;refine aat ?_;refine aah ?_;simp;apply hK;clear hK K;refine aac fun K hK=>?_;refine aac fun K1 hK1=>?_;refine aad rfl ?_;simp [l1,l1',l2,l2'];apply hK1;clear hK1 K1;refine aat ?_;refine aah ?_;simp;apply hK;clear hK K;refine aac fun K hK=>?_;refine aad rfl ?_;simp;refine ai.p 1 9 rd1 ?_;simp;refine ai.p 1 9 rd2 ?_;simp;refine ai.p 1 9 mk ?_;simp [ak];apply hK;clear hK K;refine aac fun K hK=>?_;refine aac fun K1 hK1=>?_;refine aad rfl ?_;simp;refine ai.p 2 9 tx ?_;simp [yH,q1];apply hK1;clear hK1 K1;refine aat ?_;refine aah ?_;simp;apply hK;clear hK K;refine aac fun K hK=>?_;refine aad rfl ?_;simp [ak];apply hK;clear hK K;exact aag (bM.HC (k:=0) rfl (by simp) (by simp) (by simp) rfl)
 ·rw [q2,q3];refine aj.bH Tryz.func167 rfl (by rw [Tryz.ntmps167];simp) (fun lv=>jk lv _ _ _ _) ?_;rintro⟨_,_,w0,F0,W0,_,bq,β0⟩ rfl rfl rfl;refine aac fun K hK=>?_;refine aad rfl ?_;simp;apply hK;clear hK K;refine aac fun K hK=>?_;refine aad rfl ?_;simp;refine ai.p 1 9 rw0 ?_;simp;apply hK;clear hK K;refine aac fun K hK=>?_;refine aac fun K1 hK1=>?_;refine aad rfl ?_;simp;apply hK1;clear hK1 K1;refine aat ?_;refine aah ?_;simp;apply hK;clear hK K;refine aac fun K hK=>?_;refine aac fun K1 hK1=>?_;refine aad rfl ?_;simp [l1,l1',l2,l2'];apply hK1;clear hK1 K1;refine aat ?_;refine aah ?_;simp;apply hK;clear hK K;refine aac fun K hK=>?_;refine aad rfl ?_;simp;refine ai.p 1 9 rd1 ?_;simp;refine ai.p 1 9 rd2 ?_;simp;refine ai.p 1 9 mk ?_;simp [ak];apply hK;clear hK K;refine aac fun K hK=>?_;refine aac fun K1 hK1=>?_;refine aad rfl ?_;simp;refine ai.p 2 9 tx ?_;simp [yH,q1];apply hK1;clear hK1 K1;refine aaq ?_;refine aac fun K1 hK1=>?_;refine aad rfl ?_;simp [Ve,ak];apply hK1;clear hK1 K1;exact aag (bM.HC (k:=0) rfl (by simp) (by simp <;> exact⟨rfl,rfl,rfl⟩) (by simp) rfl)
theorem Cv (G:List (List DV))(r:List UInt8):aj Tryz.prog G 171 [.c (.d (.str r))] (.c (.d (.int .i64 (dW r)))):=by
 have h:=pg G r;generalize eK r=z at *
 generalize dW r=e at *
 refine aj.aH Tryz.func171 rfl (by rw [Tryz.ntmps171];simp) ?_;rintro⟨_,_,w0,F0,W0,_,bq,β0⟩ rfl rfl rfl;refine aac fun K hK=>?_;refine aad rfl ?_;simp;apply hK;clear hK K;refine aac fun K hK=>?_;refine aad rfl ?_;simp;refine ai.p 1 9 h ?_;simp [ak];apply hK;clear hK K;refine aac fun K hK=>?_;refine aad rfl ?_;simp;apply hK;clear hK K;exact aag (κ:=0) (au.t (κ:=0) (t:=2) rfl 9 (by simp))
end Go.Am

namespace Go.Am
open Go.Am.Ty Go.Proofs N
theorem gF (G:List (List DV))(n m:Int):aj Tryz.prog G 87 [.c (.d (.int .i64 n)),.c (.d (.int .i64 m))] (.c (.d (.bool (decide (0≤n∧n<m))))):=by
 refine aj.aH Tryz.func87 rfl (by rw [Tryz.ntmps87];simp) ?_;rintro⟨_,_,w0,F0,W0,_,bq,β0⟩ rfl rfl rfl;refine aac fun K hK=>?_;refine aad rfl ?_;simp;apply hK;clear hK K;refine aac fun K hK=>?_
 by_cases h:0≤n
 ·refine aad rfl ?_;simp [h];apply hK;clear hK K;exact aag (κ:=0) (au.t (κ:=0) rfl 4 (by simp [h]))
 ·refine aad rfl ?_;simp [h];apply hK;clear hK K;exact aag (κ:=0) (au.t (κ:=0) rfl 4 (by simp [h]))
theorem Bz (G:List (List DV))(n:Int):aj Tryz.prog G 96 [.c (.d (.int .i64 n))] (.c (.d (.bool (decide (1≤n∧n≤15))))):=by
 refine aj.aH Tryz.func96 rfl (by rw [Tryz.ntmps96];simp) ?_;rintro⟨_,_,w0,F0,W0,_,bq,β0⟩ rfl rfl rfl;refine aac fun K hK=>?_;refine aad rfl ?_;simp;apply hK;clear hK K;refine aac fun K hK=>?_
 by_cases h:1≤n
 ·refine aad rfl ?_;simp [h];apply hK;clear hK K;exact aag (κ:=0) (au.t (κ:=0) rfl 2 (by simp [h]))
 ·refine aad rfl ?_;simp [h];apply hK;clear hK K;exact aag (κ:=0) (au.t (κ:=0) rfl 2 (by simp [h]))
def lM (p:PD)(i:Int):Int:=if i<p.head then 0 else if i<p.tail then 1 else 2
theorem lE (G:List (List DV))(p:PD)(i:Int):aj Tryz.prog G 88 [p.A,.c (.d (.int .i64 i))] (.c (.d (.int .i64 (lM p i)))):=by
 refine aj.aH Tryz.func88 rfl (by rw [Tryz.ntmps88];simp) ?_;rintro⟨_,_,w0,F0,W0,_,bq,β0⟩ rfl rfl rfl;refine aac fun K hK=>?_;refine aad rfl ?_;simp;apply hK;clear hK K;refine aac fun K hK=>?_;refine aak ?_;refine aac fun K1 hK1=>?_;refine aad rfl ?_;simp;apply hK1;clear hK1 K1
 by_cases h:i<p.head
 ·refine aap (by simp [h] <;> omega) ?_;refine aac fun K1 hK1=>?_;refine aad rfl ?_;simp;apply hK1;clear hK1 K1;exact aag (κ:=0) (au.t (κ:=0) rfl 4 (by simp [lM,h]))
 ·refine aao (by simp [h] <;> omega) ?_;refine aac fun K1 hK1=>?_;refine aad rfl ?_;simp;apply hK1;clear hK1 K1
  by_cases h2:i<p.tail
  ·refine aap (by simp [h2] <;> omega) ?_;refine aac fun K1 hK1=>?_;refine aad rfl ?_;simp;apply hK1;clear hK1 K1;exact aag (κ:=0) (au.t (κ:=0) rfl 4 (by simp [lM,h,h2]))
  ·refine aao (by simp [h2] <;> omega) ?_;refine aah ?_;simp;apply hK;clear hK K;refine aac fun K hK=>?_;refine aad rfl ?_;simp;apply hK;clear hK K;exact aag (κ:=0) (au.t (κ:=0) rfl 4 (by simp [lM,h,h2]))
end Go.Am

namespace Go.Am
open Go.Am.Ty Go.Proofs N
@[simp] theorem PD.aaa (p:PD):(AV.agg [iU p.f,.d (.int .i64 p.mode),iU p.ins,iU p.nodes,.d (.int .i64 p.head),.d (.int .i64 p.tail),iU p.states,.d (.int .i64 p.res)]).pure=true:=by
 obtain⟨f,a,i,n,b,c,s,d⟩:=p
 cases f <;> cases i <;> cases n <;> cases s <;> rfl
def dI (p:PD)(i k:Int):Bool:=decide (0≤k∧k<i) && (decide (lM p k=0) || decide (lM p k=lM p i))
theorem KB (G:List (List DV))(p:PD)(i k:Int):aj Tryz.prog G 164 [p.A,.c (.d (.int .i64 i)),.c (.d (.int .i64 k))] (.c (.d (.bool (dI p i k)))):=by
 refine aj.aH Tryz.func164 rfl (by rw [Tryz.ntmps164];simp) ?_;rintro⟨_,_,w0,F0,W0,_,bq,β0⟩ rfl rfl rfl;refine aac fun K hK=>?_;refine aad rfl ?_;simp;apply hK;clear hK K;refine aac fun K hK=>?_;refine aac fun K1 hK1=>?_
 by_cases h1:k<0
 ·have h1':¬ 0≤k:=by omega
  refine aad rfl ?_;simp [h1];apply hK1;clear hK1 K1;refine aaq ?_;refine aac fun K1 hK1=>?_;refine aad rfl ?_;simp;apply hK1;clear hK1 K1;exact aag (κ:=0) (au.t (κ:=0) rfl 6 (by simp [dI,h1']))
 have h0:0≤k:=by omega
 by_cases h2:i≤k
 ·have h2':¬ k<i:=by omega
  refine aad rfl ?_;simp [h1,h2];apply hK1;clear hK1 K1;refine aaq ?_;refine aac fun K1 hK1=>?_;refine aad rfl ?_;simp;apply hK1;clear hK1 K1;exact aag (κ:=0) (au.t (κ:=0) rfl 6 (by simp [dI,h2']))
 have h2':k<i:=by omega
 refine aad rfl ?_;simp [h1,h2];apply hK1;clear hK1 K1;refine aat ?_;refine aah ?_;simp;apply hK;clear hK K;refine aac fun K hK=>?_;refine aad rfl ?_;simp;refine ai.pure 1 9 (lE _ p k) (by simp) (by simp) rfl ?_;simp;apply hK;clear hK K;refine aac fun K hK=>?_
 by_cases h3:lM p k=0
 ·refine aad rfl ?_;simp [h3];apply hK;clear hK K;exact aag (κ:=0) (au.t (κ:=0) rfl 6 (by simp [dI,h0,h2',h3]))
 ·refine aad rfl ?_;simp [h3];refine ai.pure 1 9 (lE _ p i) (by simp) (by simp) rfl ?_;simp;apply hK;clear hK K;exact aag (κ:=0) (au.t (κ:=0) rfl 6 (by simp [dI,h0,h2',h3]))
end Go.Am

namespace Go.Am
open Go.Am.Ty Go.Proofs N
def dS (p:PD):Int:=
 if 6<(sO p.f).length∨6<(sO p.ins).length∨64<(sO p.nodes).length∨4<(sO p.states).length then 3
 else if (sO p.f).length=0∨(sO p.nodes).length=0∨p.mode<0∨4<p.mode then 2
 else if p.head<0∨p.tail<p.head∨((sO p.nodes).length:Int)<p.tail then 2
 else if (sO p.states).length=0∧p.head≠(sO p.nodes).length then 2 else 0
set_option maxHeartbeats 2000000 in
theorem CS (G:List (List DV))(p:PD):aj Tryz.prog G 82 [p.A] (.c (.d (.int .i64 (dS p)))):=by
 have lp0:∀ (lv:Key→LB) (o:Option (List (List DV))),fh Tryz.prog 22 lv (CE o)=some (.c (.d (.int .i64 (sO o).length)),[],[],True):=fun lv o=>dB (by simp)
 have lp2:∀ (lv:Key→LB) (o:Option (List (List DV))),fh Tryz.prog 23 lv (CE o)=some (.c (.d (.int .i64 (sO o).length)),[],[],True):=fun lv o=>dB (by simp)
 have lp3:∀ (lv:Key→LB) (o:Option (List (List DV))),fh Tryz.prog 24 lv (CE o)=some (.c (.d (.int .i64 (sO o).length)),[],[],True):=fun lv o=>dB (by simp)
 have lp6:∀ (lv:Key→LB) (o:Option (List (List DV))),fh Tryz.prog 25 lv (CE o)=some (.c (.d (.int .i64 (sO o).length)),[],[],True):=fun lv o=>dB (by simp)
 refine aj.aH Tryz.func82 rfl (by rw [Tryz.ntmps82];simp) ?_;rintro⟨_,_,w0,F0,W0,_,bq,β0⟩ rfl rfl rfl;refine aac fun K hK=>?_;refine aad rfl ?_;simp;apply hK;clear hK K;refine aac fun K hK=>?_;refine aad rfl ?_;simp [lp3];apply hK;clear hK K;refine aac fun K hK=>?_;refine aak ?_;refine aac fun K1 hK1=>?_
 have toK1:∀ (fr:Nat→AV) (κ:Nat) (b:Bool),fr 1=.c (.ptr 0 0)→fr 3=.c (.d (.int .i64 (sO p.nodes).length))→fr 8=.c (.d (.bool b)) →
  (b=decide (6<(sO p.f).length∨6<(sO p.ins).length∨64<(sO p.nodes).length∨4<(sO p.states).length)) →
  K1 ⟨fr,aJ (fun _=>.hole) 0 (.cells true false 154 p.cs)⟩ κ:=by
  intro fr κ b z1 z3 z8 hb;apply hK1
  cases b with
  | true=>
   have h:=of_decide_eq_true hb.symm;refine aap (by simp [z8] <;> omega) ?_;refine aac fun K2 hK2=>?_;refine aad rfl ?_;simp;apply hK2;clear hK2 K2;exact aag (κ:=0) (au.tmp (κ:=0) rfl 9 (by simp [dS,if_pos h]) rfl (by simp) rfl)
  | false=>
   have h:=of_decide_eq_false hb.symm;refine aao (by simp [z8] <;> omega) ?_;refine aac fun K2 hK2=>?_
   have toK2:∀ (fr:Nat→AV) (κ:Nat) (b:Bool),fr 1=.c (.ptr 0 0)→fr 3=.c (.d (.int .i64 (sO p.nodes).length))→fr 26=.c (.d (.bool b)) →
    (b=decide ((sO p.f).length=0∨(sO p.nodes).length=0∨p.mode<0∨4<p.mode)) →
    K2 ⟨fr,aJ (fun _=>.hole) 0 (.cells true false 154 p.cs)⟩ κ:=by
    intro fr κ b y1 y3 y26 hb2;apply hK2
    cases b with
    | true=>
     have h2:=of_decide_eq_true hb2.symm;refine aap (by simp [y26] <;> omega) ?_;refine aac fun K3 hK3=>?_;refine aad rfl ?_;simp;apply hK3;clear hK3 K3;have hg:dS p=2:=by unfold dS;rw [if_neg h,if_pos h2]
     exact aag (κ:=0) (au.tmp (κ:=0) rfl 9 (by simp [hg]) rfl (by simp) rfl)
    | false=>
     have h2:=of_decide_eq_false hb2.symm;refine aao (by simp [y26] <;> omega) ?_;refine aac fun K3 hK3=>?_
     have toK3:∀ (fr:Nat→AV) (κ:Nat) (b:Bool),fr 1=.c (.ptr 0 0)→fr 3=.c (.d (.int .i64 (sO p.nodes).length))→fr 42=.c (.d (.bool b)) →
      (b=decide (p.head<0∨p.tail<p.head∨((sO p.nodes).length:Int)<p.tail)) →
      K3 ⟨fr,aJ (fun _=>.hole) 0 (.cells true false 154 p.cs)⟩ κ:=by
      intro fr κ b x1 x3 x42 hb3;apply hK3
      cases b with
      | true=>
       have h3:=of_decide_eq_true hb3.symm;refine aap (by simp [x42] <;> omega) ?_;refine aac fun K4 hK4=>?_;refine aad rfl ?_;simp;apply hK4;clear hK4 K4;have hg:dS p=2:=by unfold dS;rw [if_neg h,if_neg h2,if_pos h3]
       exact aag (κ:=0) (au.tmp (κ:=0) rfl 9 (by simp [hg]) rfl (by simp) rfl)
      | false=>
       have h3:=of_decide_eq_false hb3.symm;refine aao (by simp [x42] <;> omega) ?_;refine aac fun K4 hK4=>?_
       have fin0:dS p=0→∀ (fr:Nat→AV) (κ:Nat) (lv:Key→LB),lv 9=.hole→K ⟨fr,lv⟩ κ:=by
        intro hg fr κ lv h9;apply hK;refine aac fun K5 hK5=>?_;refine aad rfl ?_;simp;apply hK5;clear hK5 K5;exact aag (κ:=0) (au.tmp (κ:=0) rfl 9 (by simp [hg]) rfl (by simp [h9]) rfl)
       by_cases e1:sO p.states=[]
       ·by_cases e2:p.head=((sO p.nodes).length:Int)
        ·have hg:dS p=0:=by unfold dS;rw [if_neg h,if_neg h2,if_neg h3,if_neg (fun hh=>hh.2 e2)]
         refine aad rfl ?_;simp [x1,x3,lp6,e1,e2];apply hK4;clear hK4 K4;refine aat ?_;refine aah ?_;simp;exact fin0 hg _ _ _ (by simp)
        ·have hg:dS p=2:=by unfold dS;rw [if_neg h,if_neg h2,if_neg h3,if_pos ⟨by rw [e1];rfl,e2⟩]
         refine aad rfl ?_;simp [x1,x3,lp6,e1,e2];apply hK4;clear hK4 K4;refine aaq ?_;refine aac fun K5 hK5=>?_;refine aad rfl ?_;simp;apply hK5;clear hK5 K5;exact aag (κ:=0) (au.tmp (κ:=0) rfl 9 (by simp [hg]) rfl (by simp) rfl)
       ·have hg:dS p=0:=by unfold dS;rw [if_neg h,if_neg h2,if_neg h3,if_neg (fun hh=>e1 (List.length_eq_zero_iff.1 hh.1))]
        refine aad rfl ?_;simp [x1,x3,lp6,e1];apply hK4;clear hK4 K4;refine aat ?_;refine aah ?_;simp;exact fin0 hg _ _ _ (by simp)
     refine aac fun K4 hK4=>?_;refine aad rfl ?_;simp [y1];apply hK4;clear hK4 K4
     by_cases f1:p.head<0
     ·refine aap (by simp [f1] <;> omega) ?_;refine aah ?_;simp;exact toK3 _ _ true (by simp [y1]) (by simp [y3]) (by simp [f1]) (by simp [f1])
     refine aao (by simp [f1] <;> omega) ?_;refine aac fun K4 hK4=>?_;refine aad rfl ?_;simp [y1];apply hK4;clear hK4 K4
     by_cases f2:p.tail<p.head
     ·refine aap (by simp [f2] <;> omega) ?_;refine aah ?_;simp;exact toK3 _ _ true (by simp [y1]) (by simp [y3]) (by simp [f2]) (by simp [f2])
     refine aao (by simp [f2] <;> omega) ?_;refine aad rfl ?_;simp [y1,y3];exact toK3 _ _ (decide (((sO p.nodes).length:Int)<p.tail)) (by simp [y1]) (by simp [y3]) (by simp) (by simp [f1,f2])
   refine aac fun K3 hK3=>?_;refine aad rfl ?_;simp [z1,lp0];apply hK3;clear hK3 K3
   by_cases c1:(sO p.f).length=0
   ·have c1l:sO p.f=[]:=List.length_eq_zero_iff.1 c1;refine aap (by simp [c1l] <;> omega) ?_;refine aah ?_;simp;exact toK2 _ _ true (by simp [z1]) (by simp [z3]) (by simp [c1l]) (by simp [c1l])
   have c1l:¬ sO p.f=[]:=fun e=>c1 (by rw [e];rfl)
   refine aao (by simp [c1l] <;> omega) ?_;refine aac fun K3 hK3=>?_;refine aad rfl ?_;simp [z3];apply hK3;clear hK3 K3
   by_cases c2:(sO p.nodes).length=0
   ·have c2l:sO p.nodes=[]:=List.length_eq_zero_iff.1 c2;refine aap (by simp [c2l] <;> omega) ?_;refine aah ?_;simp;exact toK2 _ _ true (by simp [z1]) (by simp [z3]) (by simp [c2l]) (by simp [c2l])
   have c2l:¬ sO p.nodes=[]:=fun e=>c2 (by rw [e];rfl)
   refine aao (by simp [c2l] <;> omega) ?_;refine aac fun K3 hK3=>?_;refine aad rfl ?_;simp [z1];apply hK3;clear hK3 K3
   by_cases c3:p.mode<0
   ·refine aap (by simp [c3] <;> omega) ?_;refine aah ?_;simp;exact toK2 _ _ true (by simp [z1]) (by simp [z3]) (by simp [c3]) (by simp [c3])
   refine aao (by simp [c3] <;> omega) ?_;refine aad rfl ?_;simp [z1];exact toK2 _ _ (decide (4<p.mode)) (by simp [z1]) (by simp [z3]) (by simp) (by simp [c1l,c2l,c3])
 refine aac fun K2 hK2=>?_;refine aad rfl ?_;simp [lp0];apply hK2;clear hK2 K2
 by_cases d1:6<(sO p.f).length
 ·have d1':(6:Int)<((sO p.f).length:Int):=by omega
  refine aap (by simp [d1'] <;> omega) ?_;refine aah ?_;simp;exact toK1 _ _ true (by simp) (by simp) (by simp [d1']) (by simp [d1])
 have d1':¬ (6:Int)<((sO p.f).length:Int):=by omega
 refine aao (by simp [d1'] <;> omega) ?_;refine aac fun K2 hK2=>?_;refine aad rfl ?_;simp [lp2];apply hK2;clear hK2 K2
 by_cases d2:6<(sO p.ins).length
 ·have d2':(6:Int)<((sO p.ins).length:Int):=by omega
  refine aap (by simp [d2'] <;> omega) ?_;refine aah ?_;simp;exact toK1 _ _ true (by simp) (by simp) (by simp [d2']) (by simp [d2])
 have d2':¬ (6:Int)<((sO p.ins).length:Int):=by omega
 refine aao (by simp [d2'] <;> omega) ?_;refine aac fun K2 hK2=>?_;refine aad rfl ?_;simp;apply hK2;clear hK2 K2
 by_cases d3:64<(sO p.nodes).length
 ·have d3':(64:Int)<((sO p.nodes).length:Int):=by omega
  refine aap (by simp [d3'] <;> omega) ?_;refine aah ?_;simp;exact toK1 _ _ true (by simp) (by simp) (by simp [d3']) (by simp [d3])
 have d3':¬ (64:Int)<((sO p.nodes).length:Int):=by omega
 refine aao (by simp [d3'] <;> omega) ?_;refine aad rfl ?_;simp [lp6];have d4:((4:Int)<((sO p.states).length:Int))↔4<(sO p.states).length:=by omega
 exact toK1 _ _ (decide (4<(sO p.states).length)) (by simp) (by simp) (by simp [d4]) (by simp [d1,d2,d3])
end Go.Am

namespace Go.Am
open Go.Am.Ty Go.Proofs N
structure Nd where
 op:Int
 a:Int
 b:Int
 c:Int
 d:Int
 f:Int
 v:List UInt8
 deriving DecidableEq,Inhabited
structure In where
 f:Int
 lo:List UInt8
 hi:List UInt8
 deriving DecidableEq,Inhabited
@[simp] def Nd.e (n:Nd):List DV:=[.int .i64 n.op,.int .i64 n.a,.int .i64 n.b,.int .i64 n.c,.int .i64 n.d,.int .i64 n.f,.str n.v]
@[simp] def In.e (n:In):List DV:=[.int .i64 n.f,.str n.lo,.str n.hi]
@[simp] def WK (n:Int × Int):List DV:=[.int .i64 n.1,.int .i64 n.2]
abbrev Nd.A (n:Nd):AV:=.agg [.d (.int .i64 n.op),.d (.int .i64 n.a),.d (.int .i64 n.b),.d (.int .i64 n.c),.d (.int .i64 n.d),.d (.int .i64 n.f),.d (.str n.v)]
def Us:List DV→Nd
 | [.int _ o,.int _ a,.int _ b,.int _ c,.int _ d,.int _ f,.str v]=>⟨o,a,b,c,d,f,v⟩
 | _=>default
def Un:List DV→In
 | [.int _ f,.str a,.str b]=>⟨f,a,b⟩
 | _=>default
def NG:List DV→Int × Int
 | [.int _ a,.int _ b]=>(a,b)
 | _=>(0,0)
theorem Oz {e:List DV}(h:Zq e):e=(Us e).e:=by obtain⟨a1,a2,a3,a4,a5,a6,s,rfl⟩:=h;rfl
theorem MU {e:List DV}(h:YV e):e=(Un e).e:=by obtain⟨a,s,t,rfl⟩:=h;rfl
theorem IP {e:List DV}(h:Wg e):e=WK (NG e):=by obtain⟨a,b,rfl⟩:=h;rfl
def PD.nf (p:PD):Nat:=(sO p.f).length
def PD.ni (p:PD):Nat:=(sO p.ins).length
def PD.nn (p:PD):Nat:=(sO p.nodes).length
def PD.ns (p:PD):Nat:=(sO p.states).length
def PD.fm (p:PD)(i:Nat):Int × Int:=NG ((sO p.f).getD i [])
def PD.GF (p:PD)(i:Nat):In:=Un ((sO p.ins).getD i [])
def PD.nd (p:PD)(i:Nat):Nd:=Us ((sO p.nodes).getD i [])
def PD.st (p:PD)(i:Nat):Int × Int:=NG ((sO p.states).getD i [])
section
variable {p:PD}(hp:p.ok) (lv:Key→LB) (k:Int) (h0:0≤k)
theorem XG {P:Program}{T:TypeId}{lv:Key→LB}{o:Option (List (List DV))}{k:Int}{sz:Nat}{e:List DV}(h:(eJ P T).map (·.2)=some sz) (h0:0≤k) (hi:k<(sO o).length) (he:(sO o).getD k.toNat []=e) (hs:e.length=sz) :
 az P T lv (CE o) (.c (.d (.int .i64 k)))=some (.c (.d (.ptr e)),[],[],True):=by
 obtain⟨i,rfl⟩:∃ i:Nat,k=i:=⟨k.toNat,by omega⟩
 have hi':i<(sO o).length:=by omega
 have e1:(sO o)[i]=e:=by rw [← he,Int.toNat_natCast,List.getD_eq_getElem?_getD,List.getElem?_eq_getElem hi'];rfl
 rw [yV h hi' (by rw [e1];exact hs),e1]
theorem gD {l:List (List DV)}{q:List DV→Prop}(h:∀ e∈l,q e) {i:Nat}(hi:i<l.length):q (l.getD i []):=by
 rw [List.getD_eq_getElem?_getD,List.getElem?_eq_getElem hi];exact h _ (List.getElem_mem hi)
include hp h0
theorem V7 (hi:k<p.nf):az Tryz.prog 22 lv (.c (iU p.f)) (.c (.d (.int .i64 k)))=some (.c (.d (.ptr (WK (p.fm k.toNat)))),[],[],True):=
 XG (by simp) h0 hi (IP (gD hp.f (by unfold PD.nf at hi;omega))) rfl
theorem WW (hi:k<p.ni):az Tryz.prog 23 lv (.c (iU p.ins)) (.c (.d (.int .i64 k)))=some (.c (.d (.ptr (p.GF k.toNat).e)),[],[],True):=
 XG (by simp) h0 hi (MU (gD hp.ins (by unfold PD.ni at hi;omega))) rfl
theorem UK (hi:k<p.nn):az Tryz.prog 24 lv (.c (iU p.nodes)) (.c (.d (.int .i64 k)))=some (.c (.d (.ptr (p.nd k.toNat).e)),[],[],True):=
 XG (by simp) h0 hi (Oz (gD hp.nodes (by unfold PD.nn at hi;omega))) rfl
theorem ixS (hi:k<p.ns):az Tryz.prog 25 lv (.c (iU p.states)) (.c (.d (.int .i64 k)))=some (.c (.d (.ptr (WK (p.st k.toNat)))),[],[],True):=
 XG (by simp) h0 hi (IP (gD hp.states (by unfold PD.ns at hi;omega))) rfl
end
theorem sF (p:PD)(lv:Key→LB):fh Tryz.prog 22 lv (.c (iU p.f))=some (.c (.d (.int .i64 p.nf)),[],[],True):=dB (by simp)
theorem wF (p:PD)(lv:Key→LB):fh Tryz.prog 23 lv (.c (iU p.ins))=some (.c (.d (.int .i64 p.ni)),[],[],True):=dB (by simp)
theorem fZ (p:PD)(lv:Key→LB):fh Tryz.prog 24 lv (.c (iU p.nodes))=some (.c (.d (.int .i64 p.nn)),[],[],True):=dB (by simp)
theorem wG (p:PD)(lv:Key→LB):fh Tryz.prog 25 lv (.c (iU p.states))=some (.c (.d (.int .i64 p.ns)),[],[],True):=dB (by simp)
def jA (op:Int):Nat:=if op≤3 then 0 else if op≤7 then 1 else if op≤13 then 2 else if op=14 then 3 else 4
def hU (op:Int):Nat:=if op=1∨op=2 then 1 else jA op
def Br:List DV:=[.int .i64 0,.int .i64 0,.int .i64 0,.int .i64 1,.int .i64 0,.int .i64 1,.int .i64 0,.int .i64 0,.int .i64 1,.int .i64 1,.int .i64 1,.int .i64 1,.int .i64 1,.int .i64 1,.int .i64 1,.int .i64 1,.int .i64 2,.int .i64 2,.int .i64 2,.int .i64 2,.int .i64 2,.int .i64 2,.int .i64 2,.int .i64 2,.int .i64 2,.int .i64 2,.int .i64 2,.int .i64 2,.int .i64 3,.int .i64 3,.int .i64 4,.int .i64 4]
theorem ZY (m:Int):(GG m)[1]?=some Br:=rfl
theorem Ze {op:Int}(h1:1≤op) (h2:op≤15):op=1∨op=2∨op=3∨op=4∨op=5∨op=6∨op=7∨op=8∨op=9∨op=10∨op=11∨op=12∨op=13∨op=14∨op=15:=by omega
theorem Z8 {op:Int}(h1:1≤op) (h2:op≤15):∃ rest,∀ lv:Key→LB,az Tryz.prog 169 lv (.c (.d (.ptr Br))) (.c (.d (.int .i64 op)))=some (.c (.d (.ptr (.int .i64 (jA op)::.int .i64 (hU op)::rest))),[],[],True):=by
 have ha:ry Tryz.prog 169=some (16,168,2):=by kernel_rfl
 have key:∀ (op:Int) (rest:List DV),0≤op→op<16→Br.drop (op.toNat*2)=.int .i64 (jA op)::.int .i64 (hU op)::rest→op.toNat*2≤Br.length→∃ rest,∀ lv:Key→LB,az Tryz.prog 169 lv (.c (.d (.ptr Br))) (.c (.d (.int .i64 op)))=some (.c (.d (.ptr (.int .i64 (jA op)::.int .i64 (hU op)::rest))),[],[],True):=by
  intro op rest g1 g2 g3 g4;refine⟨rest,fun lv=>?_⟩;unfold az;rw [ha];show some (AV.c (.d (.ptr (Br.drop (op.toNat*2)))),([]:List (Key × LB)),([]:List Key),(0≤op∧op<((16:Nat):Int)∧op.toNat*2≤Br.length))=_;rw [g3,eq_true (show 0≤op∧op<((16:Nat):Int)∧op.toNat*2≤Br.length from ⟨g1,by omega,g4⟩)]
 rcases Ze h1 h2 with rfl|rfl|rfl|rfl|rfl|rfl|rfl|rfl|rfl|rfl|rfl|rfl|rfl|rfl|rfl <;> exact key _ _ (by decide) (by decide) rfl (by decide)
def Nd.l4 (n:Nd):List Int:=[n.a,n.b,n.c,n.d]
def bF (n:Nd):List Int:=if 1≤n.op∧n.op≤15 then n.l4.take (jA n.op) else []
def kM (n:Nd):Option (List Int):=if 1≤n.op∧n.op≤15 then some (n.l4.take (jA n.op)) else none
def kN (n:Nd):Bool:=(n.l4.drop (hU n.op)).all (fun x=>decide (x=0)) && (decide (n.v=[]) || decide (n.op=3))
def zD (l:List Int):List (List DV):=l.map fun x=>[DV.int .i64 x]
def zC:Option (List Int)→CV
 | none=>.d .nilsl
 | some l=>.d (.sl (zD l))
def zL (o:Option (List Int)):List Int:=o.getD []
theorem DR (o:Option (List Int)):zC o=iU (o.map zD):=by cases o <;> rfl
@[simp] theorem qI (o:Option (List Int)):(AV.c (zC o)).pure=true:=by cases o <;> rfl
@[simp] theorem uX (o:Option (List Int)):(AV.c (zC o)).cw=true:=by cases o <;> rfl
@[simp] theorem Zu (o:Option (List Int))(g:Key→Key):(zC o).b6 g=zC o:=by cases o <;> rfl
@[simp] theorem Xw (o:Option (List (List DV)))(g:Key→Key):(iU o).b6 g=iU o:=by cases o <;> rfl
@[simp] theorem Yx (o:Option (List Nat))(g:Key→Key):(nC o).b6 g=nC o:=by cases o <;> rfl
def zK (l:List Int):List CV:=l.map fun x=>CV.d (.int .i64 x)
@[simp] theorem Ia (l:List Int):(zK l).length=l.length:=by simp [zK]
theorem y9 {P:Program}{T:TypeId}(ha:cW P T=some false) {l:List Int}{i:Nat}(h:i<l.length):eL P T ((zK l).drop i)=some (.c (.d (.int .i64 l[i]))):=by
 have:(zK l).drop i=CV.d (.int .i64 l[i])::(zK l).drop (i+1):=by
  rw [List.drop_eq_getElem_cons (by simpa using h)];simp [zK]
 rw [this];simp [ha]
theorem yQ (l:List Int):zK l=(l.map fun x=>DV.int .i64 x).map CV.d:=by simp [zK]
theorem I0 {lv:Key→LB}{n:Nat}(l:List Int):gb (ez lv n) (zK l)=some (l.map fun x=>DV.int .i64 x,[]):=by rw [yQ];exact tT _
theorem S6 {T:TypeId}(h:(eJ Tryz.prog T).isSome=true) (lv:Key→LB) (o:Option (List Int)):fh Tryz.prog T lv (.c (zC o))=some (.c (.d (.int .i64 (zL o).length)),[],[],True):=by
 rw [DR];rw [dB h]
 cases o <;> simp [sO,zL,zD]
theorem XX {T:TypeId}(h:(eJ Tryz.prog T).map (·.2)=some 1) (lv:Key→LB) (o:Option (List Int)) {i:Nat}(hi:i<(zL o).length):az Tryz.prog T lv (.c (zC o)) (.c (.d (.int .i64 (i:Int))))=some (.c (.d (.ptr [.int .i64 (zL o)[i]])),[],[],True):=by
 cases o with
 | none=>cases hi
 | some l=>
  rw [DR];have hi0:i<l.length:=hi;have hi':i<(sO (Option.map zD (some l))).length:=by show i<(zD l).length;unfold zD;rw [List.length_map];exact hi0
  have e:(sO (Option.map zD (some l)))[i]=[.int .i64 (zL (some l))[i]]:=by simp [sO,zD,zL]
  rw [yV h hi' (by rw [e];rfl),e];rfl
def sS (p:PD)(x:In):Int:=
 if ¬ (0≤x.f∧x.f<p.nf) then 7
 else if dW x.lo≠0 then dW x.lo
 else if dW x.hi≠0 then dW x.hi
 else if hasB (p.fm x.f.toNat).1 (p.fm x.f.toNat).2 (eK x.lo)=false then 7
 else if hasB (p.fm x.f.toNat).1 (p.fm x.f.toNat).2 (eK x.hi)=false then 7
 else if 0<gG (eK x.lo) (eK x.hi) then 7 else 0
def jN (p:PD)(i:Int)(n:Nd):Int:=
 if ¬ (1≤n.op∧n.op≤15) then 2
 else if kN n=false then 2
 else if ¬ (0≤n.f∧n.f<p.nf) then 7
 else if n.op=1∧¬ (0≤n.a∧n.a<p.ni) then 7
 else if n.op=1∧(p.GF n.a.toNat).f≠n.f then 143
 else if n.op=2∧(i<p.head∨¬ (0≤n.a∧n.a<p.ns)) then 7
 else if n.op=3 then dW n.v
 else if (bF n).all (dI p i) then 0 else 7
def gY (i f:Int)(n:Nd):Bool:=decide (n.op=2) && decide (n.a=i) && !decide (n.f=f)
def wE (p:PD)(i:Int)(s:Int × Int):Int:=
 if ¬ (0≤s.1∧s.1<p.head) then 7
 else if ¬ (0≤s.2∧s.2<p.tail) then 7
 else if (p.nd s.2.toNat).f≠(p.nd s.1.toNat).f then 143
 else if (List.range p.nn).any (fun j=>gY i (p.nd s.1.toNat).f (p.nd j)) then 143 else 0
def lF (e:Nat→Int)(n:Nat):Option Nat:=(List.range n).find? fun i=>decide (e i≠0)
theorem tc {e:Nat→Int}{n:Nat}(h:∀ j,j<n→e j=0):lF e n=none:=by
 unfold lF;rw [List.find?_eq_none];intro x hx;simp [h x (List.mem_range.1 hx)]
theorem s9 {e:Nat→Int}{n i:Nat}(hi:i<n) (h:e i≠0) (h0:∀ j,j<i→e j=0):lF e n=some i:=by
 unfold lF;rw [List.find?_range_eq_some];exact⟨by simpa using h,List.mem_range.2 hi,fun j hj=>by simp [h0 j hj]⟩
def jH (p:PD):Nat→Nat
 | 0=>p.nf
 | 1=>p.ni
 | 2=>p.nn
 | _=>p.ns
def cx (p:PD):Nat→Nat→Int
 | 0,i=>fk (p.fm i).1 (p.fm i).2
 | 1,i=>sS p (p.GF i)
 | 2,i=>jN p i (p.nd i)
 | _,i=>wE p i (p.st i)
def er (p:PD):Nat→Nat→Int × Int × Int
 | 0,_=>if 0≤p.res∧p.res<p.nn∧lM p p.res≠1 then (0,0,0) else (5,0,7)
 | n+1,k=>match lF (cx p k) (jH p k) with
  | some i=>(k+1,i,cx p k i)
  | none=>er p n (k+1)
def iO (p:PD):Int × Int × Int:=if dS p≠0 then (0,0,dS p) else er p 4 0
end Go.Am

namespace Go.Am
open Go.Am.Ty Go.Proofs N
set_option maxHeartbeats 1000000 in
theorem CO (G:List (List DV))(o:Option (List (List DV)))(h:∀ e∈sO o,e.length=1)(hl:(sO o).length≤1000000):aj Tryz.prog G 97 [.c (iU o)] (.c (iU o)):=by
 have e1:aO Tryz.prog .eql 30 (.c (.d .nilsl)) (.c (.d .nilsl))=some (.c (.d (.bool true)),[],[],True):=by kernel_rfl
 have e2:∀ es,aO Tryz.prog .eql 30 (.c (.d (.sl es))) (.c (.d .nilsl))=some (.c (.d (.bool false)),[],[],True):=fun es=>by kernel_rfl
 cases o with
 | none=>
  show aj Tryz.prog G 97 [.c (.d .nilsl)] (.c (.d .nilsl));refine aj.uz Tryz.func97 rfl (by rw [Tryz.ntmps97];simp)  ?_;rintro⟨_,_,w0,F0,W0,_,bq,β0⟩ rfl rfl rfl rfl;refine aac fun K hK=>?_;refine aad rfl ?_;simp;apply hK;clear hK K;refine aac fun K hK=>?_;refine aac fun K1 hK1=>?_;refine aad rfl ?_;simp [e1];apply hK1;clear hK1 K1;refine aaq ?_;refine aac fun K1 hK1=>?_;refine aad rfl ?_;simp;apply hK1;clear hK1 K1;exact aag (κ:=0) (tr.tmp (κ:=0) (X:=.c (.d .nilsl)) (ks:=[]) rfl (by simp) rfl)
 | some es=>
  have h:∀ e∈es,e.length=1:=h;have hl:es.length≤1000000:=hl;show aj Tryz.prog G 97 [.c (.d (.sl es))] (.c (.d (.sl es)));have hsrc:∀ lv,gI lv 1 (.c (.d (.sl es)))=some (es.length,es.flatten.map CV.d):=fun lv=>Ld h
  refine aj.uz Tryz.func97 rfl (by rw [Tryz.ntmps97];simp)  ?_;rintro⟨_,_,w0,F0,W0,_,bq,β0⟩ rfl rfl rfl rfl;refine aac fun K hK=>?_;refine aad rfl ?_;simp;apply hK;clear hK K;refine aac fun K hK=>?_;refine aac fun K1 hK1=>?_;refine aad rfl ?_;simp [e2];apply hK1;clear hK1 K1;refine aat ?_;refine aah ?_;simp;apply hK;clear hK K;refine aac fun K hK=>?_;refine aad rfl ?_;simp [hsrc,mg,iX,keyOf]
  repeat refine ag ?_
  apply hK;clear hK K;refine aag (κ:=0) (tr.tmp (κ:=0) (X:=.c (.aX 1 0 es.length 1)) (ks:=[1]) rfl (by simp) ?_);exact KU (own:=true) (fz:=false) (T:=3) (by simp) h (by omega)
end Go.Am

namespace Go.Am
open Go.Am.Ty Go.Proofs N
theorem JB (T:TypeId)(s t:List UInt8):aO Tryz.prog .eql T (.c (.d (.str s))) (.c (.d (.str t)))=some (.c (.d (.bool (decide (s=t)))),[],[],True):=by
 rw [← JX];rfl
theorem Ym (a b c d:CV):gS Tryz.prog 85 [0,1,2,3] [.c a,.c b,.c c,.c d]=some (.agg [a,b,c,d],[],[],True):=by kernel_rfl
theorem Fp:ry Tryz.prog 85=some (4,3,1):=by kernel_rfl
theorem ai.Yn {c:Ctx}{f:FuncId}{lv:Key→LB}{K:AV→List (Key × LB)→List Key→Nat→Prop}(κ' kh κb:Key) {T:TypeId}{l:List Int}{x:AV}(n:Nat) (hn:n≤l.length) (hl:l.length≤100) (hk:lv κb=.cells true false T (zK l))
 (hc:aj c.P c.G f [.c (zC (some (l.take n)))] x) (hx:x.pure=true) (hh:lv kh=.hole) (hkh:kh≠κb) (hK:K x [(κb,.cells true true T (zK l))] [kh] κ'):ai c f [.c (.aX κb 0 n 1)] lv K:=by
 refine ai.YH κ' kh κb T (zK l) [kh] hc hx hk hh hkh rfl (fun i p q=>?_) (fun a ha j hj=>?_) (by simp) hK
 ·have hi:i=0:=by simp at p;omega
  subst hi;right;have h1:(zK l).take n=zK (l.take n):=by simp [zK,List.map_take]
  have hln:(l.take n).length=n:=by rw [List.length_take];omega
  simp only [List.getElem_cons_zero,fH,ez,aB,Ia,Nat.mul_one,Nat.zero_add,List.drop_zero,h1,I0,Option.map_some];rw [if_pos ⟨hn,by omega⟩];have h2:=nh ((l.take n).map fun (x:Int)=>DV.int .i64 x);rw [List.length_map,hln] at h2;simp only [Option.map_some,h2];simp [zC,zD];rfl
 ·simp only [List.mem_singleton] at ha;subst ha;simp only [pG,me,List.mem_cons,aB] at hj;rcases hj with rfl|hj
  ·exact .inr rfl
  ·simp only [List.mem_flatMap] at hj;obtain⟨y,hy,hj⟩:=hj;simp only [zK,List.mem_map] at hy;obtain⟨z,_,rfl⟩:=hy
   cases hj
theorem F7 (G:List (List DV))(o:Option (List Int))(hl:(zL o).length≤1000000):aj Tryz.prog G 97 [.c (zC o)] (.c (zC o)):=by
 rw [DR];refine CO G _ ?_ ?_
 ·cases o with
  | none=>intro e he;cases he
  | some l=>intro e he;simp only [sO,Option.map_some,Option.getD_some,zD,List.mem_map] at he;obtain⟨x,_,rfl⟩:=he;rfl
 ·cases o with
  | none=>simp [sO]
  | some l=>simpa [sO,zD,zL] using hl
theorem pZ (op:Int):jA op≤4:=by unfold jA;(repeat' split) <;> omega
theorem Cx (op:Int):hU op≤4:=by have:=pZ op;unfold hU;split <;> omega
theorem Nd.jL (n:Nd):n.l4.length=4:=rfl
theorem tX (n:Nd):zL (kM n)=bF n:=by unfold kM bF;split <;> rfl
set_option maxHeartbeats 1000000 in
theorem EZ (m:Int)(n:Nd):aj Tryz.prog (GG m) 35 [n.A] (.c (zC (kM n))):=by
 have hkn:=Bz (GG m) n.op
 by_cases hk:1≤n.op∧n.op≤15
 ·obtain⟨rest,hix⟩:=Z8 hk.1 hk.2;have hcl:=F7 (GG m) (some (n.l4.take (jA n.op))) (by simp only [zL,Option.getD_some,List.length_take,Nd.jL];omega);have hko:kM n=some (n.l4.take (jA n.op)):=by unfold kM;rw [if_pos hk]
  have hle:=pZ n.op;rw [hko];have hd:decide (1≤n.op∧n.op≤15)=true:=decide_eq_true hk;rw [hd] at hkn;generalize jA n.op=kk at *
  refine aj.aH Tryz.func35 rfl (by rw [Tryz.ntmps35];simp) ?_;rintro⟨_,_,w0,F0,W0,_,bq,β0⟩ rfl rfl rfl;refine aac fun K hK=>?_;refine aad rfl ?_;simp;apply hK;clear hK K;refine aac fun K hK=>?_;refine aac fun K1 hK1=>?_;refine aad rfl ?_;simp;refine ai.p 1 9 hkn ?_;simp;apply hK1;clear hK1 K1;refine aat ?_;refine aah ?_;simp;apply hK;clear hK K;refine aac fun K hK=>?_;refine aad rfl ?_;simp [Ym,ak];apply hK;clear hK K;refine aac fun K hK=>?_;refine AW.ua ?_;refine mh.run 5 rfl ?_;simp [ZY,hix];refine mh.gh (x:=.c (.aX 1 0 kk 1)) (us:=[]) (rds:=[1]) 2 rfl rfl ?_ ?_
  ·simp [Am.gh,Op.operands,tv,pF,Fp];omega
  refine mh.run 2 rfl ?_;simp [];refine ai.Yn (l:=n.l4) (T:=85) 2 9 1 kk hle (by simp [Nd.jL]) rfl hcl (by simp) (by simp) (by decide) ?_;simp;refine mh.done ?_;apply hK;clear hK K;exact aag (κ:=0) (au.t (κ:=0) rfl 2 (by simp))
 ·have hko:kM n=none:=by unfold kM;rw [if_neg hk]
  have hd:decide (1≤n.op∧n.op≤15)=false:=decide_eq_false hk;rw [hd] at hkn;rw [hko];refine aj.aH Tryz.func35 rfl (by rw [Tryz.ntmps35];simp) ?_;rintro⟨_,_,w0,F0,W0,_,bq,β0⟩ rfl rfl rfl;refine aac fun K hK=>?_;refine aad rfl ?_;simp;apply hK;clear hK K;refine aac fun K hK=>?_;refine aac fun K1 hK1=>?_;refine aad rfl ?_;simp;refine ai.p 1 9 hkn ?_;simp;apply hK1;clear hK1 K1;refine aaq ?_;refine aac fun K1 hK1=>?_;refine aad rfl ?_;simp;apply hK1;clear hK1 K1;exact aag (κ:=0) (au.t (κ:=0) rfl 2 (by simp [zC]))
set_option maxHeartbeats 2000000 in
theorem KJ (m:Int)(n:Nd)(h1:1≤n.op)(h2:n.op≤15):aj Tryz.prog (GG m) 162 [n.A] (.c (.d (.bool (kN n)))):=by
 obtain⟨rest,hix⟩:=Z8 h1 h2;have hle:=Cx n.op;have hib:kN n=((n.l4.drop (hU n.op)).all (fun x=>decide (x=0)) && (decide (n.v=[]) || decide (n.op=3))):=rfl;have hzk:[CV.d (.int .i64 n.a),.d (.int .i64 n.b),.d (.int .i64 n.c),.d (.int .i64 n.d)]=zK n.l4:=rfl;have fin:(n.l4.drop (hU n.op)).all (fun x=>decide (x=0))=true→kN n=(decide (n.v=[]) || decide (n.op=3)):=by intro h;rw [hib,h];rfl
 have lp0:∀ lv,fh Tryz.prog 30 lv (.c (.d (.sl [])))=some (.c (.d (.int .i64 0)),[],[],True):=fun lv=>S6 (T:=30) (by simp) lv (some [])
 refine aj.aH Tryz.func162 rfl (by rw [Tryz.ntmps162];simp) ?_;rintro⟨_,_,w0,F0,W0,_,bq,β0⟩ rfl rfl rfl;refine aac fun K hK=>?_;refine aad rfl ?_;simp;apply hK;clear hK K;refine aac fun K hK=>?_;refine aad rfl ?_;simp [Ym,ak];apply hK;clear hK K;refine aac fun K hK=>?_
 have tail:∀ (fr:Nat→AV) (κ:Nat) (lv:Key→LB),fr 1=.c (.ptr 0 0)→lv 0=.cells true false 55 [.d (.int .i64 n.op),.d (.int .i64 n.a),.d (.int .i64 n.b),.d (.int .i64 n.c),.d (.int .i64 n.d),.d (.int .i64 n.f),.d (.str n.v)]→lv 9=.hole →
  (n.l4.drop (hU n.op)).all (fun x=>decide (x=0))=true→K ⟨fr,lv⟩ κ:=by
  intro fr κ lv z1 hl0 h9 hall;have hf:=fin hall;apply hK
  by_cases hv:n.v=[]
  ·refine aac fun K3 hK3=>?_;refine aad rfl ?_;simp [z1,hl0,JB,hv];apply hK3;clear hK3 K3;exact aag (κ:=0) (au.tmp (κ:=0) rfl 9 (by simp [hf,hv]) rfl (by simp [h9]) rfl)
  ·refine aac fun K3 hK3=>?_;refine aad rfl ?_;simp [z1,hl0,JB,hv];apply hK3;clear hK3 K3;exact aag (κ:=0) (au.tmp (κ:=0) rfl 9 (by simp [hf,hv]) rfl (by simp [h9]) rfl)
 refine aac fun K1 hK1=>?_
 by_cases hu:hU n.op=4
 ·refine AW.ua ?_;refine mh.run 5 rfl ?_;simp [ZY,hix];refine mh.D0 (κ:=1) (off:=0) (n:=4) (e:=3) (sz:=1) (l:=4) (own:=true) (fz:=false) (T':=85) 2 rfl rfl rfl (by simp) (by simp;rfl) Fp (by simp [hu]) (by simp) (by decide) (by decide) ?_;refine mh.run 2 rfl ?_;simp [lp0];refine mh.done ?_;apply hK1;clear hK1 K1;refine aak ?_
  refine aax (fun (_:Unit)=>⟨bt [(1,.c (.ptr 0 0)),(20,.c (.d (.sl []))),(21,.c (.d (.int .i64 0))),(22,.c (.d (.int .i64 0)))],
   aJ (aJ (fun _=>.hole) 0 (.cells true false 55 [.d (.int .i64 n.op),.d (.int .i64 n.a),.d (.int .i64 n.b),.d (.int .i64 n.c),.d (.int .i64 n.d),.d (.int .i64 n.f),.d (.str n.v)])) 1 (.cells true false 85 (zK n.l4))⟩) 2
   (fun _=>True) (fun _=>0) () (Le.mk' _ rfl (by repeat (first|exact aA|refine aT ?_ _ _ _ _ _|(refine aC ?_ _)|(refine noMap_blS ?_ _ _ _)|(refine noMap_upd_nils ?_ _)|simp)) (by simp)) trivial ?_
  rintro⟨⟩ _;refine aac fun K3 hK3=>?_;refine aad rfl ?_;simp;apply hK3;clear hK3 K3;refine aac fun K3 hK3=>?_;refine aat ?_;refine aav ?_;simp;exact tail _ _ _ (by simp) (by simp) (by simp) (by rw [hu];rfl)
 have hu4:hU n.op<4:=by omega
 have hdrop:∀ i,i<4 - hU n.op→hU n.op+i<n.l4.length:=by intro i hi;rw [Nd.jL];omega
 generalize hue:hU n.op=u at *
 refine AW.ua ?_;refine mh.run 5 rfl ?_;simp [ZY,hix];refine mh.gh (x:=.c (.aX 1 u (4 - u) 1)) (us:=[]) (rds:=[1]) 2 rfl rfl ?_ ?_
 ·simp [Am.gh,Op.operands,tv,pF,Fp];omega
 have e4:((4 - u:Nat):Int)≤9223372036854775807:=by omega
 refine mh.run 2 rfl ?_;simp [e4];refine mh.done ?_;apply hK1;clear hK1 K1;refine aak ?_
 refine aax (fun (i:Nat)=>⟨bt [(1,.c (.ptr 0 0)),(20,.c (.aX 1 u (4 - u) 1)),(21,.c (.d (.int .i64 (4 - u:Nat)))),(22,.c (.d (.int .i64 i)))],
  aJ (aJ (fun _=>.hole) 0 (.cells true false 55 [.d (.int .i64 n.op),.d (.int .i64 n.a),.d (.int .i64 n.b),.d (.int .i64 n.c),.d (.int .i64 n.d),.d (.int .i64 n.f),.d (.str n.v)])) 1 (.cells true false 85 (zK n.l4))⟩) 2
  (fun i=>i≤4 - u∧∀ j (hj:j<i) (h:u+j<n.l4.length),n.l4[u+j]=0) (fun i=>4 - u - i) 0 (Le.mk' _ rfl (by repeat (first|exact aA|refine aT ?_ _ _ _ _ _|(refine aC ?_ _)|(refine noMap_blS ?_ _ _ _)|(refine noMap_upd_nils ?_ _)|simp)) (by simp)) ⟨by omega,fun j hj=>absurd hj (Nat.not_lt_zero j)⟩ ?_
 rintro i ⟨hi,hall⟩
 try simp only at hi hall
 refine aac fun K3 hK3=>?_;refine aad rfl ?_;simp;apply hK3;clear hK3 K3;refine aac fun K2 hK2=>?_
 by_cases hlt:i<4 - u
 ·have hlt':(i:Int)<((4 - u:Nat):Int):=by omega
  refine aap (by simp [hlt'] <;> omega) ?_;refine aah ?_;simp;apply hK2;refine aac fun K3 hK3=>?_;refine aak ?_;refine aac fun K4 hK4=>?_;have hx:=y9 (P:=Tryz.prog) (T:=3) (by simp) (hdrop i hlt);refine aad rfl ?_;simp [hlt',hx];apply hK4;clear hK4 K4;refine aac fun K4 hK4=>?_;refine aad rfl ?_;simp;apply hK4;clear hK4 K4
  by_cases h0:n.l4[u+i]'(hdrop i hlt)=0
  ·refine aao (by simp [h0] <;> omega) ?_;refine aah ?_;simp;apply hK3;have f12:=bK (n:=(i:Int)+1) (by omega) (by omega);refine aad rfl ?_;simp [f12];refine⟨i+1,Le.mk' _ (by simp) (by repeat (first|exact aA|refine aT ?_ _ _ _ _ _|(refine aC ?_ _)|(refine noMap_blS ?_ _ _ _)|(refine noMap_upd_nils ?_ _)|simp)) (by simp),⟨by omega,fun j hj h=>?_⟩,by omega⟩
   by_cases hji:j=i
   ·subst hji;exact h0
   ·exact hall j (by omega) h
  ·refine aap (by simp [h0] <;> omega) ?_;refine aac fun K4 hK4=>?_;refine aad rfl ?_;simp;apply hK4;clear hK4 K4
   have hb:kN n=false:=by
    rw [hib]
    have:(n.l4.drop u).all (fun x=>decide (x=0))=false:=by
     rw [List.all_eq_false];refine⟨n.l4[u+i]'(hdrop i hlt),?_,by simpa using h0⟩;rw [List.mem_iff_getElem];exact⟨i,by rw [List.length_drop,Nd.jL];omega,by simp⟩
    rw [this];rfl
   exact aag (κ:=0) (au.t (κ:=0) rfl 2 (by simp [hb]))
 ·have hlt':¬ (i:Int)<((4 - u:Nat):Int):=by omega
  refine aao (by simp [hlt'] <;> omega) ?_;refine aav ?_;simp;refine tail _ _ _ (by simp) (by simp) (by simp) ?_;rw [List.all_eq_true];intro x hx;obtain⟨j,hj,rfl⟩:=List.mem_iff_getElem.1 hx;rw [List.length_drop,Nd.jL] at hj;have:=hall j (by omega) (by rw [Nd.jL];omega);simpa using this
end Go.Am

namespace Go.Am
open Go.Am.Ty Go.Proofs N
theorem Ga (G:List (List DV))(p:PD)(hp:p.ok)(i:Nat)(hi:i<p.nf):aj Tryz.prog G 83 [p.A,.c (.d (.int .i64 i))] (.c (.d (.int .i64 (cx p 0 i)))):=by
 have hx:=fun lv=>V7 hp lv (i:Int) (by omega) (by omega)
 have hc:=jn G (p.fm i).1 (p.fm i).2;simp only [Int.toNat_natCast] at hx;refine aj.aH Tryz.func83 rfl (by rw [Tryz.ntmps83];simp) ?_;rintro⟨_,_,w0,F0,W0,_,bq,β0⟩ rfl rfl rfl;refine aac fun K hK=>?_;refine aad rfl ?_;simp;apply hK;clear hK K;refine aac fun K hK=>?_;refine aad rfl ?_;simp [hx];refine ai.p 1 9 hc ?_;simp;apply hK;clear hK K;exact aag (κ:=0) (au.t (κ:=0) rfl 4 (by simp [cx]))
theorem nR (n:Nd):(bF n).length≤4:=by
 have:=pZ n.op;unfold bF;split
 ·rw [List.length_take,Nd.jL];omega
 ·exact Nat.zero_le _
theorem Je (p:PD)(lv:Key→LB)(hp:p.ok)(i:Nat)(hi:i<p.nn):az Tryz.prog 24 lv (.c (iU p.nodes)) (.c (.d (.int .i64 (i:Int))))=some (.c (.d (.ptr (p.nd i).e)),[],[],True):=by
 have:=UK hp lv (i:Int) (by omega) (by omega)
 rwa [Int.toNat_natCast] at this
set_option maxHeartbeats 8000000 in
set_option maxRecDepth 20000 in
theorem JZ (m:Int)(p:PD)(hp:p.ok)(i:Nat)(hi:i<p.nn)(hn2:p.nn≤1000):aj Tryz.prog (GG m) 85 [p.A,.c (.d (.int .i64 i))] (.c (.d (.int .i64 (cx p 2 i)))):=by
 have hx:=fun lv=>Je p lv hp i hi
 have hE:cx p 2 i=jN p i (p.nd i):=rfl;rw [hE];obtain⟨n,hn⟩:∃ n,p.nd i=n:=⟨_,rfl⟩
 simp only [hn] at hx ⊢;have hkn:=Bz (GG m) n.op;have hwf:=gF (GG m) n.f p.nf;have hwa:=gF (GG m) n.a p.ni;have hws:=gF (GG m) n.a p.ns;have lvN:List CV:=[.d (.int .i64 n.op),.d (.int .i64 n.a),.d (.int .i64 n.b),.d (.int .i64 n.c),.d (.int .i64 n.d),.d (.int .i64 n.f),.d (.str n.v)]
 refine aj.aH Tryz.func85 rfl (by rw [Tryz.ntmps85];simp) ?_;rintro⟨_,_,w0,F0,W0,_,bq,β0⟩ rfl rfl rfl;refine aac fun K hK=>?_;refine aad rfl ?_;simp;apply hK;clear hK K;refine aac fun K hK=>?_;refine aad rfl ?_;simp [hx,ak];apply hK;clear hK K;refine aac fun K hK=>?_;refine aak ?_;refine aac fun K1 hK1=>?_
 by_cases h1:1≤n.op∧n.op≤15
 rotate_left
 ·have hd:decide (1≤n.op∧n.op≤15)=false:=decide_eq_false h1;have hr:jN p i n=2:=by unfold jN;rw [if_pos h1]
  rw [hd] at hkn;refine aad rfl ?_;simp;refine ai.p 2 9 hkn ?_;simp;apply hK1;clear hK1 K1;refine aaq ?_;refine aac fun K1 hK1=>?_;refine aad rfl ?_;simp;apply hK1;clear hK1 K1;exact aag (κ:=0) (au.t (κ:=0) rfl 4 (by simp [hr]))
 have hid:=KJ m n h1.1 h1.2;have hd:decide (1≤n.op∧n.op≤15)=true:=decide_eq_true h1;rw [hd] at hkn
 cases hib:kN n with
 | false=>
  have hr:jN p i n=2:=by unfold jN;rw [if_neg (not_not_intro h1),if_pos hib]
  rw [hib] at hid;refine aad rfl ?_;simp;refine ai.p 2 9 hkn ?_;simp;refine ai.p 2 9 hid ?_;simp;apply hK1;clear hK1 K1;refine aaq ?_;refine aac fun K1 hK1=>?_;refine aad rfl ?_;simp;apply hK1;clear hK1 K1;exact aag (κ:=0) (au.t (κ:=0) rfl 4 (by simp [hr]))
 | true=>
 rw [hib] at hid;have ib:¬ kN n=false:=by rw [hib];decide
 refine aad rfl ?_;simp;refine ai.p 2 9 hkn ?_;simp;refine ai.p 2 9 hid ?_;simp;apply hK1;clear hK1 K1;refine aat ?_;refine aac fun K1 hK1=>?_
 by_cases h2:0≤n.f∧n.f<p.nf
 rotate_left
 ·have hd2:decide (0≤n.f∧n.f<(p.nf:Int))=false:=decide_eq_false h2;have hr:jN p i n=7:=by unfold jN;rw [if_neg (not_not_intro h1),if_neg ib,if_pos h2]
  rw [hd2] at hwf;refine aad rfl ?_;simp [sF];refine ai.p 2 9 hwf ?_;simp;apply hK1;clear hK1 K1;refine aaq ?_;refine aac fun K1 hK1=>?_;refine aad rfl ?_;simp;apply hK1;clear hK1 K1;exact aag (κ:=0) (au.t (κ:=0) rfl 4 (by simp [hr]))
 have hd2:decide (0≤n.f∧n.f<(p.nf:Int))=true:=decide_eq_true h2;rw [hd2] at hwf;refine aad rfl ?_;simp [sF];refine ai.p 2 9 hwf ?_;simp;apply hK1;clear hK1 K1;refine aat ?_
 have r2:jN p i n=if n.op=1∧¬ (0≤n.a∧n.a<p.ni) then 7 else if n.op=1∧(p.GF n.a.toNat).f≠n.f then 143 else if n.op=2∧((i:Int)<p.head∨¬ (0≤n.a∧n.a<p.ns)) then 7 else if n.op=3 then dW n.v else if (bF n).all (dI p i) then 0 else 7:=by
  unfold jN;rw [if_neg (not_not_intro h1),if_neg ib,if_neg (not_not_intro h2)]
 have tail:∀ (fr:Nat→AV) (κ:Nat),fr 1=.c (.d (.int .i64 i))→fr 2=.c (.ptr 0 0)→fr 5=.c (.ptr 1 0)→(jN p i n=if (bF n).all (dI p i) then 0 else 7) →
  K ⟨fr,aJ (aJ (fun _=>.hole) 0 (.cells true false 154 p.cs)) 1 (.cells true false 55 [.d (.int .i64 n.op),.d (.int .i64 n.a),.d (.int .i64 n.b),.d (.int .i64 n.c),.d (.int .i64 n.d),.d (.int .i64 n.f),.d (.str n.v)])⟩ κ:=by
  intro fr κ z1 z2 z5 hr;have hks:=EZ m n;have hkl:=nR n;have lpk:∀ lv,fh Tryz.prog 30 lv (.c (zC (kM n)))=some (.c (.d (.int .i64 (bF n).length)),[],[],True):=fun lv=>by rw [S6 (by simp),tX]
  have ixk:∀ lv (j:Nat) (hj:j<(bF n).length),az Tryz.prog 30 lv (.c (zC (kM n))) (.c (.d (.int .i64 (j:Int))))=some (.c (.d (.ptr [.int .i64 (bF n)[j]])),[],[],True):=fun lv j hj=>by
   rw [XX (by simp) lv _ (by rw [tX];exact hj)];simp only [tX]
  generalize kM n=ko at *
  generalize bF n=kl at *
  apply hK;refine aac fun K3 hK3=>?_;refine aac fun K4 hK4=>?_;refine aad rfl ?_;simp [z5];refine ai.p 2 9 hks ?_;simp [lpk];apply hK4;clear hK4 K4;refine aak ?_
  refine aax (fun (j:Nat)=>⟨bt [(1,.c (.d (.int .i64 i))),(2,.c (.ptr 0 0)),(93,.c (zC ko)),(94,.c (.d (.int .i64 kl.length))),(95,.c (.d (.int .i64 j)))],
   aJ (aJ (fun _=>.hole) 0 (.cells true false 154 p.cs)) 1 (.cells true false 55 [.d (.int .i64 n.op),.d (.int .i64 n.a),.d (.int .i64 n.b),.d (.int .i64 n.c),.d (.int .i64 n.d),.d (.int .i64 n.f),.d (.str n.v)])⟩) 2
   (fun j=>j≤kl.length∧∀ q (hq:q<j) (h:q<kl.length),dI p i kl[q]=true) (fun j=>kl.length - j) 0 (Le.mk' _ (by simp) (by repeat (first|exact aA|refine aT ?_ _ _ _ _ _|(refine aC ?_ _)|(refine noMap_blS ?_ _ _ _)|(refine noMap_upd_nils ?_ _)|simp)) (by simp [z1,z2])) ⟨Nat.zero_le _,fun q hq=>absurd hq (Nat.not_lt_zero q)⟩ ?_
  rintro j ⟨hj,hall⟩
  try simp only at hj hall
  refine aac fun K5 hK5=>?_;refine aad rfl ?_;simp;apply hK5;clear hK5 K5;refine aac fun K6 hK6=>?_
  by_cases hlt:j<kl.length
  ·have hlt':(j:Int)<(kl.length:Int):=by omega
   refine aap (by simp [hlt'] <;> omega) ?_;refine aah ?_;simp;apply hK6;refine aac fun K7 hK7=>?_;refine aak ?_;refine aac fun K8 hK8=>?_;have hxk:=fun lv=>ixk lv j hlt
   refine aad rfl ?_;simp [hxk];apply hK8;clear hK8 K8;refine aac fun K8 hK8=>?_;have hse:=KB (GG m) p i kl[j];refine aad rfl ?_;simp;refine ai.p 2 9 hse ?_;simp;apply hK8;clear hK8 K8
   cases hs:dI p i kl[j] with
   | true=>
    refine aat ?_;refine aah ?_;simp;apply hK7;have f12:=bK (n:=(j:Int)+1) (by omega) (by omega);refine aad rfl ?_;simp [f12];refine⟨j+1,Le.mk' _ (by simp) (by repeat (first|exact aA|refine aT ?_ _ _ _ _ _|(refine aC ?_ _)|(refine noMap_blS ?_ _ _ _)|(refine noMap_upd_nils ?_ _)|simp)) (by simp),⟨by omega,fun q hq h=>?_⟩,by omega⟩
    by_cases hji:q=j
    ·subst hji;exact hs
    ·exact hall q (by omega) h
   | false=>
    refine aaq ?_;refine aac fun K8 hK8=>?_;refine aad rfl ?_;simp;apply hK8;clear hK8 K8
    have hb:jN p i n=7:=by
     rw [hr,if_neg];rw [Bool.not_eq_true,List.all_eq_false];exact⟨kl[j],List.getElem_mem hlt,by rw [hs];decide⟩
    exact aag (κ:=0) (au.t (κ:=0) rfl 4 (by simp [hb]))
  ·have hlt':¬ (j:Int)<(kl.length:Int):=by omega
   refine aao (by simp [hlt'] <;> omega) ?_;refine aav ?_;simp;apply hK3
   have hb:jN p i n=0:=by
    rw [hr,if_pos];rw [List.all_eq_true];intro x hx;obtain⟨q,hq,rfl⟩:=List.mem_iff_getElem.1 hx;exact hall q (by omega) hq
   refine aac fun K5 hK5=>?_;refine aad rfl ?_;simp;apply hK5;clear hK5 K5;exact aag (κ:=0) (au.t (κ:=0) rfl 4 (by simp [hb]))
 by_cases h3:n.op=1
 ·have n2:¬ n.op=2:=by omega
  have n3:¬ n.op=3:=by omega
  have t3:(n.op=1)=True:=eq_true h3
  by_cases h4:0≤n.a∧n.a<p.ni
  rotate_left
  ·have hd4:decide (0≤n.a∧n.a<(p.ni:Int))=false:=decide_eq_false h4;have hr:jN p i n=7:=by rw [r2,if_pos ⟨h3,h4⟩]
   rw [hd4] at hwa;refine aac fun K1 hK1=>?_;refine aad rfl ?_;simp [t3,wF];refine ai.p 2 9 hwa ?_;simp [t3];apply hK1;clear hK1 K1;refine aaq ?_;refine aac fun K1 hK1=>?_;refine aad rfl ?_;simp;apply hK1;clear hK1 K1;exact aag (κ:=0) (au.t (κ:=0) rfl 4 (by simp [hr]))
  have hd4:decide (0≤n.a∧n.a<(p.ni:Int))=true:=decide_eq_true h4;rw [hd4] at hwa;have hxi:=fun lv=>WW hp lv n.a h4.1 h4.2
  refine aac fun K1 hK1=>?_;refine aad rfl ?_;simp [t3,wF];refine ai.p 2 9 hwa ?_;simp [t3];apply hK1;clear hK1 K1;refine aat ?_;refine aac fun K1 hK1=>?_
  by_cases h5:(p.GF n.a.toNat).f=n.f
  ·have hr:jN p i n=if (bF n).all (dI p i) then 0 else 7:=by
    rw [r2,if_neg (fun h=>h.2 h4),if_neg (fun h=>h.2 h5),if_neg (fun h=>n2 h.1),if_neg n3]
   refine aaz mixed (by kernel_rfl) rfl rfl ?_;simp [t3,hxi,h5];apply hK1;clear hK1 K1;refine aat ?_;refine aac fun K1 hK1=>?_;refine aad rfl ?_;simp [n2];apply hK1;clear hK1 K1;refine aat ?_;refine aac fun K1 hK1=>?_;refine aad rfl ?_;simp [n3];apply hK1;clear hK1 K1;refine aat ?_;refine aah ?_;simp;exact tail _ _ (by simp) (by simp) (by simp) hr
  ·have hr:jN p i n=143:=by rw [r2,if_neg (fun h=>h.2 h4),if_pos ⟨h3,h5⟩]
   refine aaz mixed (by kernel_rfl) rfl rfl ?_;simp [t3,hxi,h5];apply hK1;clear hK1 K1;refine aaq ?_;refine aac fun K1 hK1=>?_;refine aad rfl ?_;simp;apply hK1;clear hK1 K1;exact aag (κ:=0) (au.t (κ:=0) rfl 4 (by simp [hr]))
 refine aac fun K1 hK1=>?_;refine aad rfl ?_;simp [h3];apply hK1;clear hK1 K1;refine aat ?_;refine aac fun K1 hK1=>?_;refine aaz mixed (by kernel_rfl) rfl rfl ?_;simp [h3];apply hK1;clear hK1 K1;refine aat ?_
 have r3:jN p i n=if n.op=2∧((i:Int)<p.head∨¬ (0≤n.a∧n.a<p.ns)) then 7 else if n.op=3 then dW n.v else if (bF n).all (dI p i) then 0 else 7:=by
  rw [r2,if_neg (fun h=>h3 h.1),if_neg (fun h=>h3 h.1)]
 refine aac fun K1 hK1=>?_
 by_cases h6:n.op=2
 ·have n3:¬ n.op=3:=by omega
  have t6:(n.op=2)=True:=eq_true h6
  by_cases h7:(i:Int)<p.head
  ·have hr:jN p i n=7:=by rw [r3,if_pos ⟨h6,.inl h7⟩]
   refine aad rfl ?_;simp [t6,h7];apply hK1;clear hK1 K1;refine aaq ?_;refine aac fun K1 hK1=>?_;refine aad rfl ?_;simp;apply hK1;clear hK1 K1;exact aag (κ:=0) (au.t (κ:=0) rfl 4 (by simp [hr]))
  by_cases h8:0≤n.a∧n.a<p.ns
  ·have hd8:decide (0≤n.a∧n.a<(p.ns:Int))=true:=decide_eq_true h8;rw [hd8] at hws
   have hr:jN p i n=if (bF n).all (dI p i) then 0 else 7:=by
    rw [r3,if_neg (fun h=>h.2.elim h7 (fun h=>h h8)),if_neg n3]
   refine aad rfl ?_;simp [t6,h7,wG];refine ai.p 2 9 hws ?_;simp [t6,h7];apply hK1;clear hK1 K1;refine aat ?_;refine aac fun K1 hK1=>?_;refine aad rfl ?_;simp [n3];apply hK1;clear hK1 K1;refine aat ?_;refine aah ?_;simp;exact tail _ _ (by simp) (by simp) (by simp) hr
  ·have hd8:decide (0≤n.a∧n.a<(p.ns:Int))=false:=decide_eq_false h8;rw [hd8] at hws;have hr:jN p i n=7:=by rw [r3,if_pos ⟨h6,.inr h8⟩]
   refine aad rfl ?_;simp [t6,h7,wG];refine ai.p 2 9 hws ?_;simp [t6,h7];apply hK1;clear hK1 K1;refine aaq ?_;refine aac fun K1 hK1=>?_;refine aad rfl ?_;simp;apply hK1;clear hK1 K1;exact aag (κ:=0) (au.t (κ:=0) rfl 4 (by simp [hr]))
 refine aad rfl ?_;simp [h6];apply hK1;clear hK1 K1;refine aat ?_;refine aac fun K1 hK1=>?_
 have r4:jN p i n=if n.op=3 then dW n.v else if (bF n).all (dI p i) then 0 else 7:=by
  rw [r3,if_neg (fun h=>h6 h.1)]
 by_cases h9:n.op=3
 ·have hr:jN p i n=dW n.v:=by rw [r4,if_pos h9]
  have hck:=FO m n.v;rw [← hr] at hck;refine aad rfl ?_;simp [h9];apply hK1;clear hK1 K1;refine aaq ?_;refine aac fun K1 hK1=>?_;refine aad rfl ?_;simp;refine ai.p 2 9 hck ?_;simp;apply hK1;clear hK1 K1;exact aag (κ:=0) (au.t (κ:=0) rfl 4 (by simp))
 ·have hr:jN p i n=if (bF n).all (dI p i) then 0 else 7:=by rw [r4,if_neg h9]
  refine aad rfl ?_;simp [h9];apply hK1;clear hK1 K1;refine aat ?_;refine aah ?_;simp;exact tail _ _ (by simp) (by simp) (by simp) hr
end Go.Am

namespace Go.Am
open Go.Am.Ty Go.Proofs N
@[simp] def Vm (x:Rat):List CV:=[.d (.bool (decide (x.num<0))),nC (cG x.num.natAbs),nC (dA x.den)]
theorem mW:ry Tryz.prog 225=some (2,224,3):=by kernel_rfl
theorem YQ (lv:Key→LB)(κ:Key)(h:lv κ=.hole)(a b:CV):aq Tryz.prog 59 2 [0,1] lv κ [.c a,.c b]=some (.c (.aX κ 0 2 1),[(κ,.cells true false 53 [a,b])],[],True):=by
 unfold aq;rw [h];kernel_rfl
set_option maxHeartbeats 4000000 in
theorem Ig (m:Int)(p:PD)(hp:p.ok)(i:Nat)(hi:i<p.ni):aj Tryz.prog (GG m) 84 [p.A,.c (.d (.int .i64 i))] (.c (.d (.int .i64 (cx p 1 i)))):=by
 have hx:=fun lv=>WW hp lv (i:Int) (by omega) (by omega)
 simp only [Int.toNat_natCast] at hx;have hE:cx p 1 i=sS p (p.GF i):=rfl;rw [hE];generalize p.GF i=x at *
 have hwf:=gF (GG m) x.f p.nf;have hP1:=xN m x.lo;have hP2:=xN m x.hi;have q1:IntKind.i64.wrap 1=1:=by decide
 have q2:IntKind.i64.wrap 2=2:=by decide
 have z1:=uj x.lo;have z2:=uj x.hi;refine aj.lS Tryz.func84 rfl (by rw [Tryz.ntmps84];simp)  ?_;rintro⟨_,_,w0,F0,W0,_,bq,β0⟩ rfl rfl rfl rfl;refine aac fun K hK=>?_;refine aad rfl ?_;simp;apply hK;clear hK K;refine aac fun K hK=>?_;refine aad rfl ?_;simp [hx,ak];apply hK;clear hK K;refine aac fun K hK=>?_;refine aac fun K1 hK1=>?_
 by_cases h1:0≤x.f∧x.f<p.nf
 rotate_left
 ·have hd:decide (0≤x.f∧x.f<(p.nf:Int))=false:=decide_eq_false h1;have hr:sS p x=7:=by unfold sS;rw [if_pos h1]
  rw [hd] at hwf;refine aad rfl ?_;simp [sF];refine ai.p 2 9 hwf ?_;simp;apply hK1;clear hK1 K1;refine aaq ?_;refine aac fun K1 hK1=>?_;refine aad rfl ?_;simp;apply hK1;clear hK1 K1;exact aag (κ:=0) (au.t (κ:=0) (t:=4) rfl 9 (by simp [hr]))
 have hd:decide (0≤x.f∧x.f<(p.nf:Int))=true:=decide_eq_true h1;rw [hd] at hwf
 have r1:sS p x=if dW x.lo≠0 then dW x.lo else if dW x.hi≠0 then dW x.hi else if hasB (p.fm x.f.toNat).1 (p.fm x.f.toNat).2 (eK x.lo)=false then 7
  else if hasB (p.fm x.f.toNat).1 (p.fm x.f.toNat).2 (eK x.hi)=false then 7 else if 0<gG (eK x.lo) (eK x.hi) then 7 else 0:=by
  unfold sS;rw [if_neg (not_not_intro h1)]
 refine aad rfl ?_;simp [sF];refine ai.p 2 9 hwf ?_;simp;apply hK1;clear hK1 K1;refine aat ?_;refine aah ?_;simp;apply hK;clear hK K;refine aac fun K hK=>?_;refine aad rfl ?_;simp;apply hK;clear hK K;refine aac fun K hK=>?_;refine aac fun K1 hK1=>?_;have hbs:∀ (lv:Key→LB) (h:lv 3=.hole),aq Tryz.prog 59 2 [0,1] lv 3 [.c (.d (.str x.lo)),.c (.d (.str x.hi))]=some (.c (.aX 3 0 2 1),[(3,.cells true false 53 [.d (.str x.lo),.d (.str x.hi)])],[],True):=fun lv h=>YQ lv 3 h _ _
 refine aad rfl ?_;simp [hbs,-aq];apply hK1;clear hK1 K1;refine aak ?_
 refine aax (fun (k:Nat)=>⟨bt [(2,.c (.ptr 0 0)),(5,.c (.ptr 1 0)),(6,.c (.ptr 2 0)),(30,.c (.aX 3 0 2 1)),(31,.c (.d (.int .i64 2))),(32,.c (.d (.int .i64 k)))],
  aJ (aJ (aJ (aJ (fun _=>.hole) 0 (.cells true false 154 p.cs)) 1 (.cells true false 67 [.d (.int .i64 x.f),.d (.str x.lo),.d (.str x.hi)])) 2 (.cells true false 225 (Vm (if 0<k then eK x.lo else 0)++Vm (if 1<k then eK x.hi else 0)))) 3 (.cells true false 53 [.d (.str x.lo),.d (.str x.hi)])⟩) 4
  (fun k=>k≤2∧(0<k→dW x.lo=0)∧(1<k→dW x.hi=0)) (fun k=>2 - k) 0 (Le.mk' _ (by simp [nC,cG,dA]) (by repeat (first|exact aA|refine aT ?_ _ _ _ _ _|(refine aC ?_ _)|(refine noMap_blS ?_ _ _ _)|(refine noMap_upd_nils ?_ _)|simp)) (by simp)) ⟨by omega,fun h=>absurd h (by omega),fun h=>absurd h (by omega)⟩ ?_
 rintro k ⟨hk,k1,k2⟩
 try simp only at hk k1 k2
 refine aac fun K3 hK3=>?_;refine aad rfl ?_;simp;apply hK3;clear hK3 K3;refine aac fun K2 hK2=>?_;have hkc:k=0∨k=1∨k=2:=by omega
 rcases hkc with rfl|rfl|rfl
 ·refine aaq ?_;refine aah ?_;simp;apply hK2;refine aac fun K3 hK3=>?_;refine aak ?_;refine aac fun K4 hK4=>?_;refine aad rfl ?_;simp;apply hK4;clear hK4 K4;refine aac fun K4 hK4=>?_;refine aad rfl ?_;simp;refine ai.p 4 9 hP1 ?_;simp [ak];apply hK4;clear hK4 K4;refine aac fun K4 hK4=>?_;refine aac fun K5 hK5=>?_;refine aad rfl ?_;simp;apply hK5;clear hK5 K5
  by_cases he:dW x.lo=0
  ·refine aao (by simp [he] <;> omega) ?_;refine aah ?_;simp;apply hK4;clear hK4 K4;refine aad rfl ?_;simp [mW,bL,ak];apply hK3;refine aad rfl ?_;simp [q1];exact⟨1,(Le.drop [4]  9 _ rfl (by intro k hk;simp at hk;subst hk;simp [aJ]) (by intro k hk;simp at hk;simp only [aJ];(repeat (any_goals split)) <;> simp_all) (by simp [aJ]) (by repeat (first|exact aA|refine aT ?_ _ _ _ _ _|(refine aC ?_ _)|(refine noMap_blS ?_ _ _ _)|(refine noMap_upd_nils ?_ _)|simp)) (by repeat (first|exact jl|refine kK ?_ (by simp [yD]))) (by simp [yD])),⟨by omega,fun _=>he,fun h=>absurd h (by omega)⟩,by omega⟩
  ·have hr:sS p x=dW x.lo:=by rw [r1,if_pos he]
   refine aap (by simp [he] <;> omega) ?_;refine aac fun K5 hK5=>?_;refine aad rfl ?_;simp;apply hK5;clear hK5 K5;exact aag (κ:=0) (au.t (κ:=0) (t:=4) rfl 9 (by simp [hr]))
 ·refine aaq ?_;refine aah ?_;simp;apply hK2;refine aac fun K3 hK3=>?_;refine aak ?_;refine aac fun K4 hK4=>?_;refine aad rfl ?_;simp;apply hK4;clear hK4 K4;refine aac fun K4 hK4=>?_;refine aad rfl ?_;simp;refine ai.p 4 9 hP2 ?_;simp [ak];apply hK4;clear hK4 K4;refine aac fun K4 hK4=>?_;refine aac fun K5 hK5=>?_;refine aad rfl ?_;simp;apply hK5;clear hK5 K5
  by_cases he:dW x.hi=0
  ·refine aao (by simp [he] <;> omega) ?_;refine aah ?_;simp;apply hK4;clear hK4 K4;refine aad rfl ?_;simp [mW,bL,ak];apply hK3;refine aad rfl ?_;simp [q2];exact⟨2,(Le.drop [4]  9 _ rfl (by intro k hk;simp at hk;subst hk;simp [aJ]) (by intro k hk;simp at hk;simp only [aJ];(repeat (any_goals split)) <;> simp_all) (by simp [aJ]) (by repeat (first|exact aA|refine aT ?_ _ _ _ _ _|(refine aC ?_ _)|(refine noMap_blS ?_ _ _ _)|(refine noMap_upd_nils ?_ _)|simp)) (by repeat (first|exact jl|refine kK ?_ (by simp [yD]))) (by simp [yD])),⟨by omega,fun _=>k1 (by omega),fun _=>he⟩,by omega⟩
  ·have hr:sS p x=dW x.hi:=by rw [r1,if_neg (not_not_intro (k1 (by omega))),if_pos he]
   refine aap (by simp [he] <;> omega) ?_;refine aac fun K5 hK5=>?_;refine aad rfl ?_;simp;apply hK5;clear hK5 K5;exact aag (κ:=0) (au.t (κ:=0) (t:=4) rfl 9 (by simp [hr]))
 ·have r2:sS p x=if hasB (p.fm x.f.toNat).1 (p.fm x.f.toNat).2 (eK x.lo)=false then 7
   else if hasB (p.fm x.f.toNat).1 (p.fm x.f.toNat).2 (eK x.hi)=false then 7 else if 0<gG (eK x.lo) (eK x.hi) then 7 else 0:=by
   rw [r1,if_neg (not_not_intro (k1 (by omega))),if_neg (not_not_intro (k2 (by omega)))]
  refine aat ?_;refine aav ?_;simp;apply hK;have hxf:=fun lv=>V7 hp lv x.f h1.1 h1.2
  generalize p.fm x.f.toNat=fe at *
  have hb1:=p8 (GG m) fe.1 fe.2 (eK x.lo) z1;have hb2:=p8 (GG m) fe.1 fe.2 (eK x.hi) z2;have hcm:=ED (GG m) (eK x.lo) (eK x.hi) (bQ z1 (by omega)) (bQ z2 (by omega));generalize eK x.lo=a at *
  generalize eK x.hi=b at *
  refine aac fun K3 hK3=>?_;refine aad rfl ?_;simp [hxf,ak];apply hK3;clear hK3 K3;refine aac fun K3 hK3=>?_;refine aac fun K4 hK4=>?_
  cases g1:hasB fe.1 fe.2 a with
  | false=>
   have hr:sS p x=7:=by rw [r2,if_pos g1]
   rw [g1] at hb1;refine aad rfl ?_;simp [mW];refine ai.p 5 9 hb1 ?_;simp;apply hK4;clear hK4 K4;refine aaq ?_;refine aac fun K4 hK4=>?_;refine aad rfl ?_;simp;apply hK4;clear hK4 K4;exact aag (κ:=0) (au.t (κ:=0) (t:=4) rfl 9 (by simp [hr]))
  | true=>
  rw [g1] at hb1
  cases g2:hasB fe.1 fe.2 b with
  | false=>
   have hr:sS p x=7:=by rw [r2,g1,if_neg (by decide),if_pos g2]
   rw [g2] at hb2;refine aad rfl ?_;simp [mW];refine ai.p 5 9 hb1 ?_;simp [mW];refine ai.p 5 9 hb2 ?_;simp;apply hK4;clear hK4 K4;refine aaq ?_;refine aac fun K4 hK4=>?_;refine aad rfl ?_;simp;apply hK4;clear hK4 K4;exact aag (κ:=0) (au.t (κ:=0) (t:=4) rfl 9 (by simp [hr]))
  | true=>
  rw [g2] at hb2
  by_cases g3:0<gG a b
  ·have hr:sS p x=7:=by rw [r2,g1,if_neg (by decide),g2,if_neg (by decide),if_pos g3]
   refine aad rfl ?_;simp [mW];refine ai.p 5 9 hb1 ?_;simp [mW];refine ai.p 5 9 hb2 ?_;simp [mW];refine ai.p 5 9 hcm ?_;simp;apply hK4;clear hK4 K4;refine aap (by simp [g3] <;> omega) ?_;refine aac fun K4 hK4=>?_;refine aad rfl ?_;simp;apply hK4;clear hK4 K4;exact aag (κ:=0) (au.t (κ:=0) (t:=4) rfl 9 (by simp [hr]))
  ·have hr:sS p x=0:=by rw [r2,g1,if_neg (by decide),g2,if_neg (by decide),if_neg g3]
   refine aad rfl ?_;simp [mW];refine ai.p 5 9 hb1 ?_;simp [mW];refine ai.p 5 9 hb2 ?_;simp [mW];refine ai.p 5 9 hcm ?_;simp;apply hK4;clear hK4 K4;refine aao (by simp [g3] <;> omega) ?_;refine aah ?_;simp;apply hK3;clear hK3 K3;refine aac fun K3 hK3=>?_;refine aad rfl ?_;simp;apply hK3;clear hK3 K3;exact aag (κ:=0) (au.t (κ:=0) (t:=4) rfl 9 (by simp [hr]))
end Go.Am

namespace Go.Am
open Go.Am.Ty Go.Proofs N
@[simp] theorem Of {lv:Key→LB}{k0 k1:Key}{b0 b1:LB}(h0:lv k0=b0) (h1:lv k1=b1):bp lv [(k0,b0),(k1,b1)]=lv:=by
 subst h0;subst h1;funext k;simp only [bp,List.foldl,aJ];split
 ·rename_i h;rw [h]
 ·split
  ·rename_i h;rw [h]
  ·rfl
abbrev cI (i:Int):List CV:=[.d (.int .i64 i)]
abbrev bI (i:Int):LB:=.cells false false 3 (cI i)
set_option maxHeartbeats 1000000 in
theorem H7 (G:List (List DV))(n:Nd)(i f:Int):aZ Tryz.prog G 165 [n.A,.c (.ptr 0 0),.c (.ptr 1 0)] [bI i,bI f] (.ret (.c (.d (.bool (gY i f n)))) [bI i,bI f] []):=by
 refine aZ.DM Tryz.func165 rfl (by rw [Tryz.ntmps165];simp) (fun r hr=>⟨_,List.mem_singleton.1 hr⟩) (by simp) (by simp) ?_;rintro⟨_,_,w0,F0,W0,_,bq,β0⟩ rfl rfl rfl;refine aac fun K hK=>?_;refine aad rfl ?_;simp;apply hK;clear hK K;refine aac fun K hK=>?_
 by_cases h1:n.op=2
 ·by_cases h2:n.a=i
  ·by_cases h3:n.f=f
   ·refine aad rfl ?_;simp [h1,h2,h3];apply hK;clear hK K;exact aag (κ:=0) (xk.tmp (κ:=0) rfl 9 (by simp [gY,h1,h2,h3]) rfl (by simp) (by simp) (by simp) rfl)
   ·refine aad rfl ?_;simp [h1,h2,h3];apply hK;clear hK K;exact aag (κ:=0) (xk.tmp (κ:=0) rfl 9 (by simp [gY,h1,h2,h3]) rfl (by simp) (by simp) (by simp) rfl)
  ·refine aad rfl ?_;simp [h1,h2];apply hK;clear hK K;exact aag (κ:=0) (xk.tmp (κ:=0) rfl 9 (by simp [gY,h1,h2]) rfl (by simp) (by simp) (by simp) rfl)
 ·refine aad rfl ?_;simp [h1];apply hK;clear hK K;exact aag (κ:=0) (xk.tmp (κ:=0) rfl 9 (by simp [gY,h1]) rfl (by simp) (by simp) (by simp) rfl)
def Bw (i f:Int)(p:PD):Int:=match (List.range p.nn).find? (fun j=>gY i f (p.nd j)) with
 | some j=>j
 | none=>-1
theorem Ju (i f:Int)(p:PD):decide (0≤Bw i f p)=(List.range p.nn).any (fun j=>gY i f (p.nd j)):=by
 unfold Bw
 cases h:(List.range p.nn).find? (fun j=>gY i f (p.nd j)) with
 | none=>
  rw [List.find?_eq_none] at h
  have:(List.range p.nn).any (fun j=>gY i f (p.nd j))=false:=by
   rw [List.any_eq_false];exact h
  rw [this];rfl
 | some j=>
  have h1:=List.find?_some h;have h2:=List.mem_of_find?_eq_some h;have:(List.range p.nn).any (fun j=>gY i f (p.nd j))=true:=List.any_eq_true.2 ⟨j,h2,h1⟩;rw [this];exact decide_eq_true (Int.natCast_nonneg j)
abbrev ZG:AV:=.c (.func (.func 165) [] [.ptr 0 0,.ptr 1 0])
theorem I8 {lv:Key→LB}(n:Nd) {i f:Int}(h0:lv 0=bI i) (h1:lv 1=bI f) {a:AV}{k:Key}(ha:a∈[n.A,.c (.ptr 0 0),.c (.ptr 1 0)]) (hk:k∈pG lv a):k∈[9,0,1]:=by
 simp only [List.mem_cons,List.not_mem_nil,or_false] at ha;rcases ha with rfl|rfl|rfl
 ·rw [mY rfl] at hk;cases hk
 ·simp [pG,me,h0] at hk;simp [hk]
 ·simp [pG,me,h1] at hk;simp [hk]
theorem HG {lv:Key→LB}(p:PD) {a:AV}{k:Key}{fn:Fn}{fs cs:List Ref}{R:List Key}(ha:a∈[AV.c (iU p.nodes),.c (.func fn fs cs)]) (hk:k∈pG lv a):k∈R:=by
 simp only [List.mem_cons,List.not_mem_nil,or_false] at ha;rcases ha with rfl|rfl
 ·rw [mY (by simp)] at hk;cases hk
 ·cases hk
set_option maxHeartbeats 1000000 in
theorem LR (G:List (List DV))(p:PD)(hp:p.ok)(hn:p.nn≤1000)(i f:Int):aZ Tryz.prog G 241 [.c (iU p.nodes),ZG] [bI i,bI f] (.ret (.c (.d (.int .i64 (Bw i f p)))) [bI i,bI f] []):=by
 have ho:=fun j=>H7 G (p.nd j) i f
 refine aZ.DM Tryz.func241 rfl (by rw [Tryz.ntmps241];simp) (fun r hr=>⟨_,List.mem_singleton.1 hr⟩) (by simp) (by simp) ?_;rintro⟨_,_,w0,F0,W0,_,bq,β0⟩ rfl rfl rfl;refine aac fun K hK=>?_;refine aad rfl ?_;simp;apply hK;clear hK K;refine aac fun K hK=>?_;refine aac fun K1 hK1=>?_;refine aad rfl ?_;simp [fZ];apply hK1;clear hK1 K1;refine aak ?_
 refine aax (fun (j:Nat)=>⟨bt [(0,.c (iU p.nodes)),(1,ZG),(7,.c (.d (.int .i64 p.nn))),(8,.c (.d (.int .i64 j)))],aJ (aJ (fun _=>.hole) 0 (bI i)) 1 (bI f)⟩) 1000
  (fun j=>j≤p.nn∧∀ q,q<j→gY i f (p.nd q)=false) (fun j=>p.nn - j) 0 (Le.mk' _ (by simp) (by repeat (first|exact aA|refine aT ?_ _ _ _ _ _|(refine aC ?_ _)|(refine noMap_blS ?_ _ _ _)|(refine noMap_upd_nils ?_ _)|simp)) (by simp)) ⟨by omega,fun q hq=>absurd hq (Nat.not_lt_zero q)⟩ ?_
 rintro j ⟨hj,hall⟩
 try simp only at hj hall
 refine aac fun K3 hK3=>?_;refine aad rfl ?_;simp;apply hK3;clear hK3 K3;refine aac fun K2 hK2=>?_
 by_cases hlt:j<p.nn
 ·have hlt':(j:Int)<(p.nn:Int):=by omega
  refine aap (by simp [hlt'] <;> omega) ?_;refine aah ?_;simp;apply hK2;refine aac fun K3 hK3=>?_;refine aak ?_;refine aac fun K4 hK4=>?_;refine aad rfl ?_;simp;apply hK4;clear hK4 K4;refine aac fun K4 hK4=>?_;have hx:=fun lv=>Je p lv hp j hlt
  refine aad rfl ?_;simp [hx,Gz,xG,pV];refine ai.G8 (T0:=3) (T1:=3) (cs0:=cI i) (cs1:=cI f) 1000 9 0 1 false [9,0,1] (ho j) rfl rfl rfl (by simp) (by simp) (by decide) rfl rfl ?_ ?_ (by simp) ?_
  ·intro a b c;have:a=0∨a=1∨a=2:=by simp at b;omega
   rcases this with rfl|rfl|rfl <;> exact⟨rfl,rfl⟩
  ·intro a ha k hk;exact I8 (p.nd j) (i:=i) (f:=f) (by simp) (by simp) ha hk
  simp;apply hK4;clear hK4 K4
  cases hs:gY i f (p.nd j) with
  | true=>
   refine aaq ?_;refine aac fun K4 hK4=>?_;refine aad rfl ?_;simp;apply hK4;clear hK4 K4
   have hr:Bw i f p=j:=by
    unfold Bw
    have:(List.range p.nn).find? (fun j=>gY i f (p.nd j))=some j:=by
     rw [List.find?_range_eq_some];exact⟨hs,List.mem_range.2 hlt,fun q hq=>by rw [hall q hq];rfl⟩
    rw [this]
   exact aag (κ:=0) (xk.tmp (κ:=0) rfl 9 (by simp [hr]) rfl (by simp) (by simp) (by simp) rfl)
  | false=>
   refine aat ?_;refine aah ?_;simp;apply hK3;have f12:=bK (n:=(j:Int)+1) (by omega) (by omega);refine aad rfl ?_;simp [f12];refine⟨j+1,Le.mk' _ (by simp) (by repeat (first|exact aA|refine aT ?_ _ _ _ _ _|(refine aC ?_ _)|(refine noMap_blS ?_ _ _ _)|(refine noMap_upd_nils ?_ _)|simp)) (by simp),⟨by omega,fun q hq=>?_⟩,by omega⟩
   by_cases hji:q=j
   ·subst hji;exact hs
   ·exact hall q (by omega)
 ·have hlt':¬ (j:Int)<(p.nn:Int):=by omega
  refine aao (by simp [hlt'] <;> omega) ?_;refine aav ?_;simp;apply hK;refine aac fun K3 hK3=>?_;refine aad rfl ?_;simp;apply hK3;clear hK3 K3
  have hr:Bw i f p = -1:=by
   unfold Bw
   have:(List.range p.nn).find? (fun j=>gY i f (p.nd j))=none:=by
    rw [List.find?_eq_none];intro q hq;rw [hall q (by have:=List.mem_range.1 hq;omega)];decide
   rw [this]
  exact aag (κ:=0) (xk.tmp (κ:=0) rfl 9 (by simp [hr]) rfl (by simp) (by simp) (by simp) rfl)
theorem Jh (G:List (List DV))(p:PD)(hp:p.ok)(hn:p.nn≤1000)(i f:Int):aZ Tryz.prog G 166 [.c (iU p.nodes),ZG] [bI i,bI f] (.ret (.c (.d (.bool ((List.range p.nn).any fun j=>gY i f (p.nd j))))) [bI i,bI f] []):=by
 have hx:=LR G p hp hn i f;rw [← Ju];generalize Bw i f p=r at *
 refine aZ.DM Tryz.func166 rfl (by rw [Tryz.ntmps166];simp) (fun r hr=>⟨_,List.mem_singleton.1 hr⟩) (by simp) (by simp) ?_;rintro⟨_,_,w0,F0,W0,_,bq,β0⟩ rfl rfl rfl;refine aac fun K hK=>?_;refine aad rfl ?_;simp;apply hK;clear hK K;refine aac fun K hK=>?_;refine aad rfl ?_;simp;refine ai.G8 (T0:=3) (T1:=3) (cs0:=cI i) (cs1:=cI f) 1000 9 0 1 false [9] hx rfl rfl rfl (by simp) (by simp) (by decide) rfl rfl ?_ ?_ (by simp) ?_
 ·intro a b c;have:a=0∨a=1:=by simp at b;omega
  rcases this with rfl|rfl
  ·exact⟨by simp,by simp⟩
  ·exact⟨rfl,rfl⟩
 ·intro a ha k hk;exact HG p ha hk
 simp;apply hK;clear hK K;exact aag (κ:=0) (xk.tmp (κ:=0) rfl 9 (by simp) rfl (by simp) (by simp) (by simp) rfl)
theorem qJ {p:PD}(h:dS p=0):0≤p.head∧p.head≤p.tail∧p.tail≤p.nn∧p.nf≤6∧p.ni≤6∧p.nn≤64∧p.ns≤4:=by
 unfold dS at h;unfold PD.nf PD.ni PD.nn PD.ns
 (repeat' split at h) <;> first|omega|cases h
set_option maxHeartbeats 2000000 in
theorem IF (m:Int)(p:PD)(hp:p.ok)(hg:dS p=0)(i:Nat)(hi:i<p.ns):aj Tryz.prog (GG m) 86 [p.A,.c (.d (.int .i64 i))] (.c (.d (.int .i64 (cx p 3 i)))):=by
 obtain⟨g1,g2,g3,_,_,g4,_⟩:=qJ hg;have hx:=fun lv=>ixS hp lv (i:Int) (by omega) (by omega)
 simp only [Int.toNat_natCast] at hx;have hE:cx p 3 i=wE p i (p.st i):=rfl;rw [hE];generalize p.st i=s at *
 have hw1:=gF (GG m) s.1 p.head;have hw2:=gF (GG m) s.2 p.tail;refine aj.aH Tryz.func86 rfl (by rw [Tryz.ntmps86];simp) ?_;rintro⟨_,_,w0,F0,W0,_,bq,β0⟩ rfl rfl rfl;refine aac fun K hK=>?_;refine aad rfl ?_;simp;apply hK;clear hK K;refine aac fun K hK=>?_;refine aad rfl ?_;simp [hx,ak];apply hK;clear hK K;refine aac fun K hK=>?_;refine aac fun K1 hK1=>?_
 by_cases h1:0≤s.1∧s.1<p.head
 rotate_left
 ·have hd:decide (0≤s.1∧s.1<p.head)=false:=decide_eq_false h1;have hr:wE p i s=7:=by unfold wE;rw [if_pos h1]
  rw [hd] at hw1;refine aad rfl ?_;simp;refine ai.p 3 9 hw1 ?_;simp;apply hK1;clear hK1 K1;refine aaq ?_;refine aac fun K1 hK1=>?_;refine aad rfl ?_;simp;apply hK1;clear hK1 K1;exact aag (κ:=0) (au.t (κ:=0) rfl 4 (by simp [hr]))
 have hd:decide (0≤s.1∧s.1<p.head)=true:=decide_eq_true h1;rw [hd] at hw1
 by_cases h2:0≤s.2∧s.2<p.tail
 rotate_left
 ·have hd2:decide (0≤s.2∧s.2<p.tail)=false:=decide_eq_false h2;have hr:wE p i s=7:=by unfold wE;rw [if_neg (not_not_intro h1),if_pos h2]
  rw [hd2] at hw2;refine aad rfl ?_;simp;refine ai.p 3 9 hw1 ?_;simp;refine ai.p 3 9 hw2 ?_;simp;apply hK1;clear hK1 K1;refine aaq ?_;refine aac fun K1 hK1=>?_;refine aad rfl ?_;simp;apply hK1;clear hK1 K1;exact aag (κ:=0) (au.t (κ:=0) rfl 4 (by simp [hr]))
 have hd2:decide (0≤s.2∧s.2<p.tail)=true:=decide_eq_true h2;rw [hd2] at hw2;refine aad rfl ?_;simp;refine ai.p 3 9 hw1 ?_;simp;refine ai.p 3 9 hw2 ?_;simp;apply hK1;clear hK1 K1;refine aat ?_;refine aah ?_;simp;apply hK;clear hK K;refine aac fun K hK=>?_;have x1:=fun lv=>UK hp lv s.1 h1.1 (by omega)
 have x2:=fun lv=>UK hp lv s.2 h2.1 (by omega)
 have hr:wE p i s=if (p.nd s.2.toNat).f≠(p.nd s.1.toNat).f then 143 else if (List.range p.nn).any (fun j=>gY i (p.nd s.1.toNat).f (p.nd j)) then 143 else 0:=by
  unfold wE;rw [if_neg (not_not_intro h1),if_neg (not_not_intro h2)]
 generalize p.nd s.1.toNat=n1 at *
 generalize p.nd s.2.toNat=n2 at *
 refine aad rfl ?_;simp [x1,ak];apply hK;clear hK K;refine aac fun K hK=>?_;refine aad rfl ?_;simp [Gm,p9,uW,wO,gK];apply hK;clear hK K;refine aac fun K hK=>?_;refine aac fun K1 hK1=>?_
 by_cases h3:n2.f=n1.f
 ·have hc:=Jh (GG m) p hp (by omega) i n1.f;refine aay mixed (by kernel_rfl) rfl ?_;simp [x2,h3];refine ai.G8 (T0:=3) (T1:=3) (cs0:=cI i) (cs1:=cI n1.f) 4 9 1 3 true [9] hc rfl rfl rfl (by simp) (by simp) (by decide) rfl rfl ?_ ?_ (by simp) ?_
  ·intro a b c;have:a=0∨a=1:=by simp at b;omega
   rcases this with rfl|rfl
   ·exact⟨by simp,by simp⟩
   ·exact⟨rfl,rfl⟩
  ·intro a ha k hk;exact HG p ha hk
  simp;refine⟨by kernel_rfl,?_⟩;apply hK1;clear hK1 K1
  cases hs:(List.range p.nn).any (fun j=>gY i n1.f (p.nd j)) with
  | true=>
   have hr2:wE p i s=143:=by rw [hr,if_neg (not_not_intro h3),if_pos hs]
   refine aaq ?_;refine aac fun K1 hK1=>?_;refine aad rfl ?_;simp;apply hK1;clear hK1 K1;exact aag (κ:=0) (au.t (κ:=0) rfl 4 (by simp [hr2]))
  | false=>
   have hr2:wE p i s=0:=by rw [hr,if_neg (not_not_intro h3),hs,if_neg (by decide)]
   refine aat ?_;refine aah ?_;simp;apply hK;clear hK K;refine aac fun K hK=>?_;refine aad rfl ?_;simp;apply hK;clear hK K;exact aag (κ:=0) (au.t (κ:=0) rfl 4 (by simp [hr2]))
 ·have hr2:wE p i s=143:=by rw [hr,if_pos h3]
  refine aay mixed (by kernel_rfl) rfl ?_;simp [x2,h3];refine⟨by kernel_rfl,?_⟩;apply hK1;clear hK1 K1;refine aaq ?_;refine aac fun K1 hK1=>?_;refine aad rfl ?_;simp;apply hK1;clear hK1 K1;exact aag (κ:=0) (au.t (κ:=0) rfl 4 (by simp [hr2]))
end Go.Am

namespace Go.Am
open Go.Am.Ty Go.Proofs N
def sD:Option (List (List DV))→DV
 | none=>.nilsl
 | some es=>.sl es
theorem OE (o:Option (List (List DV))):iU o=.d (sD o):=by cases o <;> rfl
def PD.GH (p:PD):List DV:=[sD p.f,.int .i64 p.mode,sD p.ins,sD p.nodes,.int .i64 p.head,.int .i64 p.tail,sD p.states,.int .i64 p.res]
theorem N9 (p:PD):p.GH.map CV.d=p.cs:=by simp [PD.GH,OE]
theorem Io (p:PD):Hj (.agg p.GH)=p.A:=by show AV.agg (p.GH.map CV.d)=_;rw [N9]
theorem HJ (p:PD):oa p.cs=some p.GH:=by
 obtain⟨f,a,i,n,b,c,s,d⟩:=p
 cases f <;> cases i <;> cases n <;> cases s <;> rfl
theorem Il (p:PD)(f:FuncId):Gm (.func f) [.agg [iU p.f,.d (.int .i64 p.mode),iU p.ins,iU p.nodes,.d (.int .i64 p.head),.d (.int .i64 p.tail),iU p.states,.d (.int .i64 p.res)]] []=some (.c (.d (.func (.func f) [.agg p.GH] [])),[],[],True):=by
 have h:=HJ p;simp only [PD.cs] at h;simp only [Gm,p9,uW,h,wO,gK];rfl
theorem Yy (a b:CV):gS Tryz.prog 157 [0,1] [.c a,.c b]=some (.agg [a,b],[],[],True):=by kernel_rfl
theorem T7 (lv:Key→LB)(κ:Key)(h:lv κ=.hole)(a b c d e f g i:CV):aq Tryz.prog 158 4 [0,1,2,3] lv κ [.agg [a,b],.agg [c,d],.agg [e,f],.agg [g,i]]=some (.c (.aX κ 0 4 2),[(κ,.cells true false 157 [a,b,c,d,e,f,g,i])],[],True):=by
 unfold aq;rw [h];kernel_rfl
theorem NU (p:PD):gS Tryz.prog 154 [0] [.agg [iU p.f,.d (.int .i64 p.mode),iU p.ins,iU p.nodes,.d (.int .i64 p.head),.d (.int .i64 p.tail),iU p.states,.d (.int .i64 p.res)]]=some (.agg [iU p.f,.d (.int .i64 p.mode),iU p.ins,iU p.nodes,.d (.int .i64 p.head),.d (.int .i64 p.tail),iU p.states,.d (.int .i64 p.res)],[],[],True):=
 (show ∀ a b c d e f g h:CV,gS Tryz.prog 154 [0] [.agg [a,b,c,d,e,f,g,h]]=some (.agg [a,b,c,d,e,f,g,h],[],[],True) from fun a b c d e f g h=>by kernel_rfl) _ _ _ _ _ _ _ _
def Oo (p:PD):List CV:=[.d (.int .i64 p.nf),.d (.func (.func 83) [.agg p.GH] []),.d (.int .i64 p.ni),.d (.func (.func 84) [.agg p.GH] []),.d (.int .i64 p.nn),.d (.func (.func 85) [.agg p.GH] []),.d (.int .i64 p.ns),.d (.func (.func 86) [.agg p.GH] [])]
@[simp] theorem Ww (p:PD)(g:Key→Key):(Oo p).map (CV.b6 g)=Oo p:=rfl
theorem G9 (p:PD)(k:Nat)(hk:k<4):eL Tryz.prog 157 ((Oo p).drop (k*2))=some (.agg [.d (.int .i64 (jH p k)),.d (.func (.func (83+k)) [.agg p.GH] [])]):=by
 have h:k=0∨k=1∨k=2∨k=3:=by omega
 rcases h with rfl|rfl|rfl|rfl <;> simp [Oo,jH]
theorem Kl (m:Int)(p:PD)(hp:p.ok)(hg:dS p=0)(k:Nat)(hk:k<4)(i:Nat)(hi:i<jH p k):aj Tryz.prog (GG m) (83+k) [p.A,.c (.d (.int .i64 i))] (.c (.d (.int .i64 (cx p k i)))):=by
 have h:k=0∨k=1∨k=2∨k=3:=by omega
 have hr:=qJ hg;rcases h with rfl|rfl|rfl|rfl
 ·exact Ga _ p hp i hi
 ·exact Ig m p hp i hi
 ·exact JZ m p hp i hi (by omega)
 ·exact IF m p hp hg i hi
theorem JK (k:Nat)(hk:k<4):aK Tryz.prog (83+k)=true:=by
 have h:k=0∨k=1∨k=2∨k=3:=by omega
 rcases h with rfl|rfl|rfl|rfl <;> simp
theorem Kr {p:PD}(hg:dS p=0) (k:Nat) (hk:k<4):jH p k≤64:=by
 have h:k=0∨k=1∨k=2∨k=3:=by omega
 have hr:=qJ hg;rcases h with rfl|rfl|rfl|rfl <;> simp only [jH] <;> omega
set_option maxHeartbeats 4000000 in
theorem AH (m:Int)(p:PD)(hp:p.ok):aj Tryz.prog (GG m) 31 [p.A] (.tup [.c (.d (.int .i64 (iO p).1)),.c (.d (.int .i64 (iO p).2.1)),.c (.d (.int .i64 (iO p).2.2))]):=by
 have hge:=CS (GG m) p;have hbl:∀ lv (h:lv 2=.hole) (a b c d e f g i:CV),aq Tryz.prog 158 4 [0,1,2,3] lv 2 [.agg [a,b],.agg [c,d],.agg [e,f],.agg [g,i]]=some (.c (.aX 2 0 4 2),[(2,.cells true false 157 [a,b,c,d,e,f,g,i])],[],True):=fun lv h=>T7 lv 2 h
 by_cases hg:dS p=0
 rotate_left
 ·have hr:iO p=(0,0,dS p):=by unfold iO;rw [if_pos hg]
  rw [hr];refine aj.aH Tryz.func31 rfl (by rw [Tryz.ntmps31];simp) ?_;rintro⟨_,_,w0,F0,W0,_,bq,β0⟩ rfl rfl rfl;refine aac fun K hK=>?_;refine aad rfl ?_;simp;apply hK;clear hK K;refine aac fun K hK=>?_;refine aad rfl ?_;simp [NU,ak];apply hK;clear hK K;refine aac fun K hK=>?_;refine aac fun K1 hK1=>?_;refine aad rfl ?_;simp;refine ai.p 2 9 hge ?_;simp;apply hK1;clear hK1 K1;refine aac fun K1 hK1=>?_;refine aad rfl ?_;simp;apply hK1;clear hK1 K1;refine aap (by simp [hg] <;> omega) ?_;refine aac fun K1 hK1=>?_;refine aad rfl ?_;simp;apply hK1;clear hK1 K1;exact aag (κ:=0) (au.nW (κ:=0) rfl 9 (by simp) (by simp) (by simp) rfl rfl rfl rfl rfl rfl rfl (by decide) (by decide) (by decide))
 have hr:iO p=er p 4 0:=by unfold iO;rw [if_neg (not_not_intro hg)]
 rw [hr];rw [hg] at hge;have hwi:=gF (GG m) p.res p.nn;have hse:=lE (GG m) p p.res;refine aj.lS Tryz.func31 rfl (by rw [Tryz.ntmps31];simp)  ?_;rintro⟨_,_,w0,F0,W0,_,bq,β0⟩ rfl rfl rfl rfl;refine aac fun K hK=>?_;refine aad rfl ?_;simp;apply hK;clear hK K;refine aac fun K hK=>?_;refine aad rfl ?_;simp [NU,ak];apply hK;clear hK K;refine aac fun K hK=>?_;refine aac fun K1 hK1=>?_;refine aad rfl ?_;simp;refine ai.p 2 9 hge ?_;simp;apply hK1;clear hK1 K1;refine aac fun K1 hK1=>?_;refine aad rfl ?_;simp;apply hK1;clear hK1 K1;refine aat ?_;refine aah ?_;simp;apply hK;clear hK K;refine aac fun K hK=>?_;refine aad rfl ?_;simp [sF,wF,fZ,wG,Il,Yy,hbl,-aq];apply hK;clear hK K;refine aac fun K hK=>?_;refine aac fun K1 hK1=>?_;refine aad rfl ?_;simp;apply hK1;clear hK1 K1;refine aak ?_
 refine aax (fun (k:Nat)=>⟨bt [(1,.c (.ptr 0 0)),(5,.c (.ptr 1 0)),(44,.c (.aX 2 0 4 2)),(45,.c (.d (.int .i64 4))),(46,.c (.d (.int .i64 k)))],
  aJ (aJ (aJ (fun _=>.hole) 0 (.cells true false 27 p.cs)) 1 (.cells true false 154 p.cs)) 2 (.cells true false 157 (Oo p))⟩) 3
  (fun k=>k≤4∧er p (4 - k) k=er p 4 0) (fun k=>4 - k) 0 (Le.mk' _ (by simp [Oo]) (by repeat (first|exact aA|refine aT ?_ _ _ _ _ _|(refine aC ?_ _)|(refine noMap_blS ?_ _ _ _)|(refine noMap_upd_nils ?_ _)|simp)) (by simp)) ⟨by omega,rfl⟩ ?_
 rintro k ⟨hk,hpv⟩
 try simp only at hk hpv
 refine aac fun K3 hK3=>?_;refine aad rfl ?_;simp;apply hK3;clear hK3 K3;refine aac fun K2 hK2=>?_
 by_cases hlt:k<4
 ·have hlt':(k:Int)<4:=by omega
  have hld:=G9 p k hlt;have hle:=Kr hg k hlt;have hfn:=JK k hlt;have hca:=Kl m p hp hg k hlt
  have hstep:∀ i,i<jH p k→cx p k i≠0→(∀ j,j<i→cx p k j=0)→er p 4 0=((k:Int)+1,(i:Int),cx p k i):=by
   intro i hi h0 h1;rw [← hpv,show 4 - k=(4 - (k+1))+1 by omega];show (match lF (cx p k) (jH p k) with|some i=>((k:Int)+1,(i:Int),cx p k i)|none=>er p (4 - (k+1)) (k+1))=_;rw [s9 hi h0 h1]
  have hnext:(∀ j,j<jH p k→cx p k j=0)→er p (4 - (k+1)) (k+1)=er p 4 0:=by
   intro h1;rw [← hpv,show 4 - k=(4 - (k+1))+1 by omega];show _=(match lF (cx p k) (jH p k) with|some i=>((k:Int)+1,(i:Int),cx p k i)|none=>er p (4 - (k+1)) (k+1))
   rw [tc h1]
  generalize jH p k=N at *
  generalize cx p k=E at *
  refine aap (by simp [hlt'] <;> omega) ?_;refine aah ?_;simp;apply hK2;refine aac fun K3 hK3=>?_;refine aak ?_;refine aac fun K4 hK4=>?_;refine aad rfl ?_;simp [hlt',hld,ak,-Fk];apply hK4;clear hK4 K4;refine aac fun K4 hK4=>?_;refine aad rfl ?_;simp;apply hK4;clear hK4 K4;refine aak ?_
  refine aax (fun (i:Nat)=>⟨bt [(1,.c (.ptr 0 0)),(5,.c (.ptr 1 0)),(8,.c (.d (.int .i64 k))),(9,.c (.ptr 3 0)),(44,.c (.aX 2 0 4 2)),(45,.c (.d (.int .i64 4))),(46,.c (.d (.int .i64 k))),(52,.c (.d (.int .i64 N))),(53,.c (.d (.int .i64 i)))],
   aJ (aJ (aJ (aJ (fun _=>.hole) 0 (.cells true false 27 p.cs)) 1 (.cells true false 154 p.cs)) 2 (.cells true false 157 (Oo p))) 3 (.cells true false 157 [.d (.int .i64 N),.d (.func (.func (83+k)) [.agg p.GH] [])])⟩) 4
   (fun i=>i≤N∧∀ j,j<i→E j=0) (fun i=>N - i) 0 (Le.mk' _ (by simp [ak]) (by repeat (first|exact aA|refine aT ?_ _ _ _ _ _|(refine aC ?_ _)|(refine noMap_blS ?_ _ _ _)|(refine noMap_upd_nils ?_ _)|simp)) (by simp)) ⟨by omega,fun j hj=>absurd hj (Nat.not_lt_zero j)⟩ ?_
  rintro i ⟨hi,hall⟩
  try simp only at hi hall
  refine aac fun K5 hK5=>?_;refine aad rfl ?_;simp;apply hK5;clear hK5 K5;refine aac fun K6 hK6=>?_
  by_cases hlt2:i<N
  ·have hlt2':(i:Int)<(N:Int):=by omega
   have hc:=hca i hlt2;refine aap (by simp [hlt2'] <;> omega) ?_;refine aah ?_;simp;apply hK6;refine aac fun K7 hK7=>?_;refine aak ?_;refine aac fun K8 hK8=>?_;refine aad rfl ?_;simp;apply hK8;clear hK8 K8;refine aac fun K8 hK8=>?_;refine aad rfl ?_;simp [Ge,xG,Io,hfn];refine ai.p 4 9 hc ?_;simp;apply hK8;clear hK8 K8;refine aac fun K8 hK8=>?_;refine aad rfl ?_;simp;apply hK8;clear hK8 K8
   by_cases h0:E i=0
   ·refine aao (by simp [h0] <;> omega) ?_;refine aah ?_;simp;apply hK7;have f12:=bK (n:=(i:Int)+1) (by omega) (by omega);refine aad rfl ?_;simp [f12];refine⟨i+1,Le.mk' _ (by simp) (by repeat (first|exact aA|refine aT ?_ _ _ _ _ _|(refine aC ?_ _)|(refine noMap_blS ?_ _ _ _)|(refine noMap_upd_nils ?_ _)|simp)) (by simp),⟨by omega,fun j hj=>?_⟩,by omega⟩
    by_cases hji:j=i
    ·subst hji;exact h0
    ·exact hall j (by omega)
   ·have hres:=hstep i hlt2 h0 hall;have f12:=bK (n:=(k:Int)+1) (by omega) (by omega);refine aap (by simp [h0] <;> omega) ?_;refine aac fun K8 hK8=>?_;refine aad rfl ?_;simp [f12];apply hK8;clear hK8 K8;exact aag (κ:=0) (au.nW (κ:=0) rfl 9 (by simp [hres]) (by simp [hres]) (by simp [hres]) rfl rfl rfl (by simp) rfl rfl rfl (by decide) (by decide) (by decide))
  ·have hlt2':¬ (i:Int)<(N:Int):=by omega
   refine aao (by simp [hlt2'] <;> omega) ?_;refine aav ?_;simp;apply hK3;have f12:=bK (n:=(k:Int)+1) (by omega) (by omega);refine aad rfl ?_;simp [f12];exact⟨k+1,(Le.drop [3]  9 _ rfl (by intro k hk;simp at hk;subst hk;simp [aJ]) (by intro k hk;simp at hk;simp only [aJ];(repeat (any_goals split)) <;> simp_all) (by simp [aJ]) (by repeat (first|exact aA|refine aT ?_ _ _ _ _ _|(refine aC ?_ _)|(refine noMap_blS ?_ _ _ _)|(refine noMap_upd_nils ?_ _)|simp)) (by repeat (first|exact jl|refine kK ?_ (by simp [yD]))) (by simp [yD])),⟨by omega,hnext fun j hj=>hall j (by omega)⟩,by omega⟩
 ·have hlt':¬ (k:Int)<4:=by omega
  have hk4:k=4:=by omega
  subst hk4;have hfin:er p 4 0=if 0≤p.res∧p.res<p.nn∧lM p p.res≠1 then (0,0,0) else (5,0,7):=by rw [← hpv];rfl
  refine aao (by simp [hlt'] <;> omega) ?_;refine aav ?_;simp;apply hK;refine aac fun K hK=>?_;refine aac fun K1 hK1=>?_
  by_cases h1:0≤p.res∧p.res<p.nn
  rotate_left
  ·have hd:decide (0≤p.res∧p.res<(p.nn:Int))=false:=decide_eq_false h1;have hres:er p 4 0=(5,0,7):=by rw [hfin,if_neg (fun h=>h1 ⟨h.1,h.2.1⟩)]
   rw [hd] at hwi;refine aad rfl ?_;simp [fZ];refine ai.p 3 9 hwi ?_;simp;apply hK1;clear hK1 K1;refine aaq ?_;refine aac fun K1 hK1=>?_;refine aad rfl ?_;simp;apply hK1;clear hK1 K1;exact aag (κ:=0) (au.nW (κ:=0) rfl 9 (by simp [hres]) (by simp [hres]) (by simp [hres]) rfl rfl rfl (by simp) rfl rfl rfl (by decide) (by decide) (by decide))
  have hd:decide (0≤p.res∧p.res<(p.nn:Int))=true:=decide_eq_true h1;rw [hd] at hwi
  by_cases h2:lM p p.res=1
  ·have hres:er p 4 0=(5,0,7):=by rw [hfin,if_neg (fun h=>h.2.2 h2)]
   rw [h2] at hse;refine aad rfl ?_;simp [fZ];refine ai.p 3 9 hwi ?_;simp;refine ai.p 3 9 hse ?_;simp;apply hK1;clear hK1 K1;refine aaq ?_;refine aac fun K1 hK1=>?_;refine aad rfl ?_;simp;apply hK1;clear hK1 K1;exact aag (κ:=0) (au.nW (κ:=0) rfl 9 (by simp [hres]) (by simp [hres]) (by simp [hres]) rfl rfl rfl (by simp) rfl rfl rfl (by decide) (by decide) (by decide))
  ·have hres:er p 4 0=(0,0,0):=by rw [hfin,if_pos ⟨h1.1,h1.2,h2⟩]
   refine aad rfl ?_;simp [fZ];refine ai.p 3 9 hwi ?_;simp;refine ai.p 3 9 hse ?_;simp [h2];apply hK1;clear hK1 K1;refine aao (by simp [h2] <;> omega) ?_;refine aah ?_;simp;apply hK;clear hK K;refine aac fun K hK=>?_;refine aad rfl ?_;simp;apply hK;clear hK K;exact aag (κ:=0) (au.nW (κ:=0) rfl 9 (by simp [hres]) (by simp [hres]) (by simp [hres]) rfl rfl rfl (by simp) rfl rfl rfl (by decide) (by decide) (by decide))
end Go.Am

namespace Go.Am
open Go.Am.Ty Go.Proofs N
theorem Hs (m:Int)(p:PD)(hp:p.ok):aj Tryz.prog (GG m) 45 [p.A] (.c (.d (.int .i64 (iO p).2.2))):=by
 have h:=AH m p hp;generalize iO p=v at *
 refine aj.aH Tryz.func45 rfl (by rw [Tryz.ntmps45];simp) ?_;rintro⟨_,_,w0,F0,W0,_,bq,β0⟩ rfl rfl rfl;refine aac fun K hK=>?_;refine aad rfl ?_;simp;apply hK;clear hK K;refine aac fun K hK=>?_;refine aad rfl ?_;simp;refine ai.p 1 9 h ?_;simp;apply hK;clear hK K;refine aac fun K hK=>?_;refine aad rfl ?_;simp;apply hK;clear hK K;exact aag (κ:=0) (au.t (κ:=0) rfl 2 (by simp))
theorem MR (own fz:Bool)(T:TypeId)(l:List DV)(g:Key→Key):(LB.cells own fz T (l.map CV.d)).like (.cells own fz T (l.map CV.d)) g:=LB.oI.2 ⟨rfl,rfl,by rw [List.map_map];rfl,id⟩
theorem Iw (l:List Int)(g:Key→Key):(LB.cells true false 3 (zK l)).like (.cells true false 3 (zK l)) g:=by
 rw [yQ];exact MR ..
theorem Jb {lv:Key→LB}{k:Key}(h:lv k=.hole):aJ lv k .hole=lv:=by
 funext j;unfold aJ;split
 ·rename_i e;rw [e,h]
 ·rfl
def zB (l:List Int):LB:=if l=[] then .hole else .cells true false 3 (zK l)
def Mh (k:Key)(l:List Int):AV:=if l=[] then .c (.d .nilsl) else .c (.aX k 0 l.length 1)
theorem Zk (lv:Key→LB)(κ:Key)(h:lv κ=.hole)(a:CV):aq Tryz.prog 30 1 [0] lv κ [.c a]=some (.c (.aX κ 0 1 1),[(κ,.cells true false 3 [a])],[],True):=by
 unfold aq;rw [h];kernel_rfl
theorem Od {lv:Key→LB}{k:Key}{own fz:Bool}{T:TypeId}{l:List DV}(h:lv k=.cells own fz T (l.map CV.d)) (hl:l.length≤1000):fH lv (.c (.aX k 0 l.length 1))=some (.c (.d (.sl (l.map fun x=>[x]))),[k]):=by
 have h1:((l.map CV.d).drop 0).take (l.length*1)=l.map CV.d:=by rw [List.drop_zero,Nat.mul_one];exact List.take_of_length_le (by simp)
 have h2:0+l.length*1≤(l.map CV.d).length∧l.length≤9223372036854775807:=⟨by simp,by omega⟩
 show (ez lv 8 (.aX k 0 l.length 1)).map _=_;simp only [ez,h];rw [if_pos h2,h1,tT];simp only [Option.map_some,nh]
theorem J9 {lv:Key→LB}{k:Key}{own fz:Bool}{T:TypeId}{l:List Int}(h:lv k=.cells own fz T (zK l)) (hl:l.length≤1000):fH lv (.c (.aX k 0 l.length 1))=some (.c (zC (some l)),[k]):=by
 have:=Od (l:=l.map fun x=>DV.int .i64 x) (by rw [← yQ];exact h) (by simpa using hl);rw [List.length_map,List.map_map] at this;exact this
theorem Zj (p:PD)(lv:Key→LB)(hp:p.ok)(i:Nat)(hi:i<p.ni):az Tryz.prog 23 lv (.c (iU p.ins)) (.c (.d (.int .i64 (i:Int))))=some (.c (.d (.ptr (p.GF i).e)),[],[],True):=by
 have:=WW hp lv (i:Int) (by omega) (by omega)
 rwa [Int.toNat_natCast] at this
theorem E2 (l:List Int)(x:Int):zB (l++[x])=.cells true false 3 (zK l++[.d (.int .i64 x)]):=by
 unfold zB;rw [if_neg (by simp)];simp [zK]
theorem Fa (k:Key)(l:List Int)(x:Int):Mh k (l++[x])=.c (.aX k 0 (l.length+1) 1):=by
 unfold Mh;rw [if_neg (by simp)];simp
end Go.Am

namespace Go.Am
open Go.Am.Ty Go.Proofs N
theorem j9 (G:List (List DV))(n m:Int):aj Tryz.prog G 94 [.c (.d (.int .i64 n)),.c (.d (.int .i64 m))] (.c (.d (.bool (decide (0≤n∧n<m))))):=by
 refine aj.aH Tryz.func94 rfl (by rw [Tryz.ntmps94];simp) ?_;rintro⟨_,_,w0,F0,W0,_,bq,β0⟩ rfl rfl rfl;refine aac fun K hK=>?_;refine aad rfl ?_;simp;apply hK;clear hK K;refine aac fun K hK=>?_
 by_cases h:0≤n
 ·refine aad rfl ?_;simp [h];apply hK;clear hK K;exact aag (κ:=0) (au.t (κ:=0) rfl 4 (by simp [h]))
 ·refine aad rfl ?_;simp [h];apply hK;clear hK K;exact aag (κ:=0) (au.t (κ:=0) rfl 4 (by simp [h]))
theorem nr (G:List (List DV))(p:PD)(i:Int):aj Tryz.prog G 95 [p.A,.c (.d (.int .i64 i))] (.c (.d (.int .i64 (lM p i)))):=by
 refine aj.aH Tryz.func95 rfl (by rw [Tryz.ntmps95];simp) ?_;rintro⟨_,_,w0,F0,W0,_,bq,β0⟩ rfl rfl rfl;refine aac fun K hK=>?_;refine aad rfl ?_;simp;apply hK;clear hK K;refine aac fun K hK=>?_;refine aac fun K1 hK1=>?_;refine aad rfl ?_;simp;apply hK1;clear hK1 K1
 by_cases h:i<p.head
 ·refine aap (by simp [h] <;> omega) ?_;refine aac fun K1 hK1=>?_;refine aad rfl ?_;simp;apply hK1;clear hK1 K1;exact aag (κ:=0) (au.t (κ:=0) rfl 4 (by simp [lM,h]))
 ·refine aao (by simp [h] <;> omega) ?_;refine aah ?_;simp;apply hK;clear hK K;refine aac fun K hK=>?_;refine aac fun K1 hK1=>?_;refine aad rfl ?_;simp;apply hK1;clear hK1 K1
  by_cases h2:i<p.tail
  ·refine aap (by simp [h2] <;> omega) ?_;refine aac fun K1 hK1=>?_;refine aad rfl ?_;simp;apply hK1;clear hK1 K1;exact aag (κ:=0) (au.t (κ:=0) rfl 4 (by simp [lM,h,h2]))
  ·refine aao (by simp [h2] <;> omega) ?_;refine aah ?_;simp;apply hK;clear hK K;refine aac fun K hK=>?_;refine aad rfl ?_;simp;apply hK;clear hK K;exact aag (κ:=0) (au.t (κ:=0) rfl 4 (by simp [lM,h,h2]))
theorem Fm (G:List (List DV))(p:PD)(i k:Int):aj Tryz.prog G 172 [p.A,.c (.d (.int .i64 i)),.c (.d (.int .i64 k))] (.c (.d (.bool (dI p i k)))):=by
 have c1:=nr G p k;have c2:=nr G p i
 by_cases h1:0≤k
 rotate_left
 ·refine aj.aH Tryz.func172 rfl (by rw [Tryz.ntmps172];simp) ?_;rintro⟨_,_,w0,F0,W0,_,bq,β0⟩ rfl rfl rfl;refine aac fun K hK=>?_;refine aad rfl ?_;simp;apply hK;clear hK K;refine aac fun K hK=>?_;refine aay mixed (by kernel_rfl) rfl ?_;simp [h1];refine⟨by kernel_rfl,?_⟩;apply hK;clear hK K;exact aag (κ:=0) (au.t (κ:=0) rfl 6 (by simp [dI,h1]))
 by_cases h2:k<i
 rotate_left
 ·refine aj.aH Tryz.func172 rfl (by rw [Tryz.ntmps172];simp) ?_;rintro⟨_,_,w0,F0,W0,_,bq,β0⟩ rfl rfl rfl;refine aac fun K hK=>?_;refine aad rfl ?_;simp;apply hK;clear hK K;refine aac fun K hK=>?_;refine aay mixed (by kernel_rfl) rfl ?_;simp [h1,h2];refine⟨by kernel_rfl,?_⟩;apply hK;clear hK K;exact aag (κ:=0) (au.t (κ:=0) rfl 6 (by simp [dI,h1,h2]))
 by_cases h3:lM p k=0
 ·rw [h3] at c1;refine aj.aH Tryz.func172 rfl (by rw [Tryz.ntmps172];simp) ?_;rintro⟨_,_,w0,F0,W0,_,bq,β0⟩ rfl rfl rfl;refine aac fun K hK=>?_;refine aad rfl ?_;simp;apply hK;clear hK K;refine aac fun K hK=>?_;refine aay mixed (by kernel_rfl) rfl ?_;simp [h1,h2];refine ai.p 3 9 c1 ?_;simp;refine⟨by kernel_rfl,?_⟩;apply hK;clear hK K;exact aag (κ:=0) (au.t (κ:=0) rfl 6 (by simp [dI,h1,h2,h3]))
 ·refine aj.aH Tryz.func172 rfl (by rw [Tryz.ntmps172];simp) ?_;rintro⟨_,_,w0,F0,W0,_,bq,β0⟩ rfl rfl rfl;refine aac fun K hK=>?_;refine aad rfl ?_;simp;apply hK;clear hK K;refine aac fun K hK=>?_;refine aay mixed (by kernel_rfl) rfl ?_;simp [h1,h2];refine ai.p 3 9 c1 ?_;simp [h3];refine ai.p 3 9 c1 ?_;simp [h3];refine ai.p 3 9 c2 ?_;simp [h3];refine⟨by kernel_rfl,?_⟩;apply hK;clear hK K;exact aag (κ:=0) (au.t (κ:=0) rfl 6 (by simp [dI,h1,h2,h3]))
def dZ (op:Int):Int:=if 1≤op∧op≤15 then jA op else -1
theorem J8 {op:Int}(h1:1≤op) (h2:op≤15):dZ op=if op≤3 then 0 else if op≤7 then 1 else if op≤13 then 2 else if op=14 then 3 else 4:=by
 unfold dZ jA;rw [if_pos ⟨h1,h2⟩];(repeat' split) <;> rfl
theorem oQ (G:List (List DV))(op:Int):aj Tryz.prog G 99 [.c (.d (.int .i64 op))] (.c (.d (.int .i64 (dZ op)))):=by
 by_cases h1:op<1
 ·have hr:dZ op = -1:=if_neg (by omega);refine aj.aH Tryz.func99 rfl (by rw [Tryz.ntmps99];simp) ?_;rintro⟨_,_,w0,F0,W0,_,bq,β0⟩ rfl rfl rfl;refine aac fun K hK=>?_;refine aad rfl ?_;simp;apply hK;clear hK K;refine aac fun K hK=>?_;refine aak ?_;refine aac fun K1 hK1=>?_;refine aad rfl ?_;simp [h1];apply hK1;clear hK1 K1;refine aaq ?_;refine aac fun K1 hK1=>?_;refine aad rfl ?_;simp;apply hK1;clear hK1 K1;exact aag (κ:=0) (au.t (κ:=0) rfl 2 (by simp [hr]))
 by_cases h2:15<op
 ·have hr:dZ op = -1:=if_neg (by omega);refine aj.aH Tryz.func99 rfl (by rw [Tryz.ntmps99];simp) ?_;rintro⟨_,_,w0,F0,W0,_,bq,β0⟩ rfl rfl rfl;refine aac fun K hK=>?_;refine aad rfl ?_;simp;apply hK;clear hK K;refine aac fun K hK=>?_;refine aak ?_;refine aac fun K1 hK1=>?_;refine aad rfl ?_;simp [h1,h2];apply hK1;clear hK1 K1;refine aaq ?_;refine aac fun K1 hK1=>?_;refine aad rfl ?_;simp;apply hK1;clear hK1 K1;exact aag (κ:=0) (au.t (κ:=0) rfl 2 (by simp [hr]))
 have hv:=J8 (op:=op) (by omega) (by omega);refine aj.aH Tryz.func99 rfl (by rw [Tryz.ntmps99];simp) ?_;rintro⟨_,_,w0,F0,W0,_,bq,β0⟩ rfl rfl rfl;refine aac fun K hK=>?_;refine aad rfl ?_;simp;apply hK;clear hK K;refine aac fun K hK=>?_;refine aak ?_;refine aac fun K1 hK1=>?_;refine aad rfl ?_;simp [h1,h2];apply hK1;clear hK1 K1;refine aat ?_;refine aac fun K1 hK1=>?_;refine aad rfl ?_;simp;apply hK1;clear hK1 K1
 by_cases h3:op≤3
 ·have hr:dZ op=0:=by rw [hv];rw [if_pos h3]
  refine aap (by simp [h3] <;> omega) ?_;refine aac fun K1 hK1=>?_;refine aad rfl ?_;simp;apply hK1;clear hK1 K1;exact aag (κ:=0) (au.t (κ:=0) rfl 2 (by simp [hr]))
 refine aao (by simp [h3] <;> omega) ?_;refine aac fun K1 hK1=>?_;refine aad rfl ?_;simp;apply hK1;clear hK1 K1
 by_cases h4:op≤7
 ·have hr:dZ op=1:=by rw [hv];rw [if_neg h3];rw [if_pos h4]
  refine aap (by simp [h4] <;> omega) ?_;refine aac fun K1 hK1=>?_;refine aad rfl ?_;simp;apply hK1;clear hK1 K1;exact aag (κ:=0) (au.t (κ:=0) rfl 2 (by simp [hr]))
 refine aao (by simp [h4] <;> omega) ?_;refine aac fun K1 hK1=>?_;refine aad rfl ?_;simp;apply hK1;clear hK1 K1
 by_cases h5:op≤13
 ·have hr:dZ op=2:=by rw [hv];rw [if_neg h3];rw [if_neg h4];rw [if_pos h5]
  refine aap (by simp [h5] <;> omega) ?_;refine aac fun K1 hK1=>?_;refine aad rfl ?_;simp;apply hK1;clear hK1 K1;exact aag (κ:=0) (au.t (κ:=0) rfl 2 (by simp [hr]))
 refine aao (by simp [h5] <;> omega) ?_;refine aac fun K1 hK1=>?_;refine aad rfl ?_;simp;apply hK1;clear hK1 K1
 by_cases h6:op=14
 ·have hr:dZ op=3:=by rw [hv];rw [if_neg h3];rw [if_neg h4];rw [if_neg h5];rw [if_pos h6]
  refine aap (by simp [h6] <;> omega) ?_;refine aac fun K1 hK1=>?_;refine aad rfl ?_;simp;apply hK1;clear hK1 K1;exact aag (κ:=0) (au.t (κ:=0) rfl 2 (by simp [hr]))
 refine aao (by simp [h6] <;> omega) ?_;refine aah ?_;simp;apply hK;clear hK K;refine aac fun K hK=>?_;refine aad rfl ?_;simp;apply hK;clear hK K;have hr:dZ op=4:=by rw [hv,if_neg h3,if_neg h4,if_neg h5,if_neg h6]
 exact aag (κ:=0) (au.t (κ:=0) rfl 2 (by simp [hr]))
end Go.Am

namespace Go.Am
open Go.Am.Ty Go.Proofs N
abbrev YB (n:Nd):AV:=.agg [.d (.int .i64 n.a),.d (.int .i64 n.b),.d (.int .i64 n.c),.d (.int .i64 n.d)]
theorem Ll (lv:Key→LB)(n:Nd):gH lv (YB n)=some (YB n,[]):=rfl
theorem Pp (a b c d:CV):eL Tryz.prog 85 [a,b,c,d]=some (.agg [a,b,c,d]):=by kernel_rfl
theorem s6 (G:List (List DV))(n:Nd):aj Tryz.prog G 98 [n.A] (YB n):=by
 refine aj.bH Tryz.func98 rfl (by rw [Tryz.ntmps98];simp) (fun lv=>Ll lv n) ?_;rintro⟨_,_,w0,F0,W0,_,bq,β0⟩ rfl rfl rfl;refine aac fun K hK=>?_;refine aad rfl ?_;simp;apply hK;clear hK K;refine aac fun K hK=>?_;refine aad rfl ?_;simp [Ym,ak];apply hK;clear hK K;refine aag ?_;refine bM.cell (κ:=0) (T:=85) (t:=2) (k:=1) (off:=0) (own:=true) (fz:=false) (U:=85) (cs:=[.d (.int .i64 n.a),.d (.int .i64 n.b),.d (.int .i64 n.c),.d (.int .i64 n.d)]) rfl ?_ ?_ ?_
 ·simp
 ·simp [ak]
 ·rw [List.drop_zero];exact Pp ..
def zN (l:List Int):Option (List Int):=if l=[] then none else some l
theorem Bm (l:List Int):zL (zN l)=l:=by unfold zN;split <;> simp_all [zL]
theorem LM (n:Nd)(i:Nat):((i:Int)<dZ n.op)↔i<(bF n).length:=by
 unfold dZ bF;have:=pZ n.op;split
 ·rw [List.length_take,Nd.jL];omega
 ·simp <;> omega
theorem K0 (n:Nd){i:Nat}(h:i<(bF n).length):∃ h4:i<n.l4.length,(bF n).take (i+1)=(bF n).take i++[n.l4[i]]:=by
 have h0:bF n=n.l4.take (jA n.op):=by
  unfold bF at h ⊢;split
  ·rfl
  ·rename_i hh;rw [if_neg hh] at h;cases h
 have h4:i<n.l4.length:=by rw [h0,List.length_take] at h;omega
 refine⟨h4,?_⟩;rw [List.take_add_one,List.getElem?_eq_getElem h];have:(bF n)[i]=n.l4[i]:=by simp only [h0,List.getElem_take]
 rw [this];rfl
theorem Ji (n:Nd)(g:Key→Key):(LB.cells true false 55 [.d (.int .i64 n.op),.d (.int .i64 n.a),.d (.int .i64 n.b),.d (.int .i64 n.c),.d (.int .i64 n.d),.d (.int .i64 n.f),.d (.str n.v)]).like (.cells true false 55 [.d (.int .i64 n.op),.d (.int .i64 n.a),.d (.int .i64 n.b),.d (.int .i64 n.c),.d (.int .i64 n.d),.d (.int .i64 n.f),.d (.str n.v)]) g:=LB.oI.2 ⟨rfl,rfl,rfl,id⟩
theorem AS (l:List Int)(g:Key→Key):(LB.cells true false 85 (zK l)).like (.cells true false 85 (zK l)) g:=by
 rw [yQ];exact MR ..
abbrev bN (n:Nd):LB:=.cells true false 55 [.d (.int .i64 n.op),.d (.int .i64 n.a),.d (.int .i64 n.b),.d (.int .i64 n.c),.d (.int .i64 n.d),.d (.int .i64 n.f),.d (.str n.v)]
theorem JU {lv:Key→LB}{k:Key}{l:List Int}(hl:l.length≤1000) (h:lv k=zB l):∃ ks,gH lv (Mh k l)=some (.c (zC (zN l)),ks):=by
 unfold Mh zN
 by_cases hn:l=[]
 ·rw [if_pos hn,if_pos hn];exact⟨[],rfl⟩
 ·rw [if_neg hn,if_neg hn];refine⟨[k],J9 (by rw [h];exact if_neg hn) hl⟩
set_option maxHeartbeats 2000000 in
theorem xL (G:List (List DV))(n:Nd):aj Tryz.prog G 36 [n.A] (.c (zC (zN (bF n)))):=by
 have hf:=s6 G n;have ha:=oQ G n.op;have hka:=LM n;have hkl:=nR n;have hzk:[CV.d (.int .i64 n.a),.d (.int .i64 n.b),.d (.int .i64 n.c),.d (.int .i64 n.d)]=zK n.l4:=rfl;refine aj.uz Tryz.func36 rfl (by rw [Tryz.ntmps36];simp)  ?_;rintro⟨_,_,w0,F0,W0,_,bq,β0⟩ rfl rfl rfl rfl;refine aac fun K hK=>?_;refine aad rfl ?_;simp;apply hK;clear hK K;refine aac fun K hK=>?_;refine aad rfl ?_;simp [ak];refine ai.p 1 9 hf ?_;simp;simp [ak];apply hK;clear hK K;refine aac fun K hK=>?_;refine aad rfl ?_;simp;apply hK;clear hK K;refine aac fun K hK=>?_;refine aac fun K1 hK1=>?_;refine aad rfl ?_;simp;apply hK1;clear hK1 K1;refine aak ?_
 refine aax (fun (i:Nat)=>⟨bt [(1,.c (.ptr 0 0)),(3,.c (.ptr 1 0)),(4,Mh 2 ((bF n).take i)),(5,.c (.d (.int .i64 i)))],aJ (aJ (aJ (fun _=>.hole) 0 (bN n)) 1 (.cells true false 85 (zK n.l4))) 2 (zB ((bF n).take i))⟩) 10
  (fun i=>i≤(bF n).length) (fun i=>(bF n).length - i) 0 (Le.mk' _ (by rw [List.take_zero];exact (Jb (k:=2) rfl).symm) (by repeat (first|exact aA|refine aT ?_ _ _ _ _ _|(refine aC ?_ _)|(refine noMap_blS ?_ _ _ _)|(refine noMap_upd_nils ?_ _)|simp)) (by simp [Mh])) (Nat.zero_le _) ?_
 rintro i hi
 try simp only at hi
 refine aac fun K3 hK3=>aac fun K4 hK4=>?_;refine aad rfl ?_;simp;refine ai.p 3 9 ha ?_;simp;apply hK4;clear hK4 K4
 by_cases hlt:i<(bF n).length
 ·have hlt':(i:Int)<dZ n.op:=(hka i).2 hlt;obtain⟨h4,hnx⟩:=K0 n hlt;have hld:=y9 (P:=Tryz.prog) (T:=3) (by simp) h4;have hbs:∀ (lv:Key→LB) (h:lv 10=.hole) (a:CV),aq Tryz.prog 30 1 [0] lv 10 [.c a]=some (.c (.aX 10 0 1 1),[(10,.cells true false 3 [a])],[],True):=fun lv h a=>Zk lv 10 h a
  have hle:((bF n).take i).length≤1000:=by rw [List.length_take];omega
  have hli:((bF n).take i).length=i:=by rw [List.length_take];omega
  have f12:=bK (n:=(i:Int)+1) (by omega) (by omega);generalize (bF n).take i=l at *
  generalize n.l4[i]=x at *
  have h44:i<4:=by omega
  refine aap (by simp [hlt'] <;> omega) ?_;refine aah ?_;simp;apply hK3;refine aac fun K5 hK5=>?_;refine aak ?_;refine aaA 10 ?_
  by_cases hl:l=[]
  ·subst hl;refine aad rfl ?_;simp [hld,h44,Fp,zB,Mh,hbs,gI,keyOf,-aq]
   repeat refine ag ?_
   apply hK5;clear hK5 K5;refine aad rfl ?_;simp [f12];refine⟨i+1,Le.keys [(0,0,bN n),(1,1,.cells true false 85 (zK n.l4)),(2,11,zB ([]++[x]))] 19 _ (by rw [hnx];rfl) rfl (by simp) (by simp) (by simp) ?_ ?_,by omega,by omega⟩
   ·intro e he;simp only [List.mem_cons,List.not_mem_nil,or_false] at he;rcases he with rfl|rfl|rfl
    ·exact Ji n _
    ·exact AS _ _
    ·rw [E2];exact Iw [x] _
   ·rw [hnx,Fa];simp [fM]
  ·have hzb:zB l=.cells true false 3 (zK l):=if_neg hl;have hzs:Mh 2 l=.c (.aX 2 0 l.length 1):=if_neg hl;have hzl:(zK l).length=l.length:=Ia l;refine aad rfl ?_;simp [hld,h44,Fp,hzb,hzs,hbs,gI,keyOf,hzl,-aq]
   repeat refine ag ?_
   apply hK5;clear hK5 K5;refine aad rfl ?_;simp [f12];refine⟨i+1,Le.keys [(0,0,bN n),(1,1,.cells true false 85 (zK n.l4)),(2,11,zB (l++[x]))] 19 _ (by rw [hnx];rfl) rfl (by simp) (by simp) (by simp) ?_ ?_,by omega,by omega⟩
   ·intro e he;simp only [List.mem_cons,List.not_mem_nil,or_false] at he;rcases he with rfl|rfl|rfl
    ·exact Ji n _
    ·exact AS _ _
    ·rw [E2,show zK l++[CV.d (.int .i64 x)]=zK (l++[x]) by simp [zK]];exact Iw (l++[x]) _
   ·rw [hnx,Fa];simp [fM]
 have hlt':¬ (i:Int)<dZ n.op:=fun h=>hlt ((hka i).1 h)
 refine aao (by simp [hlt'] <;> omega) ?_;refine aav ?_;simp;have hie:i=(bF n).length:=by omega
 subst hie;rw [List.take_length];apply hK;refine aac fun K5 hK5=>?_;refine aad rfl ?_;simp;apply hK5;clear hK5 K5;obtain⟨ks,hd⟩:=JU (k:=2) (lv:=aJ (aJ (aJ (fun _=>.hole) 0 (bN n)) 1 (.cells true false 85 (zK n.l4))) 2 (zB (bF n))) (l:=bF n) (by omega) (by simp);exact aag (κ:=0) (tr.tmp (κ:=0) (ks:=ks) rfl (by simp) hd)
end Go.Am

namespace Go.Am
open Go.Am.Ty Go.Proofs N
theorem Ln {op:Int}(h1:1≤op) (h2:op≤15):(hU op:Int)=if op=1∨op=2 then 1 else dZ op:=by
 unfold hU dZ;rw [if_pos (⟨h1,h2⟩:1≤op∧op≤15)];split <;> rfl
set_option maxHeartbeats 2000000 in
theorem zU (G:List (List DV))(n:Nd)(h1:1≤n.op)(h2:n.op≤15):aj Tryz.prog G 170 [n.A] (.c (.d (.bool (!kN n)))):=by
 have hf:=s6 G n;have ha:=oQ G n.op;have hle:=Cx n.op;have hu:=Ln h1 h2;have hib:kN n=((n.l4.drop (hU n.op)).all (fun x=>decide (x=0)) && (decide (n.v=[]) || decide (n.op=3))):=rfl;generalize hU n.op=u at *
 refine aj.aH Tryz.func170 rfl (by rw [Tryz.ntmps170];simp) ?_;rintro⟨_,_,w0,F0,W0,_,bq,β0⟩ rfl rfl rfl;refine aac fun K hK=>?_;refine aad rfl ?_;simp;apply hK;clear hK K;refine aac fun K hK=>?_;refine aad rfl ?_;simp;refine ai.p 1 9 ha ?_;simp;apply hK;clear hK K;refine aac fun K hK=>?_
 have tail:∀ (fr:Nat→AV) (κ:Nat),fr 1=.c (.ptr 0 0)→fr 3=.c (.d (.int .i64 u))→K ⟨fr,aJ (fun _=>.hole) 0 (bN n)⟩ κ:=by
  intro fr κ z1 z3;apply hK;refine aaA 1 ?_;refine aac fun K2 hK2=>?_;refine aad rfl ?_;simp [z1,z3,ak];refine ai.p 1 9 hf ?_;simp;simp [ak];apply hK2;clear hK2 K2;refine aac fun K2 hK2=>?_;refine aac fun K1 hK1=>?_;refine aad rfl ?_;simp [z1,z3];apply hK1;clear hK1 K1;refine aak ?_
  refine aax (fun (i:Nat)=>⟨bt [(1,.c (.ptr 0 0)),(4,.c (.ptr 1 0)),(5,.c (.d (.int .i64 i)))],aJ (aJ (fun _=>.hole) 0 (bN n)) 1 (.cells true false 85 (zK n.l4))⟩) 10
   (fun i=>u≤i∧i≤4∧∀ j (hj:u≤j) (hj2:j<i) (h:j<n.l4.length),n.l4[j]=0) (fun i=>4 - i) u (Le.mk' _ rfl (by repeat (first|exact aA|refine aT ?_ _ _ _ _ _|(refine aC ?_ _)|(refine noMap_blS ?_ _ _ _)|(refine noMap_upd_nils ?_ _)|simp)) (by simp [z1])) ⟨Nat.le_refl _,hle,fun j a b=>absurd b (by omega)⟩ ?_
  rintro i ⟨hi0,hi,hall⟩
  try simp only at hi0 hi hall
  refine aac fun K3 hK3=>aac fun K4 hK4=>?_;refine aad rfl ?_;simp;apply hK4;clear hK4 K4
  by_cases hlt:i<4
  ·have h4:i<n.l4.length:=hlt;have hld:=y9 (P:=Tryz.prog) (T:=3) (by simp) h4;have f12:=bK (n:=(i:Int)+1) (by omega) (by omega);refine aap (by simp [hlt] <;> omega) ?_;refine aah ?_;simp;apply hK3;refine aac fun K5 hK5=>?_;refine aak ?_;refine aac fun K6 hK6=>?_;refine aad rfl ?_;simp [hld,hlt,Fp]
   repeat refine ag ?_
   apply hK6;clear hK6 K6
   by_cases h0:n.l4[i]=0
   ·refine aao (by simp [h0] <;> omega) ?_;refine aah ?_;simp;apply hK5;refine aad rfl ?_;simp [f12];refine⟨i+1,Le.mk' _ (by simp) (by repeat (first|exact aA|refine aT ?_ _ _ _ _ _|(refine aC ?_ _)|(refine noMap_blS ?_ _ _ _)|(refine noMap_upd_nils ?_ _)|simp)) (by simp),⟨by omega,by omega,fun j a b h=>?_⟩,by omega⟩
    by_cases hji:j=i
    ·subst hji;exact h0
    ·exact hall j a (by omega) h
   ·have hb:kN n=false:=by
     rw [hib]
     have:(n.l4.drop u).all (fun x=>decide (x=0))=false:=by
      rw [List.all_eq_false];refine⟨n.l4[i],?_,by simpa using h0⟩;rw [List.mem_iff_getElem];exact⟨i - u,by rw [List.length_drop,Nd.jL];omega,by simp [show u+(i - u)=i by omega]⟩
     rw [this];rfl
    refine aap (by simp [h0] <;> omega) ?_;refine aac fun K6 hK6=>?_;refine aad rfl ?_;simp;apply hK6;clear hK6 K6;exact aag (κ:=0) (au.t (κ:=0) rfl 2 (by simp [hb]))
  ·have hall2:(n.l4.drop u).all (fun x=>decide (x=0))=true:=by
    rw [List.all_eq_true];intro x hx;obtain⟨j,hj,rfl⟩:=List.mem_iff_getElem.1 hx;rw [List.length_drop,Nd.jL] at hj;have:=hall (u+j) (by omega) (by omega) (by rw [Nd.jL];omega);simpa using this
   have hi2:kN n=(decide (n.v=[]) || decide (n.op=3)):=by rw [hib,hall2];rfl
   refine aao (by simp [hlt] <;> omega) ?_;refine aav ?_;simp;apply hK2;refine aac fun K5 hK5=>?_
   by_cases h3:n.op=3
   ·have t3:(n.op=3)=True:=eq_true h3;refine aad rfl ?_;simp [t3];apply hK5;clear hK5 K5;exact aag (κ:=0) (au.t (κ:=0) rfl 2 (by simp [hi2,t3]))
   ·refine aad rfl ?_;simp [h3,yH];apply hK5;clear hK5 K5;exact aag (κ:=0) (au.t (κ:=0) rfl 2 (by simp [hi2,h3]))
 refine aac fun K1 hK1=>?_
 by_cases c1:n.op=1
 ·have hu1:u=1:=by rw [if_pos (.inl c1)] at hu;omega
  have t1:(n.op=1)=True:=eq_true c1;refine aad rfl ?_;simp [t1];apply hK1;clear hK1 K1;refine aaq ?_;refine aad rfl ?_;simp;exact tail _ _ (by simp) (by simp [hu1])
 by_cases c2:n.op=2
 ·have hu1:u=1:=by rw [if_pos (.inr c2)] at hu;omega
  have t1:(n.op=2)=True:=eq_true c2;refine aad rfl ?_;simp [c1,t1];apply hK1;clear hK1 K1;refine aaq ?_;refine aad rfl ?_;simp;exact tail _ _ (by simp) (by simp [hu1])
 rw [if_neg (by omega)] at hu;refine aad rfl ?_;simp [c1,c2];apply hK1;clear hK1 K1;refine aat ?_;refine aah ?_;simp;exact tail _ _ (by simp) (by simp [hu])
set_option maxHeartbeats 2000000 in
theorem Dt (G:List (List DV))(p:PD):aj Tryz.prog G 89 [p.A] (.c (.d (.int .i64 (dS p)))):=by
 refine aj.aH Tryz.func89 rfl (by rw [Tryz.ntmps89];simp) ?_;rintro⟨_,_,w0,F0,W0,_,bq,β0⟩ rfl rfl rfl;refine aac fun K hK=>?_;refine aad rfl ?_;simp;apply hK;clear hK K;refine aac fun K hK=>?_;refine aad rfl ?_;simp [fZ];apply hK;clear hK K;have r0:dS p=if 6<p.nf∨6<p.ni∨64<p.nn∨4<p.ns then 3 else if p.nf=0∨p.nn=0∨p.mode<0∨4<p.mode then 2 else if p.head<0∨p.tail<p.head∨(p.nn:Int)<p.tail then 2 else if p.ns=0∧p.head≠p.nn then 2 else 0:=rfl
 refine aac fun K hK=>?_;refine aac fun K1 hK1=>?_
 by_cases e00:6<p.nf
 ·have e00':(6:Int)<(p.nf:Int):=by omega
  have hr:dS p=3:=by rw [r0];exact if_pos (.inl e00)
  refine aad rfl ?_;simp [sF,wF,fZ,wG,e00,e00'];apply hK1;clear hK1 K1;refine aaq ?_;refine aac fun K1 hK1=>?_;refine aad rfl ?_;simp;apply hK1;clear hK1 K1;exact aag (κ:=0) (au.t (κ:=0) rfl 2 (by simp [hr]))
 have e00':¬ (6:Int)<(p.nf:Int):=by omega
 by_cases e01:6<p.ni
 ·have e01':(6:Int)<(p.ni:Int):=by omega
  have hr:dS p=3:=by rw [r0];exact if_pos (.inr (.inl e01))
  refine aad rfl ?_;simp [sF,wF,fZ,wG,e00,e01,e00',e01'];apply hK1;clear hK1 K1;refine aaq ?_;refine aac fun K1 hK1=>?_;refine aad rfl ?_;simp;apply hK1;clear hK1 K1;exact aag (κ:=0) (au.t (κ:=0) rfl 2 (by simp [hr]))
 have e01':¬ (6:Int)<(p.ni:Int):=by omega
 by_cases e02:64<p.nn
 ·have e02':(64:Int)<(p.nn:Int):=by omega
  have hr:dS p=3:=by rw [r0];exact if_pos (.inr (.inr (.inl e02)))
  refine aad rfl ?_;simp [sF,wF,fZ,wG,e00,e01,e02,e00',e01',e02'];apply hK1;clear hK1 K1;refine aaq ?_;refine aac fun K1 hK1=>?_;refine aad rfl ?_;simp;apply hK1;clear hK1 K1;exact aag (κ:=0) (au.t (κ:=0) rfl 2 (by simp [hr]))
 have e02':¬ (64:Int)<(p.nn:Int):=by omega
 by_cases e03:4<p.ns
 ·have e03':(4:Int)<(p.ns:Int):=by omega
  have hr:dS p=3:=by rw [r0];exact if_pos (.inr (.inr (.inr (e03))))
  refine aad rfl ?_;simp [sF,wF,fZ,wG,e00,e01,e02,e03,e00',e01',e02',e03'];apply hK1;clear hK1 K1;refine aaq ?_;refine aac fun K1 hK1=>?_;refine aad rfl ?_;simp;apply hK1;clear hK1 K1;exact aag (κ:=0) (au.t (κ:=0) rfl 2 (by simp [hr]))
 have e03':¬ (4:Int)<(p.ns:Int):=by omega
 have r1:=r0;rw [if_neg (by omega)] at r1;refine aad rfl ?_;simp [sF,wF,fZ,wG,e00,e01,e02,e03,e00',e01',e02',e03'];apply hK1;clear hK1 K1;refine aat ?_;refine aah ?_;simp;apply hK;clear hK K;refine aac fun K hK=>?_;refine aac fun K1 hK1=>?_
 by_cases e10:p.nf=0
 ·have e10':(p.nf:Int)=0:=by omega
  have hr:dS p=2:=by rw [r1];exact if_pos (.inl e10)
  refine aad rfl ?_;simp [sF,wF,fZ,wG,e10,e10'];apply hK1;clear hK1 K1;refine aaq ?_;refine aac fun K1 hK1=>?_;refine aad rfl ?_;simp;apply hK1;clear hK1 K1;exact aag (κ:=0) (au.t (κ:=0) rfl 2 (by simp [hr]))
 have e10':¬ (p.nf:Int)=0:=by omega
 by_cases e11:p.nn=0
 ·have e11':(p.nn:Int)=0:=by omega
  have hr:dS p=2:=by rw [r1];exact if_pos (.inr (.inl e11))
  refine aad rfl ?_;simp [sF,wF,fZ,wG,e10,e11,e10',e11'];apply hK1;clear hK1 K1;refine aaq ?_;refine aac fun K1 hK1=>?_;refine aad rfl ?_;simp;apply hK1;clear hK1 K1;exact aag (κ:=0) (au.t (κ:=0) rfl 2 (by simp [hr]))
 have e11':¬ (p.nn:Int)=0:=by omega
 by_cases e12:p.mode<0
 ·have e12':p.mode<0:=by omega
  have hr:dS p=2:=by rw [r1];exact if_pos (.inr (.inr (.inl e12)))
  refine aad rfl ?_;simp [sF,wF,fZ,wG,e10,e11,e12,e10',e11',e12'];apply hK1;clear hK1 K1;refine aaq ?_;refine aac fun K1 hK1=>?_;refine aad rfl ?_;simp;apply hK1;clear hK1 K1;exact aag (κ:=0) (au.t (κ:=0) rfl 2 (by simp [hr]))
 have e12':¬ p.mode<0:=by omega
 by_cases e13:4<p.mode
 ·have e13':4<p.mode:=by omega
  have hr:dS p=2:=by rw [r1];exact if_pos (.inr (.inr (.inr (e13))))
  refine aad rfl ?_;simp [sF,wF,fZ,wG,e10,e11,e12,e13,e10',e11',e12',e13'];apply hK1;clear hK1 K1;refine aaq ?_;refine aac fun K1 hK1=>?_;refine aad rfl ?_;simp;apply hK1;clear hK1 K1;exact aag (κ:=0) (au.t (κ:=0) rfl 2 (by simp [hr]))
 have e13':¬ 4<p.mode:=by omega
 have r2:=r1;rw [if_neg (by omega)] at r2;refine aad rfl ?_;simp [sF,wF,fZ,wG,e10,e11,e12,e13,e10',e11',e12',e13'];apply hK1;clear hK1 K1;refine aat ?_;refine aah ?_;simp;apply hK;clear hK K;refine aac fun K hK=>?_;refine aac fun K1 hK1=>?_
 by_cases e20:p.head<0
 ·have e20':p.head<0:=by omega
  have hr:dS p=2:=by rw [r2];exact if_pos (.inl e20)
  refine aad rfl ?_;simp [sF,wF,fZ,wG,e20,e20'];apply hK1;clear hK1 K1;refine aaq ?_;refine aac fun K1 hK1=>?_;refine aad rfl ?_;simp;apply hK1;clear hK1 K1;exact aag (κ:=0) (au.t (κ:=0) rfl 2 (by simp [hr]))
 have e20':¬ p.head<0:=by omega
 by_cases e21:p.tail<p.head
 ·have e21':p.tail<p.head:=by omega
  have hr:dS p=2:=by rw [r2];exact if_pos (.inr (.inl e21))
  refine aad rfl ?_;simp [sF,wF,fZ,wG,e20,e21,e20',e21'];apply hK1;clear hK1 K1;refine aaq ?_;refine aac fun K1 hK1=>?_;refine aad rfl ?_;simp;apply hK1;clear hK1 K1;exact aag (κ:=0) (au.t (κ:=0) rfl 2 (by simp [hr]))
 have e21':¬ p.tail<p.head:=by omega
 by_cases e22:(p.nn:Int)<p.tail
 ·have e22':(p.nn:Int)<p.tail:=by omega
  have hr:dS p=2:=by rw [r2];exact if_pos (.inr (.inr (e22)))
  refine aad rfl ?_;simp [sF,wF,fZ,wG,e20,e21,e22,e20',e21',e22'];apply hK1;clear hK1 K1;refine aaq ?_;refine aac fun K1 hK1=>?_;refine aad rfl ?_;simp;apply hK1;clear hK1 K1;exact aag (κ:=0) (au.t (κ:=0) rfl 2 (by simp [hr]))
 have e22':¬ (p.nn:Int)<p.tail:=by omega
 have r3:=r2;rw [if_neg (by omega)] at r3
 have fin0:dS p=0→∀ (fr:Nat→AV) (κ:Nat) (lv:Key→LB),lv 9=.hole→K ⟨fr,lv⟩ κ:=by
  intro hg fr κ lv h9;apply hK;refine aac fun K5 hK5=>?_;refine aad rfl ?_;simp;apply hK5;clear hK5 K5;exact aag (κ:=0) (au.tmp (κ:=0) rfl 9 (by simp [hg]) rfl (by simp [h9]) rfl)
 by_cases e3:p.ns=0
 ·have e3':(p.ns:Int)=0:=by omega
  by_cases e4:p.head<p.nn
  ·have hr:dS p=2:=by rw [r3,if_pos ⟨e3,by omega⟩]
   refine aad rfl ?_;simp [sF,wF,fZ,wG,e20,e21,e22,e20',e21',e22',e3,e3',e4];apply hK1;clear hK1 K1;refine aaq ?_;refine aac fun K1 hK1=>?_;refine aad rfl ?_;simp;apply hK1;clear hK1 K1;exact aag (κ:=0) (au.t (κ:=0) rfl 2 (by simp [hr]))
  ·have hr:dS p=0:=by rw [r3,if_neg (fun h=>h.2 (by omega))]
   refine aad rfl ?_;simp [sF,wF,fZ,wG,e20,e21,e22,e20',e21',e22',e3,e3',e4];apply hK1;clear hK1 K1;refine aat ?_;refine aah ?_;simp;exact fin0 hr _ _ _ (by simp)
 ·have e3':¬ (p.ns:Int)=0:=by omega
  have hr:dS p=0:=by rw [r3,if_neg (fun h=>e3 h.1)]
  refine aad rfl ?_;simp [sF,wF,fZ,wG,e20,e21,e22,e20',e21',e22',e3,e3'];apply hK1;clear hK1 K1;refine aat ?_;refine aah ?_;simp;exact fin0 hr _ _ _ (by simp)
end Go.Am

namespace Go.Am
open Go.Am.Ty Go.Proofs N
abbrev In.A (x:In):AV:=.agg [.d (.int .i64 x.f),.d (.str x.lo),.d (.str x.hi)]
abbrev aas (x:Rat):List CV:=[.d (.int .i64 (eo x)),rC (iK x),rC (kJ x)]
set_option maxHeartbeats 4000000 in
theorem Dk (m:Int)(p:PD)(hp:p.ok)(x:In):aj Tryz.prog (GG m) 91 [p.A,In.A x] (.c (.d (.int .i64 (sS p x)))):=by
 have hwf:=j9 (GG m) x.f p.nf;have hP1:=pg (GG m) x.lo;have hP2:=pg (GG m) x.hi;have z1:=uj x.lo;have z2:=uj x.hi
 by_cases h1:0≤x.f∧x.f<p.nf
 rotate_left
 ·have hd:decide (0≤x.f∧x.f<(p.nf:Int))=false:=decide_eq_false h1;have hr:sS p x=7:=by unfold sS;rw [if_pos h1]
  rw [hd] at hwf;refine aj.aH Tryz.func91 rfl (by rw [Tryz.ntmps91];simp) ?_;rintro⟨_,_,w0,F0,W0,_,bq,β0⟩ rfl rfl rfl;refine aac fun K hK=>?_;refine aad rfl ?_;simp;apply hK;clear hK K;refine aac fun K hK=>?_;refine aac fun K1 hK1=>?_;refine aad rfl ?_;simp [sF];refine ai.p 2 9 hwf ?_;simp;apply hK1;clear hK1 K1;refine aaq ?_;refine aac fun K1 hK1=>?_;refine aad rfl ?_;simp;apply hK1;clear hK1 K1;exact aag (κ:=0) (au.t (κ:=0) (t:=4) rfl 9 (by simp [hr]))
 have hd:decide (0≤x.f∧x.f<(p.nf:Int))=true:=decide_eq_true h1;rw [hd] at hwf
 have r1:sS p x=if dW x.lo≠0 then dW x.lo else if dW x.hi≠0 then dW x.hi else if hasB (p.fm x.f.toNat).1 (p.fm x.f.toNat).2 (eK x.lo)=false then 7
  else if hasB (p.fm x.f.toNat).1 (p.fm x.f.toNat).2 (eK x.hi)=false then 7 else if 0<gG (eK x.lo) (eK x.hi) then 7 else 0:=by
  unfold sS;rw [if_neg (not_not_intro h1)]
 have hxf:=fun lv=>V7 hp lv x.f h1.1 h1.2
 generalize p.fm x.f.toNat=fe at *
 have hb1:=BV m fe.1 fe.2 (eK x.lo) z1;have hb2:=BV m fe.1 fe.2 (eK x.hi) z2;have hcm:=pU (GG m) (eK x.lo) (eK x.hi) (bQ z1 (by omega)) (bQ z2 (by omega));generalize eK x.lo=a at *
 generalize eK x.hi=b at *
 generalize dW x.lo=ea at *
 generalize dW x.hi=eb at *
 refine aj.aH Tryz.func91 rfl (by rw [Tryz.ntmps91];simp) ?_;rintro⟨_,_,w0,F0,W0,_,bq,β0⟩ rfl rfl rfl;refine aac fun K hK=>?_;refine aad rfl ?_;simp;apply hK;clear hK K;refine aac fun K hK=>?_;refine aac fun K1 hK1=>?_;refine aad rfl ?_;simp [sF];refine ai.p 2 9 hwf ?_;simp;apply hK1;clear hK1 K1;refine aat ?_;refine aah ?_;simp;apply hK;clear hK K;refine aac fun K hK=>?_;refine aad rfl ?_;simp;refine ai.p 2 9 hP1 ?_;simp [ak];apply hK;clear hK K;refine aac fun K hK=>?_;refine aac fun K1 hK1=>?_;refine aad rfl ?_;simp;apply hK1;clear hK1 K1
 by_cases q1:ea=0
 rotate_left
 ·have hr:sS p x=ea:=by rw [r1,if_pos q1]
  refine aap (by simp [q1] <;> omega) ?_;refine aac fun K1 hK1=>?_;refine aad rfl ?_;simp;apply hK1;clear hK1 K1;exact aag (κ:=0) (au.t (κ:=0) (t:=4) rfl 9 (by simp [hr]))
 refine aao (by simp [q1] <;> omega) ?_;refine aah ?_;simp;apply hK;clear hK K;refine aac fun K hK=>?_;refine aad rfl ?_;simp;refine ai.p 3 9 hP2 ?_;simp [ak];apply hK;clear hK K;refine aac fun K hK=>?_;refine aac fun K1 hK1=>?_;refine aad rfl ?_;simp;apply hK1;clear hK1 K1
 by_cases q2:eb=0
 rotate_left
 ·have hr:sS p x=eb:=by rw [r1,if_neg (not_not_intro q1),if_pos q2]
  refine aap (by simp [q2] <;> omega) ?_;refine aac fun K1 hK1=>?_;refine aad rfl ?_;simp;apply hK1;clear hK1 K1;exact aag (κ:=0) (au.t (κ:=0) (t:=4) rfl 9 (by simp [hr]))
 have r2:sS p x=if hasB fe.1 fe.2 a=false then 7 else if hasB fe.1 fe.2 b=false then 7 else if 0<gG a b then 7 else 0:=by
  rw [r1,if_neg (not_not_intro q1),if_neg (not_not_intro q2)]
 refine aao (by simp [q2] <;> omega) ?_;refine aah ?_;simp;apply hK;clear hK K;refine aac fun K hK=>?_;refine aad rfl ?_;simp [hxf,ak];apply hK;clear hK K;refine aac fun K hK=>?_;refine aac fun K4 hK4=>?_
 cases g1:hasB fe.1 fe.2 a with
 | false=>
  have hr:sS p x=7:=by rw [r2,if_pos g1]
  rw [g1] at hb1;refine aad rfl ?_;simp [ic];refine ai.p 5 9 hb1 ?_;simp;apply hK4;clear hK4 K4;refine aaq ?_;refine aac fun K4 hK4=>?_;refine aad rfl ?_;simp;apply hK4;clear hK4 K4;exact aag (κ:=0) (au.t (κ:=0) (t:=4) rfl 9 (by simp [hr]))
 | true=>
 rw [g1] at hb1
 cases g2:hasB fe.1 fe.2 b with
 | false=>
  have hr:sS p x=7:=by rw [r2,g1,if_neg (by decide),if_pos g2]
  rw [g2] at hb2;refine aad rfl ?_;simp [ic];refine ai.p 5 9 hb1 ?_;simp [ic];refine ai.p 5 9 hb2 ?_;simp;apply hK4;clear hK4 K4;refine aaq ?_;refine aac fun K4 hK4=>?_;refine aad rfl ?_;simp;apply hK4;clear hK4 K4;exact aag (κ:=0) (au.t (κ:=0) (t:=4) rfl 9 (by simp [hr]))
 | true=>
 rw [g2] at hb2
 by_cases g3:0<gG a b
 ·have hr:sS p x=7:=by rw [r2,g1,if_neg (by decide),g2,if_neg (by decide),if_pos g3]
  refine aad rfl ?_;simp [ic];refine ai.p 5 9 hb1 ?_;simp [ic];refine ai.p 5 9 hb2 ?_;simp [ic];refine ai.p 5 9 hcm ?_;simp;apply hK4;clear hK4 K4;refine aap (by simp [g3] <;> omega) ?_;refine aac fun K4 hK4=>?_;refine aad rfl ?_;simp;apply hK4;clear hK4 K4;exact aag (κ:=0) (au.t (κ:=0) (t:=4) rfl 9 (by simp [hr]))
 ·have hr:sS p x=0:=by rw [r2,g1,if_neg (by decide),g2,if_neg (by decide),if_neg g3]
  refine aad rfl ?_;simp [ic];refine ai.p 5 9 hb1 ?_;simp [ic];refine ai.p 5 9 hb2 ?_;simp [ic];refine ai.p 5 9 hcm ?_;simp;apply hK4;clear hK4 K4;refine aao (by simp [g3] <;> omega) ?_;refine aah ?_;simp;apply hK;clear hK K;refine aac fun K hK=>?_;refine aad rfl ?_;simp;apply hK;clear hK K;exact aag (κ:=0) (au.t (κ:=0) (t:=4) rfl 9 (by simp [hr]))
end Go.Am

namespace Go.Am
open Go.Am.Ty Go.Proofs N
set_option maxHeartbeats 8000000 in
set_option maxRecDepth 20000 in
theorem Gd (m:Int)(p:PD)(hp:p.ok)(i:Nat)(hi:i<p.nn)(hn2:p.nn≤1000):aj Tryz.prog (GG m) 92 [p.A,.c (.d (.int .i64 i))] (.c (.d (.int .i64 (jN p i (p.nd i))))):=by
 have hx:=fun lv=>Je p lv hp i hi
 obtain⟨n,hn⟩:∃ n,p.nd i=n:=⟨_,rfl⟩
 simp only [hn] at hx ⊢;have har:=oQ (GG m) n.op;have hwf:=j9 (GG m) n.f p.nf;have hwa:=j9 (GG m) n.a p.ni;have hws:=j9 (GG m) n.a p.ns;have hsee:=fun k=>Fm (GG m) p i k
 have hck:=Cv (GG m) n.v;have hkd:=xL (GG m) n
 by_cases h1:1≤n.op∧n.op≤15
 rotate_left
 ·have hr:jN p i n=2:=by unfold jN;rw [if_pos h1]
  have ha:dZ n.op = -1:=if_neg h1;rw [ha] at har;refine aj.aH Tryz.func92 rfl (by rw [Tryz.ntmps92];simp) ?_;rintro⟨_,_,w0,F0,W0,_,bq,β0⟩ rfl rfl rfl;refine aac fun K hK=>?_;refine aad rfl ?_;simp;apply hK;clear hK K;refine aac fun K hK=>?_;refine aad rfl ?_;simp [hx,ak];apply hK;clear hK K;refine aac fun K hK=>?_;refine aac fun K1 hK1=>?_;refine aad rfl ?_;simp;refine ai.p 2 9 har ?_;simp;apply hK1;clear hK1 K1;refine aaq ?_;refine aac fun K1 hK1=>?_;refine aad rfl ?_;simp;apply hK1;clear hK1 K1;exact aag (κ:=0) (au.t (κ:=0) rfl 4 (by simp [hr]))
 have ha0:¬ dZ n.op<0:=by
  have:dZ n.op=jA n.op:=if_pos h1;omega
 have hid:=zU (GG m) n h1.1 h1.2;generalize dZ n.op=ar at *
 cases hib:kN n with
 | false=>
  have hr:jN p i n=2:=by unfold jN;rw [if_neg (not_not_intro h1),if_pos hib]
  rw [hib] at hid;refine aj.aH Tryz.func92 rfl (by rw [Tryz.ntmps92];simp) ?_;rintro⟨_,_,w0,F0,W0,_,bq,β0⟩ rfl rfl rfl;refine aac fun K hK=>?_;refine aad rfl ?_;simp;apply hK;clear hK K;refine aac fun K hK=>?_;refine aad rfl ?_;simp [hx,ak];apply hK;clear hK K;refine aac fun K hK=>?_;refine aac fun K1 hK1=>?_;refine aad rfl ?_;simp;refine ai.p 2 9 har ?_;simp [ha0];refine ai.p 2 9 hid ?_;simp [ha0];apply hK1;clear hK1 K1;refine aaq ?_;refine aac fun K1 hK1=>?_;refine aad rfl ?_;simp;apply hK1;clear hK1 K1;exact aag (κ:=0) (au.t (κ:=0) rfl 4 (by simp [hr]))
 | true=>
 rw [hib] at hid;have ib:¬ kN n=false:=by rw [hib];decide
 refine aj.aH Tryz.func92 rfl (by rw [Tryz.ntmps92];simp) ?_;rintro⟨_,_,w0,F0,W0,_,bq,β0⟩ rfl rfl rfl;refine aac fun K hK=>?_;refine aad rfl ?_;simp;apply hK;clear hK K;refine aac fun K hK=>?_;refine aad rfl ?_;simp [hx,ak];apply hK;clear hK K;refine aac fun K hK=>?_;refine aac fun K1 hK1=>?_;refine aad rfl ?_;simp;refine ai.p 2 9 har ?_;simp [ha0];refine ai.p 2 9 hid ?_;simp [ha0];apply hK1;clear hK1 K1;refine aat ?_;refine aah ?_;simp;apply hK;clear hK K;refine aac fun K hK=>?_;refine aac fun K1 hK1=>?_
 by_cases h2:0≤n.f∧n.f<p.nf
 rotate_left
 ·have hd2:decide (0≤n.f∧n.f<(p.nf:Int))=false:=decide_eq_false h2;have hr:jN p i n=7:=by unfold jN;rw [if_neg (not_not_intro h1),if_neg ib,if_pos h2]
  rw [hd2] at hwf;refine aad rfl ?_;simp [sF];refine ai.p 2 9 hwf ?_;simp;apply hK1;clear hK1 K1;refine aaq ?_;refine aac fun K1 hK1=>?_;refine aad rfl ?_;simp;apply hK1;clear hK1 K1;exact aag (κ:=0) (au.t (κ:=0) rfl 4 (by simp [hr]))
 have hd2:decide (0≤n.f∧n.f<(p.nf:Int))=true:=decide_eq_true h2;rw [hd2] at hwf
 have r2:jN p i n=if n.op=1∧¬ (0≤n.a∧n.a<p.ni) then 7 else if n.op=1∧(p.GF n.a.toNat).f≠n.f then 143 else if n.op=2∧((i:Int)<p.head∨¬ (0≤n.a∧n.a<p.ns)) then 7 else if n.op=3 then dW n.v else if (bF n).all (dI p i) then 0 else 7:=by
  unfold jN;rw [if_neg (not_not_intro h1),if_neg ib,if_neg (not_not_intro h2)]
 refine aad rfl ?_;simp [sF];refine ai.p 2 9 hwf ?_;simp;apply hK1;clear hK1 K1;refine aat ?_;refine aah ?_;simp;apply hK;clear hK K;refine aac fun K hK=>?_
 have tail:∀ (fr:Nat→AV) (κ:Nat),fr 1=.c (.d (.int .i64 i))→fr 2=.c (.ptr 0 0)→fr 5=.c (.ptr 1 0)→(jN p i n=if (bF n).all (dI p i) then 0 else 7) →
  K ⟨fr,aJ (aJ (fun _=>.hole) 0 (.cells true false 27 p.cs)) 1 (bN n)⟩ κ:=by
  intro fr κ z1 z2 z5 hr;have hkl:=nR n;have lpk:=fun lv=>S6 (T:=30) (by simp) lv (zN (bF n))
  have ixk:∀ lv (j:Nat) (hj:j<(bF n).length),az Tryz.prog 30 lv (.c (zC (zN (bF n)))) (.c (.d (.int .i64 (j:Int))))=some (.c (.d (.ptr [.int .i64 (bF n)[j]])),[],[],True):=by
   intro lv j hj;have:=XX (T:=30) (by simp) lv (zN (bF n)) (i:=j) (by rw [Bm];exact hj);simp only [Bm] at this;exact this
  rw [Bm] at lpk;have hkz:(AV.c (zC (zN (bF n)))).pure=true:=qI _;have hkf:(AV.c (zC (zN (bF n)))).cw=true:=uX _;generalize zC (zN (bF n))=kz at *
  generalize bF n=kl at *
  apply hK;refine aac fun K2 hK2=>?_;refine aad rfl ?_;simp [z1,z2,z5];refine ai.pure 2 9 hkd hkz (by simp) (by first|rfl|simp) ?_;simp [z1,z2,z5];apply hK2;clear hK2 K2;refine aac fun K2 hK2=>?_;refine aac fun K3 hK3=>?_;refine aad rfl ?_;simp [z1,z2,z5];apply hK3;clear hK3 K3;refine aak ?_
  refine aax (fun (j:Nat)=>⟨bt [(1,.c (.d (.int .i64 i))),(2,.c (.ptr 0 0)),(6,.c kz),(7,.c (.d (.int .i64 j)))],aJ (aJ (fun _=>.hole) 0 (.cells true false 27 p.cs)) 1 (bN n)⟩) 10
   (fun j=>j≤kl.length∧∀ q,q<j→(h:q<kl.length)→dI p i kl[q]=true) (fun j=>kl.length - j) 0 (Le.mk' _ rfl (by repeat (first|exact aA|refine aT ?_ _ _ _ _ _|(refine aC ?_ _)|(refine noMap_blS ?_ _ _ _)|(refine noMap_upd_nils ?_ _)|simp)) (by simp [z1,z2,hkf])) ⟨Nat.zero_le _,fun q hq=>absurd hq (by omega)⟩ ?_
  rintro j ⟨hj,hall⟩
  try simp only at hj hall
  refine aac fun K5 hK5=>aac fun K6 hK6=>?_;refine aad rfl ?_;simp [lpk];apply hK6;clear hK6 K6
  by_cases hlt:j<kl.length
  ·have hlt':(j:Int)<(kl.length:Int):=by omega
   have hxk:=fun lv=>ixk lv j hlt
   have hse:=hsee kl[j];have f12:=bK (n:=(j:Int)+1) (by omega) (by omega);refine aap (by simp [hlt'] <;> omega) ?_;refine aah ?_;simp;apply hK5;refine aac fun K7 hK7=>?_;refine aak ?_;refine aac fun K8 hK8=>?_
   cases hs:dI p i kl[j] with
   | true=>
    rw [hs] at hse;refine aay mixed (by kernel_rfl) rfl ?_;simp [hxk];refine ai.p 11 9 hse ?_;simp;refine⟨by kernel_rfl,?_⟩;apply hK8;clear hK8 K8;refine aat ?_;refine aah ?_;simp;apply hK7;refine aad rfl ?_;simp [f12];refine⟨j+1,Le.mk' _ (by simp) (by repeat (first|exact aA|refine aT ?_ _ _ _ _ _|(refine aC ?_ _)|(refine noMap_blS ?_ _ _ _)|(refine noMap_upd_nils ?_ _)|simp)) (by simp),⟨by omega,fun q hq h=>?_⟩,by omega⟩
    by_cases hji:q=j
    ·subst hji;exact hs
    ·exact hall q (by omega) h
   | false=>
    rw [hs] at hse
    have hb:jN p i n=7:=by
     rw [hr,if_neg];rw [Bool.not_eq_true,List.all_eq_false];exact⟨kl[j],List.getElem_mem hlt,by rw [hs];decide⟩
    refine aay mixed (by kernel_rfl) rfl ?_;simp [hxk];refine ai.p 11 9 hse ?_;simp;refine⟨by kernel_rfl,?_⟩;apply hK8;clear hK8 K8;refine aaq ?_;refine aac fun K8 hK8=>?_;refine aad rfl ?_;simp;apply hK8;clear hK8 K8;exact aag (κ:=0) (au.t (κ:=0) rfl 4 (by simp [hb]))
  ·have hlt':¬ (j:Int)<(kl.length:Int):=by omega
   have hb:jN p i n=0:=by
    rw [hr,if_pos];rw [List.all_eq_true];intro x hx;obtain⟨q,hq,rfl⟩:=List.mem_iff_getElem.1 hx;exact hall q (by omega) hq
   refine aao (by simp [hlt'] <;> omega) ?_;refine aav ?_;simp;apply hK2;refine aac fun K5 hK5=>?_;refine aad rfl ?_;simp;apply hK5;clear hK5 K5;exact aag (κ:=0) (au.t (κ:=0) rfl 4 (by simp [hb]))
 refine aac fun K1 hK1=>?_;refine aad rfl ?_;simp;apply hK1;clear hK1 K1;refine aak ?_
 by_cases h3:n.op=1
 ·have n2:¬ n.op=2:=by omega
  have n3:¬ n.op=3:=by omega
  have t3:(n.op=1)=True:=eq_true h3;refine aac fun K2 hK2=>?_;refine aad rfl ?_;simp [t3];apply hK2;clear hK2 K2;refine aaq ?_;refine aac fun K2 hK2=>?_;refine aac fun K3 hK3=>?_
  by_cases h4:0≤n.a∧n.a<p.ni
  rotate_left
  ·have hd4:decide (0≤n.a∧n.a<(p.ni:Int))=false:=decide_eq_false h4;have hr:jN p i n=7:=by rw [r2,if_pos ⟨h3,h4⟩]
   rw [hd4] at hwa;refine aad rfl ?_;simp [wF];refine ai.p 2 9 hwa ?_;simp;apply hK3;clear hK3 K3;refine aaq ?_;refine aac fun K3 hK3=>?_;refine aad rfl ?_;simp;apply hK3;clear hK3 K3;exact aag (κ:=0) (au.t (κ:=0) rfl 4 (by simp [hr]))
  have hd4:decide (0≤n.a∧n.a<(p.ni:Int))=true:=decide_eq_true h4;rw [hd4] at hwa;have hxi:=fun lv=>WW hp lv n.a h4.1 h4.2
  refine aad rfl ?_;simp [wF];refine ai.p 2 9 hwa ?_;simp;apply hK3;clear hK3 K3;refine aat ?_;refine aah ?_;simp;apply hK2;clear hK2 K2;refine aac fun K2 hK2=>?_
  by_cases h5:(p.GF n.a.toNat).f=n.f
  ·have hr:jN p i n=if (bF n).all (dI p i) then 0 else 7:=by
    rw [r2,if_neg (fun h=>h.2 h4),if_neg (fun h=>h.2 h5),if_neg (fun h=>n2 h.1),if_neg n3]
   refine aaz mixed (by kernel_rfl) rfl rfl ?_;simp [hxi,h5];apply hK2;clear hK2 K2;refine aat ?_;refine aah ?_;simp;exact tail _ _ (by simp) (by simp) (by simp) hr
  ·have hr:jN p i n=143:=by rw [r2,if_neg (fun h=>h.2 h4),if_pos ⟨h3,h5⟩]
   refine aaz mixed (by kernel_rfl) rfl rfl ?_;simp [hxi,h5];apply hK2;clear hK2 K2;refine aaq ?_;refine aac fun K2 hK2=>?_;refine aad rfl ?_;simp;apply hK2;clear hK2 K2;exact aag (κ:=0) (au.t (κ:=0) rfl 4 (by simp [hr]))
 have r3:jN p i n=if n.op=2∧((i:Int)<p.head∨¬ (0≤n.a∧n.a<p.ns)) then 7 else if n.op=3 then dW n.v else if (bF n).all (dI p i) then 0 else 7:=by
  rw [r2,if_neg (fun h=>h3 h.1),if_neg (fun h=>h3 h.1)]
 refine aac fun K2 hK2=>?_;refine aad rfl ?_;simp [h3];apply hK2;clear hK2 K2;refine aat ?_;refine aac fun K2 hK2=>?_
 by_cases h6:n.op=2
 ·have n3:¬ n.op=3:=by omega
  have t6:(n.op=2)=True:=eq_true h6;refine aad rfl ?_;simp [t6];apply hK2;clear hK2 K2;refine aaq ?_;refine aac fun K2 hK2=>?_
  by_cases h7:(i:Int)<p.head
  ·have hr:jN p i n=7:=by rw [r3,if_pos ⟨h6,.inl h7⟩]
   refine aad rfl ?_;simp [h7];apply hK2;clear hK2 K2;refine aaq ?_;refine aac fun K2 hK2=>?_;refine aad rfl ?_;simp;apply hK2;clear hK2 K2;exact aag (κ:=0) (au.t (κ:=0) rfl 4 (by simp [hr]))
  by_cases h8:0≤n.a∧n.a<p.ns
  ·have hd8:decide (0≤n.a∧n.a<(p.ns:Int))=true:=decide_eq_true h8;rw [hd8] at hws
   have hr:jN p i n=if (bF n).all (dI p i) then 0 else 7:=by
    rw [r3,if_neg (fun h=>h.2.elim h7 (fun h=>h h8)),if_neg n3]
   refine aad rfl ?_;simp [h7,wG];refine ai.p 2 9 hws ?_;simp [h7];apply hK2;clear hK2 K2;refine aat ?_;refine aah ?_;simp;exact tail _ _ (by simp) (by simp) (by simp) hr
  ·have hd8:decide (0≤n.a∧n.a<(p.ns:Int))=false:=decide_eq_false h8;rw [hd8] at hws;have hr:jN p i n=7:=by rw [r3,if_pos ⟨h6,.inr h8⟩]
   refine aad rfl ?_;simp [h7,wG];refine ai.p 2 9 hws ?_;simp [h7];apply hK2;clear hK2 K2;refine aaq ?_;refine aac fun K2 hK2=>?_;refine aad rfl ?_;simp;apply hK2;clear hK2 K2;exact aag (κ:=0) (au.t (κ:=0) rfl 4 (by simp [hr]))
 have r4:jN p i n=if n.op=3 then dW n.v else if (bF n).all (dI p i) then 0 else 7:=by
  rw [r3,if_neg (fun h=>h6 h.1)]
 refine aad rfl ?_;simp [h6];apply hK2;clear hK2 K2;refine aat ?_;refine aac fun K2 hK2=>?_
 by_cases h9:n.op=3
 ·have hr:jN p i n=dW n.v:=by rw [r4,if_pos h9]
  have t9:(n.op=3)=True:=eq_true h9;rw [← hr] at hck;refine aad rfl ?_;simp [t9];apply hK2;clear hK2 K2;refine aaq ?_;refine aac fun K2 hK2=>?_;refine aad rfl ?_;simp;refine ai.p 2 9 hck ?_;simp;apply hK2;clear hK2 K2;exact aag (κ:=0) (au.t (κ:=0) rfl 4 (by simp))
 ·have hr:jN p i n=if (bF n).all (dI p i) then 0 else 7:=by rw [r4,if_neg h9]
  refine aad rfl ?_;simp [h9];apply hK2;clear hK2 K2;refine aat ?_;refine aah ?_;simp;exact tail _ _ (by simp) (by simp) (by simp) hr
end Go.Am

namespace Go.Am
open Go.Am.Ty Go.Proofs N
set_option maxHeartbeats 4000000 in
theorem Dp (m:Int)(p:PD)(hp:p.ok)(hg:dS p=0)(i:Nat)(hi:i<p.ns):aj Tryz.prog (GG m) 93 [p.A,.c (.d (.int .i64 i))] (.c (.d (.int .i64 (wE p i (p.st i))))):=by
 obtain⟨g1,g2,g3,_,_,g4,_⟩:=qJ hg;have hx:=fun lv=>ixS hp lv (i:Int) (by omega) (by omega)
 simp only [Int.toNat_natCast] at hx;generalize p.st i=s at *
 have hw1:=j9 (GG m) s.1 p.head;have hw2:=j9 (GG m) s.2 p.tail
 by_cases h1:0≤s.1∧s.1<p.head
 rotate_left
 ·have hd:decide (0≤s.1∧s.1<p.head)=false:=decide_eq_false h1;have hr:wE p i s=7:=by unfold wE;rw [if_pos h1]
  rw [hd] at hw1;refine aj.aH Tryz.func93 rfl (by rw [Tryz.ntmps93];simp) ?_;rintro⟨_,_,w0,F0,W0,_,bq,β0⟩ rfl rfl rfl;refine aac fun K hK=>?_;refine aad rfl ?_;simp;apply hK;clear hK K;refine aac fun K hK=>?_;refine aad rfl ?_;simp [hx,ak];apply hK;clear hK K;refine aac fun K hK=>?_;refine aac fun K1 hK1=>?_;refine aad rfl ?_;simp;refine ai.p 2 9 hw1 ?_;simp;apply hK1;clear hK1 K1;refine aaq ?_;refine aac fun K1 hK1=>?_;refine aad rfl ?_;simp;apply hK1;clear hK1 K1;exact aag (κ:=0) (au.t (κ:=0) rfl 4 (by simp [hr]))
 have hd:decide (0≤s.1∧s.1<p.head)=true:=decide_eq_true h1;rw [hd] at hw1
 by_cases h2:0≤s.2∧s.2<p.tail
 rotate_left
 ·have hd2:decide (0≤s.2∧s.2<p.tail)=false:=decide_eq_false h2;have hr:wE p i s=7:=by unfold wE;rw [if_neg (not_not_intro h1),if_pos h2]
  rw [hd2] at hw2;refine aj.aH Tryz.func93 rfl (by rw [Tryz.ntmps93];simp) ?_;rintro⟨_,_,w0,F0,W0,_,bq,β0⟩ rfl rfl rfl;refine aac fun K hK=>?_;refine aad rfl ?_;simp;apply hK;clear hK K;refine aac fun K hK=>?_;refine aad rfl ?_;simp [hx,ak];apply hK;clear hK K;refine aac fun K hK=>?_;refine aac fun K1 hK1=>?_;refine aad rfl ?_;simp;refine ai.p 2 9 hw1 ?_;simp;refine ai.p 2 9 hw2 ?_;simp;apply hK1;clear hK1 K1;refine aaq ?_;refine aac fun K1 hK1=>?_;refine aad rfl ?_;simp;apply hK1;clear hK1 K1;exact aag (κ:=0) (au.t (κ:=0) rfl 4 (by simp [hr]))
 have hd2:decide (0≤s.2∧s.2<p.tail)=true:=decide_eq_true h2;rw [hd2] at hw2;have x1:=fun lv=>UK hp lv s.1 h1.1 (by omega)
 have x2:=fun lv=>UK hp lv s.2 h2.1 (by omega)
 have hr:wE p i s=if (p.nd s.2.toNat).f≠(p.nd s.1.toNat).f then 143 else if (List.range p.nn).any (fun j=>gY i (p.nd s.1.toNat).f (p.nd j)) then 143 else 0:=by
  unfold wE;rw [if_neg (not_not_intro h1),if_neg (not_not_intro h2)]
 generalize p.nd s.1.toNat=n1 at *
 generalize p.nd s.2.toNat=n2 at *
 refine aj.lS Tryz.func93 rfl (by rw [Tryz.ntmps93];simp)  ?_;rintro⟨_,_,w0,F0,W0,_,bq,β0⟩ rfl rfl rfl rfl;refine aac fun K hK=>?_;refine aad rfl ?_;simp;apply hK;clear hK K;refine aac fun K hK=>?_;refine aad rfl ?_;simp [hx,ak];apply hK;clear hK K;refine aac fun K hK=>?_;refine aac fun K1 hK1=>?_;refine aad rfl ?_;simp;refine ai.p 2 9 hw1 ?_;simp;refine ai.p 2 9 hw2 ?_;simp;apply hK1;clear hK1 K1;refine aat ?_;refine aah ?_;simp;apply hK;clear hK K;refine aac fun K hK=>?_;refine aad rfl ?_;simp [x1];apply hK;clear hK K;refine aac fun K hK=>?_;refine aac fun K1 hK1=>?_
 by_cases h3:n2.f=n1.f
 rotate_left
 ·have hr2:wE p i s=143:=by rw [hr,if_pos h3]
  refine aad rfl ?_;simp [x2,h3];apply hK1;clear hK1 K1;refine aaq ?_;refine aac fun K1 hK1=>?_;refine aad rfl ?_;simp;apply hK1;clear hK1 K1;exact aag (κ:=0) (au.t (κ:=0) (t:=4) rfl 9 (by simp [hr2]))
 refine aad rfl ?_;simp [x2,h3];apply hK1;clear hK1 K1;refine aat ?_;refine aah ?_;simp;apply hK;clear hK K;refine aac fun K hK=>?_;refine aac fun K1 hK1=>?_;refine aad rfl ?_;simp;apply hK1;clear hK1 K1;refine aak ?_
 refine aax (fun (j:Nat)=>⟨bt [(1,.c (.d (.int .i64 i))),(2,.c (.ptr 0 0)),(6,.c (.d (.int .i64 n1.f))),(7,.c (.d (.int .i64 j)))],aJ (aJ (fun _=>.hole) 0 (.cells true false 27 p.cs)) 1 (.cells true false 69 [.d (.int .i64 s.1),.d (.int .i64 s.2)])⟩) 2
  (fun j=>j≤p.nn∧∀ q,q<j→gY i n1.f (p.nd q)=false) (fun j=>p.nn - j) 0 (Le.mk' _ rfl (by repeat (first|exact aA|refine aT ?_ _ _ _ _ _|(refine aC ?_ _)|(refine noMap_blS ?_ _ _ _)|(refine noMap_upd_nils ?_ _)|simp)) (by simp)) ⟨by omega,fun q hq=>absurd hq (Nat.not_lt_zero q)⟩ ?_
 rintro j ⟨hj,hall⟩
 try simp only at hj hall
 refine aac fun K3 hK3=>aac fun K4 hK4=>?_;refine aad rfl ?_;simp [fZ];apply hK4;clear hK4 K4
 by_cases hlt:j<p.nn
 ·have hlt':(j:Int)<(p.nn:Int):=by omega
  have hxn:=fun lv=>Je p lv hp j hlt
  have f12:=bK (n:=(j:Int)+1) (by omega) (by omega);refine aap (by simp [hlt'] <;> omega) ?_;refine aah ?_;simp;apply hK3;refine aac fun K5 hK5=>?_;refine aak ?_;refine aac fun K6 hK6=>?_;refine aad rfl ?_;simp [hxn,ak];apply hK6;clear hK6 K6;refine aac fun K6 hK6=>?_;obtain⟨n,hn⟩:∃ n,p.nd j=n:=⟨_,rfl⟩
  rw [hn]
  by_cases a1:n.op=2
  rotate_left
  ·have hs:gY i n1.f (p.nd j)=false:=by rw [hn];simp [gY,a1]
   refine aad rfl ?_;simp [a1];apply hK6;clear hK6 K6;refine aat ?_;refine aah ?_;simp;apply hK5;refine aad rfl ?_;simp [f12];refine⟨j+1,(Le.drop [2]  9 _ rfl (by intro k hk;simp at hk;subst hk;simp [aJ]) (by intro k hk;simp at hk;simp only [aJ];(repeat (any_goals split)) <;> simp_all) (by simp [aJ]) (by repeat (first|exact aA|refine aT ?_ _ _ _ _ _|(refine aC ?_ _)|(refine noMap_blS ?_ _ _ _)|(refine noMap_upd_nils ?_ _)|simp)) (by repeat (first|exact jl|refine kK ?_ (by simp [yD]))) (by simp [yD])),⟨by omega,fun q hq=>?_⟩,by omega⟩
   by_cases hji:q=j
   ·subst hji;exact hs
   ·exact hall q (by omega)
  by_cases a2:n.a=(i:Int)
  rotate_left
  ·have hs:gY i n1.f (p.nd j)=false:=by rw [hn];simp [gY,a1,a2]
   refine aad rfl ?_;simp [a1,a2];apply hK6;clear hK6 K6;refine aat ?_;refine aah ?_;simp;apply hK5;refine aad rfl ?_;simp [f12];refine⟨j+1,(Le.drop [2]  9 _ rfl (by intro k hk;simp at hk;subst hk;simp [aJ]) (by intro k hk;simp at hk;simp only [aJ];(repeat (any_goals split)) <;> simp_all) (by simp [aJ]) (by repeat (first|exact aA|refine aT ?_ _ _ _ _ _|(refine aC ?_ _)|(refine noMap_blS ?_ _ _ _)|(refine noMap_upd_nils ?_ _)|simp)) (by repeat (first|exact jl|refine kK ?_ (by simp [yD]))) (by simp [yD])),⟨by omega,fun q hq=>?_⟩,by omega⟩
   by_cases hji:q=j
   ·subst hji;exact hs
   ·exact hall q (by omega)
  by_cases a3:n.f=n1.f
  ·have hs:gY i n1.f (p.nd j)=false:=by rw [hn];simp [gY,a1,a2,a3]
   refine aad rfl ?_;simp [a1,a2,a3];apply hK6;clear hK6 K6;refine aat ?_;refine aah ?_;simp;apply hK5;refine aad rfl ?_;simp [f12];refine⟨j+1,(Le.drop [2]  9 _ rfl (by intro k hk;simp at hk;subst hk;simp [aJ]) (by intro k hk;simp at hk;simp only [aJ];(repeat (any_goals split)) <;> simp_all) (by simp [aJ]) (by repeat (first|exact aA|refine aT ?_ _ _ _ _ _|(refine aC ?_ _)|(refine noMap_blS ?_ _ _ _)|(refine noMap_upd_nils ?_ _)|simp)) (by repeat (first|exact jl|refine kK ?_ (by simp [yD]))) (by simp [yD])),⟨by omega,fun q hq=>?_⟩,by omega⟩
   by_cases hji:q=j
   ·subst hji;exact hs
   ·exact hall q (by omega)
  have hs:gY i n1.f (p.nd j)=true:=by rw [hn];simp [gY,a1,a2,a3]
  have hr2:wE p i s=143:=by
   rw [hr,if_neg (not_not_intro h3),if_pos];exact List.any_eq_true.2 ⟨j,List.mem_range.2 hlt,hs⟩
  refine aad rfl ?_;simp [a1,a2,a3];apply hK6;clear hK6 K6;refine aaq ?_;refine aac fun K6 hK6=>?_;refine aad rfl ?_;simp;apply hK6;clear hK6 K6;exact aag (κ:=0) (au.t (κ:=0) (t:=4) rfl 9 (by simp [hr2]))
 ·have hlt':¬ (j:Int)<(p.nn:Int):=by omega
  have hs:(List.range p.nn).any (fun j=>gY i n1.f (p.nd j))=false:=by
   rw [List.any_eq_false];intro q hq;rw [hall q (by have:=List.mem_range.1 hq;omega)];decide
  have hr2:wE p i s=0:=by rw [hr,if_neg (not_not_intro h3),hs,if_neg (by decide)]
  refine aao (by simp [hlt'] <;> omega) ?_;refine aav ?_;simp;apply hK;refine aac fun K5 hK5=>?_;refine aad rfl ?_;simp;apply hK5;clear hK5 K5;exact aag (κ:=0) (au.t (κ:=0) (t:=4) rfl 9 (by simp [hr2]))
end Go.Am

namespace Go.Am
open Go.Am.Ty Go.Proofs N
theorem nw {p:PD}(n:Nat) {k i:Nat}(hi:i<jH p k) (h0:cx p k i≠0) (h1:∀ j,j<i→cx p k j=0):er p (n+1) k=((k:Int)+1,(i:Int),cx p k i):=by
 show (match lF (cx p k) (jH p k) with|some i=>((k:Int)+1,(i:Int),cx p k i)|none=>er p n (k+1))=_;rw [s9 hi h0 h1]
theorem lN {p:PD}(n:Nat) {k:Nat}(h1:∀ j,j<jH p k→cx p k j=0):er p (n+1) k=er p n (k+1):=by
 show (match lF (cx p k) (jH p k) with|some i=>((k:Int)+1,(i:Int),cx p k i)|none=>er p n (k+1))=_;rw [tc h1]
abbrev Y5 (v:Int × Int × Int):AV:=.tup [.c (.d (.int .i64 v.1)),.c (.d (.int .i64 v.2.1)),.c (.d (.int .i64 v.2.2))]
set_option maxHeartbeats 8000000 in
theorem sL (m:Int)(p:PD)(hp:p.ok):aj Tryz.prog (GG m) 32 [p.A] (Y5 (iO p)):=by
 have hge:=Dt (GG m) p
 by_cases hg:dS p=0
 rotate_left
 ·have hr:iO p=(0,0,dS p):=by unfold iO;rw [if_pos hg]
  rw [hr];refine aj.aH Tryz.func32 rfl (by rw [Tryz.ntmps32];simp) ?_;rintro⟨_,_,w0,F0,W0,_,bq,β0⟩ rfl rfl rfl;refine aac fun K hK=>?_;refine aad rfl ?_;simp;apply hK;clear hK K;refine aac fun K hK=>?_;refine aad rfl ?_;simp;refine ai.p 1 9 hge ?_;simp;apply hK;clear hK K;refine aac fun K hK=>?_;refine aac fun K1 hK1=>?_;refine aad rfl ?_;simp;apply hK1;clear hK1 K1;refine aap (by simp [hg] <;> omega) ?_;refine aac fun K1 hK1=>?_;refine aad rfl ?_;simp;apply hK1;clear hK1 K1;exact aag (κ:=0) (au.nW (κ:=0) rfl 9 (by simp) (by simp) (by simp) rfl rfl rfl rfl rfl rfl rfl (by decide) (by decide) (by decide))
 have v0:iO p=er p 4 0:=by unfold iO;rw [if_neg (not_not_intro hg)]
 rw [hg] at hge;have hrg:=qJ hg;have hwi:=j9 (GG m) p.res p.nn;have hse:=nr (GG m) p p.res;have q0:=fun i=>sY (GG m) (p.fm i).1 (p.fm i).2
 have q1:=fun i=>Dk m p hp (p.GF i)
 have q2:=fun i hi=>Gd m p hp i hi (by omega)
 have q3:=fun i hi=>Dp m p hp hg i hi
 have x0:∀ lv (i:Nat),i<p.nf→az Tryz.prog 22 lv (.c (iU p.f)) (.c (.d (.int .i64 (i:Int))))=some (.c (.d (.ptr (WK (p.fm i)))),[],[],True):=by
  intro lv i hi;have:=V7 hp lv (i:Int) (by omega) (by omega)
  rwa [Int.toNat_natCast] at this
 have x1:=fun lv i hi=>Zj p lv hp i hi
 refine aj.lS Tryz.func32 rfl (by rw [Tryz.ntmps32];simp)  ?_;rintro⟨_,_,w0,F0,W0,_,bq,β0⟩ rfl rfl rfl rfl;refine aac fun K hK=>?_;refine aad rfl ?_;simp;apply hK;clear hK K;refine aac fun K hK=>?_;refine aad rfl ?_;simp;refine ai.p 1 9 hge ?_;simp;apply hK;clear hK K;refine aac fun K hK=>?_;refine aac fun K1 hK1=>?_;refine aad rfl ?_;simp;apply hK1;clear hK1 K1;refine aat ?_;refine aah ?_;simp;apply hK;clear hK K;refine aac fun Ka0 hKa0=>?_;refine aac fun K1 hK1=>?_;refine aad rfl ?_;simp;apply hK1;clear hK1 K1;refine aak ?_
 refine aax (fun (i:Nat)=>⟨bt [(1,.c (.ptr 0 0)),(6,.c (.d (.int .i64 i)))],aJ (fun _=>.hole) 0 (.cells true false 27 p.cs)⟩) 2
  (fun i=>i≤p.nf∧∀ j,j<i→cx p 0 j=0) (fun i=>p.nf - i) 0 (Le.mk' _ (by simp) (by repeat (first|exact aA|refine aT ?_ _ _ _ _ _|(refine aC ?_ _)|(refine noMap_blS ?_ _ _ _)|(refine noMap_upd_nils ?_ _)|simp)) (by simp)) ⟨by omega,fun j hj=>absurd hj (Nat.not_lt_zero j)⟩ ?_
 rintro i ⟨hi,hall⟩
 try simp only at hi hall
 refine aac fun K3 hK3=>aac fun K4 hK4=>?_;refine aad rfl ?_;simp [sF];apply hK4;clear hK4 K4
 by_cases hlt:i<p.nf
 ·have hlt':(i:Int)<(p.nf:Int):=by omega
  have f12:=bK (n:=(i:Int)+1) (by omega) (by omega);have hxn:=fun lv=>x0 lv i hlt
  have hcc:=q0 i;have hE:fk (p.fm i).1 (p.fm i).2=cx p 0 i:=rfl;rw [hE] at hcc;refine aap (by simp [hlt'] <;> omega) ?_;refine aah ?_;simp;apply hK3;refine aac fun K5 hK5=>?_;refine aak ?_;refine aac fun K6 hK6=>?_;refine aad rfl ?_;simp [hxn];refine ai.p 3 9 hcc ?_;simp;apply hK6;clear hK6 K6;refine aac fun K6 hK6=>?_;refine aad rfl ?_;simp;apply hK6;clear hK6 K6
  by_cases h0:cx p 0 i=0
  ·refine aao (by simp [h0] <;> omega) ?_;refine aah ?_;simp;apply hK5;refine aad rfl ?_;simp [f12];refine⟨i+1,Le.mk' _ (by simp) (by repeat (first|exact aA|refine aT ?_ _ _ _ _ _|(refine aC ?_ _)|(refine noMap_blS ?_ _ _ _)|(refine noMap_upd_nils ?_ _)|simp)) (by simp),⟨by omega,fun j hj=>?_⟩,by omega⟩
   by_cases hji:j=i
   ·subst hji;exact h0
   ·exact hall j (by omega)
  ·have hres:=v0.trans (nw 3 (k:=0) (i:=i) hlt h0 hall);refine aap (by simp [h0] <;> omega) ?_;refine aac fun K6 hK6=>?_;refine aad rfl ?_;simp;apply hK6;clear hK6 K6;exact aag (κ:=0) (au.nW (κ:=0) rfl 9 (by simp [hres]) (by simp [hres]) (by simp [hres]) rfl rfl rfl (by simp) rfl rfl rfl (by decide) (by decide) (by decide))
 have hlt':¬ (i:Int)<(p.nf:Int):=by omega
 have v1:=v0.trans (lN 3 (k:=0) (fun j (hj:j<p.nf)=>hall j (by omega)));refine aao (by simp [hlt'] <;> omega) ?_;refine aav ?_;simp;clear hall hlt hlt';apply hKa0;refine aac fun Ka1 hKa1=>?_;refine aac fun K1 hK1=>?_;refine aad rfl ?_;simp;apply hK1;clear hK1 K1;refine aak ?_
 refine aax (fun (i:Nat)=>⟨bt [(1,.c (.ptr 0 0)),(8,.c (.d (.int .i64 i)))],aJ (fun _=>.hole) 0 (.cells true false 27 p.cs)⟩) 2
  (fun i=>i≤p.ni∧∀ j,j<i→cx p 1 j=0) (fun i=>p.ni - i) 0 (Le.mk' _ (by simp) (by repeat (first|exact aA|refine aT ?_ _ _ _ _ _|(refine aC ?_ _)|(refine noMap_blS ?_ _ _ _)|(refine noMap_upd_nils ?_ _)|simp)) (by simp)) ⟨by omega,fun j hj=>absurd hj (Nat.not_lt_zero j)⟩ ?_
 rintro i ⟨hi,hall⟩
 try simp only at hi hall
 refine aac fun K3 hK3=>aac fun K4 hK4=>?_;refine aad rfl ?_;simp [wF];apply hK4;clear hK4 K4
 by_cases hlt:i<p.ni
 ·have hlt':(i:Int)<(p.ni:Int):=by omega
  have f12:=bK (n:=(i:Int)+1) (by omega) (by omega);have hxn:=fun lv=>x1 lv i hlt
  have hcc:=q1 i;have hE:sS p (p.GF i)=cx p 1 i:=rfl;rw [hE] at hcc;refine aap (by simp [hlt'] <;> omega) ?_;refine aah ?_;simp;apply hK3;refine aac fun K5 hK5=>?_;refine aak ?_;refine aac fun K6 hK6=>?_;refine aay mixed (by kernel_rfl) rfl ?_;simp [hxn];refine ai.p 3 9 hcc ?_;simp;refine⟨by kernel_rfl,?_⟩;apply hK6;clear hK6 K6;refine aac fun K6 hK6=>?_;refine aad rfl ?_;simp;apply hK6;clear hK6 K6
  by_cases h0:cx p 1 i=0
  ·refine aao (by simp [h0] <;> omega) ?_;refine aah ?_;simp;apply hK5;refine aad rfl ?_;simp [f12];refine⟨i+1,Le.mk' _ (by simp) (by repeat (first|exact aA|refine aT ?_ _ _ _ _ _|(refine aC ?_ _)|(refine noMap_blS ?_ _ _ _)|(refine noMap_upd_nils ?_ _)|simp)) (by simp),⟨by omega,fun j hj=>?_⟩,by omega⟩
   by_cases hji:j=i
   ·subst hji;exact h0
   ·exact hall j (by omega)
  ·have hres:=v1.trans (nw 2 (k:=1) (i:=i) hlt h0 hall);refine aap (by simp [h0] <;> omega) ?_;refine aac fun K6 hK6=>?_;refine aad rfl ?_;simp;apply hK6;clear hK6 K6;exact aag (κ:=0) (au.nW (κ:=0) rfl 9 (by simp [hres]) (by simp [hres]) (by simp [hres]) rfl rfl rfl (by simp) rfl rfl rfl (by decide) (by decide) (by decide))
 have hlt':¬ (i:Int)<(p.ni:Int):=by omega
 have v2:=v1.trans (lN 2 (k:=1) (fun j (hj:j<p.ni)=>hall j (by omega)));refine aao (by simp [hlt'] <;> omega) ?_;refine aav ?_;simp;clear hall hlt hlt';apply hKa1;refine aac fun Ka2 hKa2=>?_;refine aac fun K1 hK1=>?_;refine aad rfl ?_;simp;apply hK1;clear hK1 K1;refine aak ?_
 refine aax (fun (i:Nat)=>⟨bt [(1,.c (.ptr 0 0)),(10,.c (.d (.int .i64 i)))],aJ (fun _=>.hole) 0 (.cells true false 27 p.cs)⟩) 2
  (fun i=>i≤p.nn∧∀ j,j<i→cx p 2 j=0) (fun i=>p.nn - i) 0 (Le.mk' _ (by simp) (by repeat (first|exact aA|refine aT ?_ _ _ _ _ _|(refine aC ?_ _)|(refine noMap_blS ?_ _ _ _)|(refine noMap_upd_nils ?_ _)|simp)) (by simp)) ⟨by omega,fun j hj=>absurd hj (Nat.not_lt_zero j)⟩ ?_
 rintro i ⟨hi,hall⟩
 try simp only at hi hall
 refine aac fun K3 hK3=>aac fun K4 hK4=>?_;refine aad rfl ?_;simp [fZ];apply hK4;clear hK4 K4
 by_cases hlt:i<p.nn
 ·have hlt':(i:Int)<(p.nn:Int):=by omega
  have f12:=bK (n:=(i:Int)+1) (by omega) (by omega);have hxn:=True.intro;have hcc:=q2 i hlt;have hE:jN p i (p.nd i)=cx p 2 i:=rfl;rw [hE] at hcc;refine aap (by simp [hlt'] <;> omega) ?_;refine aah ?_;simp;apply hK3;refine aac fun K5 hK5=>?_;refine aak ?_;refine aac fun K6 hK6=>?_;refine aad rfl ?_;simp;refine ai.p 3 9 hcc ?_;simp;apply hK6;clear hK6 K6;refine aac fun K6 hK6=>?_;refine aad rfl ?_;simp;apply hK6;clear hK6 K6
  by_cases h0:cx p 2 i=0
  ·refine aao (by simp [h0] <;> omega) ?_;refine aah ?_;simp;apply hK5;refine aad rfl ?_;simp [f12];refine⟨i+1,Le.mk' _ (by simp) (by repeat (first|exact aA|refine aT ?_ _ _ _ _ _|(refine aC ?_ _)|(refine noMap_blS ?_ _ _ _)|(refine noMap_upd_nils ?_ _)|simp)) (by simp),⟨by omega,fun j hj=>?_⟩,by omega⟩
   by_cases hji:j=i
   ·subst hji;exact h0
   ·exact hall j (by omega)
  ·have hres:=v2.trans (nw 1 (k:=2) (i:=i) hlt h0 hall);refine aap (by simp [h0] <;> omega) ?_;refine aac fun K6 hK6=>?_;refine aad rfl ?_;simp;apply hK6;clear hK6 K6;exact aag (κ:=0) (au.nW (κ:=0) rfl 9 (by simp [hres]) (by simp [hres]) (by simp [hres]) rfl rfl rfl (by simp) rfl rfl rfl (by decide) (by decide) (by decide))
 have hlt':¬ (i:Int)<(p.nn:Int):=by omega
 have v3:=v2.trans (lN 1 (k:=2) (fun j (hj:j<p.nn)=>hall j (by omega)));refine aao (by simp [hlt'] <;> omega) ?_;refine aav ?_;simp;clear hall hlt hlt';apply hKa2;refine aac fun Ka3 hKa3=>?_;refine aac fun K1 hK1=>?_;refine aad rfl ?_;simp;apply hK1;clear hK1 K1;refine aak ?_
 refine aax (fun (i:Nat)=>⟨bt [(1,.c (.ptr 0 0)),(12,.c (.d (.int .i64 i)))],aJ (fun _=>.hole) 0 (.cells true false 27 p.cs)⟩) 2
  (fun i=>i≤p.ns∧∀ j,j<i→cx p 3 j=0) (fun i=>p.ns - i) 0 (Le.mk' _ (by simp) (by repeat (first|exact aA|refine aT ?_ _ _ _ _ _|(refine aC ?_ _)|(refine noMap_blS ?_ _ _ _)|(refine noMap_upd_nils ?_ _)|simp)) (by simp)) ⟨by omega,fun j hj=>absurd hj (Nat.not_lt_zero j)⟩ ?_
 rintro i ⟨hi,hall⟩
 try simp only at hi hall
 refine aac fun K3 hK3=>aac fun K4 hK4=>?_;refine aad rfl ?_;simp [wG];apply hK4;clear hK4 K4
 by_cases hlt:i<p.ns
 ·have hlt':(i:Int)<(p.ns:Int):=by omega
  have f12:=bK (n:=(i:Int)+1) (by omega) (by omega);have hxn:=True.intro;have hcc:=q3 i hlt;have hE:wE p i (p.st i)=cx p 3 i:=rfl;rw [hE] at hcc;refine aap (by simp [hlt'] <;> omega) ?_;refine aah ?_;simp;apply hK3;refine aac fun K5 hK5=>?_;refine aak ?_;refine aac fun K6 hK6=>?_;refine aad rfl ?_;simp;refine ai.p 3 9 hcc ?_;simp;apply hK6;clear hK6 K6;refine aac fun K6 hK6=>?_;refine aad rfl ?_;simp;apply hK6;clear hK6 K6
  by_cases h0:cx p 3 i=0
  ·refine aao (by simp [h0] <;> omega) ?_;refine aah ?_;simp;apply hK5;refine aad rfl ?_;simp [f12];refine⟨i+1,Le.mk' _ (by simp) (by repeat (first|exact aA|refine aT ?_ _ _ _ _ _|(refine aC ?_ _)|(refine noMap_blS ?_ _ _ _)|(refine noMap_upd_nils ?_ _)|simp)) (by simp),⟨by omega,fun j hj=>?_⟩,by omega⟩
   by_cases hji:j=i
   ·subst hji;exact h0
   ·exact hall j (by omega)
  ·have hres:=v3.trans (nw 0 (k:=3) (i:=i) hlt h0 hall);refine aap (by simp [h0] <;> omega) ?_;refine aac fun K6 hK6=>?_;refine aad rfl ?_;simp;apply hK6;clear hK6 K6;exact aag (κ:=0) (au.nW (κ:=0) rfl 9 (by simp [hres]) (by simp [hres]) (by simp [hres]) rfl rfl rfl (by simp) rfl rfl rfl (by decide) (by decide) (by decide))
 have hlt':¬ (i:Int)<(p.ns:Int):=by omega
 have v4:=v3.trans (lN 0 (k:=3) (fun j (hj:j<p.ns)=>hall j (by omega)));refine aao (by simp [hlt'] <;> omega) ?_;refine aav ?_;simp;clear hall hlt hlt';apply hKa3;have hfin:iO p=if 0≤p.res∧p.res<p.nn∧lM p p.res≠1 then (0,0,0) else (5,0,7):=v4
 refine aac fun K hK=>?_;refine aac fun K1 hK1=>?_
 by_cases h1:0≤p.res∧p.res<p.nn
 rotate_left
 ·have hd:decide (0≤p.res∧p.res<(p.nn:Int))=false:=decide_eq_false h1;have hres:iO p=(5,0,7):=by rw [hfin,if_neg (fun h=>h1 ⟨h.1,h.2.1⟩)]
  rw [hd] at hwi;refine aad rfl ?_;simp [fZ];refine ai.p 3 9 hwi ?_;simp;apply hK1;clear hK1 K1;refine aaq ?_;refine aac fun K1 hK1=>?_;refine aad rfl ?_;simp;apply hK1;clear hK1 K1;exact aag (κ:=0) (au.nW (κ:=0) rfl 9 (by simp [hres]) (by simp [hres]) (by simp [hres]) rfl rfl rfl (by simp) rfl rfl rfl (by decide) (by decide) (by decide))
 have hd:decide (0≤p.res∧p.res<(p.nn:Int))=true:=decide_eq_true h1;rw [hd] at hwi
 by_cases h2:lM p p.res=1
 ·have hres:iO p=(5,0,7):=by rw [hfin,if_neg (fun h=>h.2.2 h2)]
  rw [h2] at hse;refine aad rfl ?_;simp [fZ];refine ai.p 3 9 hwi ?_;simp;refine ai.p 3 9 hse ?_;simp;apply hK1;clear hK1 K1;refine aaq ?_;refine aac fun K1 hK1=>?_;refine aad rfl ?_;simp;apply hK1;clear hK1 K1;exact aag (κ:=0) (au.nW (κ:=0) rfl 9 (by simp [hres]) (by simp [hres]) (by simp [hres]) rfl rfl rfl (by simp) rfl rfl rfl (by decide) (by decide) (by decide))
 ·have hres:iO p=(0,0,0):=by rw [hfin,if_pos ⟨h1.1,h1.2,h2⟩]
  refine aad rfl ?_;simp [fZ];refine ai.p 3 9 hwi ?_;simp;refine ai.p 3 9 hse ?_;simp [h2];apply hK1;clear hK1 K1;refine aao (by simp [h2] <;> omega) ?_;refine aah ?_;simp;apply hK;clear hK K;refine aac fun K hK=>?_;refine aad rfl ?_;simp;apply hK;clear hK K;exact aag (κ:=0) (au.nW (κ:=0) rfl 9 (by simp [hres]) (by simp [hres]) (by simp [hres]) rfl rfl rfl (by simp) rfl rfl rfl (by decide) (by decide) (by decide))
end Go.Am
