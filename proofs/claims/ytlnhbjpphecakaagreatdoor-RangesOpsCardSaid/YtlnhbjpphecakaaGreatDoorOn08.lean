/- Helpers: an abstract machine for Go functions, and walks of functions of the program. -/
import Derived.Test.YtlnhbjpphecakaaGreatDoorOn07
import Derived.Lib.IndexMore

set_option linter.all false
set_option maxHeartbeats 8000000
set_option maxRecDepth 100000
namespace Go.Am
open Go.Am.Ty Go.Proofs N
structure Dv (dV:List Nat) (n la m U0:Nat):Prop where
 hn:2≤n
 hla:la≤1000000000000
 hm:m+n=la+1
 hm1:1≤m
 okV:ok 4294967296 dV
 lenV:dV.length=n
 topV:2147483648≤dV.getD (n - 1) 0
def dvI (dV:List Nat)(n m U0:Nat)(p:Nat × List Nat × List Nat × List Nat):Prop:=
 p.1≤m∧p.2.1.length=p.1∧p.2.2.1.length=n∧ok 4294967296 p.2.1∧ok 4294967296 p.2.2.1∧p.2.2.2.length+p.1=m∧ok 4294967296 p.2.2.2∧val 4294967296 p.2.2.1<val 4294967296 dV ∧
  val 4294967296 p.2.1+4294967296 ^ p.1*(val 4294967296 p.2.2.1+val 4294967296 dV*val 4294967296 p.2.2.2)=U0
def dvS (dV:List Nat)(n la m s:Nat)(p:Nat × List Nat × List Nat × List Nat):LSt:=
 ⟨frOf [(4,.c (.lsl 1 0 m 1)),(6,.c (.d (.int .i64 n))),(9,.c (.d (.int .i64 s))),(10,nK .u32 (some dV)),(11,.c (.lsl 0 0 (la+1) 1)),(12,.c (.d (.int .i64 ((p.1:Int) - 1))))],
  upd (upd (fun _=>.hole) 0 (.cells true false 194 (wK .u32 (p.2.1++p.2.2.1++List.replicate (m - p.1) 0)))) 1 (.cells true false 194 (wK .u32 (List.replicate p.1 0++p.2.2.2)))⟩
theorem norm_b {b:List Nat}{n:Nat}(hb:can 4294967296 b) (hn:b.length=n) (h1:1≤n):∃ t s,b[n - 1]?=some t∧t<4294967296∧s≤31∧blen t+s=32∧val 4294967296 b*2 ^ s<4294967296 ^ n∧4294967296 ^ (n - 1)*2147483648≤val 4294967296 b*2 ^ s:=by
 have hlt:n - 1<b.length:=by omega
 have ht0:b[n - 1]≠0:=hb.2 _ (by grind)
 have htl:b[n - 1]<4294967296:=hb.1 _ (List.getElem_mem hlt)
 have hv:=val_take_drop (B:=4294967296) b (n - 1) (by omega)
 rw [val_drop hlt,val_drop_ge (by omega)] at hv
 have hl:=val_lt (ok_take hb.1 (n - 1))
 rw [List.length_take,Nat.min_eq_left (by omega)] at hl
 refine⟨b[n - 1],32 - blen b[n - 1],List.getElem?_eq_getElem hlt,htl,?_⟩
 generalize b[n - 1]=t at *
 have hb1:=blen_le ht0
 have hb2:=blen_lt t
 have hb3:1≤blen t:=by simp [blen,ht0]
 have hb4:blen t≤32:=by
  apply Classical.byContradiction
  intro hc
  have h9:2 ^ 32≤2 ^ (blen t - 1):=Nat.pow_le_pow_right (by decide) (by omega)
  omega
 have p1:2 ^ blen t*2 ^ (32 - blen t)=4294967296:=by
  rw [← Nat.pow_add];have:blen t+(32 - blen t)=32:=by omega
  rw [this]
 have p2:2 ^ (blen t - 1)*2 ^ (32 - blen t)=2147483648:=by
  rw [← Nat.pow_add];have:blen t - 1+(32 - blen t)=31:=by omega
  rw [this]
 refine⟨by omega,by omega,?_,?_⟩
 ·have q1:val 4294967296 b+1≤4294967296 ^ (n - 1)*2 ^ blen t:=by
   have:4294967296 ^ (n - 1)*(t+1)≤4294967296 ^ (n - 1)*2 ^ blen t:=Nat.mul_le_mul_left _ hb2
   rw [Nat.mul_add,Nat.mul_one] at this
   simp only [Nat.mul_zero,Nat.add_zero] at hv
   omega
  have q2:(val 4294967296 b+1)*2 ^ (32 - blen t)≤4294967296 ^ (n - 1)*2 ^ blen t*2 ^ (32 - blen t):=Nat.mul_le_mul_right _ q1
  have q3:4294967296 ^ (n - 1)*4294967296=4294967296 ^ n:=by rw [← Nat.pow_succ];congr 1;omega
  rw [Nat.mul_assoc,p1,q3,Nat.add_mul,Nat.one_mul] at q2
  grind
 ·rw [← p2,← Nat.mul_assoc]
  refine Nat.mul_le_mul_right _ ?_
  have:4294967296 ^ (n - 1)*2 ^ (blen t - 1)≤4294967296 ^ (n - 1)*t:=Nat.mul_le_mul_left _ hb1
  grind
theorem dgMod {B:Nat}(hB:0<B) (L n:Nat):digL B L (n % B ^ L)=digL B L n:=by
 have h:=digL_of (digL_ok hB L n) rfl
 rw [digL_len,digL_val] at h
 grind
theorem digL_addp {B:Nat}(hB:0<B) (L n:Nat):digL B L (B ^ L+n)=digL B L n:=by
 rw [← dgMod hB,Nat.add_mod_left,dgMod hB]
theorem updSwap {a b c:LB}:upd (upd (upd (fun _=>LB.hole) 0 a) 1 b) 0 c=upd (upd (fun _=>LB.hole) 0 c) 1 b:=by
 funext k
 simp only [upd]
 grind
theorem div_hard (a b:Option (List Nat))(ha:can 4294967296 (dO a))(hb:can 4294967296 (dO b))(h:val 4294967296 (dO b)≤val 4294967296 (dO a))(hn:2≤(dO b).length)(hl:(dO a).length<1000000000000) :
 ∀ G,CallsP Tryz.prog G 150 [nK .u32 a,nK .u32 b] (.tup [nK .u32 (some (dig 4294967296 (val 4294967296 (dO a) / val 4294967296 (dO b)))),nK .u32 (if val 4294967296 (dO a) % val 4294967296 (dO b)=0 then none else some (dig 4294967296 (val 4294967296 (dO a) % val 4294967296 (dO b))))]):=by
 intro G
 obtain⟨t,s,ht,htl,hs,hts,hV1,hV2⟩:=norm_b hb rfl (by omega)
 have hlen:(dO b).length≤(dO a).length:=by
  apply Classical.byContradiction
  intro hc
  have:=can_len_lt (by omega) ha hb (by omega)
  omega
 have hb0:dO b≠[]:=fun e=>by grind
 have ha0:dO a≠[]:=fun e=>by grind
 obtain⟨hk,hte⟩:=List.getElem?_eq_some_iff.1 ht
 have hlz:=bits_LeadingZeros32_ok G t htl
 have e0:(32 - (blen t:Int))=(s:Int):=by omega
 rw [e0] at hlz
 have hsb:=exact_shl_ok G b s (by omega) (by omega)
 have hsa:=exact_shl_ok G a s (by omega) (by omega)
 rw [if_neg hb0] at hsb
 rw [if_neg ha0] at hsa
 refine CallsP.en Go.Proofs.Tryz.func150 rfl fun _=>AW.q ?_
 refine AW.scope ?_
 refine AW.q ?_
 refine AW.seqK fun K hK=>AW.block (AW.seqK fun K1 hK1=>?_)
 have hc:¬ cmpN (val 4294967296 (dO a)) (val 4294967296 (dO b))<0:=by unfold cmpN;(repeat' split) <;> omega
 refine AW.rP ?_
 simp
 refine CallDo.pure 0 0 (exact_cmp_ok ha hb) rfl (by simp) rfl ?_
 simp [hc]
 apply hK1
 refine AW.fn (by rfl) (AW.q ?_)
 have hn1:¬ (dO b).length=1:=by omega
 refine AW.fn (by simp <;> omega) (AW.skip (hK _ _ ?_))
 have e1:IntKind.i64.wrap (((dO b).length:Int) - 1)=(((dO b).length - 1:Nat):Int):=by rw [w64 (by omega) (by omega)];omega
 refine AW.sr fun K hK=>?_
 simp [e1,hk,hte]
 refine CallDo.pure 0 0 hlz rfl (by simp) rfl ?_
 simp
 apply hK
 refine AW.sr fun K hK=>?_
 simp
 refine CallDo.pure 0 0 hsb (by simp) (by simp) rfl ?_
 simp
 apply hK
 have e2:=w64 (n:=((dO a).length:Int)+1) (by omega) (by omega)
 refine AW.f1 e2 ?_
 refine AW.sr fun K hK=>?_
 simp
 refine CallDo.pure 1 5 hsa (by simp) (by simp) (by simp) ?_
 simp [stepCopy,srcA_nK]
 have hA:=dig_lt (B:=4294967296) (n:=val 4294967296 (dO a)) (by decide)
 rw [← dig_of (by decide) ha rfl] at hA
 have hU1:val 4294967296 (dO a)*2 ^ s<4294967296 ^ (dO a).length*2 ^ s:=Nat.mul_lt_mul_of_pos_right hA (Nat.pow_pos (by decide))
 have hs31:(2:Nat) ^ s≤2147483648:=Nat.pow_le_pow_right (n:=2) (by decide) hs
 have hU2:val 4294967296 (dO a)*2 ^ s<4294967296 ^ ((dO a).length+1):=by
  rw [Nat.pow_succ]
  refine Nat.lt_of_lt_of_le hU1 (Nat.mul_le_mul_left _ (by omega))
 have hApos:0<val 4294967296 (dO a):=can_pos ha ha0
 have hBpos:0<val 4294967296 (dO b):=can_pos hb hb0
 have hU0:val 4294967296 (dO a)*2 ^ s≠0:=Nat.ne_of_gt (Nat.mul_pos hApos (Nat.pow_pos (by decide)))
 have hV0:val 4294967296 (dO b)*2 ^ s≠0:=Nat.ne_of_gt (Nat.mul_pos hBpos (Nat.pow_pos (by decide)))
 have hUl:=dig_len_le (by decide) hU2
 have hUp:0<(dig 4294967296 (val 4294967296 (dO a)*2 ^ s)).length:=List.length_pos_iff.2 (fun e=>hU0 ((dig_nil (by decide)).1 e))
 have okU:=(dig_can (B:=4294967296) (by decide) (val 4294967296 (dO a)*2 ^ s)).1
 have vU:=dig_val (B:=4294967296) (by decide) (val 4294967296 (dO a)*2 ^ s)
 have canV:=dig_can (B:=4294967296) (by decide) (val 4294967296 (dO b)*2 ^ s)
 have vV:=dig_val (B:=4294967296) (by decide) (val 4294967296 (dO b)*2 ^ s)
 have lV:(dig 4294967296 (val 4294967296 (dO b)*2 ^ s)).length=(dO b).length:=by
  refine Nat.le_antisymm (dig_len_le (by decide) hV1) ?_
  apply Classical.byContradiction
  intro hc
  have g1:=dig_lt (B:=4294967296) (n:=val 4294967296 (dO b)*2 ^ s) (by decide)
  have g2:4294967296 ^ (dig 4294967296 (val 4294967296 (dO b)*2 ^ s)).length≤4294967296 ^ ((dO b).length - 1):=Nat.pow_le_pow_right (by decide) (by omega)
  have g3:4294967296 ^ ((dO b).length - 1)*1≤4294967296 ^ ((dO b).length - 1)*2147483648:=Nat.mul_le_mul_left _ (by decide)
  omega
 have hq:val 4294967296 (dO a) / val 4294967296 (dO b)=(val 4294967296 (dO a)*2 ^ s) / (val 4294967296 (dO b)*2 ^ s):=(Nat.mul_div_mul_right _ _ (Nat.pow_pos (by decide))).symm
 have hr:(val 4294967296 (dO a)*2 ^ s) % (val 4294967296 (dO b)*2 ^ s)=(val 4294967296 (dO a) % val 4294967296 (dO b))*2 ^ s:=Nat.mul_mod_mul_right _ _ _
 generalize hdV:dig 4294967296 (val 4294967296 (dO b)*2 ^ s)=dV at *
 generalize hdU:dig 4294967296 (val 4294967296 (dO a)*2 ^ s)=dU at *
 rw [Nat.min_eq_left hUl]
 have hseg:setSeg (wK .u32 (List.replicate ((dO a).length+1) 0)) 0 ((wK .u32 dU).take dU.length)=wK .u32 (dU++List.replicate ((dO a).length+1 - dU.length) 0):=by
  simp [setSeg,wK,← List.map_take]
 refine⟨⟨hUp,hUl,by omega⟩,?_⟩
 simp only [List.take_of_length_le (by simp:(wK .u32 dU).length≤dU.length)] at hseg ⊢
 rw [wK_zeros,hseg]
 apply hK
 refine AW.at0 1 ?_
 have e3:IntKind.i64.wrap (((dO a).length:Int) - (dO b).length)=(((dO a).length - (dO b).length:Nat):Int):=by rw [w64 (by omega) (by omega)];omega
 have e4:IntKind.i64.wrap ((((dO a).length - (dO b).length:Nat):Int)+1)=(((dO a).length - (dO b).length+1:Nat):Int):=by rw [w64 (by omega) (by omega)];omega
 obtain⟨m,hm⟩:∃ m,m=(dO a).length - (dO b).length+1:=⟨_,rfl⟩
 rw [← hm] at e4
 refine AW.f2 e3 e4 ?_
 refine AW.seqK fun K hK=>AW.label ?_
 simp
 apply hK
 have e5:IntKind.i64.wrap ((m:Int) - 1)=(m:Int) - 1:=w64 (by omega) (by omega)
 refine AW.seqK fun K hK=>AW.f1 e5 ?_
 refine AW.block ?_
 have hlu:(dU++List.replicate ((dO a).length+1 - dU.length) 0).length=(dO a).length+1:=by simp;omega
 have hok:ok 4294967296 (dU++List.replicate ((dO a).length+1 - dU.length) 0):=ok_append.2 ⟨okU,ok_zeros (by decide) _⟩
 have hvu:val 4294967296 (dU++List.replicate ((dO a).length+1 - dU.length) 0)=val 4294967296 (dO a)*2 ^ s:=by rw [val_append,val_zeros,vU];omega
 generalize hu0:dU++List.replicate ((dO a).length+1 - dU.length) 0=u0 at *
 have htd:=val_take_drop (B:=4294967296) u0 m (by omega)
 have hdv:=val_div_pow hok m (by omega)
 have hrV:val 4294967296 (u0.drop m)<val 4294967296 dV:=by
  rw [← hdv,hvu,vV]
  have g1:val 4294967296 (dO a)*2 ^ s<4294967296 ^ m*(4294967296 ^ ((dO b).length - 1)*2147483648):=by
   have:4294967296 ^ (dO a).length*2 ^ s≤4294967296 ^ m*(4294967296 ^ ((dO b).length - 1)*2147483648):=by
    rw [← Nat.mul_assoc,← Nat.pow_add]
    have:m+((dO b).length - 1)=(dO a).length:=by omega
    rw [this]
    exact Nat.mul_le_mul_left _ hs31
   omega
  refine Nat.div_lt_of_lt_mul (Nat.lt_of_lt_of_le g1 (Nat.mul_le_mul_left _ hV2))
 have hI0:dvI dV (dO b).length m (val 4294967296 (dO a)*2 ^ s) (m,u0.take m,u0.drop m,[]):=by
  refine⟨Nat.le_refl _,by simp;omega,by simp;omega,ok_take hok _,ok_drop hok _,by simp,ok_nil _,hrV,?_⟩
  simp only [val_nil,Nat.mul_zero,Nat.add_zero]
  rw [← htd,hvu]
 refine AW.loopV (dvS dV (dO b).length (dO a).length m s) 2 (dvI dV (dO b).length m (val 4294967296 (dO a)*2 ^ s)) (fun p=>p.1) (m,u0.take m,u0.drop m,[]) (Le.mk' _ (by simp [wK_zeros]) (by simp) (by simp)) hI0 ?_
 rintro⟨k,lo,r,qs⟩ ⟨i1,i2,i3,i4,i5,i6,i7,i8,i9⟩
 simp only at i1 i2 i3 i4 i5 i6 i7 i8 i9
 unfold dvS
 refine AW.seqK fun K3 hK3=>AW.q ?_
 cases k with
 | zero=>
  refine AW.cn (AW.exit (hK _ _ (AW.seqK fun K hK=>?_)))
  have el:lo=[]:=List.length_eq_zero_iff.1 i2
  subst el
  simp only [val_nil,Nat.pow_zero,Nat.one_mul,Nat.zero_add] at i9
  simp only [Nat.add_zero] at i6
  have hQ:(val 4294967296 (dO a)*2 ^ s) / (val 4294967296 (dO b)*2 ^ s)=val 4294967296 qs:=by
   rw [← vV,← i9,Nat.add_mul_div_left _ _ (by omega),Nat.div_eq_of_lt i8,Nat.zero_add]
  have hR:(val 4294967296 (dO a)*2 ^ s) % (val 4294967296 (dO b)*2 ^ s)=val 4294967296 r:=by
   rw [← vV,← i9,Nat.add_mul_mod_self_left,Nat.mod_eq_of_lt i8]
  refine AW.drawP mixed (by kernel_rfl) rfl ?_
  simp
  have hlq:qs.length=m:=i6
  have hQt:trimN (qs.take m)=dig 4294967296 (val 4294967296 (dO a) / val 4294967296 (dO b)):=by
   rw [List.take_of_length_le (by omega)]
   exact trim_dig (by decide) i7 (by rw [hq,hQ])
  have hrt:(r++List.replicate m 0).take (dO b).length=r:=by rw [← i3];simp
  have hRt:trimN ((r++List.replicate m 0).take (dO b).length)=dig 4294967296 ((val 4294967296 (dO a) % val 4294967296 (dO b))*2 ^ s):=by
   rw [hrt];exact trim_dig (by decide) i5 (by omega)
  refine CallPD.frzN (l:=qs) 2 5 1 m (by omega) (by simp;rfl) (by omega) (exact_cut_ok _ _) (by simp) (by simp) (by simp) ?_
  have hlr:(dO b).length≤(dO a).length+1:=by omega
  simp [slT_28]
  repeat refine and_o ?_
  refine CallPD.frzN (l:=r++List.replicate m 0) 2 5 0 (dO b).length (by simp;omega) (by simp;rfl) (by simp;omega) (exact_cut_ok _ _) (by simp) (by simp) (by simp) ?_
  simp only [hQt,hRt]
  simp
  have hsh:∀ G,CallsP Tryz.prog G 209 [nK .u32 (some (dig 4294967296 ((val 4294967296 (dO a) % val 4294967296 (dO b))*2 ^ s))),.c (.d (.int .i64 s))] (nK .u32 (if val 4294967296 (dO a) % val 4294967296 (dO b)=0 then none else some (dig 4294967296 (val 4294967296 (dO a) % val 4294967296 (dO b))))):=by
   intro G
   have hx:(dig 4294967296 ((val 4294967296 (dO a) % val 4294967296 (dO b))*2 ^ s)).length≤1000000000000:=by
    rw [← hRt,hrt]
    exact Nat.le_trans (trim_len r) (by omega)
   have key:=exact_shr_ok G (some (dig 4294967296 ((val 4294967296 (dO a) % val 4294967296 (dO b))*2 ^ s))) s hx (by omega)
   have hs0:s / 32=0:=by omega
   simp only [dO_some,hs0] at key
   rw [dig_val (by decide),Nat.mul_div_cancel _ (Nat.pow_pos (by decide))] at key
   by_cases hz:val 4294967296 (dO a) % val 4294967296 (dO b)=0
   ·simp_all
   ·rw [if_neg hz]
    rw [if_neg] at key
    ·exact key
    ·intro hc
     have h9:=List.length_eq_zero_iff.1 (Nat.le_zero.1 hc)
     have:=(dig_nil (by decide)).1 h9
     have h8:=Nat.mul_pos (Nat.pos_of_ne_zero hz) (Nat.pow_pos (a:=2) (n:=s) (by decide))
     omega
  refine CallDo.pure 2 5 (hsh _) (by simp) (by simp) (by simp) ?_
  simp
  refine⟨by kernel_rfl,?_⟩
  apply hK
  exact AW.r0 (FinP.t2 rfl 5 (by simp) (by simp))
 | succ j=>
  refine AW.cy (AW.skip (hK3 _ _ ?_))
  rcases List.eq_nil_or_concat lo with rfl|⟨lo',x,rfl⟩
  ·simp at i2
  rw [List.concat_eq_append] at *
  have hlo:lo'.length=j:=by simp at i2;exact i2
  obtain⟨oklo,hx1⟩:=ok_append.1 i4
  have hx:x<4294967296:=(ok_cons.1 hx1).1
  have e6:((j+1:Nat):Int) - 1=j:=by omega
  simp only [e6]
  have hwl:(x::r).length=(dO b).length+1:=by simp [i3]
  have okw:ok 4294967296 (x::r):=ok_cons.2 ⟨hx,i5⟩
  have hWv:val 4294967296 (x::r)=x+4294967296*val 4294967296 r:=rfl
  have hWV:val 4294967296 (x::r)<4294967296*val 4294967296 dV:=by
   have:4294967296*(val 4294967296 r+1)≤4294967296*val 4294967296 dV:=Nat.mul_le_mul_left _ i8
   rw [Nat.mul_add] at this;omega
  have hEW:=top3 (B:=4294967296) hn hwl
  have hEV:=top2 (B:=4294967296) hn lV
  have hWl:=val_lt (ok_take okw ((dO b).length - 2))
  rw [List.length_take,Nat.min_eq_left (by omega)] at hWl
  have okV:=canV.1
  have hVl:=val_lt (ok_take okV ((dO b).length - 2))
  rw [List.length_take,Nat.min_eq_left (by omega)] at hVl
  have hv1':val 4294967296 dV / 4294967296 ^ ((dO b).length - 1)=dV[(dO b).length - 1]:=by
   rw [val_div_pow okV _ (by omega),val_drop (by omega:(dO b).length - 1<dV.length),val_drop_ge (l:=dV) (i:=(dO b).length - 1+1) (by omega)];rfl
  have hv1:2147483648≤dV[(dO b).length - 1]:=by
   rw [← hv1',Nat.le_div_iff_mul_le (Nat.pow_pos (by decide)),vV,Nat.mul_comm];exact hV2
  generalize hBL:lo'++[x]++(r++List.replicate (m - (j+1)) 0)=BL
  have hBL':lo'++(x::r)++List.replicate (m - (j+1)) 0=BL:=by rw [← hBL];simp
  have hBLl:BL.length=(dO a).length+1:=by rw [← hBL'];simp;omega
  have hb0:BL[j+(dO b).length]?=some (x::r)[(dO b).length]:=by
   rw [← hBL',← hlo,mid_get' (by omega),List.getElem?_eq_getElem (by omega)]
  have hb1:BL[j+(dO b).length - 1]?=some (x::r)[(dO b).length - 1]:=by
   have:j+(dO b).length - 1=lo'.length+((dO b).length - 1):=by omega
   rw [← hBL',this,mid_get' (by omega),List.getElem?_eq_getElem (by omega)]
  have hb2:BL[j+(dO b).length - 2]?=some (x::r)[(dO b).length - 2]:=by
   have:j+(dO b).length - 2=lo'.length+((dO b).length - 2):=by omega
   rw [← hBL',this,mid_get' (by omega),List.getElem?_eq_getElem (by omega)]
  have ha0l:(x::r)[(dO b).length]<4294967296:=okw _ (List.getElem_mem (by omega))
  have ha1l:(x::r)[(dO b).length - 1]<4294967296:=okw _ (List.getElem_mem (by omega))
  have ha2l:(x::r)[(dO b).length - 2]<4294967296:=okw _ (List.getElem_mem (by omega))
  have hv1l:dV[(dO b).length - 1]<4294967296:=okV _ (List.getElem_mem (by omega))
  have hv2l:dV[(dO b).length - 2]<4294967296:=okV _ (List.getElem_mem (by omega))
  have hxv1:(dO b).length - 1<(dO (some dV)).length:=by simp;omega
  have hxv2:(dO b).length - 2<(dO (some dV)).length:=by simp;omega
  have gv1:∀ lv,stepIndexAddr Tryz.prog 28 lv (nK .u32 (some dV)) (.c (.d (.int .i64 (((dO b).length - 1:Nat):Int))))=some (.c (.d (.ptr [DV.int .u32 (dV[(dO b).length - 1]:Int)])),[],[],True):=fun lv=>ix_nK' (by simp) hxv1
  have gv2:∀ lv,stepIndexAddr Tryz.prog 28 lv (nK .u32 (some dV)) (.c (.d (.int .i64 (((dO b).length - 2:Nat):Int))))=some (.c (.d (.ptr [DV.int .u32 (dV[(dO b).length - 2]:Int)])),[],[],True):=fun lv=>ix_nK' (by simp) hxv2
  have hEst:Est 4294967296 (4294967296 ^ ((dO b).length - 2)) (val 4294967296 dV) (val 4294967296 (x::r)) dV[(dO b).length - 1] dV[(dO b).length - 2] (val 4294967296 (dV.take ((dO b).length - 2))) ((x::r)[(dO b).length]*4294967296+(x::r)[(dO b).length - 1]) (x::r)[(dO b).length - 2] (val 4294967296 ((x::r).take ((dO b).length - 2))):=
   ⟨hEV,hEW,hVl,hWl,hv2l,ha2l,hWV,by omega,by omega⟩
  generalize (x::r)[(dO b).length]=a0 at *
  generalize (x::r)[(dO b).length - 1]=a1 at *
  generalize (x::r)[(dO b).length - 2]=a2 at *
  generalize dV[(dO b).length - 1]=v1 at *
  generalize dV[(dO b).length - 2]=v2 at *
  have l0:=wK_load? (P:=Tryz.prog) (T:=194) (by simp) .u32 hb0
  have l1:=wK_load? (P:=Tryz.prog) (T:=194) (by simp) .u32 hb1
  have l2:=wK_load? (P:=Tryz.prog) (T:=194) (by simp) .u32 hb2
  have f1:IntKind.i64.wrap ((j:Int)+(dO b).length)=((j+(dO b).length:Nat):Int):=by rw [w64 (by omega) (by omega)];omega
  have f2:IntKind.i64.wrap (((j+(dO b).length:Nat):Int) - 1)=((j+(dO b).length - 1:Nat):Int):=by rw [w64 (by omega) (by omega)];omega
  have f3:IntKind.i64.wrap (((j+(dO b).length:Nat):Int) - 2)=((j+(dO b).length - 2:Nat):Int):=by rw [w64 (by omega) (by omega)];omega
  have f4:=wu64 (n:=(a0:Int)) (by omega) (by omega)
  have f5:=wu64 (n:=(a1:Int)) (by omega) (by omega)
  have f6:=wu64 (n:=(a2:Int)) (by omega) (by omega)
  have f7:=wu64 (n:=(v1:Int)) (by omega) (by omega)
  have f8:=wu64 (n:=(v2:Int)) (by omega) (by omega)
  have f9:IntKind.u64.wrap ((a0:Int)*4294967296)=((a0*4294967296:Nat):Int):=by rw [wu64 (by omega) (by omega)];omega
  obtain⟨top,htp⟩:∃ t,t=a0*4294967296+a1:=⟨_,rfl⟩
  have f10:orI .u64 ((a0*4294967296:Nat):Int) (a1:Int)=(top:Int):=by rw [htp];exact or_add64 ha0l ha1l
  rw [← htp] at hEst
  have htop:=hEst.top_lt
  refine AW.seqK fun K5 hK5=>AW.block (AW.seqK fun K6 hK6=>?_)
  refine AW.drawQ mixed (by kernel_rfl) rfl rfl ?_
  simp [f1,f2,l0,l1,f4,f5,f9,f10,IntKind.bits,-Int.natCast_add,-Int.natCast_mul]
  repeat refine and_o ?_
  apply hK6
  have htop64:top<18446744073709551616:=by omega
  have f11:Int.tdiv (top:Int) v1=((top / v1:Nat):Int):=by rw [Int.tdiv_eq_ediv_of_nonneg (Int.natCast_nonneg top),← Int.natCast_ediv]
  have f12:Int.tmod (top:Int) v1=((top % v1:Nat):Int):=by rw [Int.tmod_eq_emod_of_nonneg (Int.natCast_nonneg top),← Int.natCast_emod]
  have hdm:=Nat.div_add_mod top v1
  have hml:top % v1<v1:=Nat.mod_lt _ (by omega)
  have hq0:val 4294967296 (x::r) / val 4294967296 dV*val 4294967296 dV≤val 4294967296 (x::r):=Nat.div_mul_le_self _ _
  have hVp:0<val 4294967296 dV:=hEst.V0
  have hq1:val 4294967296 (x::r)<(val 4294967296 (x::r) / val 4294967296 dV+1)*val 4294967296 dV:=by
   rw [Nat.mul_comm];exact Nat.lt_mul_div_succ _ hVp
  have hqB:val 4294967296 (x::r) / val 4294967296 dV<4294967296:=by rw [Nat.div_lt_iff_lt_mul hVp];exact hWV
  have hqf:=hEst.first hq0
  have hg0:top / v1≤4294967297:=by
   apply Nat.lt_succ_iff.1
   rw [Nat.div_lt_iff_lt_mul (by omega)]
   omega
  obtain⟨qt,hqt⟩:∃ qt,qt=val 4294967296 (x::r) / val 4294967296 dV:=⟨_,rfl⟩
  rw [← hqt] at hq0 hq1 hqB hqf
  obtain⟨g0,hg0'⟩:∃ g,g=top / v1:=⟨_,rfl⟩
  obtain⟨o0,ho0'⟩:∃ o,o=top % v1:=⟨_,rfl⟩
  rw [← hg0'] at f11 hdm hqf hg0
  rw [← ho0'] at f12 hdm hml
  have f13:=wu64 (n:=(g0:Int)) (by omega) (by omega)
  have hv10:¬ v1=0:=by omega
  have f14:IntKind.i64.wrap (((dO b).length:Int) - 1)=(((dO b).length - 1:Nat):Int):=e1
  refine AW.seqK fun K6 hK6=>?_
  refine AW.drawQ mixed (by kernel_rfl) rfl rfl ?_
  simp [f14,gv1,f7,f11,f12,f13,hv10]
  apply hK6
  have close:∀ (fr:Nat→AV) (κ:Nat),fr 4=.c (.lsl 1 0 m 1)→fr 6=.c (.d (.int .i64 (dO b).length))→fr 9=.c (.d (.int .i64 s))→fr 10=nK .u32 (some dV)→fr 11=.c (.lsl 0 0 ((dO a).length+1) 1)→fr 12=.c (.d (.int .i64 j)) →
   K5 ⟨fr,upd (upd (fun _=>.hole) 0 (.cells true false 194 (wK .u32 (lo'++(digL 4294967296 (dO b).length (val 4294967296 (x::r) % val 4294967296 dV)++List.replicate (m - j) 0))))) 1 (.cells true false 194 (wK .u32 (List.replicate j 0++(qt::qs))))⟩ κ:=by
   intro fr κ q4 q6 q9 q10 q11 q12
   apply hK5
   have g1:=w64 (n:=(j:Int) - 1) (by omega) (by omega)
   refine AW.rP ?_
   simp [q12,g1]
   have hml2:val 4294967296 (x::r) % val 4294967296 dV<val 4294967296 dV:=Nat.mod_lt _ hVp
   have hVn:val 4294967296 dV<4294967296 ^ (dO b).length:=by rw [vV];exact hV1
   refine⟨j,lo',digL 4294967296 (dO b).length (val 4294967296 (x::r) % val 4294967296 dV),qt::qs,Le.mk' _ (by simp) (by simp) (by simp [q4,q6,q9,q10,q11]),⟨by omega,hlo,digL_len _ _ _,oklo,digL_ok (by decide) _ _,by simp only [List.length_cons];omega,ok_cons.2 ⟨hqB,i7⟩,?_,?_⟩,by omega⟩
   ·simp only [digL_val];rw [Nat.mod_eq_of_lt (Nat.lt_trans hml2 hVn)];omega
   ·simp only [digL_val]
    rw [val_cons 4294967296 qt qs,Nat.mod_eq_of_lt (Nat.lt_trans hml2 hVn),← i9,val_append,hlo,Nat.pow_succ]
    have hdm2:=Nat.mod_add_div (val 4294967296 (x::r)) (val 4294967296 dV)
    rw [← hqt] at hdm2
    have h1:val 4294967296 (x::r) % val 4294967296 dV+val 4294967296 dV*(qt+4294967296*val 4294967296 qs)=x+4294967296*(val 4294967296 r+val 4294967296 dV*val 4294967296 qs):=by
     rw [Nat.mul_add,← Nat.add_assoc,hdm2,hWv,Nat.mul_add,Nat.mul_left_comm,Nat.add_assoc]
    rw [h1,val_cons,val_nil,Nat.mul_zero,Nat.add_zero,Nat.mul_add,Nat.mul_assoc,Nat.add_assoc]
  refine AW.seqK fun K6 hK6=>AW.block ?_
  have fin:∀ (g:Nat) (fr:Nat→AV) (κ:Nat),g<4294967296→qt≤g→g≤qt+1→fr 4=.c (.lsl 1 0 m 1)→fr 6=.c (.d (.int .i64 (dO b).length))→fr 9=.c (.d (.int .i64 s))→fr 10=nK .u32 (some dV)→fr 11=.c (.lsl 0 0 ((dO a).length+1) 1)→fr 12=.c (.d (.int .i64 j))→fr 14=.c (.d (.int .u64 g)) →
   K6 ⟨fr,upd (upd (fun _=>.hole) 0 (.cells true false 194 (wK .u32 BL))) 1 (.cells true false 194 (wK .u32 (List.replicate (j+1) 0++qs)))⟩ κ:=by
   intro g fr κ hg1 hg2 hg3 q4 q6 q9 q10 q11 q12 q14
   apply hK6
   refine AW.at0 2 ?_
   have hVn:val 4294967296 dV<4294967296 ^ (dO b).length:=by rw [vV];exact hV1
   have hmlt:val 4294967296 (x::r) % val 4294967296 dV<4294967296 ^ (dO b).length:=Nat.lt_trans (Nat.mod_lt _ hVp) hVn
   have hsn:digL 4294967296 ((dO b).length+1) (val 4294967296 (x::r) % val 4294967296 dV)=digL 4294967296 (dO b).length (val 4294967296 (x::r) % val 4294967296 dV)++[0]:=digL_snoc0 hmlt
   have hmj1:m - j=(m - (j+1))+1:=by rw [Nat.sub_succ];exact (Nat.succ_pred_eq_of_pos (Nat.sub_pos_of_lt i1)).symm
   have hmj:List.replicate (m - j) (0:Nat)=0::List.replicate (m - (j+1)) 0:=by
    rw [hmj1];exact List.replicate_succ
   have hmodq:val 4294967296 (x::r) % val 4294967296 dV=val 4294967296 (x::r) - qt*val 4294967296 dV:=by
    rw [hqt,Nat.mul_comm];exact Nat.mod_def _ _
   have hLq:List.replicate (j+1) (0:Nat)++qs=List.replicate j 0++(0::qs):=by
    rw [List.replicate_succ',List.append_assoc];rfl
   refine AW.seqK fun K7 hK7=>AW.f1 q14 ?_
   by_cases hgz:g=0
   ·refine AW.fy (by simp [hgz] <;> omega) (AW.exit ?_)
    simp
    have hqz:qt=0:=by omega
    have e9:digL 4294967296 ((dO b).length+1) (val 4294967296 (x::r))=x::r:=by rw [← hwl];exact digL_id okw
    have e8:val 4294967296 (x::r) % val 4294967296 dV=val 4294967296 (x::r):=by rw [hmodq,hqz];simp
    have e6:digL 4294967296 (dO b).length (val 4294967296 (x::r) % val 4294967296 dV)++[0]=x::r:=by rw [← hsn,e8,e9]
    have e5:∀ (A B:List Nat),A++(0::B)=(A++[0])++B:=fun A B=>by simp
    have e7:lo'++(digL 4294967296 (dO b).length (val 4294967296 (x::r) % val 4294967296 dV)++List.replicate (m - j) 0)=BL:=by
     rw [hmj,e5,e6,← hBL',List.append_assoc]
    have hcl:∀ (fr':Nat→AV) (κ':Nat),fr' 4=.c (.lsl 1 0 m 1)→fr' 6=.c (.d (.int .i64 (dO b).length))→fr' 9=.c (.d (.int .i64 s))→fr' 10=nK .u32 (some dV)→fr' 11=.c (.lsl 0 0 ((dO a).length+1) 1)→fr' 12=.c (.d (.int .i64 j)) →
     K5 ⟨fr',upd (upd (fun _=>.hole) 0 (.cells true false 194 (wK .u32 BL))) 1 (.cells true false 194 (wK .u32 (List.replicate (j+1) 0++qs)))⟩ κ':=by
     intro fr' κ' z1 z2 z3 z4 z5 z6
     have hcl:=close fr' κ' z1 z2 z3 z4 z5 z6
     rw [e7,hqz,← hLq] at hcl
     exact hcl
    exact hcl _ _ (by simp [q4]) (by simp [q6]) (by simp [q9]) (by simp [q10]) (by simp [q11]) (by simp [q12])
   ·refine AW.fn (by simp [hgz] <;> omega) (AW.skip (hK7 _ _ (AW.seqK fun K7 hK7=>AW.seqK fun K8 hK8=>?_)))
    have store:∀ (fr':Nat→AV) (κ':Nat),fr' 4=.c (.lsl 1 0 m 1)→fr' 6=.c (.d (.int .i64 (dO b).length))→fr' 9=.c (.d (.int .i64 s))→fr' 10=nK .u32 (some dV)→fr' 11=.c (.lsl 0 0 ((dO a).length+1) 1)→fr' 12=.c (.d (.int .i64 j))→fr' 14=.c (.d (.int .u64 qt)) →
     K7 ⟨fr',upd (upd (fun _=>.hole) 0 (.cells true false 194 (wK .u32 (lo'++(digL 4294967296 ((dO b).length+1) (val 4294967296 (x::r) % val 4294967296 dV)++List.replicate (m - (j+1)) 0))))) 1 (.cells true false 194 (wK .u32 (List.replicate (j+1) 0++qs)))⟩ κ':=by
     intro fr' κ' z1 z2 z3 z4 z5 z6 z7
     apply hK7
     have y1:IntKind.u32.wrap (qt:Int)=(qt:Int):=wu32 (by omega) (by omega)
     have y2:setSeg (wK .u32 (List.replicate (j+1) 0++qs)) j [CV.d (.int .u32 (qt:Int))]=wK .u32 (List.replicate j 0++(qt::qs)):=by
      rw [wK_set _ (by simp;omega),zeros_set]
     have y3:lo'++(digL 4294967296 (dO b).length (val 4294967296 (x::r) % val 4294967296 dV)++List.replicate (m - j) 0)=lo'++(digL 4294967296 ((dO b).length+1) (val 4294967296 (x::r) % val 4294967296 dV)++List.replicate (m - (j+1)) 0):=by
      rw [hmj,hsn];simp only [List.append_assoc,List.cons_append,List.nil_append]
     refine AW.rP ?_
     simp [z1,z6,z7,y1,y2,-val_cons,-List.append_assoc]
     refine⟨by omega,?_⟩
     have hcl:=close (κ:=κ'+1) (fr:=upd (upd (upd (upd (upd fr' 156 (.c (.lsl 1 0 m 1))) 157 (.c (.d (.int .i64 j)))) 158 (.c (.d (.int .u64 qt)))) 159 (.c (.d (.int .u32 qt)))) 160 (.c (.ptr 1 j))) (by simp [z1]) (by simp [z2]) (by simp [z3]) (by simp [z4]) (by simp [z5]) (by simp [z6])
     rw [y3] at hcl
     exact hcl
    have hwin:(x::r).length=(dO (some dV)).length+1:=by rw [hwl];simp [lV]
    have hT:=fun (G:List (List DV))=>exact_take_ok G lo' (x::r) (List.replicate (m - (j+1)) 0) ((dO a).length+1 - j) g (some dV) hwin (by rw [hwl];omega) okw hg1 (by rw [hBL',hBLl];omega)
    simp only [hBL',hlo,hwl,dO_some] at hT
    have hWB:val 4294967296 (x::r)<4294967296 ^ ((dO b).length+1):=by
     have:=val_lt okw;rwa [hwl] at this
    by_cases too:val 4294967296 (x::r)<g*val 4294967296 dV
    ·have hb1:takeB (val 4294967296 (x::r)) (g*val 4294967296 dV)=1:=by unfold takeB;rw [if_pos too]
     have hgq:g=qt+1:=by
      rcases Nat.lt_or_ge qt g with hc|hc
      ·omega
      ·exact absurd too (Nat.not_lt.2 (Nat.le_trans (Nat.mul_le_mul_right _ hc) hq0))
     simp only [hb1,Nat.mul_one,eq_self,decide_true] at hT
     obtain⟨R,hR⟩:∃ R,R=digL 4294967296 ((dO b).length+1) (val 4294967296 (x::r)+4294967296 ^ ((dO b).length+1) - g*val 4294967296 dV):=⟨_,rfl⟩
     simp only [← hR] at hT
     have hRl:R.length=(dO b).length+1:=by rw [hR,digL_len]
     have hRo:ok 4294967296 R:=by rw [hR];exact digL_ok (by decide) _ _
     have hgV:g*val 4294967296 dV=qt*val 4294967296 dV+val 4294967296 dV:=by rw [hgq,Nat.add_mul,Nat.one_mul]
     have hRv:val 4294967296 R+val 4294967296 dV=4294967296 ^ ((dO b).length+1)+val 4294967296 (x::r) % val 4294967296 dV:=by
      rw [hR,digL_val,hmodq]
      have hVE:val 4294967296 dV≤4294967296 ^ ((dO b).length+1):=by
       rw [Nat.pow_succ];exact Nat.le_trans (Nat.le_of_lt hVn) (Nat.le_mul_of_pos_right _ (by decide))
      have key:∀ (W E gv qv V:Nat),W<gv→gv=qv+V→qv≤W→V≤E→W+E - gv<E∧(W+E - gv)+V=E+(W - qv):=by intros;omega
      obtain⟨k1,k2⟩:=key _ _ _ _ _ too hgV hq0 hVE
      rw [Nat.mod_eq_of_lt k1]
      exact k2
     have hRd:digL 4294967296 ((dO b).length+1) (val 4294967296 R+val 4294967296 dV)=digL 4294967296 ((dO b).length+1) (val 4294967296 (x::r) % val 4294967296 dV):=by
      rw [hRv,digL_addp (by decide)]
     have hwin':R.length=(dO (some dV)).length+1:=by rw [hRl];simp [lV]
     have hll:(lo'++R++List.replicate (m - (j+1)) 0).length≤1000000000000:=by
      simp only [List.length_append,List.length_replicate,hlo,hRl];omega
     have hGv:=fun (G:List (List DV))=>exact_give_ok G lo' R (List.replicate (m - (j+1)) 0) ((dO a).length+1 - j) (some dV) hwin' (by rw [hRl];omega) hRo hll
     simp only [hlo,hRl,dO_some,hRd,List.append_assoc] at hGv
     simp only [List.append_assoc] at hT
     refine AW.rP ?_
     simp [q11,q12,q10,q14,-val_cons]
     refine⟨by omega,?_⟩
     refine CallP.pass1 3 9 0 (by simp;rfl) (wK_pure _ _) (wK_pure _ _) (hT _) rfl rfl (by
      intro i h h'
      match i,h with
      | 0,_=>exact .inr (.inl ⟨_,_,_,rfl,rfl⟩)
      | 1,_=>exact .inl ⟨by simp,rfl⟩
      | 2,_=>exact .inl ⟨rfl,rfl⟩) (by simp) (by decide) ?_
     simp [-val_cons,updSwap]
     apply hK8
     refine AW.cy (AW.seqK fun K8 hK8=>?_)
     have y5:IntKind.u64.wrap ((g:Int) - 1)=(qt:Int):=by rw [wu64 (by omega) (by omega)];omega
     refine AW.rP ?_
     simp [q14,y5,-val_cons]
     apply hK8
     refine AW.rP ?_
     simp [q11,q12,q10,-val_cons]
     refine⟨by omega,?_⟩
     refine CallP.pass1 4 9 0 (own:=true) (T:=194) (cs:=wK .u32 (lo'++(R++List.replicate (m - (j+1)) 0))) (by simp) (wK_pure _ _) (wK_pure _ _) (hGv _) rfl rfl (by
      intro i h h'
      match i,h with
      | 0,_=>exact .inr (.inl ⟨_,_,_,rfl,rfl⟩)
      | 1,_=>exact .inl ⟨by simp,rfl⟩) (by simp) (by decide) ?_
     simp [-val_cons,updSwap]
     exact store _ _ (by simp [q4]) (by simp [q6]) (by simp [q9]) (by simp [q10]) (by simp [q11]) (by simp [q12]) (by simp)
    ·have hb1:takeB (val 4294967296 (x::r)) (g*val 4294967296 dV)=0:=by unfold takeB;rw [if_neg too]
     have hgq:g=qt:=by
      rcases Nat.lt_or_ge qt g with hc|hc
      ·have:(qt+1)*val 4294967296 dV≤g*val 4294967296 dV:=Nat.mul_le_mul_right _ hc
       omega
      ·omega
     have hWm:val 4294967296 (x::r)+4294967296 ^ ((dO b).length+1)*0 - g*val 4294967296 dV=val 4294967296 (x::r) % val 4294967296 dV:=by
      rw [hmodq,hgq,Nat.mul_zero,Nat.add_zero]
     simp only [hb1,hWm,Nat.zero_ne_one,decide_false,List.append_assoc] at hT
     refine AW.rP ?_
     simp [q11,q12,q10,q14,-val_cons]
     refine⟨by omega,?_⟩
     refine CallP.pass1 3 9 0 (by simp;rfl) (wK_pure _ _) (wK_pure _ _) (hT _) rfl rfl (by
      intro i h h'
      match i,h with
      | 0,_=>exact .inr (.inl ⟨_,_,_,rfl,rfl⟩)
      | 1,_=>exact .inl ⟨by simp,rfl⟩
      | 2,_=>exact .inl ⟨rfl,rfl⟩) (by simp) (by decide) ?_
     simp [-val_cons,updSwap]
     apply hK8
     refine AW.cn (AW.skip ?_)
     simp [-val_cons]
     exact store _ _ (by simp [q4]) (by simp [q6]) (by simp [q9]) (by simp [q10]) (by simp [q11]) (by simp [q12]) (by simp [q14,hgq])
  refine AW.loopV (fun (p:Nat × Nat)=>⟨frOf [(4,.c (.lsl 1 0 m 1)),(6,.c (.d (.int .i64 (dO b).length))),(9,.c (.d (.int .i64 s))),(10,nK .u32 (some dV)),(11,.c (.lsl 0 0 ((dO a).length+1) 1)),(12,.c (.d (.int .i64 j))),(14,.c (.d (.int .u64 p.1))),(15,.c (.d (.int .u64 p.2)))],
   upd (upd (fun _=>.hole) 0 (.cells true false 194 (wK .u32 BL))) 1 (.cells true false 194 (wK .u32 (List.replicate (j+1) 0++qs)))⟩) 2
   (fun p=>p.1*v1+p.2=top∧qt≤p.1∧p.1≤4294967297∧p.2<4294967296) (fun p=>p.1) (g0,o0) (Le.mk' _ rfl (by simp) (by simp)) ⟨by rw [Nat.mul_comm];exact hdm,hqf,hg0,by omega⟩ ?_
  rintro⟨g,o⟩ ⟨w1,w2,w3,w4⟩
  simp only at w1 w2 w3 w4
  refine AW.seqK fun K7 hK7=>AW.seqK fun K8 hK8=>?_
  have dec:∀ (fr:Nat→AV) (κ:Nat),qt<g→fr 4=.c (.lsl 1 0 m 1)→fr 6=.c (.d (.int .i64 (dO b).length))→fr 9=.c (.d (.int .i64 s))→fr 10=nK .u32 (some dV)→fr 11=.c (.lsl 0 0 ((dO a).length+1) 1)→fr 12=.c (.d (.int .i64 j))→fr 14=.c (.d (.int .u64 g))→fr 15=.c (.d (.int .u64 o)) →
   K7 ⟨fr,upd (upd (fun _=>.hole) 0 (.cells true false 194 (wK .u32 BL))) 1 (.cells true false 194 (wK .u32 (List.replicate (j+1) 0++qs)))⟩ κ:=by
   intro fr κ hg q4 q6 q9 q10 q11 q12 q14 q15
   apply hK7
   refine AW.at0 2 ?_
   refine AW.block ?_
   have g1:IntKind.u64.wrap ((g:Int) - 1)=((g - 1:Nat):Int):=by rw [wu64 (by omega) (by omega)];omega
   have g2:IntKind.u64.wrap ((o:Int)+v1)=((o+v1:Nat):Int):=by rw [wu64 (by omega) (by omega)];omega
   refine AW.f2 q14 g1 ?_
   refine AW.sr fun K9 hK9=>?_
   simp [q15,q10,q6,f14,gv1,f7,g2,-Int.natCast_add]
   apply hK9
   refine AW.seqK fun K9 hK9=>?_
   have w1':(g - 1)*v1+(o+v1)=top:=by
    rw [← w1];obtain⟨g',rfl⟩:∃ g',g=g'+1:=⟨g - 1,by omega⟩
    rw [Nat.add_sub_cancel,Nat.add_mul,Nat.one_mul];omega
   by_cases ho:o+v1<4294967296
   ·have g3:Int.fdiv ((o+v1:Nat):Int) 4294967296=0:=by rw [Int.fdiv_eq_ediv_of_nonneg _ (by omega)];omega
    refine AW.rP ?_
    simp [IntKind.bits,g3,-Int.natCast_add]
    apply hK9
    refine AW.cn (AW.skip ?_)
    simp
    refine⟨g - 1,o+v1,Le.mk' _ rfl (by simp) (by simp [q4,q6,q9,q10,q11,q12]),⟨w1',by omega,by omega,ho⟩,by omega⟩
   ·have g3:Int.fdiv ((o+v1:Nat):Int) 4294967296=1:=by rw [Int.fdiv_eq_ediv_of_nonneg _ (by omega)];omega
    refine AW.rP ?_
    simp [IntKind.bits,g3,-Int.natCast_add]
    apply hK9
    refine AW.cy (AW.exit ?_)
    simp
    have hgB:g - 1<4294967296:=by
     apply Classical.byContradiction
     intro hc
     have:4294967296*v1≤(g - 1)*v1:=Nat.mul_le_mul_right _ (by omega)
     rw [Nat.mul_add] at htop
     omega
    have hnear:=hEst.near hq1 w1' hgB (by
     have h1:(g - 1)*v2≤4294967296*4294967296:=Nat.mul_le_mul (by omega) (by omega)
     omega)
    exact fin (g - 1) _ _ hgB (by omega) hnear (by simp [q4]) (by simp [q6]) (by simp [q9]) (by simp [q10]) (by simp [q11]) (by simp [q12]) (by simp)
  by_cases hgB:4294967296≤g
  ·have g1:Int.fdiv (g:Int) 4294967296=1:=by rw [Int.fdiv_eq_ediv_of_nonneg _ (by omega)];omega
   refine AW.drawQ mixed (by kernel_rfl) rfl rfl ?_
   simp [IntKind.bits,g1]
   apply hK8
   refine AW.cy (AW.skip ?_)
   simp
   exact dec _ _ (by omega) (by simp) (by simp) (by simp) (by simp) (by simp) (by simp) (by simp) (by simp)
  ·have g1:Int.fdiv (g:Int) 4294967296=0:=by rw [Int.fdiv_eq_ediv_of_nonneg _ (by omega)];omega
   have hgv:g*v2≤4294967295*4294967295:=Nat.mul_le_mul (by omega) (by omega)
   have g2:IntKind.u64.wrap ((g:Int)*v2)=((g*v2:Nat):Int):=by
    rw [← Int.natCast_mul];generalize g*v2=p at hgv;exact wu64 (by omega) (by omega)
   have g3:IntKind.u64.wrap ((o:Int)*4294967296)=((o*4294967296:Nat):Int):=by rw [wu64 (by omega) (by omega)];omega
   have g4:=or_add64 w4 ha2l
   have g5:IntKind.i64.wrap (((dO b).length:Int) - 2)=(((dO b).length - 2:Nat):Int):=by rw [w64 (by omega) (by omega)];omega
   have hgo:∀ {P Q:Nat},((P:Nat):Int)<((Q:Nat):Int)↔P<Q:=by intro P Q;omega
   refine AW.drawQ mixed (by kernel_rfl) rfl rfl ?_
   simp [IntKind.bits,g1,g5,gv2,f8,g2,g3,f1,f3,l2,f6,g4,-Int.natCast_add,-Int.natCast_mul]
   repeat refine and_o ?_
   apply hK8
   by_cases ht:o*4294967296+a2<g*v2
   ·refine AW.fy (by simp [ht] <;> omega) (AW.skip ?_)
    simp
    exact dec _ _ (hEst.over hq0 w1 ht) (by simp) (by simp) (by simp) (by simp) (by simp) (by simp) (by simp) (by simp)
   ·refine AW.fn (by simp [ht] <;> omega) (AW.exit ?_)
    simp
    exact fin g _ _ (by omega) w2 (hEst.near hq1 w1 (by omega) (by omega)) (by simp) (by simp) (by simp) (by simp) (by simp) (by simp) (by simp)
def divQ (a b:Option (List Nat)):Option (List Nat):=if val 4294967296 (dO a)<val 4294967296 (dO b) then none else some (dig 4294967296 (val 4294967296 (dO a) / val 4294967296 (dO b)))
def divR (a b:Option (List Nat)):Option (List Nat):=
 if val 4294967296 (dO a)<val 4294967296 (dO b) then a
 else if (dO b).length=1 then some (dig 4294967296 (val 4294967296 (dO a) % val 4294967296 (dO b)))
 else if val 4294967296 (dO a) % val 4294967296 (dO b)=0 then none else some (dig 4294967296 (val 4294967296 (dO a) % val 4294967296 (dO b)))
theorem divQ_d {a b:Option (List Nat)}:dO (divQ a b)=dig 4294967296 (val 4294967296 (dO a) / val 4294967296 (dO b)):=by
 unfold divQ
 split
 ·rename_i h;rw [Nat.div_eq_of_lt h];rfl
 ·rfl
theorem divR_d {a b:Option (List Nat)}(ha:can 4294967296 (dO a)):dO (divR a b)=dig 4294967296 (val 4294967296 (dO a) % val 4294967296 (dO b)):=by
 unfold divR
 split
 ·rename_i h;rw [Nat.mod_eq_of_lt h];exact dig_of (by decide) ha rfl
 ·split
  ·rfl
  ·split
   ·simp_all
   ·rfl
theorem exact_div_ok (G:List (List DV))(a b:Option (List Nat))(ha:can 4294967296 (dO a))(hb:can 4294967296 (dO b))(h0:dO b≠[])(hl:(dO a).length<1000000000000) :
 CallsP Tryz.prog G 150 [nK .u32 a,nK .u32 b] (.tup [nK .u32 (divQ a b),nK .u32 (divR a b)]):=by
 by_cases h:val 4294967296 (dO a)<val 4294967296 (dO b)
 ·have:=div_easy1 G a b ha hb h
  simpa only [divQ,divR,if_pos h] using this
 ·by_cases hn:(dO b).length=1
  ·have:=div_easy2 G a b ha hb (Nat.le_of_not_lt h) hn (Nat.le_of_lt hl)
   simpa only [divQ,divR,if_neg h,if_pos hn] using this
  ·have h1:0<(dO b).length:=List.length_pos_iff.2 h0
   have:=div_hard a b ha hb (Nat.le_of_not_lt h) (by omega) hl G
   simp only [divQ,divR,if_neg h,if_neg hn]
   grind
def gcdO (a b:Option (List Nat)):Nat→Option (List Nat)
 | 0=>a
 | n+1=>if dO b=[] then a else gcdO b (divR a b) n
theorem gcdO_end {a b:Option (List Nat)}(h:dO b=[]) (n:Nat):gcdO a b n=a:=by
 cases n <;> simp [gcdO,h]
theorem tup2_pure (o o':Option (List Nat)):(AV.tup [nK .u32 o,nK .u32 o']).pure=true:=by
 cases o <;> cases o' <;> rfl
theorem dig_len_mono {B m n:Nat}(hB:2≤B) (h:m≤n):(dig B m).length≤(dig B n).length:=
 dig_len_le hB (Nat.lt_of_le_of_lt h (dig_lt hB))
theorem gcdO_fuel:∀ (n:Nat) (a b:Option (List Nat)),can 4294967296 (dO a)→can 4294967296 (dO b)→val 4294967296 (dO b)≤n→gcdO a b n=gcdO a b (val 4294967296 (dO b))∧dO (gcdO a b n)=dig 4294967296 (Nat.gcd (val 4294967296 (dO a)) (val 4294967296 (dO b)))
 | 0,a,b,ha,hb,h=>by
  have h0:val 4294967296 (dO b)=0:=by omega
  rw [h0]
  exact⟨rfl,by rw [Nat.gcd_zero_right];exact dig_of (by decide) ha rfl⟩
 | n+1,a,b,ha,hb,h=>by
  by_cases he:dO b=[]
  ·rw [gcdO_end he,gcdO_end he]
   refine⟨rfl,?_⟩
   rw [he];simp only [val_nil,Nat.gcd_zero_right];exact dig_of (by decide) ha rfl
  ·have hv0:0<val 4294967296 (dO b):=can_pos hb he
   have hR:=divR_d (b:=b) ha
   have hRc:can 4294967296 (dO (divR a b)):=by rw [hR];exact dig_can (by decide) _
   have hlt:val 4294967296 (dO (divR a b))<val 4294967296 (dO b):=by rw [hR,dig_val (by decide)];exact Nat.mod_lt _ hv0
   obtain⟨k,hk⟩:∃ k,val 4294967296 (dO b)=k+1:=⟨val 4294967296 (dO b) - 1,by omega⟩
   have r1:=gcdO_fuel n b (divR a b) hb hRc (by omega)
   have r2:=gcdO_fuel k b (divR a b) hb hRc (by omega)
   have e1:gcdO a b (n+1)=gcdO b (divR a b) n:=by simp only [gcdO,if_neg he]
   have e2:gcdO a b (val 4294967296 (dO b))=gcdO b (divR a b) k:=by rw [hk];simp only [gcdO,if_neg he]
   refine⟨by grind,?_⟩
   rw [e1,r1.2,hR,dig_val (by decide),Nat.gcd_comm (val 4294967296 (dO b)),← Nat.gcd_rec,Nat.gcd_comm]
 termination_by n a b=>val 4294967296 (dO b)
theorem gcdO_step {a b:Option (List Nat)}(ha:can 4294967296 (dO a)) (hb:can 4294967296 (dO b)) (he:dO b≠[]):gcdO b (divR a b) (val 4294967296 (dO (divR a b)))=gcdO a b (val 4294967296 (dO b)):=by
 have hv0:0<val 4294967296 (dO b):=can_pos hb he
 have hR:=divR_d (b:=b) ha
 have hRc:can 4294967296 (dO (divR a b)):=by rw [hR];exact dig_can (by decide) _
 have hlt:val 4294967296 (dO (divR a b))<val 4294967296 (dO b):=by rw [hR,dig_val (by decide)];exact Nat.mod_lt _ hv0
 obtain⟨k,hk⟩:∃ k,val 4294967296 (dO b)=k+1:=⟨val 4294967296 (dO b) - 1,by omega⟩
 have e2:gcdO a b (val 4294967296 (dO b))=gcdO b (divR a b) k:=by rw [hk];simp only [gcdO,if_neg he]
 rw [e2,(gcdO_fuel k b (divR a b) hb hRc (by omega)).1]
theorem gcdO_d {a b:Option (List Nat)}(ha:can 4294967296 (dO a)) (hb:can 4294967296 (dO b)):dO (gcdO a b (val 4294967296 (dO b)))=dig 4294967296 (Nat.gcd (val 4294967296 (dO a)) (val 4294967296 (dO b))):=
 (gcdO_fuel _ a b ha hb (Nat.le_refl _)).2
theorem exact_gcd_ok (G:List (List DV))(a b:Option (List Nat))(ha:can 4294967296 (dO a))(hb:can 4294967296 (dO b))(hl:(dO a).length<1000000000000)(hl':(dO b).length<1000000000000) :
 CallsP Tryz.prog G 94 [nK .u32 a,nK .u32 b] (nK .u32 (gcdO a b (val 4294967296 (dO b)))):=by
 refine CallsP.en Go.Proofs.Tryz.func94 rfl fun _=>AW.q ?_
 refine AW.seqK fun K hK=>AW.block ?_
 refine AW.loopV (fun (p:Option (List Nat) × Option (List Nat))=>⟨frOf [(0,nK .u32 p.1),(1,nK .u32 p.2)],fun _=>.hole⟩) 0
  (fun p=>can 4294967296 (dO p.1)∧can 4294967296 (dO p.2)∧(dO p.1).length<1000000000000∧(dO p.2).length<1000000000000∧gcdO p.1 p.2 (val 4294967296 (dO p.2))=gcdO a b (val 4294967296 (dO b)))
  (fun p=>val 4294967296 (dO p.2)) (a,b) (Le.mk' _ rfl (by simp) (by simp)) ⟨ha,hb,hl,hl',rfl⟩ ?_
 rintro⟨x,y⟩ ⟨i1,i2,i3,i4,i5⟩
 simp only at i1 i2 i3 i4 i5
 refine AW.seqK fun K3 hK3=>AW.q ?_
 by_cases hy:dO y=[]
 ·have hy':¬ (0:Int)<((dO y).length:Int):=by rw [hy];simp
  refine AW.fn (by simp <;> omega) (AW.exit (hK _ _ ?_))
  rw [gcdO_end hy] at i5
  refine AW.q ?_
  exact AW.r0 (FinP.rt rfl 4 (by simp [i5]))
 ·have hy1:0<(dO y).length:=List.length_pos_iff.2 hy
  have hy':(0:Int)<((dO y).length:Int):=by omega
  refine AW.fy (by simp <;> omega) (AW.skip (hK3 _ _ (AW.block (AW.sr fun K5 hK5=>?_))))
  simp
  refine CallDo.pure 0 0 (exact_div_ok _ _ _ i1 i2 hy i3) (tup2_pure _ _) (by simp) rfl ?_
  simp
  apply hK5
  refine AW.rP ?_
  simp
  have hv0:0<val 4294967296 (dO y):=can_pos i2 hy
  have hR:=divR_d (b:=y) i1
  have hlt:val 4294967296 (dO (divR x y))<val 4294967296 (dO y):=by rw [hR,dig_val (by decide)];exact Nat.mod_lt _ hv0
  refine⟨y,divR x y,Le.mk' _ rfl (by simp) (by simp),⟨i2,by rw [hR];exact dig_can (by decide) _,i4,?_,?_⟩,hlt⟩
  ·rw [hR]
   refine Nat.lt_of_le_of_lt (dig_len_mono (by decide) (Nat.le_of_lt (Nat.mod_lt _ hv0))) ?_
   rw [← dig_of (by decide) i2 rfl];exact i4
  ·rw [gcdO_step i1 i2 hy];exact i5
def nC:Option (List Nat)→CV
 | none=>.d .nilsl
 | some l=>.d (.sl (dK .u32 l))
theorem nK_nC (o:Option (List Nat)):nK .u32 o=.c (nC o):=by cases o <;> rfl
@[simp] theorem nC_dArg (lv:Key→LB)(b:Bool)(p q:Option (List Nat)):dRes lv (.agg [.d (.bool b),nC p,nC q])=some (.agg [.d (.bool b),nC p,nC q],[]):=by
 cases p <;> cases q <;> rfl
@[simp] theorem nC_pure (o:Option (List Nat)):(nC o).pure=true:=by cases o <;> rfl
@[simp] theorem nC_flat1 (o:Option (List Nat)):(AV.c (nC o)).flat1=true:=by cases o <;> rfl
@[simp] theorem nC_apure (o:Option (List Nat)):(AV.c (nC o)).pure=true:=by cases o <;> rfl
theorem FinC.cell {c:Ctx}{fn:Func}{x:AV}{t k off:Nat}{T U:TypeId}{own fz:Bool}{cs:List CV}{s:LSt}{κ:Nat}(hr:fn.results=#[.cell t T]) (ht:s.fr t=.c (.ptr k off)) (hk:s.lv k=.cells own fz U cs)
 (hx:loadA c.P T (cs.drop off)=some x):FinC c fn x .ret s κ:=by
 show resA c.P s fn.results.toList=some x
 rw [hr]
 simp [resA,resL,resV,ht,hk,hx]
theorem FinC.cell2 {c:Ctx}{fn:Func}{x y:AV}{t u k off:Nat}{T U:TypeId}{own fz:Bool}{cs:List CV}{s:LSt}{κ:Nat}(hr:fn.results=#[.cell t T,.tmp u]) (ht:s.fr t=.c (.ptr k off)) (hk:s.lv k=.cells own fz U cs)
 (hx:loadA c.P T (cs.drop off)=some x) (hy:s.fr u=y) (hn:x.noTup=true) (hm:y.noTup=true):FinC c fn (.tup [x,y]) .ret s κ:=by
 show resA c.P s fn.results.toList=some _
 rw [hr]
 simp [resA,resL,resV,ht,hk,hx,hy,hn,hm]
attribute [local irreducible] FinC
theorem bNum0:buildA Tryz.prog 30 [] []=some (.agg [.d (.bool false),.d .nilsl,.d .nilsl],[],[],True):=by kernel_rfl
theorem bNum (b p q:CV):buildA Tryz.prog 30 [0,1,2] [.c b,.c p,.c q]=some (.agg [b,p,q],[],[],True):=by kernel_rfl
theorem loadNum (b p q:CV):loadA Tryz.prog 30 [b,p,q]=some (.agg [b,p,q]):=by kernel_rfl
abbrev nmA (neg:Bool)(p q:Option (List Nat)):AV:=.agg [.d (.bool neg),nC p,nC q]
def gO (p q:Option (List Nat)):Option (List Nat):=gcdO p q (val 4294967296 (dO q))
def mP (p q:Option (List Nat)):Option (List Nat):=if val 4294967296 (dO q)=1 then p else if val 4294967296 (dO (gO p q))=1 then p else divQ p (gO p q)
def mQ0 (p q:Option (List Nat)):Option (List Nat):=if val 4294967296 (dO q)=1 then q else if val 4294967296 (dO (gO p q))=1 then q else divQ q (gO p q)
def mQ (p q:Option (List Nat)):Option (List Nat):=if val 4294967296 (dO (mQ0 p q))=1 then none else mQ0 p q
def madeA (neg:Bool)(p q:Option (List Nat)):AV:=if dO p=[] then nmA false none none else nmA neg (mP p q) (mQ p q)
theorem madeA_dRes (lv:Key→LB)(neg:Bool)(p q:Option (List Nat)):dRes lv (madeA neg p q)=some (madeA neg p q,[]):=by
 unfold madeA;split <;> exact nC_dArg ..
theorem exact_made_ok (G:List (List DV))(neg:Bool)(p q:Option (List Nat))(hp:can 4294967296 (dO p))(hq:can 4294967296 (dO q))(hq0:dO q≠[])(hl:(dO p).length<1000000000000)(hl':(dO q).length<1000000000000) :
 CallsP Tryz.prog G 90 [.c (.d (.bool neg)),nK .u32 p,nK .u32 q] (madeA neg p q):=by
 have hgd:=gcdO_d hp hq
 have hgc:can 4294967296 (dO (gO p q)):=by unfold gO;rw [hgd];exact dig_can (by decide) _
 have hqv:0<val 4294967296 (dO q):=can_pos hq hq0
 have hg0:dO (gO p q)≠[]:=by
  unfold gO;rw [hgd];intro h
  have:=(dig_nil (by decide)).1 h
  have:=Nat.gcd_pos_of_pos_right (val 4294967296 (dO p)) hqv
  omega
 refine CallsP.enc Go.Proofs.Tryz.func90 rfl (fun lv=>madeA_dRes lv _ _ _) fun _=>AW.q ?_
 refine AW.seqK fun K hK=>AW.q ?_
 by_cases hpe:dO p=[]
 ·refine AW.fy (by simp_all) (AW.f1 bNum0 ?_)
  refine AW.ret ?_
  refine FinC.cell (T:=30) (t:=6) (k:=0) (off:=0) (own:=true) (fz:=false) (U:=30) (cs:=[.d (.bool false),.d .nilsl,.d .nilsl]) rfl ?_ ?_ ?_
  ·simp
  ·rfl
  ·rw [List.drop_zero,loadNum];simp [madeA,hpe,nC]
 refine AW.fn (by simp_all) (AW.skip (hK _ _ (AW.seqK fun K hK=>?_)))
 have rest:∀ (fr:Nat→AV) (κ:Nat) (p' q':Option (List Nat)),fr 0=.c (.d (.bool neg))→fr 1=nK .u32 p'→fr 2=nK .u32 q'→fr 6=.c (.ptr 0 0)→can 4294967296 (dO q')→mP p q=p'→mQ0 p q=q' →
  K ⟨fr,upd (fun _=>.hole) 0 (.cells true false 30 [.d (.bool false),.d .nilsl,.d .nilsl])⟩ κ:=by
  intro fr κ p' q' z0 z1 z2 z6 hc e1 e2
  apply hK
  refine AW.seqK fun K1 hK1=>AW.sr fun K2 hK2=>?_
  simp [z2]
  refine CallDo.pure κ 9 (exact_is1_ok _ _ hc) rfl (by simp) (by simp) ?_
  simp
  apply hK2
  by_cases h1:val 4294967296 (dO q')=1
  ·refine AW.fy (by simp_all) (AW.l0 (hK1 _ _ ?_))
   refine AW.f5 z0 z1 z6 @nK_nC @bNum ?_
   refine AW.ret ?_
   refine FinC.cell (T:=30) (t:=6) (k:=0) (off:=0) (own:=true) (fz:=false) (U:=30) (cs:=[.d (.bool neg),nC p',.d .nilsl]) rfl ?_ ?_ ?_
   ·simp [z6]
   ·rfl
   ·rw [List.drop_zero,loadNum];simp [madeA,hpe,e1,mQ,e2,h1,nC]
  ·refine AW.fn (by simp_all) (AW.skip (hK1 _ _ (AW.f6 z0 z1 z2 z6 @nK_nC @bNum ?_)))
   refine AW.ret ?_
   refine FinC.cell (T:=30) (t:=6) (k:=0) (off:=0) (own:=true) (fz:=false) (U:=30) (cs:=[.d (.bool neg),nC p',nC q']) rfl ?_ ?_ ?_
   ·simp [z6]
   ·rfl
   ·rw [List.drop_zero,loadNum];simp [madeA,hpe,e1,mQ,e2,h1]
 refine AW.sr fun K1 hK1=>?_
 simp
 refine CallDo.pure 1 9 (exact_is1_ok _ _ hq) rfl (by simp) (by simp) ?_
 simp
 apply hK1
 by_cases h1:val 4294967296 (dO q)=1
 ·refine AW.fn (by simp_all) (AW.skip ?_)
  simp
  exact rest _ _ p q (by simp) (by simp) (by simp) (by simp) hq (by simp [mP,h1]) (by simp [mQ0,h1])
 refine AW.fy (by simp_all) (AW.sr fun K1 hK1=>?_)
 simp
 refine CallDo.pure 1 9 (exact_gcd_ok _ _ _ hp hq hl hl') (by simp) (by simp) (by simp) ?_
 simp
 apply hK1
 refine AW.sr fun K1 hK1=>?_
 simp
 refine CallDo.pure 1 9 (exact_is1_ok _ (gcdO p q (val 4294967296 (dO q))) hgc) rfl (by simp) (by simp) ?_
 simp
 apply hK1
 by_cases h2:val 4294967296 (dO (gO p q))=1
 ·have h2':val 4294967296 (dO (gcdO p q (val 4294967296 (dO q))))=1:=h2
  refine AW.fn (by simp_all) (AW.skip ?_)
  simp
  exact rest _ _ p q (by simp) (by simp) (by simp) (by simp) hq (by simp [mP,h2]) (by simp [mQ0,h2])
 have h2':¬ val 4294967296 (dO (gcdO p q (val 4294967296 (dO q))))=1:=h2
 refine AW.fy (by simp_all) (AW.sr fun K1 hK1=>?_)
 simp
 refine CallDo.pure 1 9 (exact_div_ok _ _ (gcdO p q (val 4294967296 (dO q))) hp hgc hg0 hl) (tup2_pure _ _) (by simp) (by simp) ?_
 simp
 apply hK1
 refine AW.rP ?_
 simp
 refine CallDo.pure 1 9 (exact_div_ok _ _ (gcdO p q (val 4294967296 (dO q))) hq hgc hg0 hl') (tup2_pure _ _) (by simp) (by simp) ?_
 simp
 exact rest _ _ (divQ p (gO p q)) (divQ q (gO p q)) (by simp) (by simp;rfl) (by simp;rfl) (by simp) (by rw [divQ_d];exact dig_can (by decide) _) (by simp [mP,h1,h2]) (by simp [mQ0,h1,h2])
end Go.Am
namespace Go.Am
open Go.Am.Ty Go.Proofs N
theorem eqNil (q:Option (List Nat)):stepBin Tryz.prog .eql 28 (.c (nC q)) (.c (.d .nilsl))=some (.c (.d (.bool q.isNone)),[],[],True):=by
 cases q with
 | none=>kernel_rfl
 | some l=>exact (show ∀ es,stepBin Tryz.prog .eql 28 (.c (.d (.sl es))) (.c (.d .nilsl))=some (.c (.d (.bool false)),[],[],True) from fun es=>by kernel_rfl) _
theorem lpC (lv:Key→LB)(o:Option (List Nat)):lenP Tryz.prog 28 lv (.c (nC o))=some (.c (.d (.int .i64 (dO o).length)),[],[],True):=by
 rw [← nK_nC];simp
@[simp] theorem nmA_pure (neg:Bool)(p q:Option (List Nat)):(AV.agg [.d (.bool neg),nC p,nC q]).pure=true:=by cases p <;> cases q <;> rfl
def sgA (neg:Bool)(p:Option (List Nat)):Int:=if dO p=[] then 0 else if neg then -1 else 1
def botO:Option (List Nat)→Option (List Nat)
 | none=>some (dig 4294967296 1)
 | some l=>some l
theorem num_Sign_ok (G:List (List DV))(neg:Bool)(p q:Option (List Nat)):CallsP Tryz.prog G 55 [nmA neg p q] (.c (.d (.int .i64 (sgA neg p)))):=by
 refine CallsP.en Go.Proofs.Tryz.func55 rfl fun _=>AW.q ?_
 refine AW.seqK fun K hK=>AW.block (AW.f1 @lpC ?_)
 by_cases hp:dO p=[]
 ·refine AW.fy (by simp_all) (AW.q ?_)
  exact AW.r0 (FinP.rt rfl 2 (by simp [sgA,hp]))
 ·refine AW.fn (by simp_all) (AW.q ?_)
  cases neg with
  | true=>
   refine AW.cy (AW.q ?_)
   exact AW.r0 (FinP.rt rfl 2 (by simp [sgA,hp]))
  | false=>
   refine AW.cn (AW.skip (hK _ _ (AW.q ?_)))
   exact AW.r0 (FinP.rt rfl 2 (by simp [sgA,hp]))
theorem num_bottom_ok (G:List (List DV))(neg:Bool)(p q:Option (List Nat)):CallsP Tryz.prog G 131 [nmA neg p q] (.c (nC (botO q))):=by
 have hof:=exact_of_ok G 1 (by decide)
 simp only [nK_nC] at hof
 refine CallsP.en Go.Proofs.Tryz.func131 rfl fun _=>AW.q ?_
 refine AW.seqK fun K hK=>AW.sr fun K1 hK1=>?_
 simp [eqNil]
 apply hK1
 cases q with
 | none=>
  refine AW.cy (AW.sr fun K1 hK1=>?_)
  simp
  refine CallDo.pure 1 9 hof (by simp) (by simp) (by simp) ?_
  simp
  apply hK1
  exact AW.r0 (FinP.rt rfl 2 (by simp [botO]))
 | some l=>
  refine AW.cn (AW.skip (hK _ _ (AW.q ?_)))
  exact AW.r0 (FinP.rt rfl 2 (by simp [botO]))
theorem num_IsInt_ok (G:List (List DV))(neg:Bool)(p q:Option (List Nat)):CallsP Tryz.prog G 189 [nmA neg p q] (.c (.d (.bool q.isNone))):=by
 refine CallsP.en Go.Proofs.Tryz.func189 rfl fun _=>AW.q ?_
 refine AW.sr fun K hK=>?_
 simp [eqNil]
 apply hK
 exact AW.r0 (FinP.rt rfl 2 (by simp))
theorem num_Abs_ok (G:List (List DV))(neg:Bool)(p q:Option (List Nat)):CallsP Tryz.prog G 101 [nmA neg p q] (nmA false p q):=by
 refine CallsP.enc Go.Proofs.Tryz.func101 rfl (fun lv=>nC_dArg lv _ _ _) fun _=>AW.q ?_
 refine AW.f1 @bNum ?_
 refine AW.ret ?_
 refine FinC.cell (κ:=0) (T:=30) (t:=2) (k:=1) (off:=0) (own:=true) (fz:=false) (U:=30) (cs:=[.d (.bool false),nC p,nC q]) rfl ?_ ?_ ?_
 ·simp
 ·simp [setSeg]
 ·rw [List.drop_zero,loadNum]
def cmA (neg:Bool)(p q:Option (List Nat))(neg':Bool)(p' q':Option (List Nat)):Int:=
 if sgA neg p=sgA neg' p' then sgA neg p*cmpN (val 4294967296 (dO p)*val 4294967296 (dO (botO q'))) (val 4294967296 (dO p')*val 4294967296 (dO (botO q)))
 else if sgA neg p<sgA neg' p' then -1 else 1
theorem cmpN_rng (a b:Nat):-1≤cmpN a b∧cmpN a b≤1:=by unfold cmpN;omega
theorem sg_mul (neg:Bool)(p:Option (List Nat))(a b:Nat):IntKind.i64.wrap (sgA neg p*cmpN a b)=sgA neg p*cmpN a b:=by
 have h1:=cmpN_rng a b
 have h2:sgA neg p=0∨sgA neg p=1∨sgA neg p = -1:=by unfold sgA;split <;> (try split) <;> simp
 rcases h2 with h|h|h <;> rw [h] <;> exact w64 (by omega) (by omega)
theorem botO_len {q:Option (List Nat)}{n:Nat}(h:(dO q).length≤n) (hn:1≤n):(dO (botO q)).length≤n:=by
 cases q with
 | none=>exact Nat.le_trans (dig_len_le (m:=1) (by decide) (by decide)) hn
 | some l=>exact h
theorem num_Cmp_ok (G:List (List DV))(neg neg':Bool)(p q p' q':Option (List Nat))(h1:(dO p).length≤100000000000)(h2:(dO q).length≤100000000000)(h3:(dO p').length≤100000000000)(h4:(dO q').length≤100000000000) :
 CallsP Tryz.prog G 99 [nmA neg p q,nmA neg' p' q'] (.c (.d (.int .i64 (cmA neg p q neg' p' q')))):=by
 have b1:=botO_len h2 (by decide)
 have b2:=botO_len h4 (by decide)
 have m1:=exact_mul_ok G p (botO q') (by omega) (by omega)
 have m2:=exact_mul_ok G p' (botO q) (by omega) (by omega)
 have m3:=exact_cmp_ok (G:=G) (a:=some (dig 4294967296 (val 4294967296 (dO p)*val 4294967296 (dO (botO q'))))) (b:=some (dig 4294967296 (val 4294967296 (dO p')*val 4294967296 (dO (botO q))))) (dig_can (by decide) _) (dig_can (by decide) _)
 simp only [dO_some,dig_val (by decide:2≤4294967296)] at m3
 simp only [nK_nC] at m1 m2 m3
 refine CallsP.en Go.Proofs.Tryz.func99 rfl fun _=>AW.q ?_
 refine AW.seqK fun K hK=>?_
 refine AW.drawP mixed (by kernel_rfl) rfl ?_
 simp
 refine CallDo.pure 2 9 (num_Sign_ok _ neg p q) (by simp) (by simp) rfl ?_
 simp
 refine CallDo.pure 2 9 (num_Sign_ok _ neg' p' q') (by simp) (by simp) rfl ?_
 simp
 refine⟨by kernel_rfl,?_⟩
 apply hK
 refine AW.seqK fun K hK=>AW.q ?_
 by_cases hs:sgA neg p=sgA neg' p'
 ·refine AW.fn (by simp_all) (AW.skip (hK _ _ (AW.seqK fun K hK=>?_)))
  refine AW.drawP mixed (by kernel_rfl) rfl ?_
  simp [hs]
  refine CallDo.pure 2 9 (num_bottom_ok _ neg' p' q') (by simp) (by simp) rfl ?_
  simp
  refine CallDo.pure 2 9 m1 (by simp) (by simp) rfl ?_
  simp
  refine CallDo.pure 2 9 (num_bottom_ok _ neg p q) (by simp) (by simp) rfl ?_
  simp
  refine CallDo.pure 2 9 m2 (by simp) (by simp) rfl ?_
  simp
  refine CallDo.pure 2 9 m3 (by simp) (by simp) rfl ?_
  simp [sg_mul]
  refine⟨by kernel_rfl,?_⟩
  apply hK
  exact AW.r0 (FinP.rt rfl 4 (by simp [cmA,hs]))
 ·refine AW.fy (by simp_all) (AW.seqK fun K1 hK1=>AW.q ?_)
  by_cases hlt:sgA neg p<sgA neg' p'
  ·refine AW.fy (by simp_all) (AW.q ?_)
   exact AW.r0 (FinP.rt rfl 4 (by simp [cmA,hs,hlt]))
  ·refine AW.fn (by simp_all) (AW.skip (hK1 _ _ (AW.q ?_)))
   exact AW.r0 (FinP.rt rfl 4 (by simp [cmA,hs,hlt]))
def natO (n:Nat):Option (List Nat):=if n=0 then none else some (dig 4294967296 n)
def denO (n:Nat):Option (List Nat):=if n=1 then none else some (dig 4294967296 n)
abbrev ratV (x:Rat):AV:=nmA (decide (x.num<0)) (natO x.num.natAbs) (denO x.den)
def sgI (neg:Bool)(a:Nat):Int:=if neg then -(a:Int) else a
theorem natO_d (n:Nat):dO (natO n)=(dig 4294967296 n):=by
 unfold natO;split
 ·simp_all
 ·rfl
theorem denO_b (n:Nat):botO (denO n)=some (dig 4294967296 n):=by
 unfold denO;split
 ·rename_i h;subst h;rfl
 ·rfl
theorem val_dig (n:Nat):val 4294967296 (dig 4294967296 n)=n:=dig_val (by decide) n
theorem can_dig (n:Nat):can 4294967296 (dig 4294967296 n):=dig_can (by decide) n
theorem natO_v (n:Nat):(val 4294967296 (dO (natO n)))=n:=by rw [natO_d,val_dig]
theorem denO_v (n:Nat):(val 4294967296 (dO (botO (denO n))))=n:=by rw [denO_b,dO_some,val_dig]
theorem natO_can (n:Nat):can 4294967296 (dO (natO n)):=by rw [natO_d];exact can_dig n
theorem denO_can (n:Nat):can 4294967296 (dO (botO (denO n))):=by rw [denO_b];exact can_dig n
theorem dig_ne {n:Nat}(h:n≠0):(dig 4294967296 n)≠[]:=fun e=>h ((dig_nil (by decide)).1 e)
theorem some_of_ne {o:Option (List Nat)}(hc:can 4294967296 (dO o)) (h:dO o≠[]):o=some (dig 4294967296 (val 4294967296 (dO o))):=by
 cases o with
 | none=>simp_all
 | some l=>exact congrArg some (dig_of (by decide) hc rfl)
theorem mkRat_sg (neg:Bool){a b:Nat}(hb:b≠0):(mkRat (sgI neg a) b).num=sgI neg (a / Nat.gcd a b)∧(mkRat (sgI neg a) b).den=b / Nat.gcd a b:=by
 have h1:(sgI neg a).natAbs=a:=by unfold sgI;split <;> omega
 rw [Rat.num_mkRat,Rat.den_mkRat,if_neg hb,if_neg hb,h1,Nat.gcd_comm b a]
 refine⟨?_,rfl⟩
 cases neg with
 | false=>rfl
 | true=>
  show -(a:Int) / ((Nat.gcd a b:Nat):Int) = -((a / Nat.gcd a b:Nat):Int)
  rw [Int.neg_ediv_of_dvd (Int.ofNat_dvd.2 (Nat.gcd_dvd_left a b))];rfl
theorem sgI_abs (neg:Bool)(a:Nat):(sgI neg a).natAbs=a:=by unfold sgI;omega
theorem sgI_neg (neg:Bool){a:Nat}(h:a≠0):decide (sgI neg a<0)=neg:=by
 cases neg <;> simp [sgI] <;> omega
theorem mP_eq {p q:Option (List Nat)}(hp:can 4294967296 (dO p)) (hq:can 4294967296 (dO q)) (h0:dO p≠[]):mP p q=natO ((val 4294967296 (dO p)) / Nat.gcd (val 4294967296 (dO p)) (val 4294967296 (dO q))):=by
 have ha:0<(val 4294967296 (dO p)):=can_pos hp h0
 have ep:=some_of_ne hp h0
 have hgv:(val 4294967296 (dO (gO p q)))=Nat.gcd (val 4294967296 (dO p)) (val 4294967296 (dO q)):=by unfold gO;rw [gcdO_d hp hq,val_dig]
 have hgp:0<Nat.gcd (val 4294967296 (dO p)) (val 4294967296 (dO q)):=Nat.gcd_pos_of_pos_left _ ha
 have hle:Nat.gcd (val 4294967296 (dO p)) (val 4294967296 (dO q))≤(val 4294967296 (dO p)):=Nat.le_of_dvd ha (Nat.gcd_dvd_left _ _)
 have hag:(val 4294967296 (dO p)) / Nat.gcd (val 4294967296 (dO p)) (val 4294967296 (dO q))≠0:=Nat.ne_of_gt (Nat.div_pos hle hgp)
 unfold natO;rw [if_neg hag];unfold mP
 split
 ·rename_i h;rw [h,Nat.gcd_one_right,Nat.div_one];exact ep
 ·split
  ·grind
  ·unfold divQ;grind
theorem mQ_eq {p q:Option (List Nat)}(hp:can 4294967296 (dO p)) (hq:can 4294967296 (dO q)) (h0:dO q≠[]):mQ p q=denO ((val 4294967296 (dO q)) / Nat.gcd (val 4294967296 (dO p)) (val 4294967296 (dO q))):=by
 have hb:0<(val 4294967296 (dO q)):=can_pos hq h0
 have eq:=some_of_ne hq h0
 have hgv:(val 4294967296 (dO (gO p q)))=Nat.gcd (val 4294967296 (dO p)) (val 4294967296 (dO q)):=by unfold gO;rw [gcdO_d hp hq,val_dig]
 have hle:Nat.gcd (val 4294967296 (dO p)) (val 4294967296 (dO q))≤(val 4294967296 (dO q)):=Nat.le_of_dvd hb (Nat.gcd_dvd_right _ _)
 have e:mQ0 p q=some (dig 4294967296 ((val 4294967296 (dO q)) / Nat.gcd (val 4294967296 (dO p)) (val 4294967296 (dO q)))):=by
  unfold mQ0
  split
  ·rename_i h;rw [h,Nat.gcd_one_right,Nat.div_one,← h];exact eq
  ·split
   ·grind
   ·unfold divQ;grind
 unfold mQ denO
 rw [e,dO_some,val_dig]
theorem madeA_rat (neg:Bool){p q:Option (List Nat)}(hp:can 4294967296 (dO p)) (hq:can 4294967296 (dO q)) (hq0:dO q≠[]):madeA neg p q=ratV (mkRat (sgI neg (val 4294967296 (dO p))) (val 4294967296 (dO q))):=by
 have hb:(val 4294967296 (dO q))≠0:=Nat.ne_of_gt (can_pos hq hq0)
 unfold madeA
 by_cases h0:dO p=[]
 ·have e:sgI neg (val 4294967296 (dO p))=0:=by rw [h0,val_nil];cases neg <;> rfl
  rw [if_pos h0,e,Rat.zero_mkRat];rfl
 ·have ha:0<(val 4294967296 (dO p)):=can_pos hp h0
  have hgp:0<Nat.gcd (val 4294967296 (dO p)) (val 4294967296 (dO q)):=Nat.gcd_pos_of_pos_left _ ha
  have hle:Nat.gcd (val 4294967296 (dO p)) (val 4294967296 (dO q))≤(val 4294967296 (dO p)):=Nat.le_of_dvd ha (Nat.gcd_dvd_left _ _)
  have hag:(val 4294967296 (dO p)) / Nat.gcd (val 4294967296 (dO p)) (val 4294967296 (dO q))≠0:=Nat.ne_of_gt (Nat.div_pos hle hgp)
  obtain⟨n1,n2⟩:=mkRat_sg neg (a:=(val 4294967296 (dO p))) hb
  rw [if_neg h0,mP_eq hp hq h0,mQ_eq hp hq hq0]
  show nmA neg _ _=nmA (decide (_<0)) (natO _) (denO _)
  rw [n1,n2,sgI_abs,sgI_neg neg hag]
theorem rat_sg (x:Rat):sgI (decide (x.num<0)) x.num.natAbs=x.num:=by
 unfold sgI
 grind
def nl (n:Nat):Nat:=(dig 4294967296 n).length
theorem nl_le {n m:Nat}(h:n<4294967296 ^ m):nl n≤m:=dig_len_le (by decide) h
theorem nl_lt (n:Nat):n<4294967296 ^ nl n:=dig_lt (by decide)
theorem nl_mono {m n:Nat}(h:m≤n):nl m≤nl n:=dig_len_mono (by decide) h
theorem nl_mul (a b:Nat):nl (a*b)≤nl a+nl b:=by
 refine nl_le ?_
 rw [Nat.pow_add]
 exact Nat.mul_lt_mul'' (nl_lt a) (nl_lt b)
theorem nl_add (a b:Nat):nl (a+b)≤max (nl a) (nl b)+1:=by
 refine nl_le ?_
 have h1:a<4294967296 ^ max (nl a) (nl b):=Nat.lt_of_lt_of_le (nl_lt a) (Nat.pow_le_pow_right (by decide) (by omega))
 have h2:b<4294967296 ^ max (nl a) (nl b):=Nat.lt_of_lt_of_le (nl_lt b) (Nat.pow_le_pow_right (by decide) (by omega))
 omega
theorem pow32 (m:Nat):(2:Nat) ^ (32*m)=4294967296 ^ m:=by rw [Nat.pow_mul]
theorem nl_two (k:Nat):nl (2 ^ k)≤k / 32+1:=by
 refine nl_le ?_
 rw [← pow32]
 exact Nat.pow_lt_pow_right (by decide) (by omega)
theorem nl_one:nl 1=1:=by rfl
theorem nl_pos {n:Nat}(h:n≠0):1≤nl n:=by rw [← nl_one];exact nl_mono (by omega)
theorem nl_ten {a L:Nat}(h:a<10 ^ L):nl a≤(L+8) / 9:=by
 refine nl_le (Nat.lt_of_lt_of_le h ?_)
 have h1:(10:Nat) ^ L≤10 ^ (9*((L+8) / 9)):=Nat.pow_le_pow_right (by decide) (by omega)
 rw [Nat.pow_mul] at h1
 exact Nat.le_trans h1 (Nat.pow_le_pow_left (by decide) _)
theorem blen_nl {n:Nat}(h:n≠0):blen n≤32*nl n:=by
 have h1:=nl_lt n
 rw [← pow32] at h1
 have h2:=blen_le h
 have h3:blen n - 1<32*nl n:=(Nat.pow_lt_pow_iff_right (by decide)).1 (Nat.lt_of_le_of_lt h2 h1)
 omega
def szR (x:Rat)(L:Nat):Prop:=nl x.num.natAbs≤L∧nl x.den≤L
theorem szR_mono {x:Rat}{L M:Nat}(h:szR x L) (hm:L≤M):szR x M:=⟨Nat.le_trans h.1 hm,Nat.le_trans h.2 hm⟩
theorem szR_mk (neg:Bool){a b L:Nat}(hb:b≠0) (h1:nl a≤L) (h2:nl b≤L):szR (mkRat (sgI neg a) b) L:=by
 obtain⟨n1,n2⟩:=mkRat_sg neg (a:=a) hb
 unfold szR
 rw [n1,n2,sgI_abs]
 exact⟨Nat.le_trans (nl_mono (Nat.div_le_self _ _)) h1,Nat.le_trans (nl_mono (Nat.div_le_self _ _)) h2⟩
theorem szR_neg {x:Rat}{L:Nat}(h:szR x L):szR (-x) L:=by
 unfold szR at *;simp_all
theorem szR_int (n:Int)(L:Nat)(h:nl n.natAbs≤L)(h1:1≤L):szR (n:Rat) L:=⟨by rw [Rat.num_intCast];exact h,by rw [Rat.den_intCast,nl_one];exact h1⟩
def shiftR (x:Rat)(k:Int):Rat:=if k<0 then mkRat x.num (x.den*2 ^ (-k).toNat) else mkRat (x.num*2 ^ k.toNat) x.den
theorem den_pow_ne (x:Rat)(k:Nat):x.den*2 ^ k≠0:=Nat.ne_of_gt (Nat.mul_pos x.den_pos (Nat.pow_pos (by decide)))
theorem shiftR_neg {x:Rat}{k:Int}(h:k<0):shiftR x k=mkRat (sgI (decide (x.num<0)) x.num.natAbs) (x.den*2 ^ (-k).toNat):=by rw [rat_sg];unfold shiftR;grind
theorem sgI_mul (neg:Bool)(a b:Nat):sgI neg a*(b:Int)=sgI neg (a*b):=by
 unfold sgI;grind
theorem shiftR_pos {x:Rat}{k:Int}(h:¬ k<0):shiftR x k=mkRat (sgI (decide (x.num<0)) (x.num.natAbs*2 ^ k.toNat)) x.den:=by
 unfold shiftR;rw [if_neg h,← sgI_mul,rat_sg]
 congr 2
theorem szR_shift {x:Rat}{L:Nat}(h:szR x L) (k:Int):szR (shiftR x k) (L+k.natAbs / 32+1):=by
 by_cases hk:k<0
 ·rw [shiftR_neg hk]
  refine szR_mk _ (den_pow_ne _ _) (by have:=h.1;omega) ?_
  have h1:=nl_mul x.den (2 ^ (-k).toNat)
  have h2:=nl_two (-k).toNat
  have h3:(-k).toNat=k.natAbs:=by omega
  have:=h.2
  omega
 ·rw [shiftR_pos hk]
  refine szR_mk _ x.den_nz ?_ (by have:=h.2;omega)
  have h1:=nl_mul x.num.natAbs (2 ^ k.toNat)
  have h2:=nl_two k.toNat
  have h3:k.toNat=k.natAbs:=by omega
  have:=h.1
  omega
theorem add_mk (x y:Rat):x+y=mkRat (sgI (decide (x.num<0)) (x.num.natAbs*y.den)+sgI (decide (y.num<0)) (y.num.natAbs*x.den)) (x.den*y.den):=by
 rw [Rat.add_def',← sgI_mul,← sgI_mul,rat_sg,rat_sg]
theorem sgI_add (neg:Bool)(a b:Nat):sgI neg a+sgI neg b=sgI neg (a+b):=by unfold sgI;grind
theorem sgI_lt {neg neg':Bool}(h:neg≠neg') {a b:Nat}(hab:a<b):sgI neg a+sgI neg' b=sgI neg' (b - a):=by
 unfold sgI;grind
theorem sgI_ge {neg neg':Bool}(h:neg≠neg') {a b:Nat}(hab:¬ a<b):sgI neg a+sgI neg' b=sgI neg (a - b):=by
 unfold sgI;grind
theorem szR_add {x y:Rat}{L:Nat}(hx:szR x L) (hy:szR y L):szR (x+y) (2*L+1):=by
 have hd:x.den*y.den≠0:=Nat.ne_of_gt (Nat.mul_pos x.den_pos y.den_pos)
 have e1:=nl_mul x.num.natAbs y.den
 have e2:=nl_mul y.num.natAbs x.den
 have e3:=nl_mul x.den y.den
 obtain⟨a1,a2⟩:=hx
 obtain⟨b1,b2⟩:=hy
 rw [add_mk]
 by_cases h:decide (x.num<0)=decide (y.num<0)
 ·rw [h,sgI_add]
  refine szR_mk _ hd ?_ (by omega)
  have:=nl_add (x.num.natAbs*y.den) (y.num.natAbs*x.den)
  omega
 ·by_cases hab:x.num.natAbs*y.den<y.num.natAbs*x.den
  ·rw [sgI_lt h hab]
   refine szR_mk _ hd ?_ (by omega)
   have:=nl_mono (Nat.sub_le (y.num.natAbs*x.den) (x.num.natAbs*y.den))
   omega
  ·rw [sgI_ge h hab]
   refine szR_mk _ hd ?_ (by omega)
   have:=nl_mono (Nat.sub_le (x.num.natAbs*y.den) (y.num.natAbs*x.den))
   omega
def cmpR (x y:Rat):Int:=if x<y then -1 else if y<x then 1 else 0
theorem eqBool (a b:Bool):stepBin Tryz.prog .eql 4 (.c (.d (.bool a))) (.c (.d (.bool b)))=some (.c (.d (.bool (a == b))),[],[],True):=by
 rfl
theorem rat_made (G:List (List DV))(neg:Bool)(p q:Option (List Nat))(hp:can 4294967296 (dO p))(hq:can 4294967296 (dO q))(hq0:dO q≠[])(hl:(dO p).length<1000000000000)(hl':(dO q).length<1000000000000) :
 CallsP Tryz.prog G 90 [.c (.d (.bool neg)),.c (nC p),.c (nC q)] (ratV (mkRat (sgI neg (val 4294967296 (dO p))) (val 4294967296 (dO q)))):=by
 have:=exact_made_ok G neg p q hp hq hq0 hl hl'
 rw [madeA_rat neg hp hq hq0] at this
 simp only [nK_nC] at this
 omega
theorem rat_made' (G:List (List DV))(neg:Bool)(a b:Nat)(hb:b≠0)(hl:nl a<1000000000000)(hl':nl b<1000000000000) :
 CallsP Tryz.prog G 90 [.c (.d (.bool neg)),.c (nC (some (dig 4294967296 a))),.c (nC (some (dig 4294967296 b)))] (ratV (mkRat (sgI neg a) b)):=by
 have:=rat_made G neg (some (dig 4294967296 a)) (some (dig 4294967296 b)) (can_dig a) (can_dig b) (dig_ne hb) hl hl'
 simp only [dO_some,val_dig] at this
 omega
theorem num_Neg_ok (G:List (List DV))(neg:Bool)(p q:Option (List Nat)):CallsP Tryz.prog G 70 [nmA neg p q] (nmA (!neg && decide (dO p≠[])) p q):=by
 cases neg with
 | true=>
  show CallsP Tryz.prog G 70 [nmA true p q] (nmA false p q)
  refine CallsP.enc Go.Proofs.Tryz.func70 rfl (fun lv=>nC_dArg lv _ _ _) fun _=>AW.q ?_
  refine AW.f1 @bNum ?_
  refine AW.ret ?_
  rfl
 | false=>
  by_cases hp:dO p=[]
  ·rw [show (!false && decide (dO p≠[]))=false by simp [hp]]
   refine CallsP.enc Go.Proofs.Tryz.func70 rfl (fun lv=>nC_dArg lv _ _ _) fun _=>AW.q ?_
   refine AW.f3 @bNum @lpC hp ?_
   refine AW.ret ?_
   rfl
  ·rw [show (!false && decide (dO p≠[]))=true by simp [hp]]
   refine CallsP.enc Go.Proofs.Tryz.func70 rfl (fun lv=>nC_dArg lv _ _ _) fun _=>AW.q ?_
   refine AW.seqK fun K hK=>?_
   have hp':=List.length_pos_iff.2 hp
   refine AW.l4 @bNum @lpC hp hp' (hK _ _ ?_)
   refine AW.ret ?_
   rfl
theorem rat_Neg (G:List (List DV))(x:Rat):CallsP Tryz.prog G 70 [ratV x] (ratV (-x)):=by
 have h:=num_Neg_ok G (decide (x.num<0)) (natO x.num.natAbs) (denO x.den)
 have e:(!decide (x.num<0) && decide (dO (natO x.num.natAbs)≠[]))=decide ((-x).num<0):=by
  rw [Rat.neg_num,natO_d]
  by_cases h0:x.num=0
  ·simp_all
  ·have h1:(dig 4294967296 x.num.natAbs)≠[]:=dig_ne (by omega)
   grind
 rw [e] at h
 show CallsP _ _ _ _ (nmA (decide ((-x).num<0)) (natO (-x).num.natAbs) (denO (-x).den))
 rw [show (-x).num.natAbs=x.num.natAbs by simp,Rat.neg_den]
 exact h
theorem mkRat_int (neg:Bool)(a:Nat):mkRat (sgI neg a) 1=((sgI neg a:Int):Rat):=by
 rw [Rat.mkRat_one]
theorem rat_Int (G:List (List DV))(n:Int)(h1:-9223372036854775808≤n)(h2:n≤9223372036854775807):CallsP Tryz.prog G 59 [.c (.d (.int .i64 n))] (ratV (n:Rat)):=by
 have hof1:=exact_of_ok G 1 (by decide)
 have hofn:=exact_of_ok G n.natAbs (by omega)
 have hl:nl n.natAbs<1000000000000:=by
  have e2:(4294967296:Nat) ^ 2=18446744073709551616:=by decide
  have:=nl_le (n:=n.natAbs) (m:=2) (by omega)
  omega
 have hm:=fun neg=>rat_made' G neg n.natAbs 1 (by decide) hl (by rw [nl_one];decide)
 simp only [nK_nC] at hof1 hofn
 simp only [mkRat_int] at hm
 by_cases hn:n<0
 ·have e:sgI true n.natAbs=n:=by unfold sgI;rw [if_pos rfl];omega
  have hm1:=hm true
  rw [e] at hm1
  have ew:IntKind.u64.wrap (-IntKind.u64.wrap n)=(n.natAbs:Int):=by rw [wu64m,wu64m];omega
  refine CallsP.enc Go.Proofs.Tryz.func59 rfl (fun lv=>nC_dArg lv _ _ _) fun _=>AW.q ?_
  refine AW.seqK fun K hK=>AW.f1 hn ?_
  refine AW.fy (by rfl) (AW.sr fun K1 hK1=>?_)
  simp [ew]
  refine CallDo.p 1 9 hofn ?_
  simp
  refine CallDo.p 1 9 hof1 ?_
  simp
  refine CallDo.p 1 9 hm1 ?_
  simp
  apply hK1
  refine AW.ret ?_
  rfl
 ·have e:sgI false n.natAbs=n:=by unfold sgI;rw [if_neg (by decide)];omega
  have hm1:=hm false
  rw [e] at hm1
  have ew:IntKind.u64.wrap n=(n.natAbs:Int):=by rw [wu64m];omega
  refine CallsP.enc Go.Proofs.Tryz.func59 rfl (fun lv=>nC_dArg lv _ _ _) fun _=>AW.q ?_
  refine AW.seqK fun K hK=>AW.f1 hn ?_
  refine AW.fn (by rfl) (AW.skip (hK _ _ (AW.sr fun K hK=>?_)))
  simp [ew]
  refine CallDo.p 1 9 hofn ?_
  simp
  refine CallDo.p 1 9 hof1 ?_
  simp
  refine CallDo.p 1 9 hm1 ?_
  simp
  apply hK
  refine AW.ret ?_
  rfl
def addR (neg:Bool)(a:Nat)(neg':Bool)(b q:Nat):Rat:=
 if neg=neg' then mkRat (sgI neg (a+b)) q else if a<b then mkRat (sgI neg' (b - a)) q else mkRat (sgI neg (a - b)) q
theorem cmpN_neg {a b:Nat}:(cmpN a b<0)↔a<b:=by unfold cmpN;omega
theorem num_Add_ok (G:List (List DV))(neg neg':Bool)(p q p' q':Option (List Nat))(h1:(dO p).length≤10000000000)(h2:(dO q).length≤10000000000)(h3:(dO p').length≤10000000000)(h4:(dO q').length≤10000000000)
 (c1:can 4294967296 (dO p)) (c2:can 4294967296 (dO (botO q))) (c3:can 4294967296 (dO p')) (c4:can 4294967296 (dO (botO q'))) (z2:(val 4294967296 (dO (botO q)))≠0) (z4:(val 4294967296 (dO (botO q')))≠0) :
 CallsP Tryz.prog G 72 [nmA neg p q,nmA neg' p' q'] (ratV (addR neg ((val 4294967296 (dO p))*(val 4294967296 (dO (botO q')))) neg' ((val 4294967296 (dO p'))*(val 4294967296 (dO (botO q)))) ((val 4294967296 (dO (botO q)))*(val 4294967296 (dO (botO q')))))):=by
 have b1:=botO_len h2 (by decide)
 have b2:=botO_len h4 (by decide)
 have m1:=exact_mul_ok G p (botO q') (by omega) (by omega)
 have m2:=exact_mul_ok G p' (botO q) (by omega) (by omega)
 have m3:=exact_mul_ok G (botO q) (botO q') (by omega) (by omega)
 have hQ:(val 4294967296 (dO (botO q)))*(val 4294967296 (dO (botO q')))≠0:=Nat.ne_of_gt (Nat.mul_pos (Nat.pos_of_ne_zero z2) (Nat.pos_of_ne_zero z4))
 have lv:∀ {o:Option (List Nat)},can 4294967296 (dO o)→nl (val 4294967296 (dO o))=(dO o).length:=fun {o} hc=>by unfold nl;rw [← dig_of (by decide) hc rfl]
 have l1:nl ((val 4294967296 (dO p))*(val 4294967296 (dO (botO q'))))≤20000000000:=by
  have:=nl_mul (val 4294967296 (dO p)) (val 4294967296 (dO (botO q')))
  rw [lv c1,lv c4] at this;omega
 have l2:nl ((val 4294967296 (dO p'))*(val 4294967296 (dO (botO q))))≤20000000000:=by
  have:=nl_mul (val 4294967296 (dO p')) (val 4294967296 (dO (botO q)))
  rw [lv c3,lv c2] at this;omega
 have l3:nl ((val 4294967296 (dO (botO q)))*(val 4294967296 (dO (botO q'))))≤20000000000:=by
  have:=nl_mul (val 4294967296 (dO (botO q))) (val 4294967296 (dO (botO q')))
  rw [lv c2,lv c4] at this;omega
 generalize (val 4294967296 (dO p))*(val 4294967296 (dO (botO q')))=a at *
 generalize (val 4294967296 (dO p'))*(val 4294967296 (dO (botO q)))=b at *
 generalize (val 4294967296 (dO (botO q)))*(val 4294967296 (dO (botO q')))=Q at *
 have la:(dO (some (dig 4294967296 a))).length≤20000000000:=l1
 have lb:(dO (some (dig 4294967296 b))).length≤20000000000:=l2
 have k1:=exact_add_ok G (some (dig 4294967296 a)) (some (dig 4294967296 b)) (by omega) (by omega)
 have k2:=exact_cmp_ok (G:=G) (a:=some (dig 4294967296 a)) (b:=some (dig 4294967296 b)) (can_dig _) (can_dig _)
 have k3:=fun h=>exact_sub_ok G (some (dig 4294967296 a)) (some (dig 4294967296 b)) (by omega) h
 have k4:=fun h=>exact_sub_ok G (some (dig 4294967296 b)) (some (dig 4294967296 a)) (by omega) h
 simp only [dO_some,val_dig] at k1 k2 k3 k4
 simp only [nK_nC,N32] at m1 m2 m3 k1 k2 k3 k4
 have mk1:=fun neg n (h:nl n≤20000000001)=>rat_made' G neg n Q hQ (by omega) (by omega)
 have hsum:nl (a+b)≤20000000001:=by have:=nl_add a b;omega
 have hs1:nl (a - b)≤20000000001:=by have:=nl_mono (Nat.sub_le a b);omega
 have hs2:nl (b - a)≤20000000001:=by have:=nl_mono (Nat.sub_le b a);omega
 refine CallsP.enc Go.Proofs.Tryz.func72 rfl (fun lv=>nC_dArg lv _ _ _) fun _=>AW.q ?_
 refine AW.seqK fun K hK=>?_
 refine AW.drawP mixed (by kernel_rfl) rfl ?_
 simp
 refine CallDo.p 3 9 (num_bottom_ok _ neg' p' q') ?_
 simp
 refine CallDo.p 3 9 m1 ?_
 simp
 refine CallDo.p 3 9 (num_bottom_ok _ neg p q) ?_
 simp
 refine CallDo.p 3 9 m2 ?_
 simp
 refine CallDo.p 3 9 (num_bottom_ok _ neg p q) ?_
 simp
 refine CallDo.p 3 9 (num_bottom_ok _ neg' p' q') ?_
 simp
 refine CallDo.p 3 9 m3 ?_
 simp
 refine⟨by kernel_rfl,?_⟩
 apply hK
 refine AW.seqK fun K hK=>AW.block (AW.f1 @eqBool ?_)
 by_cases hn:neg=neg'
 ·subst hn
  have e:addR neg a neg b Q=mkRat (sgI neg (a+b)) Q:=by unfold addR;rw [if_pos rfl]
  rw [e]
  refine AW.cy (AW.seqK fun K1 hK1=>?_)
  refine AW.drawP mixed (by kernel_rfl) rfl ?_
  simp
  refine CallDo.p 3 9 k1 ?_
  simp
  refine CallDo.p 3 9 (mk1 neg _ hsum) ?_
  simp
  refine⟨by kernel_rfl,?_⟩
  apply hK1
  refine AW.ret ?_
  rfl
 have hn':(neg == neg')=false:=by cases neg <;> cases neg' <;> simp_all
 refine AW.fn (by simp_all) (AW.c0 3 k2 ?_)
 by_cases hab:a<b
 ·have e:addR neg a neg' b Q=mkRat (sgI neg' (b - a)) Q:=by unfold addR;rw [if_neg hn,if_pos hab]
  rw [e]
  have hc:=cmpN_neg.2 hab
  refine AW.fy (by simp_all) (AW.seqK fun K1 hK1=>?_)
  refine AW.drawP mixed (by kernel_rfl) rfl ?_
  simp
  refine CallDo.p 3 9 (k4 (by omega)) ?_
  simp
  refine CallDo.p 3 9 (mk1 neg' _ hs2) ?_
  simp
  refine⟨by kernel_rfl,?_⟩
  apply hK1
  refine AW.ret ?_
  rfl
 ·have e:addR neg a neg' b Q=mkRat (sgI neg (a - b)) Q:=by unfold addR;rw [if_neg hn,if_neg hab]
  have hc:¬ cmpN a b<0:=fun h=>hab (cmpN_neg.1 h)
  refine AW.fn (by simp_all) (AW.skip (hK _ _ (AW.seqK fun K hK=>?_)))
  refine AW.drawP mixed (by kernel_rfl) rfl ?_
  simp
  refine CallDo.p 3 9 (k3 (by omega)) ?_
  simp
  refine CallDo.p 3 9 (mk1 neg _ hs1) ?_
  simp
  refine⟨by kernel_rfl,?_⟩
  apply hK
  refine AW.ret ?_
  refine FinC.cell (κ:=0) (T:=30) (t:=4) (k:=2) (off:=0) (own:=true) (fz:=false) (U:=30) (cs:=[.d (.bool (decide ((mkRat (sgI neg (a - b)) Q).num<0))),nC (natO (mkRat (sgI neg (a - b)) Q).num.natAbs),nC (denO (mkRat (sgI neg (a - b)) Q).den)]) rfl ?_ ?_ ?_
  ·simp
  ·rfl
  simp_all
theorem natO_len (n:Nat):(dO (natO n)).length=nl n:=by rw [natO_d];rfl
theorem denO_len (n:Nat):(dO (denO n)).length≤nl n:=by
 unfold denO;split
 ·simp
 ·exact Nat.le_refl _
theorem rat_Add (G:List (List DV))(x y:Rat)(hx:szR x 10000000000)(hy:szR y 10000000000):CallsP Tryz.prog G 72 [ratV x,ratV y] (ratV (x+y)):=by
 have h:=num_Add_ok G (decide (x.num<0)) (decide (y.num<0)) (natO x.num.natAbs) (denO x.den) (natO y.num.natAbs) (denO y.den)
  (by rw [natO_len];exact hx.1) (Nat.le_trans (denO_len _) hx.2) (by rw [natO_len];exact hy.1) (Nat.le_trans (denO_len _) hy.2) (natO_can _) (denO_can _) (natO_can _) (denO_can _) (by rw [denO_v];exact x.den_nz) (by rw [denO_v];exact y.den_nz)
 simp only [natO_v,denO_v] at h
 have e:addR (decide (x.num<0)) (x.num.natAbs*y.den) (decide (y.num<0)) (y.num.natAbs*x.den) (x.den*y.den)=x+y:=by
  rw [add_mk];unfold addR
  split
  ·rename_i hh;rw [hh,sgI_add]
  ·split
   ·rename_i hh hl;rw [sgI_lt hh hl]
   ·rename_i hh hl;rw [sgI_ge hh hl]
 grind
theorem rat_Sub (G:List (List DV))(x y:Rat)(hx:szR x 10000000000)(hy:szR y 10000000000):CallsP Tryz.prog G 74 [ratV x,ratV y] (ratV (x - y)):=by
 have h1:=rat_Neg G y
 have h2:=rat_Add G x (-y) hx (szR_neg hy)
 rw [← Rat.sub_eq_add_neg] at h2
 refine CallsP.enc Go.Proofs.Tryz.func74 rfl (fun lv=>nC_dArg lv _ _ _) fun _=>AW.q ?_
 refine AW.seqK fun K hK=>?_
 refine AW.drawP mixed (by kernel_rfl) rfl ?_
 simp
 refine CallDo.p 3 9 h1 ?_
 simp
 refine CallDo.p 3 9 h2 ?_
 simp
 refine⟨by kernel_rfl,?_⟩
 apply hK
 refine AW.ret ?_
 rfl
theorem rat_shifted (G:List (List DV))(x:Rat)(k:Int)(hx:szR x 10000000000)(h1:-1000000≤k)(h2:k≤1000000):CallsP Tryz.prog G 186 [ratV x,.c (.d (.int .i64 k))] (ratV (shiftR x k)):=by
 have hbot:=num_bottom_ok G (decide (x.num<0)) (natO x.num.natAbs) (denO x.den)
 rw [denO_b] at hbot
 have hw:IntKind.i64.wrap (-k) = -k:=w64 (by omega) (by omega)
 by_cases hk:k<0
 ·have e:=shiftR_neg (x:=x) hk
  have ht:((-k).toNat:Int) = -k:=by omega
  have hs:=exact_shl_ok G (some (dig 4294967296 x.den)) (-k).toNat (by have:=hx.2;show nl _≤_;omega) (by omega)
  simp only [dO_some,dig_ne x.den_nz,if_false,val_dig,nK_nC,ht] at hs
  have hm:=rat_made G (decide (x.num<0)) (natO x.num.natAbs) (some (dig 4294967296 (x.den*2 ^ (-k).toNat))) (natO_can _) (can_dig _) (dig_ne (den_pow_ne _ _)) (by rw [natO_len];have:=hx.1;omega) (by
   have h3:=nl_mul x.den (2 ^ (-k).toNat)
   have h4:=nl_two (-k).toNat
   have:=hx.2
   show nl _<_
   omega)
  rw [natO_v,dO_some,val_dig,← e] at hm
  generalize shiftR x k=r at *
  refine CallsP.enc Go.Proofs.Tryz.func186 rfl (fun lv=>nC_dArg lv _ _ _) fun _=>AW.q ?_
  refine AW.seqK fun K hK=>AW.f1 hk ?_
  refine AW.fy (by rfl) (AW.seqK fun K1 hK1=>?_)
  refine AW.drawP mixed (by kernel_rfl) rfl ?_
  simp
  refine CallDo.p 2 9 hbot ?_
  simp [hw]
  refine CallDo.p 2 9 hs ?_
  simp
  refine CallDo.p 2 9 hm ?_
  simp
  refine⟨by kernel_rfl,?_⟩
  apply hK1
  refine AW.ret ?_
  rfl
 ·have e:=shiftR_pos (x:=x) hk
  have ht:(k.toNat:Int)=k:=by omega
  have hs:=exact_shl_ok G (natO x.num.natAbs) k.toNat (by rw [natO_len];have:=hx.1;omega) (by omega)
  have hs':CallsP Tryz.prog G 206 [.c (nC (natO x.num.natAbs)),.c (.d (.int .i64 k))] (.c (nC (natO (x.num.natAbs*2 ^ k.toNat)))):=by
   simp only [natO_v] at hs
   simp only [natO_d,ht,nK_nC] at hs
   by_cases h0:x.num.natAbs=0
   ·have:(dig 4294967296 x.num.natAbs)=[]:=by rw [h0];rfl
    rw [if_pos this] at hs
    rw [h0,Nat.zero_mul]
    rw [h0] at hs
    exact hs
   ·rw [if_neg (dig_ne h0)] at hs
    unfold natO at hs ⊢
    rw [if_neg h0] at hs
    rw [if_neg h0,if_neg (Nat.ne_of_gt (Nat.mul_pos (Nat.pos_of_ne_zero h0) (Nat.pow_pos (by decide))))]
    exact hs
  have hm:=rat_made G (decide (x.num<0)) (natO (x.num.natAbs*2 ^ k.toNat)) (some (dig 4294967296 x.den)) (natO_can _) (can_dig _) (dig_ne x.den_nz) (by
   rw [natO_len]
   have h3:=nl_mul x.num.natAbs (2 ^ k.toNat)
   have h4:=nl_two k.toNat
   have:=hx.1
   omega) (by have:=hx.2;show nl _<_;omega)
  rw [natO_v,dO_some,val_dig,← e] at hm
  generalize shiftR x k=r at *
  refine CallsP.enc Go.Proofs.Tryz.func186 rfl (fun lv=>nC_dArg lv _ _ _) fun _=>AW.q ?_
  refine AW.seqK fun K hK=>AW.f1 hk ?_
  refine AW.fn (by rfl) (AW.skip (hK _ _ (AW.seqK fun K hK=>?_)))
  refine AW.drawP mixed (by kernel_rfl) rfl ?_
  simp
  refine CallDo.p 2 9 hs' ?_
  simp
  refine CallDo.p 2 9 hbot ?_
  simp
  refine CallDo.p 2 9 hm ?_
  simp
  refine⟨by kernel_rfl,?_⟩
  apply hK
  refine AW.ret ?_
  rfl
theorem dRes_num (lv:Key→LB)(b:Bool)(p q:Option (List Nat))(n:Int):dRes lv (.tup [nmA b p q,.c (.d (.int .i64 n))])=some (.tup [nmA b p q,.c (.d (.int .i64 n))],[]):=by
 cases p <;> cases q <;> rfl
@[simp] theorem tup_num_pure (b:Bool)(p q:Option (List Nat))(n:Int):(AV.tup [.agg [.d (.bool b),nC p,nC q],.c (.d (.int .i64 n))]).pure=true:=by
 cases p <;> cases q <;> rfl
def logR (x:Rat):Int:=
 let k:=(blen x.num.natAbs:Int) - blen x.den
 if x.num.natAbs*2 ^ (max (-k) 0).toNat<x.den*2 ^ (max k 0).toNat then k - 1 else k
theorem logR_rng {x:Rat}(hx:x≠0) {L:Nat}(h:szR x L):-(32*(L:Int))≤logR x∧logR x≤32*L:=by
 have h0:x.num.natAbs≠0:=by intro e;exact hx (Rat.num_eq_zero.1 (by omega))
 have h1:=blen_nl h0
 have h2:=blen_nl x.den_nz
 have h3:1≤blen x.num.natAbs:=by unfold blen;rw [if_neg h0];omega
 have h4:1≤blen x.den:=by unfold blen;rw [if_neg x.den_nz];omega
 have:=h.1
 have:=h.2
 unfold logR
 grind
theorem rat_log (G:List (List DV))(x:Rat)(hx:x≠0)(hs:szR x 10000000):CallsP Tryz.prog G 184 [ratV x] (.c (.d (.int .i64 (logR x)))):=by
 have h0:x.num.natAbs≠0:=by intro e;exact hx (Rat.num_eq_zero.1 (by omega))
 have hbot:=num_bottom_ok G (decide (x.num<0)) (natO x.num.natAbs) (denO x.den)
 rw [denO_b] at hbot
 have l1:=hs.1
 have l2:=hs.2
 have b1:=blen_nl h0
 have b2:=blen_nl x.den_nz
 have p1:=exact_bits_ok G (natO x.num.natAbs) (natO_can _) (by rw [natO_len];omega)
 have p2:=exact_bits_ok G (some (dig 4294967296 x.den)) (can_dig _) (by show nl _≤_;omega)
 rw [natO_v] at p1
 rw [dO_some,val_dig] at p2
 have ek:∃ k:Int,(blen x.num.natAbs:Int) - blen x.den=k∧-320000000≤k∧k≤320000000:=⟨_,rfl,by omega,by omega⟩
 obtain⟨k,hk,k1,k2⟩:=ek
 have ew:IntKind.i64.wrap ((blen x.num.natAbs:Int) - blen x.den)=k:=by rw [hk];exact w64 (by omega) (by omega)
 have ew2:IntKind.i64.wrap (-k) = -k:=w64 (by omega) (by omega)
 have mx1:(List.foldl (fun a b:Int=>if a<b then b else a) (-k) [0])=((max (-k) 0).toNat:Int):=by simp only [List.foldl];split <;> omega
 have mx2:(List.foldl (fun a b:Int=>if a<b then b else a) k [0])=((max k 0).toNat:Int):=by simp only [List.foldl];split <;> omega
 have hlog:logR x=if x.num.natAbs*2 ^ (max (-k) 0).toNat<x.den*2 ^ (max k 0).toNat then k - 1 else k:=by unfold logR;simp only [hk]
 have s1:=exact_shl_ok G (natO x.num.natAbs) (max (-k) 0).toNat (by rw [natO_len];omega) (by omega)
 have s2:=exact_shl_ok G (some (dig 4294967296 x.den)) (max k 0).toNat (by show nl _≤_;omega) (by omega)
 rw [natO_d,if_neg (dig_ne h0),val_dig] at s1
 rw [dO_some,if_neg (dig_ne x.den_nz),val_dig] at s2
 have cm:=exact_cmp_ok (G:=G) (a:=some (dig 4294967296 (x.num.natAbs*2 ^ (max (-k) 0).toNat))) (b:=some (dig 4294967296 (x.den*2 ^ (max k 0).toNat))) (can_dig _) (can_dig _)
 simp only [dO_some,val_dig] at cm
 generalize x.num.natAbs*2 ^ (max (-k) 0).toNat=a at *
 generalize x.den*2 ^ (max k 0).toNat=b at *
 generalize (max (-k) 0).toNat=u at *
 generalize (max k 0).toNat=v at *
 simp only [nK_nC] at p1 p2 s1 s2 cm
 have ew3:IntKind.i64.wrap (k - 1)=k - 1:=w64 (by omega) (by omega)
 refine CallsP.en Go.Proofs.Tryz.func184 rfl fun _=>AW.q ?_
 refine AW.c0 1 hbot ?_
 refine AW.sr fun K hK=>?_
 simp
 refine CallDo.p 1 9 p1 ?_
 simp
 refine CallDo.p 1 9 p2 ?_
 simp [ew]
 apply hK
 refine AW.seqK fun K hK=>AW.sr fun K1 hK1=>?_
 simp [ew2,intsOf,mx1,-List.foldl_cons,-List.foldl_nil]
 refine CallDo.p 1 9 s1 ?_
 simp [intsOf,mx2,-List.foldl_cons,-List.foldl_nil]
 refine CallDo.p 1 9 s2 ?_
 simp [-List.foldl_cons,-List.foldl_nil]
 refine CallDo.p 1 9 cm ?_
 simp
 apply hK1
 by_cases hab:a<b
 ·have hc:=cmpN_neg.2 hab
  rw [if_pos hab] at hlog
  refine AW.fy (by simp_all) (AW.l1 ew3 (hK _ _ ?_))
  refine AW.q ?_
  exact AW.r0 (FinP.rt rfl 2 (by simp [hlog]))
 ·have hc:¬ cmpN a b<0:=fun h=>hab (cmpN_neg.1 h)
  rw [if_neg hab] at hlog
  refine AW.fn (by simp_all) (AW.skip (hK _ _ (AW.q ?_)))
  exact AW.r0 (FinP.rt rfl 2 (by simp [hlog]))
theorem sgA_ne {x:Rat}(hx:x≠0):sgA (decide (x.num<0)) (natO x.num.natAbs)≠0:=by
 have h0:x.num.natAbs≠0:=by intro e;exact hx (Rat.num_eq_zero.1 (by omega))
 unfold sgA;rw [natO_d,if_neg (dig_ne h0)];omega
theorem sgA_zero {x:Rat}(hx:x=0):sgA (decide (x.num<0)) (natO x.num.natAbs)=0:=by subst hx;rfl
theorem rat_lt {x y:Rat}:x<y↔sgI (decide (x.num<0)) (x.num.natAbs*y.den)<sgI (decide (y.num<0)) (y.num.natAbs*x.den):=by
 rw [Rat.lt_iff,← sgI_mul,← sgI_mul,rat_sg,rat_sg]
theorem cmA_rat (x y:Rat):cmA (decide (x.num<0)) (natO x.num.natAbs) (denO x.den) (decide (y.num<0)) (natO y.num.natAbs) (denO y.den)=cmpR x y:=by
 unfold cmpR
 simp only [rat_lt]
 unfold cmA
 simp only [natO_v,denO_v]
 have hx:0<x.den:=x.den_pos
 have hy:0<y.den:=y.den_pos
 have sx:sgA (decide (x.num<0)) (natO x.num.natAbs)=if x.num.natAbs=0 then 0 else if x.num<0 then -1 else 1:=by
  unfold sgA;rw [natO_d];simp only [dig_nil (by decide:2≤4294967296),decide_eq_true_eq]
 have sy:sgA (decide (y.num<0)) (natO y.num.natAbs)=if y.num.natAbs=0 then 0 else if y.num<0 then -1 else 1:=by
  unfold sgA;rw [natO_d];simp only [dig_nil (by decide:2≤4294967296),decide_eq_true_eq]
 rw [sx,sy]
 have ha:x.num.natAbs*y.den=0↔x.num.natAbs=0:=by rw [Nat.mul_eq_zero];omega
 have hb:y.num.natAbs*x.den=0↔y.num.natAbs=0:=by rw [Nat.mul_eq_zero];omega
 generalize x.num.natAbs*y.den=a at *
 generalize y.num.natAbs*x.den=b at *
 unfold sgI cmpN
 grind
theorem rat_Cmp (G:List (List DV))(x y:Rat)(hx:szR x 10000000000)(hy:szR y 10000000000):CallsP Tryz.prog G 99 [ratV x,ratV y] (.c (.d (.int .i64 (cmpR x y)))):=by
 have h:=num_Cmp_ok G (decide (x.num<0)) (decide (y.num<0)) (natO x.num.natAbs) (denO x.den) (natO y.num.natAbs) (denO y.den)
  (by rw [natO_len];have:=hx.1;omega) (Nat.le_trans (denO_len _) (by have:=hx.2;omega)) (by rw [natO_len];have:=hy.1;omega) (Nat.le_trans (denO_len _) (by have:=hy.2;omega))
 rw [cmA_rat] at h
 exact h
def isDg (c:UInt8):Bool:=decide (48≤c.toNat∧c.toNat≤57)
def asc:List DV:=(List.range 256).map fun c=>.bool (decide (48≤c∧c≤57))
theorem asc_len:asc.length=256:=by simp [asc]
theorem asc_drop (c:UInt8):asc.drop c.toNat=.bool (isDg c)::asc.drop (c.toNat+1):=by
 have h:c.toNat<asc.length:=by rw [asc_len];exact c.toNat_lt
 rw [List.drop_eq_getElem_cons h]
 congr 1
 simp [asc,isDg]
theorem contains_ok (G:List (List DV))(c:UInt8):CallsP Tryz.prog G 242 [.c (.d (.ptr asc)),.c (.d (.int .u8 c.toNat))] (.c (.d (.bool (isDg c)))):=by
 have hc:=c.toNat_lt
 have hl:=asc_len
 have ha:=asc_drop c
 refine CallsP.en Go.Proofs.Tryz.func242 rfl fun _=>AW.q ?_
 refine AW.sr fun K hK=>?_
 simp [stepIndexAddr,ha,hl]
 repeat refine and_o ?_
 apply hK
 exact AW.r0 (FinP.rt rfl 4 (by simp))
theorem trimLeft_ok (G:List (List DV))(s:List UInt8):CallsP Tryz.prog G 201 [.c (.d (.str s)),.c (.d (.ptr asc))] (.c (.d (.str (s.dropWhile isDg)))):=by
 refine CallsP.en Go.Proofs.Tryz.func201 rfl fun _=>AW.q ?_
 refine AW.seqK fun K hK=>AW.block ?_
 refine AW.loopV (fun (p:List UInt8)=>⟨frOf [(0,.c (.d (.str p))),(1,.c (.d (.ptr asc)))],fun _=>.hole⟩) 0 (fun p=>p.dropWhile isDg=s.dropWhile isDg) (fun p=>p.length) s (Le.mk' _ rfl (by simp) (by simp)) rfl ?_
 rintro p hp
 refine AW.seqK fun K3 hK3=>AW.q ?_
 cases p with
 | nil=>
  refine AW.cn (AW.exit (hK _ _ (AW.q ?_)))
  have hp':s.dropWhile isDg=[]:=by rw [← hp];rfl
  exact AW.r0 (FinP.rt rfl 4 (by simp [hp']))
 | cons c l=>
  refine AW.cy (AW.skip (hK3 _ _ (AW.block (AW.seqK fun K5 hK5=>AW.sr fun K6 hK6=>?_))))
  simp
  refine CallDo.pure 0 9 (contains_ok _ c) (by simp) (by simp) rfl ?_
  simp
  apply hK6
  cases hd:isDg c with
  | false=>
   refine AW.fy (by rfl) (AW.exit (hK _ _ ?_))
   simp only [List.dropWhile,hd] at hp
   refine AW.q ?_
   exact AW.r0 (FinP.rt rfl 4 (by simp [hp]))
  | true=>
   refine AW.fn (by rfl) (AW.skip (hK5 _ _ (AW.rP ?_)))
   simp
   simp only [List.dropWhile,hd] at hp
   exact⟨by omega,l,Le.mk' _ rfl (by simp) (by simp),hp,by simp⟩
def trimRD (s:List UInt8):List UInt8:=(s.reverse.dropWhile isDg).reverse
theorem trimRight_ok (G:List (List DV))(s:List UInt8):CallsP Tryz.prog G 202 [.c (.d (.str s)),.c (.d (.ptr asc))] (.c (.d (.str (trimRD s)))):=by
 refine CallsS.know 0 (by simp) (fun V v h=>(show s.length≤9223372036854775807 by cases h.1 with|str _ hl=>exact hl)) fun hr=>?_
 refine CallsP.en Go.Proofs.Tryz.func202 rfl fun _=>AW.q ?_
 refine AW.seqK fun K hK=>AW.block ?_
 refine AW.loopV (fun (p:List UInt8)=>⟨frOf [(0,.c (.d (.str p))),(1,.c (.d (.ptr asc)))],fun _=>.hole⟩) 0 (fun p=>p.reverse.dropWhile isDg=s.reverse.dropWhile isDg∧p.length≤s.length) (fun p=>p.length) s (Le.mk' _ rfl (by simp) (by simp)) ⟨rfl,Nat.le_refl _⟩ ?_
 rintro p ⟨hp,hpl⟩
 refine AW.seqK fun K3 hK3=>AW.q ?_
 rcases List.eq_nil_or_concat p with rfl|⟨l,c,rfl⟩
 ·refine AW.cn (AW.exit (hK _ _ (AW.q ?_)))
  have hp':trimRD s=[]:=by unfold trimRD;rw [← hp];rfl
  exact AW.r0 (FinP.rt rfl 4 (by simp [hp']))
 ·rw [List.concat_eq_append] at *
  have hn:0<(l++[c]).length:=by simp
  have hlen:(l++[c]).length=l.length+1:=by simp
  have e2:IntKind.i64.wrap (l.length:Int)=(l.length:Int):=w64 (by omega) (by omega)
  have hr1:(l++[c]).reverse=c::l.reverse:=by simp
  rw [hr1] at hp
  refine AW.cy (AW.skip (hK3 _ _ (AW.block (AW.seqK fun K5 hK5=>AW.sr fun K6 hK6=>?_))))
  simp [e2]
  refine⟨by omega,?_⟩
  refine CallDo.pure 0 9 (contains_ok _ c) (by simp) (by simp) rfl ?_
  simp
  apply hK6
  cases hd:isDg c with
  | false=>
   refine AW.fy (by rfl) (AW.exit (hK _ _ ?_))
   simp only [List.dropWhile,hd] at hp
   refine AW.q ?_
   have hp':trimRD s=l++[c]:=by unfold trimRD;rw [← hp];simp
   exact AW.r0 (FinP.rt rfl 4 (by simp [hp']))
  | true=>
   refine AW.fn (by rfl) (AW.skip (hK5 _ _ (AW.rP ?_)))
   simp [e2]
   simp only [List.dropWhile,hd] at hp
   exact⟨by omega,l,Le.mk' _ rfl (by simp) (by simp),⟨hp,by omega⟩,by simp⟩
end Go.Am
namespace Go.Am
open Go.Proofs
theorem mkset_ok (m:Int):CallsP Tryz.prog (GG m) 200 [.c (.d (.str [48,49,50,51,52,53,54,55,56,57]))] (.tup [.agg (asc.map .d),.c (.d (.bool true))]):=
 CallsP.of_ev (evA_ok m 60) (by kernel_rfl)
end Go.Am
namespace Go.Am
open Go.Am.Ty Go.Proofs N
abbrev digs:List UInt8:=[48,49,50,51,52,53,54,55,56,57]
def trimD (s:List UInt8):List UInt8:=(trimRD s).dropWhile isDg
def zerS:List CV:=List.replicate 256 (.d (.bool false))
def ascC:List CV:=asc.map .d
theorem mkset' (m:Int):CallsP Tryz.prog (GG m) 200 [.c (.d (.str digs))] (.tup [.agg ascC,.c (.d (.bool true))]):=mkset_ok m
theorem mksetP:(AV.tup [.agg ascC,.c (.d (.bool true))]).pure=true:=by kernel_rfl
abbrev lvS:Key→LB:=upd (fun _=>LB.hole) 0 (.cells true false 246 ascC)
theorem dargS (s:List UInt8):dArgs lvS [.c (.d (.str s)),.c (.ptr 0 0)]=some ([.c (.d (.str s)),.c (.d (.ptr asc))],[0]):=by kernel_rfl
theorem rdaS:rdA lvS (.c (.ptr 0 0))=[0]:=by kernel_rfl
theorem rdS (s:List UInt8):∀ a∈[AV.c (.d (.str s)),AV.c (.ptr 0 0)],∀ k∈rdA lvS a,k∈[0]:=by
 intro a ha k hk
 simp only [List.mem_cons,List.not_mem_nil,or_false] at ha
 rcases ha with rfl|rfl
 ·cases hk
 ·rw [rdaS] at hk;exact hk
theorem zcS:zcells Tryz.prog 246=some zerS:=by kernel_rfl
theorem stS:stepStore Tryz.prog 246 (upd (fun _=>.hole) 0 (.cells true false 246 zerS)) (.c (.ptr 0 0)) (.agg ascC)=some (.undef,[(0,.cells true false 246 ascC)],[],True):=by
 have hl:ascC.length=256:=by unfold ascC;simp [asc_len]
 have hz:zerS.length=256:=List.length_replicate
 have hs:setSeg zerS 0 ascC=ascC:=by
  unfold setSeg;rw [hl,List.take_zero,List.nil_append,Nat.zero_add,List.drop_eq_nil_of_le (Nat.le_of_eq hz),List.append_nil]
 simp_all
theorem CallDo.flat {c:Ctx}{f:FuncId}{xs us:List AV}{ks rds:List Key}{x:AV}{lv:Key→LB}{K:AV→List (Key × LB)→List Key→Nat→Prop}(κ:Nat) (ha:dArgs lv xs=some (us,ks)) (hc:CallsP c.P c.G f us x) (hx:x.flat=true)
 (hr:∀ a∈xs,∀ k∈rdA lv a,k∈rds) (hK:K x [] rds κ):CallDo c f xs lv K:=⟨x,[],rds,κ,CallEff.flat us ks rds x ha hc hx hr,hK⟩
theorem eqEmpty (s:List UInt8):stepBin Tryz.prog .eql 9 (.c (.d (.str s))) (.c (.d (.str [])))=some (.c (.d (.bool (decide (s=[])))),[],[],True):=by
 cases s with
 | nil=>kernel_rfl
 | cons a l=>rfl
theorem trim_ok (m:Int)(s:List UInt8):CallsP Tryz.prog (GG m) 149 [.c (.d (.str s)),.c (.d (.str digs))] (.c (.d (.str (trimD s)))):=by
 refine CallsP.en Go.Proofs.Tryz.func149 rfl fun _=>AW.q ?_
 refine AW.seqK fun K hK=>AW.seqK fun K1 hK1=>?_
 by_cases hs:s=[]
 ·refine AW.l2 @eqEmpty hs (hK1 _ _ ?_)
  refine AW.cy (AW.q ?_)
  exact AW.r0 (FinP.rt rfl 4 (by simp [hs,trimD,trimRD]))
 refine AW.l2 @eqEmpty hs (hK1 _ _ ?_)
 refine AW.cn (AW.skip (hK _ _ (AW.seqK fun K hK=>AW.q ?_)))
 refine AW.cn (AW.skip (hK _ _ (AW.seqK fun K hK=>AW.sr fun K1 hK1=>?_)))
 simp
 refine CallDo.pure 0 9 (mkset' m) mksetP (by simp) rfl ?_
 simp [zcS,stS,-stepStore]
 apply hK1
 refine AW.q ?_
 refine AW.cy (AW.sr fun K1 hK1=>?_)
 simp
 refine CallDo.flat 2 (us:=[.c (.d (.str s)),.c (.d (.ptr asc))]) (ks:=[0]) (rds:=[0]) (dargS s) (trimRight_ok _ s) rfl (rdS s) ?_
 simp
 refine CallDo.flat 2 (us:=[.c (.d (.str (trimRD s))),.c (.d (.ptr asc))]) (ks:=[0]) (rds:=[0]) (dargS _) (trimLeft_ok _ (trimRD s)) rfl (rdS _) ?_
 simp
 apply hK1
 exact AW.r0 (FinP.rt rfl 9 (by rfl))
theorem beqD (s t:List UInt8):(s == t)=decide (s=t):=by
 grind
theorem eqStr (s t:List UInt8):stepBin Tryz.prog .eql 9 (.c (.d (.str s))) (.c (.d (.str t)))=some (.c (.d (.bool (decide (s=t)))),[],[],True):=by
 rw [← beqD];rfl
theorem neStr (s t:List UInt8):stepBin Tryz.prog .neq 9 (.c (.d (.str s))) (.c (.d (.str t)))=some (.c (.d (.bool (!decide (s=t)))),[],[],True):=by
 rw [← beqD];rfl
def rowB (s:List UInt8):Bool:=!decide (s=[]) && decide (trimD s=[]) && (decide (s=[48]) || !decide (s.getD 0 0=48))
theorem row_ok (m:Int)(s:List UInt8):CallsP Tryz.prog (GG m) 89 [.c (.d (.str s))] (.c (.d (.bool (rowB s)))):=by
 refine CallsP.en Go.Proofs.Tryz.func89 rfl fun _=>AW.q ?_
 refine AW.seqK fun K hK=>?_
 cases s with
 | nil=>
  refine AW.l1 @neStr (hK _ _ ?_)
  exact AW.r0 (FinP.rt rfl 2 (by simp [rowB]))
 | cons a l=>
  refine AW.rP ?_
  simp [neStr]
  refine CallDo.pure 0 9 (trim_ok m (a::l)) (by simp) (by simp) rfl ?_
  by_cases ht:trimD (a::l)=[]
  ·by_cases h0:a::l=[48]
   ·have ht':trimD [48]=[]:=h0 ▸ ht
    simp [eqStr,h0,ht']
    apply hK
    exact AW.r0 (FinP.rt rfl 2 (by simp [rowB,h0,ht']))
   ·simp [eqStr,ht,h0]
    apply hK
    have ha:((a.toNat:Int)=48)↔a=48:=by
     constructor
     ·intro h;exact UInt8.toNat_inj.1 (by grind)
     ·simp_all
    have hr:rowB (a::l) = !decide ((a.toNat:Int)=48):=by
     have h1:decide ((a.toNat:Int)=48)=decide (a=48):=by simp only [ha]
     rw [h1]
     simp [rowB,ht,h0]
    exact AW.r0 (FinP.rt rfl 2 (by simp [hr]))
  ·simp [eqStr,ht]
   apply hK
   exact AW.r0 (FinP.rt rfl 2 (by simp [rowB,ht]))
def hpB (s p:List UInt8):Bool:=decide (p.length≤s.length) && decide (s.take p.length=p)
def cpS (s p:List UInt8):List UInt8:=if hpB s p=true then s.drop p.length else s
theorem hasPrefix_ok (G:List (List DV))(s p:List UInt8):CallsP Tryz.prog G 196 [.c (.d (.str s)),.c (.d (.str p))] (.c (.d (.bool (hpB s p)))):=by
 refine CallsP.en Go.Proofs.Tryz.func196 rfl fun _=>AW.q ?_
 refine AW.seqK fun K hK=>?_
 by_cases h:p.length≤s.length
 ·have h':(p.length:Int)≤(s.length:Int):=by omega
  refine AW.l3 @eqStr h h' (hK _ _ ?_)
  exact AW.r0 (FinP.rt rfl 4 (by simp [hpB,h]))
 ·have h':¬ (p.length:Int)≤(s.length:Int):=by omega
  refine AW.l3 @eqStr h h' (hK _ _ ?_)
  exact AW.r0 (FinP.rt rfl 4 (by simp [hpB,h]))
theorem cutPrefix0_ok (G:List (List DV))(s p:List UInt8):CallsP Tryz.prog G 147 [.c (.d (.str s)),.c (.d (.str p))] (.tup [.c (.d (.str (cpS s p))),.c (.d (.bool (hpB s p)))]):=by
 refine CallsP.en Go.Proofs.Tryz.func147 rfl fun _=>AW.q ?_
 refine AW.seqK fun K hK=>AW.sr fun K1 hK1=>?_
 simp
 refine CallDo.pure 0 9 (hasPrefix_ok _ s p) (by simp) (by simp) rfl ?_
 simp
 apply hK1
 by_cases h:hpB s p=true
 ·refine AW.fn (by simp_all) (AW.skip (hK _ _ (AW.seqK fun K hK=>?_)))
  have hl:p.length≤s.length:=by
   unfold hpB at h;simp only [Bool.and_eq_true,decide_eq_true_eq] at h;exact h.1
  refine AW.l1 hl (hK _ _ ?_)
  exact AW.r0 (FinP.t2 rfl 5 (by simp [cpS,h]) (by simp [h]))
 ·refine AW.fy (by simp_all) (AW.q ?_)
  exact AW.r0 (FinP.t2 rfl 5 (by simp [cpS,h]) (by simp [h]))
theorem cutPrefix_ok (G:List (List DV))(s p:List UInt8):CallsP Tryz.prog G 87 [.c (.d (.str s)),.c (.d (.str p))] (.tup [.c (.d (.str (cpS s p))),.c (.d (.bool (hpB s p)))]):=by
 refine CallsP.en Go.Proofs.Tryz.func87 rfl fun _=>AW.q ?_
 refine AW.sr fun K hK=>?_
 simp
 refine CallDo.pure 0 9 (cutPrefix0_ok _ s p) rfl (by simp) rfl ?_
 simp
 apply hK
 exact AW.r0 (FinP.t2 rfl 6 (by simp) (by simp))
theorem FinP.tmp3 {c:Ctx}{fn:Func}{x y z:AV}{t u v:Nat}{s:LSt}{κ:Nat}(hr:fn.results=#[.tmp t,.tmp u,.tmp v]) (kh:Key) (hx:s.fr t=x) (hy:s.fr u=y) (hz:s.fr v=z) (hp:x.pure=true) (hq:y.pure=true) (hw:z.pure=true) (hh:s.lv kh=.hole)
 (hn:x.noTup=true) (hm:y.noTup=true) (hl:z.noTup=true) (htu:t≠u) (htv:t≠v) (huv:u≠v):FinP c fn (.tup [x,y,z]) .ret s κ:=by
 refine⟨[(t,x),(u,y),(v,z)],kh,by grind,hh,?_⟩
 rw [hr]
 have h1:¬ u=t:=fun h=>htu h.symm
 have h2:¬ v=t:=fun h=>htv h.symm
 have h3:¬ v=u:=fun h=>huv h.symm
 simp [resA,resL,resV,frOf,h1,h2,h3,hn,hm,hl]
theorem FinP.t3 {c:Ctx}{fn:Func}{x y z:AV}{t u v:Nat}{s:LSt}(hr:fn.results=#[.tmp t,.tmp u,.tmp v]) (kh:Key) (hx:s.fr t=x:=by simp) (hy:s.fr u=y:=by simp) (hz:s.fr v=z:=by simp) (hp:x.pure=true:=by first|rfl|simp) (hq:y.pure=true:=by first|rfl|simp) (hw:z.pure=true:=by first|rfl|simp)
 (hh:s.lv kh=.hole:=by first|rfl|simp) (h1:x.noTup=true:=by first|rfl|simp) (h2:y.noTup=true:=by first|rfl|simp) (h3:z.noTup=true:=by first|rfl|simp) (d1:t≠u:=by decide) (d2:t≠v:=by decide) (d3:u≠v:=by decide):FinP c fn (.tup [x,y,z]) .ret s 0:=FinP.tmp3 hr kh hx hy hz hp hq hw hh h1 h2 h3 d1 d2 d3
def ctI (s t:List UInt8):Int:=Lib.index s t
def ctA (s t:List UInt8):List UInt8:=if 0≤ctI s t then s.take (ctI s t).toNat else s
def ctB (s t:List UInt8):List UInt8:=if 0≤ctI s t then s.drop ((ctI s t).toNat+t.length) else []
theorem index_lt (s t:List UInt8)(h:s.length≤9223372036854775807):-9223372036854775808≤Lib.index s t∧Lib.index s t≤9223372036854775807:=by
 have h1:=Lib.index_ge s t
 have h2:Lib.index s t≤s.length:=by
  clear h h1
  induction s with
  | nil=>simp only [Lib.index];omega
  | cons a s ih=>
   simp only [Lib.index]
   grind
 omega
theorem indexB_ok (G:List (List DV))(s:List UInt8)(c:Nat)(hc:c<256):CallsP Tryz.prog G 238 [.c (.d (.str s)),.c (.d (.int .u8 (c:Int)))] (.c (.d (.int .i64 (ctI s [UInt8.ofNat c])))):=by
 refine CallsS.know 0 (by simp) (fun V v h=>(show s.length≤9223372036854775807 by cases h.1 with|str _ hl=>exact hl)) fun hs=>?_
 refine CallsP.of_CallG (X:=.c (.d (.int .i64 (ctI s [UInt8.ofNat c])))) (lv':=fun _=>.hole) (ks:=[]) ?_ rfl
 refine CallG.of_same (by rfl) fun F β w vs hS hl hv=>?_
 obtain⟨u,v,rfl,hu,hv⟩:=args2 hl hv
 have:=Tryz.stringslite_IndexByte ⟨s.toArray⟩ c w
 refine⟨.int .i64 (ctI s [UInt8.ofNat c]),av_int (index_lt s _ hs),?_⟩
 rw [Vw.c_str hu,Vw.c_int hv]
 simpa [ctI,← index_one] using this
theorem idx_self (c:UInt8):ctI [c] [c]=0:=by simp [ctI,Lib.index,List.isPrefixOf]
theorem index1_ok (G:List (List DV))(s:List UInt8)(c:UInt8):CallsP Tryz.prog G 197 [.c (.d (.str s)),.c (.d (.str [c]))] (.c (.d (.int .i64 (ctI s [c])))):=by
 have hb:=indexB_ok G s c.toNat c.toNat_lt
 rw [show UInt8.ofNat c.toNat=c from UInt8.ofNat_toNat] at hb
 refine CallsP.en Go.Proofs.Tryz.func197 rfl fun _=>AW.q ?_
 refine AW.q ?_
 refine AW.seqK fun K hK=>AW.block (AW.seqK fun K1 hK1=>?_)
 by_cases hs:[c]=s
 ·have h0:ctI s [c]=0:=by rw [← hs];exact idx_self c
  refine AW.l2 @eqStr hs (hK1 _ _ ?_)
  refine AW.cy (AW.q ?_)
  exact AW.r0 (FinP.rt rfl 4 (by simp [h0]))
 ·refine AW.l2 @eqStr hs (hK1 _ _ ?_)
  refine AW.cn (AW.q ?_)
  refine AW.cy (AW.sr fun K1 hK1=>?_)
  simp
  refine CallDo.pure 0 9 hb (by simp) (by simp) rfl ?_
  simp
  apply hK1
  exact AW.r0 (FinP.rt rfl 4 (by simp))
theorem cutA0_ok (m:Int)(s t:List UInt8)(h:s.length≤9223372036854775807)(hix:CallsP Tryz.prog (GG m) 197 [.c (.d (.str s)),.c (.d (.str t))] (.c (.d (.int .i64 (ctI s t))))):CallsP Tryz.prog (GG m) 148 [.c (.d (.str s)),.c (.d (.str t))] (.tup [.c (.d (.str (ctA s t))),.c (.d (.str (ctB s t))),.c (.d (.bool (decide (0≤ctI s t))))]):=by
 refine CallsP.en Go.Proofs.Tryz.func148 rfl fun _=>AW.q ?_
 refine AW.seqK fun K hK=>AW.sr fun K1 hK1=>?_
 simp
 refine CallDo.pure 0 9 hix (by simp) (by simp) rfl ?_
 simp
 apply hK1
 refine AW.q ?_
 by_cases hi:0≤ctI s t
 ·refine AW.fy (by simp_all) ?_
  obtain⟨n,hn⟩:∃ n:Nat,ctI s t=n:=⟨(ctI s t).toNat,(Int.toNat_of_nonneg hi).symm⟩
  have hr:=Lib.index_room s t (by unfold ctI at hi;exact hi)
  have hr':n+t.length≤s.length:=by unfold ctI at hn;rw [hn] at hr;omega
  have hw:IntKind.i64.wrap ((n:Int)+t.length)=((n+t.length:Nat):Int):=by rw [w64 (by omega) (by omega)];omega
  have hn1:n≤s.length:=by omega
  refine AW.seqK fun K1 hK1=>?_
  refine AW.drawQ mixed (by kernel_rfl) rfl rfl ?_
  simp [hn,hw,hn1,hr',-Int.natCast_add]
  apply hK1
  exact AW.r0 (FinP.t3 rfl 9 (by simp [ctA,hn]) (by simp [ctB,hn]) (by simp [hn]))
 ·refine AW.fn (by simp_all) (AW.skip (hK _ _ (AW.q ?_)))
  exact AW.r0 (FinP.t3 rfl 9 (by simp [ctA,hi]) (by simp [ctB,hi]) (by simp [hi]))
theorem cutA_ok (m:Int)(s t:List UInt8)(h:s.length≤9223372036854775807)(hix:CallsP Tryz.prog (GG m) 197 [.c (.d (.str s)),.c (.d (.str t))] (.c (.d (.int .i64 (ctI s t))))):CallsP Tryz.prog (GG m) 88 [.c (.d (.str s)),.c (.d (.str t))] (.tup [.c (.d (.str (ctA s t))),.c (.d (.str (ctB s t))),.c (.d (.bool (decide (0≤ctI s t))))]):=by
 refine CallsP.en Go.Proofs.Tryz.func88 rfl fun _=>AW.q ?_
 refine AW.sr fun K hK=>?_
 simp
 refine CallDo.pure 0 9 (cutA0_ok m s t h hix) rfl (by simp) rfl ?_
 simp
 apply hK
 exact AW.r0 (FinP.t3 rfl 9 (by simp) (by simp) (by simp))
theorem cut1_ok (m:Int)(s:List UInt8)(c:UInt8):CallsP Tryz.prog (GG m) 88 [.c (.d (.str s)),.c (.d (.str [c]))] (.tup [.c (.d (.str (ctA s [c]))),.c (.d (.str (ctB s [c]))),.c (.d (.bool (decide (0≤ctI s [c]))))]):=by
 refine CallsS.know 0 (by simp) (fun V v h=>(show s.length≤9223372036854775807 by cases h.1 with|str _ hl=>exact hl)) fun hs=>?_
 exact cutA_ok m s [c] hs (index1_ok (GG m) s c)
theorem dw_nil {p:UInt8→Bool}:∀ {l:List UInt8},l.dropWhile p=[]→∀ x∈l,p x=true
 | [],_,x,hx=>by cases hx
 | a::l,h,x,hx=>by
  simp only [List.dropWhile] at h
  split at h
  ·rename_i ha
   rcases List.mem_cons.1 hx with rfl|hx
   ·exact ha
   ·exact dw_nil h x hx
  grind
theorem trimD_nil {s:List UInt8}(h:trimD s=[]):isD s:=by
 have h1:∀ x∈trimRD s,isDg x=true:=dw_nil h
 have h2:∀ x∈s.reverse.dropWhile isDg,isDg x=true:=fun x hx=>h1 x (by unfold trimRD;grind)
 have h3:∀ x∈s.reverse,isDg x=true:=by
  intro x hx
  rw [← List.takeWhile_append_dropWhile (p:=isDg) (l:=s.reverse),List.mem_append] at hx
  rcases hx with hx|hx
  ·have:=List.all_takeWhile (p:=isDg) (l:=s.reverse)
   grind
  ·grind
 intro c hc
 have:=h3 c (List.mem_reverse.2 hc)
 simpa [isDg] using this
theorem rowB_d {s:List UInt8}(h:rowB s=true):isD s∧s≠[]:=by
 unfold rowB at h
 simp only [Bool.and_eq_true,Bool.not_eq_true',decide_eq_false_iff_not,decide_eq_true_eq] at h
 exact⟨trimD_nil h.1.2,h.1.1⟩
abbrev nm0:AV:=nmA false none none
def badB (neg:Bool)(top bot:List UInt8)(brk:Bool):Bool:=!rowB top || (neg && decide (top=[48])) || (brk && (!rowB bot || decide (bot=[48]) || decide (bot=[49])))
abbrev rdO (s:List UInt8):Option (List Nat):=some (dig 4294967296 (decN s 0))
def parseR (neg:Bool)(top bot:List UInt8)(brk:Bool):AV:=
 if badB neg top bot brk=true then .tup [nm0,.c (.d (.int .i64 6))]
 else if 2000<max top.length bot.length then .tup [nm0,.c (.d (.int .i64 3))]
 else if brk=false then .tup [madeA neg (rdO top) (some (dig 4294967296 1)),.c (.d (.int .i64 0))]
 else if val 4294967296 (dO (gO (rdO top) (rdO bot)))=1 then .tup [nmA neg (rdO top) (rdO bot),.c (.d (.int .i64 0))]
 else .tup [nm0,.c (.d (.int .i64 6))]
theorem parseR_dRes (lv:Key→LB)(neg:Bool)(top bot:List UInt8)(brk:Bool):dRes lv (parseR neg top bot brk)=some (parseR neg top bot brk,[]):=by
 have h1:∀ b p q n,dRes lv (.tup [nmA b p q,.c (.d (.int .i64 n))])=some (.tup [nmA b p q,.c (.d (.int .i64 n))],[]):=by
  intro b p q n;cases p <;> cases q <;> rfl
 unfold parseR madeA
 grind
theorem read_row (G:List (List DV)){s:List UInt8}(h:rowB s=true) (hl:s.length≤2000):CallsP Tryz.prog G 91 [.c (.d (.str s))] (.c (nC (rdO s))):=by
 obtain⟨h1,h2⟩:=rowB_d h
 have:=exact_read_ok G s h1 (by omega)
 have e:oO (!s.isEmpty) (decN s 0)=rdO s:=by
  cases s with
  | nil=>grind
  | cons a l=>rfl
 rw [e,nK_nC] at this
 omega
theorem parse_ok (m:Int)(r:List UInt8) :
 CallsP Tryz.prog (GG m) 32 [.c (.d (.str r))] (parseR (hpB r [45]) (ctA (cpS r [45]) [47]) (ctB (cpS r [45]) [47]) (decide (0≤ctI (cpS r [45]) [47]))):=by
 refine CallsS.know 0 (by simp) (fun V v h=>(show r.length≤9223372036854775807 by cases h.1 with|str _ hl=>exact hl)) fun hr=>?_
 have hcl:(cpS r [45]).length≤9223372036854775807:=by
  unfold cpS;split
  ·grind
  ·exact hr
 have hcp:=cutPrefix_ok (GG m) r [45]
 have hct:=cut1_ok m (cpS r [45]) 47
 have hta:(ctA (cpS r [45]) [47]).length≤9223372036854775807:=by
  unfold ctA;split
  ·grind
  ·omega
 have htb:(ctB (cpS r [45]) [47]).length≤9223372036854775807:=by
  unfold ctB;split
  ·grind
  ·simp
 generalize hpB r [45]=neg at *
 generalize cpS r [45]=s at *
 generalize ctA s [47]=top at *
 generalize ctB s [47]=bot at *
 generalize decide (0≤ctI s [47])=brk at *
 refine CallsP.enc Go.Proofs.Tryz.func32 rfl (fun lv=>parseR_dRes lv _ _ _ _) fun _=>AW.q ?_
 refine AW.sr fun K hK=>?_
 simp
 refine CallDo.pure 1 9 hcp rfl (by simp) (by simp) ?_
 simp
 apply hK
 refine AW.sr fun K hK=>?_
 simp
 refine CallDo.pure 1 9 hct rfl (by simp) (by simp) ?_
 simp
 apply hK
 refine AW.seqK fun K hK=>AW.block (AW.seqK fun K1 hK1=>?_)
 have row1:=row_ok m top
 have row2:=row_ok m bot
 have hbad:∀ (fr:Nat→AV) (κ:Nat),fr 2=.c (.ptr 0 0)→fr 22=.c (.d (.bool true))→badB neg top bot brk=true →
  K1 ⟨fr,upd (fun _=>.hole) 0 (.cells true false 30 [.d (.bool false),.d .nilsl,.d .nilsl])⟩ κ:=by
  intro fr κ z2 z22 hb
  apply hK1
  refine AW.fy (by simp_all) (AW.f2 z2 @bNum0 ?_)
  refine AW.ret ?_
  simp only [parseR,if_pos hb]
  refine FinC.cell2 (κ:=0) (T:=30) (t:=2) (u:=3) (k:=0) (off:=0) (own:=true) (fz:=false) (U:=30) (cs:=[.d (.bool false),.d .nilsl,.d .nilsl]) rfl ?_ ?_ ?_ ?_ rfl rfl
  ·simp [z2]
  ·rfl
  ·rfl
  ·simp
 have hgood:∀ (fr:Nat→AV) (κ:Nat),fr 2=.c (.ptr 0 0)→fr 5=.c (.d (.bool neg))→fr 6=.c (.d (.str top))→fr 7=.c (.d (.str bot))→fr 8=.c (.d (.bool brk))→fr 22=.c (.d (.bool false)) →
  rowB top=true→(brk=true→rowB bot=true)→badB neg top bot brk=false →
  K1 ⟨fr,upd (fun _=>.hole) 0 (.cells true false 30 [.d (.bool false),.d .nilsl,.d .nilsl])⟩ κ:=by
  intro fr κ z2 z5 z6 z7 z8 z22 g1 g2 hb
  apply hK1
  refine AW.fn (by simp_all) (AW.seqK fun K2 hK2=>?_)
  have hmx:∀ (a b:Nat),(List.foldl (fun a b:Int=>if a<b then b else a) (a:Int) [(b:Int)])=((max a b:Nat):Int):=by
   intro a b;simp only [List.foldl];split <;> omega
  refine AW.rP ?_
  simp [z6,z7,intsOf,hmx,-List.foldl_cons,-List.foldl_nil]
  apply hK2
  have hbf:¬ badB neg top bot brk=true:=by rw [hb];decide
  by_cases hl:2000<max top.length bot.length
  ·have hl':(2000:Int)<((max top.length bot.length:Nat):Int):=by omega
   refine AW.fy (by simp_all) (AW.f2 z2 @bNum0 ?_)
   refine AW.ret ?_
   simp only [parseR,if_neg hbf,if_pos hl]
   refine FinC.cell2 (κ:=0) (T:=30) (t:=2) (u:=3) (k:=0) (off:=0) (own:=true) (fz:=false) (U:=30) (cs:=[.d (.bool false),.d .nilsl,.d .nilsl]) rfl ?_ ?_ ?_ ?_ rfl rfl
   ·simp [z2]
   ·rfl
   ·rfl
   ·simp
  have hl':¬ (2000:Int)<((max top.length bot.length:Nat):Int):=by omega
  refine AW.fn (by simp_all) (AW.skip (hK _ _ ?_))
  have ht2:top.length≤2000:=by omega
  have hb2:bot.length≤2000:=by omega
  have rd1:=read_row (GG m) g1 ht2
  have hof:=exact_of_ok (GG m) 1 (by decide)
  have c1:can 4294967296 (dO (rdO top)):=dig_can (by decide) _
  have c2:can 4294967296 (dO (some (dig 4294967296 1))):=dig_can (by decide) _
  have dlen:∀ (u:List UInt8),isD u→u.length≤2000→(dO (rdO u)).length<1000000000000:=by
   intro u hu hlu
   have h1:=decN_lt hu
   have h2:(10:Nat) ^ u.length≤4294967296 ^ u.length:=Nat.pow_le_pow_left (by decide) _
   have:=dig_len_le (B:=4294967296) (n:=decN u 0) (m:=u.length) (by decide) (by omega)
   simp only [dO_some]
   omega
  have l1:=dlen top (rowB_d g1).1 ht2
  have l2:(dO (some (dig 4294967296 1))).length<1000000000000:=Nat.lt_of_le_of_lt (dig_len_le (m:=1) (by decide) (by decide)) (by decide)
  refine AW.seqK fun K3 hK3=>AW.f1 z8 ?_
  cases hk:brk with
  | false=>
   rw [hk] at hbf
   have hmade:=exact_made_ok (GG m) neg (rdO top) (some (dig 4294967296 1)) c1 c2 (by intro h;exact absurd ((dig_nil (by decide)).1 h) (by decide)) l1 l2
   simp only [nK_nC] at hmade hof
   refine AW.cy (AW.sr fun K4 hK4=>?_)
   simp [z5,z6]
   refine CallDo.pure κ 9 rd1 (by simp) (by simp) (by simp) ?_
   simp
   refine CallDo.pure κ 9 hof (by simp) (by simp) (by simp) ?_
   simp
   by_cases hz:dO (rdO top)=[]
   ·simp only [madeA,if_pos hz] at hmade
    refine CallDo.pure κ 9 hmade (by simp) (by simp) (by simp) ?_
    simp [z2]
    apply hK4
    refine AW.ret ?_
    simp only [parseR,if_neg hbf,if_neg hl,reduceIte,madeA,if_pos hz]
    refine FinC.cell2 (κ:=0) (T:=30) (t:=2) (u:=3) (k:=0) (off:=0) (own:=true) (fz:=false) (U:=30) (cs:=[.d (.bool false),nC none,nC none]) rfl ?_ ?_ ?_ ?_ rfl rfl
    ·simp [z2]
    ·rfl
    ·rfl
    ·simp
   ·simp only [madeA,if_neg hz] at hmade
    refine CallDo.pure κ 9 hmade (by simp) (by simp) (by simp) ?_
    simp [z2]
    apply hK4
    refine AW.ret ?_
    simp only [parseR,if_neg hbf,if_neg hl,reduceIte,madeA,if_neg hz]
    refine FinC.cell2 (κ:=0) (T:=30) (t:=2) (u:=3) (k:=0) (off:=0) (own:=true) (fz:=false) (U:=30) (cs:=[.d (.bool neg),nC (mP (rdO top) (some (dig 4294967296 1))),nC (mQ (rdO top) (some (dig 4294967296 1)))]) rfl ?_ ?_ ?_ ?_ rfl rfl
    ·simp [z2]
    ·rfl
    ·rfl
    ·simp
  | true=>
   rw [hk] at hbf
   have g3:=g2 hk
   have rd2:=read_row (GG m) g3 hb2
   have c3:can 4294967296 (dO (rdO bot)):=dig_can (by decide) _
   have l3:=dlen bot (rowB_d g3).1 hb2
   have hgcd:=exact_gcd_ok (GG m) (rdO top) (rdO bot) c1 c3 l1 l3
   have his:=exact_is1_ok (GG m) (gO (rdO top) (rdO bot)) (by unfold gO;rw [gcdO_d c1 c3];exact dig_can (by decide) _)
   change CallsP _ _ 94 _ (nK .u32 (gO (rdO top) (rdO bot))) at hgcd
   simp only [nK_nC] at hgcd his
   refine AW.cn (AW.skip (hK3 _ _ (AW.sr fun K4 hK4=>?_)))
   simp [z6]
   refine CallDo.pure κ 9 rd1 (by simp) (by simp) (by simp) ?_
   simp [z7]
   refine CallDo.pure κ 9 rd2 (by simp) (by simp) (by simp) ?_
   simp
   apply hK4
   refine AW.seqK fun K4 hK4=>AW.sr fun K5 hK5=>?_
   simp
   refine CallDo.pure κ 9 hgcd (by simp) (by simp) (by simp) ?_
   simp
   refine CallDo.pure κ 9 his (by simp) (by simp) (by simp) ?_
   simp
   apply hK5
   by_cases h1:val 4294967296 (dO (gO (rdO top) (rdO bot)))=1
   ·refine AW.fn (by simp_all) (AW.skip (hK4 _ _ (AW.f3 z2 z5 @bNum ?_)))
    refine AW.ret ?_
    have hp:parseR neg top bot brk=.tup [nmA neg (rdO top) (rdO bot),.c (.d (.int .i64 0))]:=by rw [hk];unfold parseR;rw [if_neg hbf,if_neg hl,if_neg (by decide),if_pos h1]
    rw [hp]
    refine FinC.cell2 (κ:=0) (T:=30) (t:=2) (u:=3) (k:=0) (off:=0) (own:=true) (fz:=false) (U:=30) (cs:=[.d (.bool neg),nC (rdO top),nC (rdO bot)]) rfl ?_ ?_ ?_ ?_ rfl rfl
    ·simp [z2]
    ·rfl
    ·rfl
    ·simp
   ·refine AW.fy (by simp_all) (AW.f2 z2 @bNum0 ?_)
    refine AW.ret ?_
    have hp:parseR neg top bot brk=.tup [nm0,.c (.d (.int .i64 6))]:=by rw [hk];unfold parseR;rw [if_neg hbf,if_neg hl,if_neg (by decide),if_neg h1]
    rw [hp]
    refine FinC.cell2 (κ:=0) (T:=30) (t:=2) (u:=3) (k:=0) (off:=0) (own:=true) (fz:=false) (U:=30) (cs:=[.d (.bool false),.d .nilsl,.d .nilsl]) rfl ?_ ?_ ?_ ?_ rfl rfl
    ·simp [z2]
    ·rfl
    ·rfl
    ·simp
 refine AW.rP ?_
 simp
 refine CallDo.pure 1 9 row1 (by simp) (by simp) (by simp) ?_
 cases g1:rowB top with
 | false=>
  simp
  exact hbad _ _ (by simp) (by simp) (by simp [badB,g1])
 | true=>
  cases hn:neg with
  | true=>
   by_cases h48:top=[48]
   ·have e48:decide (top=[48])=true:=decide_eq_true h48
    simp [eqStr,e48]
    exact hbad _ _ (by simp) (by simp) (by simp [badB,hn,h48])
   ·cases hk:brk with
    | false=>
     simp [eqStr,h48]
     exact hgood _ _ (by simp) (by simp [hn]) (by simp) (by simp) (by simp [hk]) (by simp) g1 (fun h=>by grind) (by simp [badB,g1,hn,h48,hk])
    | true=>
     simp [eqStr,h48]
     refine CallDo.pure 1 9 row2 (by simp) (by simp) (by simp) ?_
     cases g2:rowB bot with
     | false=>
      simp
      exact hbad _ _ (by simp) (by simp) (by simp [badB,g2,hk])
     | true=>
      by_cases b48:bot=[48]
      ·have e:decide (bot=[48])=true:=decide_eq_true b48
       simp [eqStr,e]
       exact hbad _ _ (by simp) (by simp) (by simp [badB,e,hk])
      ·by_cases b49:bot=[49]
       ·have e:decide (bot=[49])=true:=decide_eq_true b49
        simp [eqStr,b48,e]
        exact hbad _ _ (by simp) (by simp) (by simp [badB,e,hk])
       ·simp [eqStr,b48,b49]
        exact hgood _ _ (by simp) (by simp [hn]) (by simp) (by simp) (by simp [hk]) (by simp) g1 (fun _=>g2) (by simp [badB,g1,hn,h48,hk,g2,b48,b49])
  | false=>
   cases hk:brk with
   | false=>
    simp
    exact hgood _ _ (by simp) (by simp [hn]) (by simp) (by simp) (by simp [hk]) (by simp) g1 (fun h=>by grind) (by simp [badB,g1,hn,hk])
   | true=>
    simp
    refine CallDo.pure 1 9 row2 (by simp) (by simp) (by simp) ?_
    cases g2:rowB bot with
    | false=>
     simp
     exact hbad _ _ (by simp) (by simp) (by simp [badB,g2,hk])
    | true=>
     by_cases b48:bot=[48]
     ·have e:decide (bot=[48])=true:=decide_eq_true b48
      simp [eqStr,e]
      exact hbad _ _ (by simp) (by simp) (by simp [badB,e,hk])
     ·by_cases b49:bot=[49]
      ·have e:decide (bot=[49])=true:=decide_eq_true b49
       simp [eqStr,b48,e]
       exact hbad _ _ (by simp) (by simp) (by simp [badB,e,hk])
      ·simp [eqStr,b48,b49]
       exact hgood _ _ (by simp) (by simp [hn]) (by simp) (by simp) (by simp [hk]) (by simp) g1 (fun _=>g2) (by simp [badB,g1,hn,hk,g2,b48,b49])
def parseE (neg:Bool)(top bot:List UInt8)(brk:Bool):Int:=
 if badB neg top bot brk=true then 6
 else if 2000<max top.length bot.length then 3
 else if brk=false then 0
 else if val 4294967296 (dO (gO (rdO top) (rdO bot)))=1 then 0 else 6
@[simp] theorem pure_agg (cs:List CV):(AV.agg cs).pure=cs.all CV.pure:=rfl
@[simp] theorem cpure_d (x:DV):(CV.d x).pure=true:=rfl
@[simp] theorem scC_cpure (o:Option (List (List DV))):(scC o).pure=true:=by cases o <;> rfl
@[simp] theorem pure_tup (l:List AV):(AV.tup l).pure=l.all AV.pure0:=rfl
@[simp] theorem pure0_c (x:CV):(AV.c x).pure0=x.pure:=rfl
@[simp] theorem pure0_agg (cs:List CV):(AV.agg cs).pure0=cs.all CV.pure:=rfl
theorem szR_one (L:Nat)(h:1≤L):szR 1 L:=⟨by show nl 1≤_;rw [nl_one];exact h,by show nl 1≤_;rw [nl_one];exact h⟩
def absR (x:Rat):Rat:=if x<0 then -x else x
theorem szR_abs {x:Rat}{L:Nat}(h:szR x L):szR (absR x) L:=by
 unfold absR;split
 ·exact szR_neg h
 omega
theorem rat_IsInt (G:List (List DV))(x:Rat):CallsP Tryz.prog G 189 [ratV x] (.c (.d (.bool (decide (x.den=1))))):=by
 have h:=num_IsInt_ok G (decide (x.num<0)) (natO x.num.natAbs) (denO x.den)
 have e:(denO x.den).isNone=decide (x.den=1):=by unfold denO;split <;> simp_all
 grind
def rsg (x:Rat):Int:=if x.num=0 then 0 else if x.num<0 then -1 else 1
def rtop (x:Rat):Option (List Nat):=if x.num=0 then none else some (dig 1000000000 x.num.natAbs)
def rbot (x:Rat):Option (List Nat):=if x.num=0 then none else some (dig 1000000000 x.den)
abbrev refV (x:Rat):AV:=rA (rsg x) (rtop x) (rbot x)
theorem rtop_d (x:Rat):dO (rtop x)=dig 1000000000 x.num.natAbs:=by
 unfold rtop;split
 ·simp_all
 ·rfl
theorem den_zero {x:Rat}(h:x.num=0):x.den=1:=by
 simp_all
theorem dig1:dig 1000000000 1=[1]:=(dig_of (by decide:2≤1000000000) (l:=[1]) ⟨by intro d hd;grind,by simp⟩ (by simp)).symm
theorem rBot_d (x:Rat):rBot (rsg x) (rbot x)=some (dig 1000000000 x.den):=by
 unfold rBot rsg rbot
 by_cases h:x.num=0
 ·rw [if_pos h,if_pos rfl,den_zero h,dig1]
 grind
theorem nl9_le (n:Nat):(dig 1000000000 n).length≤2*nl n:=by
 refine dig_len_le (by decide) ?_
 rw [Nat.pow_mul]
 exact Nat.lt_of_lt_of_le (nl_lt n) (Nat.pow_le_pow_left (by decide) _)
theorem r_one_dig (G:List (List DV)):CallsP Tryz.prog G 154 [] (nK .i64 (some (dig 1000000000 (1)))):=by rw [dig1];exact r_one_ok G
theorem r_div_dig (G:List (List DV))(A B:Nat)(hB:0<B)(h:(dig 1000000000 A).length≤100000)(h':(dig 1000000000 B).length≤100000):∃ o,CallsP Tryz.prog G 156 [(nK .i64 (some (dig 1000000000 (A)))),(nK .i64 (some (dig 1000000000 (B))))] (.tup [(nK .i64 (some (dig 1000000000 (A / B)))),nK .i64 o]):=by
 have h:=r_divided_ok G (some (dig 1000000000 A)) (some (dig 1000000000 B)) (dig_can (by decide) A).1 (dig_can (by decide) B) (by rw [dO_some];intro e;have:=(dig_nil (by decide)).1 e;omega) h h'
 rw [dO_some,dO_some,dig_val (by decide),dig_val (by decide)] at h
 grind
theorem refV_mk (neg:Bool){P Q:Nat}(hP:P≠0) (hQ:Q≠0):refV (mkRat (sgI neg P) Q)=rA (if neg then -1 else 1) (some (dig 1000000000 (P / Nat.gcd P Q))) (some (dig 1000000000 (Q / Nat.gcd P Q))):=by
 obtain⟨n1,n2⟩:=mkRat_sg neg (a:=P) hQ
 have hg:P / Nat.gcd P Q≠0:=Nat.ne_of_gt (Nat.div_pos (Nat.le_of_dvd (by omega) (Nat.gcd_dvd_left _ _)) (Nat.gcd_pos_of_pos_left _ (by omega)))
 have h0:(mkRat (sgI neg P) Q).num≠0:=by
  rw [n1];unfold sgI;split <;> omega
 unfold refV rsg rtop rbot
 rw [if_neg h0,if_neg h0,if_neg h0,n1,n2,sgI_abs]
 cases neg with
 | true=>
  rw [if_pos (show sgI true (P / Nat.gcd P Q)<0 from Int.neg_neg_of_pos (Int.ofNat_lt.2 (Nat.pos_of_ne_zero hg)))];rfl
 | false=>
  rfl
theorem refV_zero:refV 0=rA 0 none none:=rfl
attribute [local irreducible] FinC
theorem r_made_ok (G:List (List DV))(s:Int)(neg:Bool)(P Q:Nat)(p:Option (List Nat))(hp:dO p=dig 1000000000 P)(hs:P≠0→s=if neg then -1 else 1)(hQ:0<Q)(hPl:(dig 1000000000 P).length≤100000)(hQl:(dig 1000000000 Q).length≤100000) :
 CallsP Tryz.prog G 96 [.c (.d (.int .i64 s)),nK .i64 p,(nK .i64 (some (dig 1000000000 (Q))))] (refV (mkRat (sgI neg P) Q)):=by
 have oneG:=r_one_dig G
 have cmG:=fun A B=>r_cmp_dig G A B
 by_cases hP0:P=0
 ·subst hP0
  have e0:dO p=[]:=by rw [hp];exact dig0
  have e2:sgI neg 0=0:=by cases neg <;> rfl
  have e1:mkRat (sgI neg 0) Q=0:=by rw [e2];exact Rat.zero_mkRat Q
  rw [e1,refV_zero]
  refine CallsP.enc Go.Proofs.Tryz.func96 rfl (fun lv=>rC_dRes lv _ _ _) fun _=>AW.q ?_
  refine AW.seqK fun K hK=>AW.f1 e0 ?_
  refine AW.cy (AW.f1 @bR0 ?_)
  refine AW.ret ?_
  refine FinC.cell (T:=38) (t:=6) (k:=0) (off:=0) (own:=true) (fz:=false) (U:=38) (cs:=[.d (.int .i64 0),.d .nilsl,.d .nilsl]) rfl ?_ ?_ ?_
  ·simp
  ·rfl
  rfl
 have hp1:p=some (dig 1000000000 P):=by
  cases p with
  | none=>exact absurd ((dig_nil (by decide)).1 hp.symm) hP0
  | some l=>simp_all
 subst hp1
 have hs1:=hs hP0
 have hs0:¬ s=0:=by rw [hs1];split <;> omega
 rw [refV_mk neg hP0 (by omega),← hs1]
 have hdv:=r_divisor_ok G P Q (by omega) hQ hPl hQl
 obtain⟨g,hg⟩:∃ g,Nat.gcd P Q=g:=⟨_,rfl⟩
 have hg0:0<g:=by rw [← hg];exact Nat.gcd_pos_of_pos_left _ (by omega)
 have hgl:(dig 1000000000 g).length≤100000:=Nat.le_trans (dig_len_mono (by decide) (by rw [← hg];exact Nat.gcd_le_right _ hQ)) hQl
 obtain⟨o1,hd1⟩:=r_div_dig G P g hg0 hPl hgl
 obtain⟨o2,hd2⟩:=r_div_dig G Q g hg0 hQl hgl
 rw [hg] at hdv ⊢
 have hne:¬ dig 1000000000 P=[]:=fun e=>hP0 ((dig_nil (by decide)).1 e)
 have c0:∀ A B,(cmpN A B=0)↔A=B:=fun A B=>by unfold cmpN;omega
 refine CallsP.enc Go.Proofs.Tryz.func96 rfl (fun lv=>rC_dRes lv _ _ _) fun _=>AW.q ?_
 refine AW.seqK fun K hK=>AW.f2 hne hs0 ?_
 refine AW.cn (AW.skip (hK _ _ (AW.seqK fun K hK=>?_)))
 by_cases h1:P=1
 ·have hc:=(c0 P 1).2 h1
  have hg1:g=1:=by rw [← hg,h1,Nat.gcd_one_left]
  refine AW.sr fun K1 hK1=>?_
  simp
  refine CallDo.p 1 9 oneG ?_
  simp
  refine CallDo.p 1 9 (cmG P 1) ?_
  simp [hc]
  apply hK1
  refine AW.cy (AW.f2 @bR @nK_rC ?_)
  refine AW.ret ?_
  refine FinC.cell (T:=38) (t:=6) (k:=0) (off:=0) (own:=true) (fz:=false) (U:=38) (cs:=[.d (.int .i64 s),rC (some (dig 1000000000 P)),rC (some (dig 1000000000 Q))]) rfl ?_ ?_ ?_
  ·simp
  ·rfl
  simp_all
 have hc1:¬ cmpN P 1=0:=fun e=>h1 ((c0 P 1).1 e)
 by_cases h2:Q=1
 ·have hc:=(c0 Q 1).2 h2
  have hg1:g=1:=by rw [← hg,h2,Nat.gcd_one_right]
  refine AW.sr fun K1 hK1=>?_
  simp
  refine CallDo.p 1 9 oneG ?_
  simp
  refine CallDo.p 1 9 (cmG P 1) ?_
  simp [hc1]
  refine CallDo.p 1 9 oneG ?_
  simp
  refine CallDo.p 1 9 (cmG Q 1) ?_
  simp [hc]
  apply hK1
  refine AW.cy (AW.f2 @bR @nK_rC ?_)
  refine AW.ret ?_
  refine FinC.cell (T:=38) (t:=6) (k:=0) (off:=0) (own:=true) (fz:=false) (U:=38) (cs:=[.d (.int .i64 s),rC (some (dig 1000000000 P)),rC (some (dig 1000000000 Q))]) rfl ?_ ?_ ?_
  ·simp
  ·rfl
  simp_all
 have hc2:¬ cmpN Q 1=0:=fun e=>h2 ((c0 Q 1).1 e)
 refine AW.sr fun K1 hK1=>?_
 simp
 refine CallDo.p 1 9 oneG ?_
 simp
 refine CallDo.p 1 9 (cmG P 1) ?_
 simp [hc1]
 refine CallDo.p 1 9 oneG ?_
 simp
 refine CallDo.p 1 9 (cmG Q 1) ?_
 simp [hc2]
 apply hK1
 refine AW.cn (AW.skip (hK _ _ (AW.c0 1 hdv ?_)))
 refine AW.seqK fun K hK=>?_
 have fin:∀ (fr:Nat→AV) (κ:Nat),fr 0=.c (.d (.int .i64 s))→fr 1=(nK .i64 (some (dig 1000000000 (P / g))))→fr 2=(nK .i64 (some (dig 1000000000 (Q / g))))→fr 6=.c (.ptr 0 0) →
  K ⟨fr,upd (fun _=>.hole) 0 (.cells true false 38 [.d (.int .i64 0),.d .nilsl,.d .nilsl])⟩ κ:=by
  intro fr κ z0 z1 z2 z6
  apply hK
  refine AW.f6 z0 z1 z2 z6 @nK_rC @bR ?_
  refine AW.ret ?_
  refine FinC.cell (T:=38) (t:=6) (k:=0) (off:=0) (own:=true) (fz:=false) (U:=38) (cs:=[.d (.int .i64 s),rC (some (dig 1000000000 (P / g))),rC (some (dig 1000000000 (Q / g)))]) rfl ?_ ?_ ?_
  ·simp [z6]
  ·rfl
  ·rfl
 by_cases hg1:g=1
 ·have hc:=(c0 g 1).2 hg1
  refine AW.sr fun K1 hK1=>?_
  simp
  refine CallDo.p 1 9 oneG ?_
  simp
  refine CallDo.p 1 9 (cmG g 1) ?_
  simp [hc]
  apply hK1
  refine AW.cn (AW.skip ?_)
  simp_all
 ·have hc:¬ cmpN g 1=0:=fun e=>hg1 ((c0 g 1).1 e)
  refine AW.sr fun K1 hK1=>?_
  simp
  refine CallDo.p 1 9 oneG ?_
  simp
  refine CallDo.p 1 9 (cmG g 1) ?_
  simp [hc]
  apply hK1
  refine AW.cy (AW.sr fun K1 hK1=>?_)
  simp
  refine CallDo.pure 1 9 hd1 (rtup2_pure _ _) (by simp) (by simp) ?_
  simp
  apply hK1
  refine AW.rP ?_
  simp
  refine CallDo.pure 1 9 hd2 (rtup2_pure _ _) (by simp) (by simp) ?_
  simp
  simp_all
end Go.Am
namespace Go.Am
open Go.Am.Ty Go.Proofs N
attribute [local irreducible] FinC
theorem rsg_rng (x:Rat):rsg x=0∨rsg x=1∨rsg x = -1:=by unfold rsg;omega
theorem rsg_zero {x:Rat}:rsg x=0↔x.num=0:=by unfold rsg;omega
theorem rsg_s {x:Rat}(h:x.num≠0):rsg x=if decide (x.num<0) then -1 else 1:=by
 unfold rsg;grind
theorem absR_nd (x:Rat):(absR x).num=(x.num.natAbs:Int)∧(absR x).den=x.den:=by
 unfold absR
 split
 ·rename_i h
  have:x.num<0:=by
   have:=(Rat.lt_iff x 0).1 h
   simpa using this
  rw [Rat.neg_num,Rat.neg_den]
  omega
 ·rename_i h
  have:¬ x.num<0:=fun hn=>h ((Rat.lt_iff x 0).2 (by simp_all))
  omega
theorem refV_neg (x:Rat):refV (-x)=rA (-rsg x) (rtop x) (rbot x):=by
 unfold refV rsg rtop rbot
 rw [Rat.neg_num,Rat.neg_den,Int.natAbs_neg]
 grind
theorem refV_abs (x:Rat):refV (absR x)=rA (rsg x*rsg x) (rtop x) (rbot x):=by
 obtain⟨e1,e2⟩:=absR_nd x
 unfold refV rsg rtop rbot
 grind
theorem sz9 {n L:Nat}(h:nl n≤L):(dig 1000000000 n).length≤2*L:=Nat.le_trans (nl9_le n) (by omega)
theorem r_bot_ok (G:List (List DV))(x:Rat):CallsP Tryz.prog G 136 [refV x] (.c (rC (some (dig 1000000000 x.den)))):=by
 have:=r_bottom_ok G (rsg x) (rtop x) (rbot x)
 rwa [rBot_d] at this
theorem r_mul_ok (G:List (List DV))(p q:Option (List Nat))(A B L:Nat)(hp:dO p=dig 1000000000 A)(hq:dO q=dig 1000000000 B)(hA:nl A≤L)(hB:nl B≤L)(hL:L≤400000):CallsP Tryz.prog G 135 [.c (rC p),.c (rC q)] (.c (rC (some (dig 1000000000 (A*B))))):=by
 have h1:=sz9 hA
 have h2:=sz9 hB
 have h:=r_product_ok G p q (by rw [hp];exact (dig_can (by decide) _).1) (by rw [hq];exact (dig_can (by decide) _).1) (by grind) (by grind)
 rw [hp,hq,dig_val (by decide),dig_val (by decide)] at h
 rw [← nK_rC,← nK_rC,← nK_rC]
 exact h
theorem r_add_ok (G:List (List DV))(A B L:Nat)(hA:nl A≤L)(hB:nl B≤L)(hL:L≤400000):CallsP Tryz.prog G 137 [.c (rC (some (dig 1000000000 A))),.c (rC (some (dig 1000000000 B)))] (.c (rC (some (dig 1000000000 (A+B))))):=by
 have h1:=sz9 hA
 have h2:=sz9 hB
 have:=r_sum_dig G A B (by omega) (by omega)
 rw [nK_rC,nK_rC,nK_rC] at this;omega
theorem r_dif_ok (G:List (List DV))(A B L:Nat)(hA:nl A≤L)(hL:L≤400000)(h:B≤A):CallsP Tryz.prog G 139 [.c (rC (some (dig 1000000000 A))),.c (rC (some (dig 1000000000 B)))] (.c (rC (some (dig 1000000000 (A - B))))):=by
 have h1:=sz9 hA
 have:=r_diff_dig G A B (by omega) h
 rw [nK_rC,nK_rC,nK_rC] at this;omega
theorem r_cmp_ok (G:List (List DV))(A B:Nat):CallsP Tryz.prog G 138 [.c (rC (some (dig 1000000000 A))),.c (rC (some (dig 1000000000 B)))] (.c (.d (.int .i64 (cmpN A B)))):=by
 have:=r_cmp_dig G A B
 rw [nK_rC,nK_rC] at this;omega
theorem r_mk_ok (G:List (List DV))(s:Int)(neg:Bool)(P Q L:Nat)(p:Option (List Nat))(hp:dO p=dig 1000000000 P)(hs:P≠0→s=if neg then -1 else 1)(hQ:0<Q)(hP:nl P≤L)(hQl:nl Q≤L)(hL:L≤50000) :
 CallsP Tryz.prog G 96 [.c (.d (.int .i64 s)),.c (rC p),.c (rC (some (dig 1000000000 Q)))] (refV (mkRat (sgI neg P) Q)):=by
 have h1:=sz9 hP
 have h2:=sz9 hQl
 have:=r_made_ok G s neg P Q p hp hs hQ (by omega) (by omega)
 rw [nK_rC,nK_rC] at this;omega
theorem r_Neg_ok (G:List (List DV))(x:Rat):CallsP Tryz.prog G 71 [refV x] (refV (-x)):=by
 have hr:=rsg_rng x
 have hw:=w64 (n:=-rsg x) (by omega) (by omega)
 rw [refV_neg]
 refine CallsP.enc Go.Proofs.Tryz.func71 rfl (fun lv=>rC_dRes lv _ _ _) fun _=>AW.q ?_
 refine AW.f2 hw @bR ?_
 refine AW.ret ?_
 refine FinC.cell (T:=38) (t:=2) (k:=1) (off:=0) (own:=true) (fz:=false) (U:=38) (cs:=[.d (.int .i64 (-rsg x)),rC (rtop x),rC (rbot x)]) rfl ?_ ?_ ?_
 ·simp
 ·rfl
 rfl
theorem r_Abs_ok (G:List (List DV))(x:Rat):CallsP Tryz.prog G 102 [refV x] (refV (absR x)):=by
 have hr:=rsg_rng x
 have hw:IntKind.i64.wrap (rsg x*rsg x)=rsg x*rsg x:=by rcases hr with h|h|h <;> rw [h] <;> rfl
 rw [refV_abs]
 refine CallsP.enc Go.Proofs.Tryz.func102 rfl (fun lv=>rC_dRes lv _ _ _) fun _=>AW.q ?_
 refine AW.f2 hw @bR ?_
 refine AW.ret ?_
 refine FinC.cell (T:=38) (t:=2) (k:=1) (off:=0) (own:=true) (fz:=false) (U:=38) (cs:=[.d (.int .i64 (rsg x*rsg x)),rC (rtop x),rC (rbot x)]) rfl ?_ ?_ ?_
 ·simp
 ·rfl
 rfl
theorem r_IsInt_ok (G:List (List DV))(x:Rat):CallsP Tryz.prog G 159 [refV x] (.c (.d (.bool (decide (x.den=1))))):=by
 have hb:=r_bot_ok G x
 have ho:=r_one_dig G
 rw [nK_rC] at ho
 have hc:=r_cmp_ok G x.den 1
 have e:(cmpN x.den 1=0)↔x.den=1:=by unfold cmpN;(repeat' split) <;> omega
 refine CallsP.en Go.Proofs.Tryz.func159 rfl fun _=>AW.q ?_
 refine AW.sr fun K hK=>?_
 simp
 refine CallDo.p 1 9 hb ?_
 simp
 refine CallDo.p 1 9 ho ?_
 simp
 refine CallDo.p 1 9 hc ?_
 simp
 apply hK
 exact AW.r0 (FinP.rt (t:=2) rfl 9 (by simp [e]))
theorem sgA_rsg (x:Rat):sgA (decide (x.num<0)) (natO x.num.natAbs)=rsg x:=by
 unfold sgA rsg
 rw [natO_d]
 simp only [dig_nil (by decide:2≤4294967296),decide_eq_true_eq]
 simp
theorem cmpR_r (x y:Rat):cmpR x y=if rsg x<rsg y then -1 else if rsg y<rsg x then 1 else rsg x*cmpN (x.num.natAbs*y.den) (y.num.natAbs*x.den):=by
 rw [← cmA_rat]
 unfold cmA
 rw [sgA_rsg,sgA_rsg,natO_v,natO_v,denO_v,denO_v]
 omega
theorem r_Cmp_ok (G:List (List DV))(x y:Rat)(hx:szR x 20000)(hy:szR y 20000):CallsP Tryz.prog G 100 [refV x,refV y] (.c (.d (.int .i64 (cmpR x y)))):=by
 have b1:=r_bot_ok G x
 have b2:=r_bot_ok G y
 have m1:=r_mul_ok G (rtop x) (some (dig 1000000000 y.den)) x.num.natAbs y.den 20000 (rtop_d x) rfl hx.1 hy.2 (by decide)
 have m2:=r_mul_ok G (rtop y) (some (dig 1000000000 x.den)) y.num.natAbs x.den 20000 (rtop_d y) rfl hy.1 hx.2 (by decide)
 have cc:=r_cmp_ok G (x.num.natAbs*y.den) (y.num.natAbs*x.den)
 have hr:=cmpR_r x y
 have hw:IntKind.i64.wrap (rsg x*cmpN (x.num.natAbs*y.den) (y.num.natAbs*x.den))=rsg x*cmpN (x.num.natAbs*y.den) (y.num.natAbs*x.den):=by
  have h1:=cmpN_rng (x.num.natAbs*y.den) (y.num.natAbs*x.den)
  rcases rsg_rng x with h|h|h <;> rw [h] <;> exact w64 (by omega) (by omega)
 rw [hr]
 refine CallsP.en Go.Proofs.Tryz.func100 rfl fun _=>AW.q ?_
 refine AW.seqK fun K hK=>AW.block (AW.q ?_)
 by_cases h1:rsg x<rsg y
 ·refine AW.fy (by simp_all) (AW.q ?_)
  exact AW.r0 (FinP.rt (t:=4) rfl 9 (by simp [h1]))
 ·refine AW.fn (by simp_all) (AW.q ?_)
  by_cases h2:rsg y<rsg x
  ·refine AW.fy (by simp_all) (AW.q ?_)
   exact AW.r0 (FinP.rt (t:=4) rfl 9 (by simp_all))
  ·refine AW.fn (by simp_all) (AW.skip (hK _ _ (AW.seqK fun K hK=>?_)))
   refine AW.drawP mixed (by kernel_rfl) rfl ?_
   simp
   refine CallDo.p 2 9 b2 ?_
   simp
   refine CallDo.p 2 9 m1 ?_
   simp
   refine CallDo.p 2 9 b1 ?_
   simp
   refine CallDo.p 2 9 m2 ?_
   simp
   refine CallDo.p 2 9 cc ?_
   simp
   simp [hw]
   refine⟨by kernel_rfl,?_⟩
   apply hK
   exact AW.r0 (FinP.rt (t:=4) rfl 9 (by simp [h1,h2]))
end Go.Am
namespace Go.Am
open Go.Am.Ty Go.Proofs N
attribute [local irreducible] FinC
theorem dRes_ref2 (lv:Key→LB)(s:Int)(p q:Option (List Nat))(n:Int):dRes lv (.tup [rA s p q,.c (.d (.int .i64 n))])=some (.tup [rA s p q,.c (.d (.int .i64 n))],[]):=by
 cases p <;> cases q <;> rfl
theorem FinC.ref {c:Ctx}{fn:Func}{z:Rat}{t k:Nat}{s:LSt}{κ:Nat}(hr:fn.results=#[.cell t 38]) (ht:s.fr t=.c (.ptr k 0)) (hk:s.lv k=.cells true false 38 [.d (.int .i64 (rsg z)),rC (rtop z),rC (rbot z)]) (hP:c.P=Tryz.prog):FinC c fn (refV z) .ret s κ:=
 FinC.cell hr ht hk (by simp_all)
theorem r_Add_ok (G:List (List DV))(x y:Rat)(hx:szR x 10000)(hy:szR y 10000):CallsP Tryz.prog G 73 [refV x,refV y] (refV (x+y)):=by
 have b1:=r_bot_ok G x
 have b2:=r_bot_ok G y
 have m1:=r_mul_ok G (rtop x) (some (dig 1000000000 y.den)) x.num.natAbs y.den 10000 (rtop_d x) rfl hx.1 hy.2 (by decide)
 have m2:=r_mul_ok G (rtop y) (some (dig 1000000000 x.den)) y.num.natAbs x.den 10000 (rtop_d y) rfl hy.1 hx.2 (by decide)
 have m3:=r_mul_ok G (some (dig 1000000000 x.den)) (some (dig 1000000000 y.den)) x.den y.den 10000 rfl rfl hx.2 hy.2 (by decide)
 have l1:=nl_mul x.num.natAbs y.den
 have l2:=nl_mul y.num.natAbs x.den
 have l3:=nl_mul x.den y.den
 have hq0:0<x.den*y.den:=Nat.mul_pos x.den_pos y.den_pos
 have hx1:=hx.1
 have hx2:=hx.2
 have hy1:=hy.1
 have hy2:=hy.2
 have zx:x.num.natAbs*y.den=0↔x.num=0:=by rw [Nat.mul_eq_zero];have:=y.den_nz;omega
 have zy:y.num.natAbs*x.den=0↔y.num=0:=by rw [Nat.mul_eq_zero];have:=x.den_nz;omega
 rw [add_mk]
 generalize x.num.natAbs*y.den=A at *
 generalize y.num.natAbs*x.den=B at *
 generalize x.den*y.den=Q at *
 have ad:=r_add_ok G A B 20000 (by omega) (by omega) (by decide)
 have l4:=nl_add A B
 have cm:=r_cmp_ok G A B
 have mk:=fun (s:Int) (neg:Bool) (P:Nat) (hs:P≠0→s=if neg then -1 else 1) (hP:nl P≤20001)=>r_mk_ok G s neg P Q 20001 (some (dig 1000000000 P)) rfl hs hq0 hP (by omega) (by decide)
 have df1:A<B→_:=fun h=>r_dif_ok G B A 20000 (by omega) (by decide) (Nat.le_of_lt h)
 have df2:¬ A<B→_:=fun h=>r_dif_ok G A B 20000 (by omega) (by decide) (Nat.not_lt.1 h)
 have nA:∀ n,n≤A→nl n≤20001:=fun n h=>by have:=nl_mono h;omega
 have nB:∀ n,n≤B→nl n≤20001:=fun n h=>by have:=nl_mono h;omega
 refine CallsP.enc Go.Proofs.Tryz.func73 rfl (fun lv=>rC_dRes lv _ _ _) fun _=>AW.q ?_
 refine AW.seqK fun K hK=>?_
 refine AW.drawP mixed (by kernel_rfl) rfl ?_
 simp
 refine CallDo.p 3 9 b2 ?_
 simp
 refine CallDo.p 3 9 m1 ?_
 simp
 refine CallDo.p 3 9 b1 ?_
 simp
 refine CallDo.p 3 9 m2 ?_
 simp
 refine⟨by kernel_rfl,?_⟩
 apply hK
 refine AW.seqK fun K hK=>?_
 refine AW.drawP mixed (by kernel_rfl) rfl ?_
 simp
 refine CallDo.p 3 9 b1 ?_
 simp
 refine CallDo.p 3 9 b2 ?_
 simp
 refine CallDo.p 3 9 m3 ?_
 simp
 refine⟨by kernel_rfl,?_⟩
 apply hK
 refine AW.seqK fun K hK=>AW.seqK fun K1 hK1=>?_
 by_cases hs:rsg x=0∨rsg y=0∨rsg x=rsg y
 ·obtain⟨s,hse⟩:∃ s,(if rsg x=0 then rsg y else rsg x)=s:=⟨_,rfl⟩
  obtain⟨neg,hn1,hn2⟩:∃ neg:Bool,(A+B≠0→s=if neg then -1 else 1)∧sgI (decide (x.num<0)) A+sgI (decide (y.num<0)) B=sgI neg (A+B):=by
   by_cases hx0:x.num=0
   ·have hA:A=0:=zx.2 hx0
    have hs1:s=rsg y:=by rw [← hse,if_pos (rsg_zero.2 hx0)]
    refine⟨decide (y.num<0),fun h=>?_,?_⟩
    ·rw [hs1];exact rsg_s (fun e=>h (by omega))
    ·rw [hA,Nat.zero_add]
     have:sgI (decide (x.num<0)) 0=0:=by unfold sgI;split <;> rfl
     omega
   ·have hs1:s=rsg x:=by rw [← hse,if_neg (fun e=>hx0 (rsg_zero.1 e))]
    refine⟨decide (x.num<0),fun _=>?_,?_⟩
    ·rw [hs1];exact rsg_s hx0
    ·by_cases hy0:y.num=0
     ·have hB:B=0:=zy.2 hy0
      rw [hB,Nat.add_zero]
      have:sgI (decide (y.num<0)) 0=0:=by unfold sgI;split <;> rfl
      omega
     ·have he:rsg x=rsg y:=by
       rcases hs with h|h|h
       ·omega
       ·exact absurd (rsg_zero.1 h) hy0
       ·exact h
      rw [rsg_s hx0,rsg_s hy0] at he
      have hd:decide (x.num<0)=decide (y.num<0):=by
       cases h1:decide (x.num<0) <;> cases h2:decide (y.num<0) <;> simp [h1,h2] at he ⊢
      rw [hd,sgI_add]
  have mk1:=mk s neg (A+B) hn1 (by omega)
  rw [← hn2] at mk1
  by_cases c1:rsg x=0
  ·refine AW.l1 c1 (hK1 _ _ ?_)
   refine AW.cy (AW.f1 c1 ?_)
   refine AW.seqK fun K1 hK1=>AW.q ?_
   refine AW.cy ?_
   rw [if_pos c1] at hse
   refine AW.l1 hse (hK1 _ _ ?_)
   refine AW.sr fun K1 hK1=>?_
   simp
   refine CallDo.p 3 9 ad ?_
   simp
   refine CallDo.p 3 9 mk1 ?_
   simp
   simp [setSeg]
   apply hK1
   exact AW.ret (FinC.ref (k:=2) rfl (by simp) (by simp) rfl)
  ·rw [if_neg c1] at hse
   by_cases c2:rsg y=0
   ·refine AW.l2 c1 c2 (hK1 _ _ ?_)
    refine AW.cy (AW.f1 hse ?_)
    refine AW.seqK fun K1 hK1=>AW.q ?_
    have c3:¬ s=0:=by rw [← hse];exact c1
    refine AW.fn (by simp_all) (AW.skip (hK1 _ _ (AW.sr fun K1 hK1=>?_)))
    simp
    refine CallDo.p 3 9 ad ?_
    simp
    refine CallDo.p 3 9 mk1 ?_
    simp
    simp [setSeg]
    apply hK1
    exact AW.ret (FinC.ref (k:=2) rfl (by simp) (by simp) rfl)
   ·have c4:rsg x=rsg y:=hs.elim (fun h=>absurd h c1) fun h=>h.elim (fun h=>absurd h c2) id
    have c5:rsg y=s:=by rw [← c4];exact hse
    have c3:¬ s=0:=by rw [← hse];exact c1
    refine AW.rP ?_
    simp [hse,c5,c3]
    apply hK1
    refine AW.cy (AW.f1 hse ?_)
    refine AW.seqK fun K1 hK1=>AW.q ?_
    refine AW.fn (by simp_all) (AW.skip (hK1 _ _ (AW.sr fun K1 hK1=>?_)))
    simp
    refine CallDo.p 3 9 ad ?_
    simp
    refine CallDo.p 3 9 mk1 ?_
    simp
    simp [setSeg]
    apply hK1
    exact AW.ret (FinC.ref (k:=2) rfl (by simp) (by simp) rfl)
 ·have c1:¬ rsg x=0:=fun h=>hs (.inl h)
  have c2:¬ rsg y=0:=fun h=>hs (.inr (.inl h))
  have c3:¬ rsg x=rsg y:=fun h=>hs (.inr (.inr h))
  have hx0:x.num≠0:=fun h=>c1 (rsg_zero.2 h)
  have hy0:y.num≠0:=fun h=>c2 (rsg_zero.2 h)
  have hne:decide (x.num<0)≠decide (y.num<0):=fun h=>c3 (by rw [rsg_s hx0,rsg_s hy0,h])
  refine AW.l3 c1 c2 c3 (hK1 _ _ ?_)
  refine AW.cn (AW.skip (hK _ _ (AW.seqK fun K hK=>AW.seqK fun K1 hK1=>?_)))
  by_cases hlt:A<B
  ·have hc:cmpN A B<0:=by rw [cmpN_lt hlt];omega
   have d1:=df1 hlt
   have mk1:=mk (rsg y) (decide (y.num<0)) (B - A) (fun _=>rsg_s hy0) (nB _ (Nat.sub_le _ _))
   rw [← sgI_lt hne hlt] at mk1
   refine AW.m1 3 cm hc (hK1 _ _ ?_)
   refine AW.cy (AW.seqK fun K1 hK1=>?_)
   refine AW.drawP mixed (by kernel_rfl) rfl ?_
   simp
   refine CallDo.p 3 9 d1 ?_
   simp
   refine CallDo.p 3 9 mk1 ?_
   simp
   simp [setSeg]
   refine⟨by kernel_rfl,?_⟩
   apply hK1
   exact AW.ret (FinC.ref (k:=2) rfl (by simp) (by simp) rfl)
  ·have hc:¬ cmpN A B<0:=by
    by_cases e:A=B
    ·rw [cmpN_eq e];omega
    ·rw [cmpN_gt (by omega)];omega
   have d1:=df2 hlt
   have mk1:=mk (rsg x) (decide (x.num<0)) (A - B) (fun _=>rsg_s hx0) (nA _ (Nat.sub_le _ _))
   rw [← sgI_ge hne hlt] at mk1
   refine AW.m1 3 cm hc (hK1 _ _ ?_)
   refine AW.cn (AW.skip (hK _ _ (AW.seqK fun K hK=>?_)))
   refine AW.drawP mixed (by kernel_rfl) rfl ?_
   simp
   refine CallDo.p 3 9 d1 ?_
   simp
   refine CallDo.p 3 9 mk1 ?_
   simp
   simp [setSeg]
   refine⟨by kernel_rfl,?_⟩
   apply hK
   exact AW.ret (FinC.ref (k:=2) rfl (by simp) (by simp) rfl)
end Go.Am
namespace Go.Am
open Go.Am.Ty Go.Proofs N
attribute [local irreducible] FinC
theorem rtop_ne {x:Rat}(h:x.num≠0):rtop x=some (dig 1000000000 x.num.natAbs):=if_neg h
theorem rbot_ne {x:Rat}(h:x.num≠0):rbot x=some (dig 1000000000 x.den):=if_neg h
theorem r_Int1_ok (m:Int):CallsP Tryz.prog (GG m) 192 [.c (.d (.int .i64 1))] (refV 1):=by
 have h:CallsP Tryz.prog (GG m) 192 [.c (.d (.int .i64 1))] (.agg [.d (.int .i64 1),.d (.sl [[.int .i64 1]]),.d (.sl [[.int .i64 1]])]):=CallsP.of_ev (evA_ok m 60) (by kernel_rfl)
 have e:refV 1=.agg [.d (.int .i64 1),.d (.sl [[.int .i64 1]]),.d (.sl [[.int .i64 1]])]:=by
  show rA 1 (some (dig 1000000000 1)) (some (dig 1000000000 1))=_
  rw [dig1];rfl
 grind
theorem r_pow_ok (G:List (List DV)):∀ (k:Nat),k≤100000→CallsP Tryz.prog G 195 [.c (.d (.int .i64 (k:Int)))] (.c (rC (some (dig 1000000000 (2 ^ k))))):=by
 intro k
 induction k using Nat.strongRecOn with
 | ind k ih=>
 intro hk
 have ho:=r_one_dig G
 rw [nK_rC] at ho
 by_cases h0:k=0
 ·subst h0
  have h0':((0:Nat):Int)=0:=rfl
  refine CallsP.en Go.Proofs.Tryz.func195 rfl fun _=>AW.q ?_
  refine AW.seqK fun K hK=>AW.q ?_
  refine AW.cy (AW.c0 1 ho ?_)
  exact AW.r0 (FinP.rt (t:=2) rfl 9 (by simp))
 have hk0:¬ (k:Int)=0:=by omega
 have ih2:=ih (k / 2) (by omega) (by omega)
 have e1:(k:Int).tdiv 2=((k / 2:Nat):Int):=td_nat k 2
 have w1:=w64 (n:=((k / 2:Nat):Int)) (by omega) (by omega)
 have e2:(k:Int).tmod 2=((k % 2:Nat):Int):=tm_nat k 2
 have n2:=nl_two (k / 2)
 have m1:=r_mul_ok G (some (dig 1000000000 (2 ^ (k / 2)))) (some (dig 1000000000 (2 ^ (k / 2)))) (2 ^ (k / 2)) (2 ^ (k / 2)) 10000 rfl rfl (by omega) (by omega) (by decide)
 rw [← Nat.pow_add] at m1
 have n3:=nl_two (k / 2+k / 2)
 have ad:=r_add_ok G (2 ^ (k / 2+k / 2)) (2 ^ (k / 2+k / 2)) 10000 (by omega) (by omega) (by decide)
 have e3:2 ^ (k / 2+k / 2)+2 ^ (k / 2+k / 2)=2 ^ (k / 2+k / 2+1):=by rw [Nat.pow_succ];omega
 rw [e3] at ad
 refine CallsP.en Go.Proofs.Tryz.func195 rfl fun _=>AW.q ?_
 refine AW.seqK fun K hK=>AW.q ?_
 refine AW.fn (by simp_all) (AW.skip (hK _ _ (AW.sr fun K hK=>?_)))
 simp [e1,w1,-Int.natCast_ediv]
 refine CallDo.p 1 9 ih2 ?_
 simp
 apply hK
 refine AW.c0 1 m1 ?_
 refine AW.seqK fun K hK=>AW.seqK fun K1 hK1=>?_
 by_cases ho:k % 2=1
 ·have e4:k=k / 2+k / 2+1:=by omega
  have ho':(k:Int) % 2=1:=by omega
  refine AW.rP ?_
  simp [e2,ho,-Int.natCast_emod]
  apply hK1
  refine AW.fy (by rfl) (AW.m0 1 ad (hK _ _ ?_))
  refine AW.q ?_
  rw [← e4]
  exact AW.r0 (FinP.rt (t:=2) rfl 9 (by simp))
 ·have e4:k=k / 2+k / 2:=by omega
  have ho':¬ (k:Int) % 2=1:=by omega
  refine AW.rP ?_
  simp [e2,-Int.natCast_emod]
  apply hK1
  refine AW.fn (by simp [ho'] <;> omega) (AW.skip (hK _ _ (AW.q ?_)))
  rw [← e4]
  exact AW.r0 (FinP.rt (t:=2) rfl 9 (by simp))
end Go.Am
namespace Go.Am
open Go.Am.Ty Go.Proofs N
attribute [local irreducible] FinC
theorem r_Shift_ok (G:List (List DV))(x:Rat)(k:Int)(hx:szR x 10000)(h1:-20000≤k)(h2:k≤20000):CallsP Tryz.prog G 145 [refV x,.c (.d (.int .i64 k))] (refV (shiftR x k)):=by
 have b1:=r_bot_ok G x
 have hx1:=hx.1
 have hx2:=hx.2
 by_cases hk:k<0
 ·have hsh:=shiftR_neg (x:=x) hk
  obtain⟨j,hj⟩:∃ j:Nat,(-k).toNat=j:=⟨_,rfl⟩
  rw [hj] at hsh
  have w1:IntKind.i64.wrap (-k)=(j:Int):=by rw [w64 (by omega) (by omega)];omega
  have n1:=nl_two j
  have pw:=r_pow_ok G j (by omega)
  have m1:=r_mul_ok G (some (dig 1000000000 x.den)) (some (dig 1000000000 (2 ^ j))) x.den (2 ^ j) 10000 rfl rfl hx2 (by omega) (by decide)
  have l1:=nl_mul x.den (2 ^ j)
  have mk:=r_mk_ok G (rsg x) (decide (x.num<0)) x.num.natAbs (x.den*2 ^ j) 20000 (rtop x) (rtop_d x) (fun h=>rsg_s (by omega)) (Nat.mul_pos x.den_pos (Nat.pow_pos (by decide))) (by omega) (by omega) (by decide)
  rw [← hsh] at mk
  generalize 2 ^ j=T at *
  refine CallsP.enc Go.Proofs.Tryz.func145 rfl (fun lv=>rC_dRes lv _ _ _) fun _=>AW.q ?_
  refine AW.seqK fun K hK=>AW.q ?_
  refine AW.fy (by simp_all) (AW.seqK fun K1 hK1=>?_)
  refine AW.drawP mixed (by kernel_rfl) rfl ?_
  simp
  refine CallDo.p 2 9 b1 ?_
  simp
  simp [w1]
  refine CallDo.p 2 9 pw ?_
  simp
  refine CallDo.p 2 9 m1 ?_
  simp
  refine CallDo.p 2 9 mk ?_
  simp [setSeg]
  refine⟨by kernel_rfl,?_⟩
  apply hK1
  exact AW.ret (FinC.ref (k:=1) rfl (by simp) (by simp) rfl)
 ·have hkn:k=((k.toNat:Nat):Int):=by omega
  have n1:=nl_two k.toNat
  have pw:=r_pow_ok G k.toNat (by omega)
  rw [← hkn] at pw
  have m1:=r_mul_ok G (rtop x) (some (dig 1000000000 (2 ^ k.toNat))) x.num.natAbs (2 ^ k.toNat) 10000 (rtop_d x) rfl hx1 (by omega) (by decide)
  have l1:=nl_mul x.num.natAbs (2 ^ k.toNat)
  have mk:=r_mk_ok G (rsg x) (decide (x.num<0)) (x.num.natAbs*2 ^ k.toNat) x.den 20000 (some (dig 1000000000 (x.num.natAbs*2 ^ k.toNat))) rfl (fun h=>rsg_s (fun e=>h (by grind))) x.den_pos (by omega) (by omega) (by decide)
  rw [← shiftR_pos hk] at mk
  generalize 2 ^ k.toNat=T at *
  refine CallsP.enc Go.Proofs.Tryz.func145 rfl (fun lv=>rC_dRes lv _ _ _) fun _=>AW.q ?_
  refine AW.seqK fun K hK=>AW.q ?_
  refine AW.fn (by simp [hk] <;> omega) (AW.skip (hK _ _ (AW.seqK fun K hK=>?_)))
  refine AW.drawP mixed (by kernel_rfl) rfl ?_
  simp
  refine CallDo.p 2 9 pw ?_
  simp
  refine CallDo.p 2 9 m1 ?_
  simp
  refine CallDo.p 2 9 b1 ?_
  simp
  refine CallDo.p 2 9 mk ?_
  simp [setSeg]
  refine⟨by kernel_rfl,?_⟩
  apply hK
  exact AW.ret (FinC.ref (k:=1) rfl (by simp) (by simp) rfl)
theorem r_Two_ok (m:Int)(k:Int)(h1:-20000≤k)(h2:k≤20000):CallsP Tryz.prog (GG m) 194 [.c (.d (.int .i64 k))] (refV (shiftR 1 k)):=by
 have i1:=r_Int1_ok m
 have sh:=r_Shift_ok (GG m) 1 k (szR_one 10000 (by decide)) h1 h2
 refine CallsP.enc Go.Proofs.Tryz.func194 rfl (fun lv=>rC_dRes lv _ _ _) fun _=>AW.q ?_
 refine AW.sr fun K hK=>?_
 simp
 refine CallDo.p 1 9 i1 ?_
 simp
 refine CallDo.p 1 9 sh ?_
 simp [setSeg]
 apply hK
 exact AW.ret (FinC.ref (k:=0) rfl (by simp) (by simp) rfl)
theorem bl_iff {A k:Nat}:A<2 ^ k↔blen A≤k:=by
 constructor
 ·intro h
  by_cases h0:A=0
  ·subst h0;exact Nat.zero_le _
  ·have h1:=blen_le h0
   have:blen A - 1<k:=(Nat.pow_lt_pow_iff_right (by decide:1<2)).1 (Nat.lt_of_le_of_lt h1 h)
   omega
 ·intro h
  exact Nat.lt_of_lt_of_le (blen_lt A) (Nat.pow_le_pow_right (by decide) h)
theorem blen_hi {A n:Nat}(h:(dig 1000000000 A).length≤n):blen A≤30*n:=by
 rw [← bl_iff,Nat.pow_mul]
 exact Nat.lt_of_lt_of_le (dig_lt (by decide)) (Nat.le_trans (Nat.pow_le_pow_right (by decide) h) (Nat.pow_le_pow_left (by decide) _))
theorem blen_lo {A:Nat}:29*((dig 1000000000 A).length - 1)≤blen A:=by
 by_cases h0:dig 1000000000 A=[]
 ·grind
 ·have h1:=can_ge (dig_can (B:=1000000000) (by decide) A) h0
  rw [dig_val (by decide)] at h1
  have h2:2 ^ (29*((dig 1000000000 A).length - 1))≤A:=by
   rw [Nat.pow_mul];exact Nat.le_trans (Nat.pow_le_pow_left (by decide) _) h1
  by_cases h3:blen A≤29*((dig 1000000000 A).length - 1)
  ·have:=bl_iff.2 h3;omega
  ·omega
theorem r_length_ok (G:List (List DV))(A:Nat)(hl:(dig 1000000000 A).length≤3000):CallsP Tryz.prog G 193 [(nK .i64 (some (dig 1000000000 (A))))] (.c (.d (.int .i64 (blen A)))):=by
 have hlo:=blen_lo (A:=A)
 have hhi:=blen_hi (A:=A) (Nat.le_refl _)
 obtain⟨n,hn⟩:∃ n,(dig 1000000000 A).length=n:=⟨_,rfl⟩
 have pwG:=fun k (h:k≤100000)=>r_pow_ok G k h
 have cmG:∀ k:Nat,CallsP Tryz.prog G 138 [(nK .i64 (some (dig 1000000000 (A)))),.c (rC (some (dig 1000000000 (2 ^ k))))] (.c (.d (.int .i64 (cmpN A (2 ^ k))))):=fun k=>by
  have:=r_cmp_dig G A (2 ^ k)
  rw [← nK_rC];omega
 have hln:∀ lv,lenP Tryz.prog 36 lv (nK .i64 (some (dig 1000000000 (A))))=some (.c (.d (.int .i64 n)),[],[],True):=fun lv=>by
  simp_all
 rw [hn] at hlo hhi hl
 have e1:=w64 (n:=(n:Int) - 1) (by omega) (by omega)
 have e2:=w64 (n:=29*((n:Int) - 1)) (by omega) (by omega)
 have e3:IntKind.i64.wrap (30*(n:Int))=((30*n:Nat):Int):=by rw [w64 (by omega) (by omega)];omega
 obtain⟨z,hz⟩:∃ z:Int,29*((n:Int) - 1)=z:=⟨_,rfl⟩
 rw [hz] at e2
 have hmx:(if 0<z then z else 0)=((29*(n - 1):Nat):Int):=by split <;> omega
 have blI:=fun k=>bl_iff (A:=A) (k:=k)
 generalize blen A=L at *
 refine CallsP.en Go.Proofs.Tryz.func193 rfl fun _=>AW.q ?_
 refine AW.sr fun K hK=>?_
 simp [intsOf,hln,e1,hz,e2,e3,hmx,-Int.natCast_mul,-lenP_nK']
 apply hK
 refine AW.seqK fun K hK=>AW.block ?_
 refine AW.loopV (fun (p:Nat × Nat)=>⟨frOf [(0,(nK .i64 (some (dig 1000000000 (A))))),(3,.c (.d (.int .i64 (p.1:Int)))),(4,.c (.d (.int .i64 (p.2:Int))))],fun _=>.hole⟩) 0
  (fun p=>p.1≤L∧L≤p.2∧p.2≤90000) (fun p=>p.2 - p.1) (29*(n - 1),30*n) (Le.mk' _ rfl noMap_hole (by simp)) ⟨hlo,hhi,by omega⟩ ?_
 rintro⟨lo,hi⟩ ⟨q1,q2,q3⟩
 simp only at q1 q2 q3
 refine AW.seqK fun K2 hK2=>AW.q ?_
 by_cases hlh:lo<hi
 ·have u1:IntKind.i64.wrap ((lo:Int)+hi)=((lo+hi:Nat):Int):=by rw [w64 (by omega) (by omega)];omega
  have u3:(((lo+hi:Nat):Int)).tdiv 2=(((lo+hi) / 2:Nat):Int):=td_nat _ 2
  obtain⟨mi,hmi⟩:∃ mi,(lo+hi) / 2=mi:=⟨_,rfl⟩
  rw [hmi] at u3
  have u4:=w64 (n:=(mi:Int)) (by omega) (by omega)
  have u5:=w64 (n:=(mi:Int)+1) (by omega) (by omega)
  have pw:=pwG mi (by omega)
  have cm:=cmG mi
  have bi:=blI mi
  refine AW.fy (by simp_all) (AW.skip (hK2 _ _ (AW.block (AW.sr fun K4 hK4=>?_))))
  simp [u1,u3,u4,-Int.natCast_add]
  apply hK4
  refine AW.seqK fun K4 hK4=>?_
  by_cases hc:cmpN A (2 ^ mi)<0
  ·have hle:L≤mi:=bi.1 (by by_cases h:A<2 ^ mi;exact h;exfalso;by_cases e:A=2 ^ mi;rw [cmpN_eq e] at hc;omega;rw [cmpN_gt (by omega)] at hc;omega)
   refine AW.rP ?_
   simp
   refine CallDo.p 0 9 pw ?_
   simp
   refine CallDo.p 0 9 cm ?_
   simp [hc]
   apply hK4
   refine AW.cy (AW.rP ?_)
   simp
   exact⟨lo,mi,Le.mk' _ rfl noMap_hole (by simp),⟨q1,hle,by omega⟩,by omega⟩
  ·have hle:¬ L≤mi:=fun h=>hc (by rw [cmpN_lt (bi.2 h)];omega)
   have e:(mi:Int)+1=((mi+1:Nat):Int):=by omega
   refine AW.rP ?_
   simp
   refine CallDo.p 0 9 pw ?_
   simp
   refine CallDo.p 0 9 cm ?_
   simp [hc]
   apply hK4
   refine AW.cn (AW.rP ?_)
   simp [u5]
   exact⟨mi+1,hi,Le.mk' _ rfl noMap_hole (by simp),⟨by omega,q2,q3⟩,by omega⟩
 ·obtain rfl:lo=L:=by omega
  refine AW.fn (by simp_all) (AW.exit (hK _ _ (AW.q ?_)))
  exact AW.r0 (FinP.rt (t:=2) rfl 9 (by simp))
end Go.Am
namespace Go.Am
open Go.Am.Ty Go.Proofs N
theorem row_ge2 {s:List UInt8}(h:rowB s=true) (h0:s≠[48]) (h1:s≠[49]):2≤decN s 0:=by
 obtain⟨hD,hne⟩:=rowB_d h
 unfold rowB at h
 simp only [Bool.and_eq_true,Bool.or_eq_true,Bool.not_eq_true',decide_eq_true_eq,decide_eq_false_iff_not] at h
 have h4:s.getD 0 0≠48:=by
  rcases h.2 with h3|h3
  ·exact absurd h3 h0
  ·exact h3
 cases s with
 | nil=>grind
 | cons c l=>
  have hc:=hD c (by simp)
  have hc48:c≠48:=h4
  have hcn:c.toNat≠48:=fun e=>hc48 (UInt8.toNat_inj.1 (by rw [e];rfl))
  have e:decN (c::l) 0=(c.toNat - 48)*10 ^ l.length+decN l 0:=by
   show decN l (10*0+(c.toNat - 48))=_
   rw [decN_shift,Nat.mul_zero,Nat.zero_add]
  rw [e]
  cases l with
  | nil=>
   have hc49:c.toNat≠49:=fun e=>h1 (by rw [UInt8.toNat_inj.1 (show c.toNat=(49:UInt8).toNat by rw [e];rfl)])
   grind
  | cons d l=>
   have h10:10≤10 ^ (d::l).length:=by
    rw [List.length_cons,Nat.pow_succ]
    have:=Nat.pow_pos (a:=10) (n:=l.length) (by decide)
    omega
   have:1*10≤(c.toNat - 48)*10 ^ (d::l).length:=Nat.mul_le_mul (by omega) h10
   omega
def ratQ (neg:Bool)(top bot:List UInt8)(brk:Bool):Rat:=if parseE neg top bot brk=0 then mkRat (sgI neg (decN top 0)) (if brk=true then decN bot 0 else 1) else 0
theorem rdO_v (s:List UInt8):(val 4294967296 (dO (rdO s)))=decN s 0:=by show val 4294967296 (dig 4294967296 (decN s 0))=_;rw [val_dig]
theorem rdO_can (s:List UInt8):can 4294967296 (dO (rdO s)):=can_dig _
theorem gO_v (s t:List UInt8):(val 4294967296 (dO (gO (rdO s) (rdO t))))=Nat.gcd (decN s 0) (decN t 0):=by
 unfold gO;rw [gcdO_d (rdO_can s) (rdO_can t),val_dig,rdO_v,rdO_v]
theorem bad_no {neg:Bool}{top bot:List UInt8}{brk:Bool}(h:badB neg top bot brk=false):rowB top=true∧(brk=true→rowB bot=true∧bot≠[48]∧bot≠[49]):=by
 unfold badB at h
 grind
theorem parseR_rat (neg:Bool)(top bot:List UInt8)(brk:Bool):parseR neg top bot brk=.tup [ratV (ratQ neg top bot brk),.c (.d (.int .i64 (parseE neg top bot brk)))]:=by
 by_cases h1:badB neg top bot brk=true
 ·have e:parseE neg top bot brk=6:=by unfold parseE;rw [if_pos h1]
  have e2:ratQ neg top bot brk=0:=by unfold ratQ;rw [e,if_neg (by decide)]
  rw [e,e2];unfold parseR;rw [if_pos h1];rfl
 by_cases h2:2000<max top.length bot.length
 ·have e:parseE neg top bot brk=3:=by unfold parseE;rw [if_neg h1,if_pos h2]
  have e2:ratQ neg top bot brk=0:=by unfold ratQ;rw [e,if_neg (by decide)]
  rw [e,e2];unfold parseR;rw [if_neg h1,if_pos h2];rfl
 obtain⟨g1,g2⟩:=bad_no (by simpa using h1)
 by_cases h3:brk=false
 ·have e:parseE neg top bot brk=0:=by unfold parseE;rw [if_neg h1,if_neg h2,if_pos h3]
  have e2:ratQ neg top bot brk=mkRat (sgI neg (decN top 0)) 1:=by unfold ratQ;rw [e,if_pos rfl,h3];rfl
  rw [e,e2];unfold parseR;rw [if_neg h1,if_neg h2,if_pos h3]
  rw [madeA_rat neg (rdO_can top) (q:=some (dig 4294967296 1)) (can_dig 1) (dig_ne (by decide)),rdO_v,dO_some,val_dig]
 have hb:brk=true:=by simpa using h3
 obtain⟨r1,r2,r3⟩:=g2 hb
 have hge:=row_ge2 r1 r2 r3
 by_cases h4:(val 4294967296 (dO (gO (rdO top) (rdO bot))))=1
 ·have e:parseE neg top bot brk=0:=by unfold parseE;rw [if_neg h1,if_neg h2,if_neg h3,if_pos h4]
  have e2:ratQ neg top bot brk=mkRat (sgI neg (decN top 0)) (decN bot 0):=by unfold ratQ;rw [e,if_pos rfl,hb];rfl
  rw [e,e2];unfold parseR;rw [if_neg h1,if_neg h2,if_neg h3,if_pos h4]
  rw [gO_v] at h4
  have ha:decN top 0≠0:=by intro h0;rw [h0,Nat.gcd_zero_left] at h4;omega
  obtain⟨n1,n2⟩:=mkRat_sg neg (a:=decN top 0) (b:=decN bot 0) (by omega)
  rw [h4,Nat.div_one] at n1 n2
  show AV.tup [nmA neg (some (dig 4294967296 (decN top 0))) (some (dig 4294967296 (decN bot 0))),_]=AV.tup [nmA (decide ((mkRat (sgI neg (decN top 0)) (decN bot 0)).num<0)) (natO (mkRat (sgI neg (decN top 0)) (decN bot 0)).num.natAbs) (denO (mkRat (sgI neg (decN top 0)) (decN bot 0)).den),_]
  rw [n1,n2,sgI_abs,sgI_neg neg ha]
  unfold natO denO
  grind
 ·have e:parseE neg top bot brk=6:=by unfold parseE;rw [if_neg h1,if_neg h2,if_neg h3,if_neg h4]
  have e2:ratQ neg top bot brk=0:=by unfold ratQ;rw [e,if_neg (by decide)]
  rw [e,e2];unfold parseR;rw [if_neg h1,if_neg h2,if_neg h3,if_neg h4];rfl
theorem szR_zero (L:Nat)(h:1≤L):szR 0 L:=⟨by show nl 0≤_;exact Nat.zero_le _,by show nl 1≤_;rw [nl_one];exact h⟩
theorem decN_nl {s:List UInt8}(h:isD s) (hl:s.length≤2000):nl (decN s 0)≤300:=by
 have:=nl_ten (decN_lt h)
 omega
theorem ratQ_sz (neg:Bool)(top bot:List UInt8)(brk:Bool):szR (ratQ neg top bot brk) 300:=by
 unfold ratQ
 split
 ·rename_i h
  have h1:¬ badB neg top bot brk=true:=by
   intro hb;unfold parseE at h;rw [if_pos hb] at h;cases h
  have h2:¬ 2000<max top.length bot.length:=by
   intro hb;unfold parseE at h;rw [if_neg h1,if_pos hb] at h;cases h
  obtain⟨g1,g2⟩:=bad_no (by simpa using h1)
  split
  ·rename_i hb
   obtain⟨r1,r2,r3⟩:=g2 hb
   have hge:=row_ge2 r1 r2 r3
   exact szR_mk _ (by omega) (decN_nl (rowB_d g1).1 (by omega)) (decN_nl (rowB_d r1).1 (by omega))
  ·exact szR_mk _ (by decide) (decN_nl (rowB_d g1).1 (by omega)) (by rw [nl_one];decide)
 ·exact szR_zero _ (by decide)
def ratE (r:List UInt8):Int:=parseE (hpB r [45]) (ctA (cpS r [45]) [47]) (ctB (cpS r [45]) [47]) (decide (0≤ctI (cpS r [45]) [47]))
def ratP (r:List UInt8):Rat:=ratQ (hpB r [45]) (ctA (cpS r [45]) [47]) (ctB (cpS r [45]) [47]) (decide (0≤ctI (cpS r [45]) [47]))
theorem ratP_sz (r:List UInt8):szR (ratP r) 300:=ratQ_sz ..
theorem rat_Parse (m:Int)(r:List UInt8):CallsP Tryz.prog (GG m) 32 [.c (.d (.str r))] (.tup [ratV (ratP r),.c (.d (.int .i64 (ratE r)))]):=by
 have h:=parse_ok m r
 rw [parseR_rat] at h
 exact h
theorem isDg_iff (c:UInt8):isDg c=true↔48≤c.toNat∧c.toNat≤57:=by simp [isDg]
theorem dw_all {l:List UInt8}(h:∀ x∈l,isDg x=true):l.dropWhile isDg=[]:=by
 induction l with
 | nil=>rfl
 | cons a l ih=>simp_all
theorem trimD_of {s:List UInt8}(h:isD s):trimD s=[]:=by
 have h1:s.reverse.dropWhile isDg=[]:=dw_all fun x hx=>(isDg_iff x).2 (h x (List.mem_reverse.1 hx))
 unfold trimD trimRD
 simp_all
def isRow (s:List UInt8):Prop:=isD s∧s≠[]∧(s=[48]∨s.getD 0 0≠48)
theorem rowB_iff {s:List UInt8}:rowB s=true↔isRow s:=by
 constructor
 ·intro h
  obtain⟨h1,h2⟩:=rowB_d h
  unfold rowB at h
  simp only [Bool.and_eq_true,Bool.or_eq_true,Bool.not_eq_true',decide_eq_true_eq,decide_eq_false_iff_not] at h
  exact⟨h1,h2,h.2⟩
 ·rintro⟨h1,h2,h3⟩
  unfold rowB
  rw [decide_eq_false h2,decide_eq_true (trimD_of h1)]
  grind
theorem gD8 {s:List UInt8}{i:Nat}(h:i<s.length):s.getD i 0=s[i]:=by grind
theorem r_row_ok (G:List (List DV))(s:List UInt8):CallsP Tryz.prog G 153 [.c (.d (.str s))] (.c (.d (.bool (rowB s)))):=by
 refine CallsS.know 0 (by simp) (fun V v h=>(show s.length≤9223372036854775807 by cases h.1 with|str _ hl=>exact hl)) fun hs=>?_
 refine CallsP.en Go.Proofs.Tryz.func153 rfl fun _=>AW.q ?_
 refine AW.seqK fun K hK=>AW.q ?_
 refine AW.block ?_
 refine AW.loopV (fun (i:Nat)=>⟨frOf [(0,.c (.d (.str s))),(3,.c (.d (.int .i64 (i:Int))))],fun _=>.hole⟩) 0 (fun i=>i≤s.length∧isD (s.take i)) (fun i=>s.length - i) 0 (Le.mk' _ rfl noMap_hole (by simp)) ⟨Nat.zero_le _,fun c hc=>by simp at hc⟩ ?_
 rintro i ⟨hi,hd⟩
 refine AW.seqK fun K3 hK3=>AW.q ?_
 by_cases hlt:i<s.length
 ·have hlt':(i:Int)<(s.length:Int):=by omega
  have wi:=w64 (n:=(i:Int)+1) (by omega) (by omega)
  have hg:=gD8 hlt
  have hg2:s[i]?.getD 0=s[i]:=by rw [List.getElem?_eq_getElem hlt];rfl
  obtain⟨c,hc⟩:∃ c,s[i]=c:=⟨_,rfl⟩
  rw [hc] at hg hg2
  have hcm:c∈s:=by rw [← hc];exact List.getElem_mem hlt
  have bad:¬ (48≤c.toNat∧c.toNat≤57)→rowB s=false:=fun h=>by
   cases hr:rowB s with
   | false=>rfl
   | true=>exact absurd ((rowB_iff.1 hr).1 c hcm) h
  refine AW.fy (by simp_all) (AW.skip (hK3 _ _ (AW.seqK fun K5 hK5=>AW.block (AW.seqK fun K6 hK6=>?_))))
  by_cases c1:c.toNat<48
  ·have c1':(c.toNat:Int)<48:=by omega
   refine AW.rP ?_
   simp [hlt,hlt',hc,c1']
   apply hK6
   refine AW.cy (AW.q ?_)
   exact AW.r0 (FinP.rt (t:=2) rfl 9 (by simp [(bad (by omega))]))
  ·have c1':¬ (c.toNat:Int)<48:=by omega
   by_cases c2:57<c.toNat
   ·have c2':(57:Int)<(c.toNat:Int):=by omega
    refine AW.rP ?_
    simp [hlt,hlt',hc,c1',c2']
    apply hK6
    refine AW.cy (AW.q ?_)
    exact AW.r0 (FinP.rt (t:=2) rfl 9 (by simp_all))
   ·have c2':¬ (57:Int)<(c.toNat:Int):=by omega
    refine AW.rP ?_
    simp [hlt,hlt',hc,c1',c2']
    apply hK6
    refine AW.cn (AW.skip (hK5 _ _ (AW.rP ?_)))
    simp [wi]
    refine⟨i+1,Le.mk' _ rfl noMap_hole (by simp),⟨by omega,?_⟩,by omega⟩
    intro x hx
    rw [List.take_add_one,List.getElem?_eq_getElem hlt,List.mem_append] at hx
    rcases hx with hx|hx
    ·exact hd x hx
    grind
 ·have he:i=s.length:=by omega
  subst he
  rw [List.take_length] at hd
  refine AW.fn (by simp) (AW.exit (hK _ _ (AW.seqK fun K hK=>?_)))
  cases s with
  | nil=>
   refine AW.l0 (hK _ _ ?_)
   exact AW.r0 (FinP.rt (t:=2) rfl 9 (by simp [rowB]))
  | cons a l=>
   have hrow:rowB (a::l)=(decide (a::l=[48]) || !decide (a=48)):=by
    unfold rowB
    rw [decide_eq_true (trimD_of hd)];simp
   have ha:((a.toNat:Int)=48)↔a=48:=by
    constructor
    ·intro h;exact UInt8.toNat_inj.1 (by grind)
    ·simp_all
   have hpos:(0:Int)<((l.length:Int)+1):=by omega
   by_cases h0:a::l=[48]
   ·obtain⟨rfl,rfl⟩:=List.cons.inj h0
    refine AW.l1 @eqStr (hK _ _ ?_)
    exact AW.r0 (FinP.rt (t:=2) rfl 9 (by simp [hrow]))
   ·refine AW.rP ?_
    simp [eqStr,h0,hpos]
    apply hK
    exact AW.r0 (FinP.rt (t:=2) rfl 9 (by simp_all))
def rdB (l:List Nat):LB:=if l=[] then .hole else .cells true false 2 (wK .i64 l)
def rdV (l:List Nat):AV:=if l=[] then .c (.d .nilsl) else .c (.lsl 0 0 l.length 1)
theorem upd_h9 {lv:Key→LB}{k:Key}(h:lv k=.hole):upd lv k .hole=lv:=by
 funext j
 simp_all
theorem pow9 (j:Nat):10 ^ (9*j)=1000000000 ^ j:=by rw [Nat.pow_mul]
theorem isD_take {s:List UInt8}(h:isD s) (n:Nat):isD (s.take n):=fun c hc=>h c (List.mem_of_mem_take hc)
theorem isD_drop {s:List UInt8}(h:isD s) (n:Nat):isD (s.drop n):=fun c hc=>h c (List.mem_of_mem_drop hc)
theorem r_read_ok (G:List (List DV))(s:List UInt8)(hd:isD s)(hne:s≠[])(hl:s.length≤100000):CallsP Tryz.prog G 97 [.c (.d (.str s))] (nK .i64 (some (dig 1000000000 (decN s 0)))):=by
 have hbs:∀ (lv:Key→LB) (h:lv 1=.hole) (a:CV),stepBuildSlice Tryz.prog 36 1 [0] lv 1 [.c a]=some (.c (.lsl 1 0 1 1),[(1,.cells true false 2 [a])],[],True):=fun lv h a=>bs213 lv 1 h a
 refine CallsP.en0 Go.Proofs.Tryz.func97 rfl fun _=>AW.q ?_
 refine AW.q ?_
 refine AW.seqK fun K hK=>AW.q ?_
 refine AW.block ?_
 refine AW.loopV (fun (p:List Nat)=>⟨frOf [(0,.c (.d (.str s))),(3,rdV p),(4,.c (.d (.int .i64 ((s.length:Int) - 9*(p.length:Int)))))],upd (fun _=>.hole) 0 (rdB p)⟩) 1
  (fun p=>ok 1000000000 p∧val 1000000000 p=decN (s.drop (s.length - 9*p.length)) 0∧(9*p.length<s.length+9)) (fun p=>s.length+9 - 9*p.length) [] (Le.mk' _ (upd_h9 rfl).symm noMap_hole (by simp [rdV])) ⟨ok_nil _,by simp [decN],by simp⟩ ?_
 rintro p ⟨h1,h2,h3⟩
 obtain⟨z,hz⟩:∃ z:Int,(s.length:Int) - 9*(p.length:Int)=z:=⟨_,rfl⟩
 simp only [hz]
 refine AW.seqK fun K3 hK3=>AW.q ?_
 by_cases hgo:0<z
 ·obtain⟨i,rfl⟩:∃ i:Nat,z=i:=⟨z.toNat,by omega⟩
  have hi:s.length - 9*p.length=i:=by omega
  have hil:i≤s.length:=by omega
  rw [hi] at h2
  obtain⟨lo,hlo⟩:∃ lo,i - 9=lo:=⟨_,rfl⟩
  obtain⟨y,hy⟩:∃ y:Int,(i:Int) - 9=y:=⟨_,rfl⟩
  have w1:IntKind.i64.wrap ((i:Int) - 9)=y:=by rw [w64 (by omega) (by omega)];exact hy
  have hmx:(if y<0 then 0 else y)=(lo:Int):=by split <;> omega
  have w9:=w64 (n:=(i:Int) - 9) (by omega) (by omega)
  rw [hy] at w9
  refine AW.fy (by simp <;> omega) (AW.skip (hK3 _ _ (AW.seqK fun K5 hK5=>AW.block (AW.q ?_))))
  refine AW.seqK fun K6 hK6=>AW.sr fun K7 hK7=>?_
  simp [intsOf,w1,hmx]
  apply hK7
  refine AW.block ?_
  refine AW.loopV (fun (k:Nat)=>⟨frOf [(0,.c (.d (.str s))),(3,rdV p),(4,.c (.d (.int .i64 (i:Int)))),(5,.c (.d (.int .i64 ((decN ((s.take k).drop lo) 0:Nat):Int)))),(6,.c (.d (.int .i64 (k:Int))))],upd (fun _=>.hole) 0 (rdB p)⟩) 1
   (fun k=>lo≤k∧k≤i) (fun k=>i - k) lo (Le.keys [(0,0,rdB p)] 19 _ rfl rfl (by simp) (by simp) (by simp) ?_ ?_) ⟨Nat.le_refl _,by omega⟩ ?_
  ·intro e he
   simp only [List.mem_cons,List.not_mem_nil,or_false] at he
   subst he
   simp only [upd_same]
   unfold rdB;split
   ·rfl
   ·exact like_w .i64 2 p _
  ·have e0:List.drop lo (List.take lo s)=[]:=List.drop_eq_nil_of_le (by grind)
   simp [e0,decN]
   unfold rdV;split <;> simp [kmap]
  rintro k ⟨k1,k2⟩
  refine AW.seqK fun K8 hK8=>AW.q ?_
  by_cases hlk:k<i
  ·have hks:k<s.length:=by omega
   have hks':(k:Int)<(s.length:Int):=by omega
   obtain⟨c,hc⟩:∃ c,s[k]=c:=⟨_,rfl⟩
   have hcd:=hd c (by grind)
   have hlt:=decN_lt (isD_drop (isD_take hd k) lo)
   have hln:(List.drop lo (List.take k s)).length=k - lo:=by rw [List.length_drop,List.length_take];omega
   have hp9:10 ^ (List.drop lo (List.take k s)).length≤10 ^ 8:=Nat.pow_le_pow_right (by decide) (by omega)
   have hnx:decN ((s.take (k+1)).drop lo) 0=10*decN ((s.take k).drop lo) 0+(c.toNat - 48):=by
    have e:(s.take (k+1)).drop lo=(s.take k).drop lo++[c]:=by
     rw [List.take_add_one,List.getElem?_eq_getElem hks,hc,List.drop_append,show lo - (List.take k s).length=0 by grind];rfl
    rw [e,decN_app];rfl
   obtain⟨N0,hN0e⟩:∃ N0,decN ((s.take k).drop lo) 0=N0:=⟨_,rfl⟩
   obtain⟨N1,hN1e⟩:∃ N1,decN ((s.take (k+1)).drop lo) 0=N1:=⟨_,rfl⟩
   rw [hN0e] at hlt hnx
   rw [hN1e] at hnx
   simp only [hN0e]
   have hN0:N0≤100000000:=by omega
   have v1:IntKind.i64.wrap (10*(N0:Int))=((10*N0:Nat):Int):=by rw [w64 (by omega) (by omega)];omega
   have v2:IntKind.u8.wrap ((c.toNat:Int) - 48)=((c.toNat - 48:Nat):Int):=by rw [wrap_in ⟨by simp only [loK];omega,by simp only [hiK];omega⟩];omega
   have v3:=w64 (n:=((c.toNat - 48:Nat):Int)) (by omega) (by omega)
   have v4:IntKind.i64.wrap (((10*N0:Nat):Int)+((c.toNat - 48:Nat):Int))=(N1:Int):=by rw [w64 (by omega) (by omega)];omega
   have v5:=w64 (n:=(k:Int)+1) (by omega) (by omega)
   refine AW.fy (by simp_all) (AW.skip (hK8 _ _ (AW.seqK fun K9 hK9=>AW.block (AW.rP ?_))))
   simp [hks,hks',hc,v1,v2,v3,v4,-Int.natCast_mul]
   apply hK9
   refine AW.rP ?_
   simp [v5]
   refine⟨k+1,Le.keys [(0,0,rdB p)] 19 _ rfl rfl (by simp) (by simp) (by simp) ?_ ?_,⟨by omega,by omega⟩,by omega⟩
   ·intro e he
    simp only [List.mem_cons,List.not_mem_nil,or_false] at he
    subst he
    simp only [upd_same]
    unfold rdB;split
    ·rfl
    ·exact like_w .i64 2 p _
   ·simp [hN1e]
    unfold rdV;split <;> simp [kmap]
  ·obtain rfl:k=i:=by omega
   refine AW.fn (by simp) (AW.exit (hK6 _ _ ?_))
   refine AW.at0 1 ?_
   have hlt:=decN_lt (isD_drop (isD_take hd k) lo)
   have hln:(List.drop lo (List.take k s)).length=k - lo:=by rw [List.length_drop,List.length_take];omega
   have hp9:10 ^ (List.drop lo (List.take k s)).length≤10 ^ 9:=Nat.pow_le_pow_right (by decide) (by omega)
   have hv:decN (s.drop lo) 0=decN ((s.take k).drop lo) 0*1000000000 ^ p.length+decN (s.drop k) 0:=by
    have e:s.drop lo=(s.take k).drop lo++s.drop k:=by
     conv=>lhs;rw [← List.take_append_drop k s]
     rw [List.drop_append,show lo - (List.take k s).length=0 by grind];rfl
    have e2:(s.drop k).length=9*p.length:=by rw [List.length_drop];omega
    rw [e,decN_app,decN_shift,e2,pow9]
   have hz2:(s.length:Int) - 9*(((p.length+1:Nat)):Int)=y:=by omega
   have hz3:s.length - 9*(p.length+1)=lo:=by omega
   obtain⟨N,hN⟩:∃ N,decN ((s.take k).drop lo) 0=N:=⟨_,rfl⟩
   simp only [hN] at hlt hv ⊢
   have hok:ok 1000000000 (p++[N]):=ok_append.2 ⟨h1,ok_cons.2 ⟨by omega,ok_nil _⟩⟩
   have hvl:val 1000000000 (p++[N])=decN (s.drop (s.length - 9*(p++[N]).length)) 0:=by
    rw [List.length_append,List.length_singleton,hz3,val_snoc,h2,hv,Nat.mul_comm];omega
   have hB1:rdB (p++[N])=.cells true false 2 (wK .i64 (p++[N])):=if_neg (by simp)
   have hV1:rdV (p++[N])=.c (.lsl 0 0 (p.length+1) 1):=by unfold rdV;rw [if_neg (by simp)];simp
   by_cases hp:p=[]
   ·subst hp
    refine AW.rP ?_
    simp [rdV,rdB,hbs,srcA,keyOf,-stepBuildSlice]
    apply hK5
    refine AW.rP ?_
    simp [w1]
    refine⟨[]++[N],Le.keys [(0,2,rdB ([]++[N]))] 19 _ rfl rfl (by simp) (by simp) (by simp) ?_ ?_,⟨hok,hvl,by simp <;> omega⟩,by simp⟩
    ·intro e he
     simp only [List.mem_cons,List.not_mem_nil,or_false] at he
     subst he
     rw [hB1]
     simpa [wK] using like_w .i64 2 ([]++[N]) _
    ·rw [hV1]
     have hz2':(s.length:Int) - 9=y:=by simpa using hz2
     simp [kmap,hz2']
   ·have hB0:rdB p=.cells true false 2 (wK .i64 p):=if_neg hp
    have hV0:rdV p=.c (.lsl 0 0 p.length 1):=if_neg hp
    refine AW.rP ?_
    simp [hB0,hV0,hbs,srcA,keyOf,wK_snoc,-stepBuildSlice]
    repeat refine and_o ?_
    apply hK5
    refine AW.rP ?_
    simp [w1]
    refine⟨p++[N],Le.keys [(0,2,rdB (p++[N]))] 19 _ rfl rfl (by simp) (by simp) (by simp) ?_ ?_,⟨hok,hvl,by simp;omega⟩,by simp;omega⟩
    ·intro e he
     simp only [List.mem_cons,List.not_mem_nil,or_false] at he
     subst he
     rw [hB1]
     simpa using like_w .i64 2 (p++[N]) _
    ·rw [hV1]
     have hz2':(s.length:Int) - 9*((p.length:Int)+1)=y:=by simpa using hz2
     simp [kmap,hz2']
 ·have hp:p≠[]:=by
   intro e;subst e
   have:=List.length_pos_iff.2 hne
   simp at hz;omega
  have hB0:rdB p=.cells true false 2 (wK .i64 p):=if_neg hp
  have hV0:rdV p=.c (.lsl 0 0 p.length 1):=if_neg hp
  have h0:s.length - 9*p.length=0:=by omega
  rw [h0,List.drop_zero] at h2
  have hout:trimN p=dig 1000000000 (decN s 0):=trim_dig (by decide) h1 h2
  rw [hB0,hV0]
  refine AW.fn (by simp_all) (AW.exit (hK _ _ (AW.sr fun K hK=>?_)))
  simp
  refine CallP.frzN (T:=2) (k:=.i64) (l:=p) 1 9 0 (by simp) (by omega) (r_trimS_ok _ _ (by omega)) (by simp) (by simp) (by simp) ?_
  simp
  apply hK
  exact AW.r0 (FinP.rt (t:=2) rfl 9 (by simp [hout]))
def dgU (d:Nat):UInt8:=UInt8.ofNat (48+d)
theorem dgU_nat {d:Nat}(h:d<10):(dgU d).toNat=48+d:=by simp [dgU];omega
theorem dgU_of {c:UInt8}(h:48≤c.toNat∧c.toNat≤57):dgU (c.toNat - 48)=c:=UInt8.toNat_inj.1 (by rw [dgU_nat (by omega)];omega)
def dgs (n:Nat):Nat→List UInt8
 | 0=>[]
 | i+1=>dgU (n / 10 ^ i % 10)::dgs n i
theorem dgs_len (n:Nat):∀ i,(dgs n i).length=i
 | 0=>rfl
 | i+1=>by rw [dgs,List.length_cons,dgs_len n i]
theorem dgs_d (n:Nat):∀ i,isD (dgs n i)
 | 0=>fun c hc=>by cases hc
 | i+1=>fun c hc=>by
  rw [dgs] at hc
  rcases List.mem_cons.1 hc with rfl|hc
  ·rw [dgU_nat (by omega)];omega
  ·exact dgs_d n i c hc
theorem dgs_v (n:Nat):∀ i,decN (dgs n i) 0=n % 10 ^ i
 | 0=>by simp [dgs,decN,Nat.mod_one]
 | i+1=>by
  have ih:=dgs_v n i
  have e:decN (dgs n (i+1)) 0=(n / 10 ^ i % 10)*10 ^ i+n % 10 ^ i:=by
   rw [dgs]
   show decN (dgs n i) (10*0+((dgU (n / 10 ^ i % 10)).toNat - 48))=_
   rw [decN_shift,ih,dgs_len,dgU_nat (by omega),Nat.mul_zero,Nat.zero_add,Nat.add_sub_cancel_left]
  rw [e,Nat.pow_succ,Nat.mod_mul,Nat.mul_comm,Nat.add_comm]
theorem concat9 (s t:List UInt8):stepBin Tryz.prog .add 9 (.c (.d (.str s))) (.c (.d (.str t)))=some (.c (.d (.str (s++t))),[],[],s.length+t.length≤9223372036854775807):=by
 rfl
theorem slT138:slT Tryz.prog 230=some (5,1):=by simp
theorem bs138 (lv:Key→LB)(κ:Key)(h:lv κ=.hole)(a:CV):stepBuildSlice Tryz.prog 230 1 [0] lv κ [.c a]=some (.c (.lsl κ 0 1 1),[(κ,.cells true false 5 [a])],[],True):=by
 unfold stepBuildSlice;rw [h];rfl
theorem r_nine_ok (G:List (List DV))(n:Nat)(hn:n<1000000000):CallsP Tryz.prog G 214 [.c (.d (.int .i64 (n:Int)))] (.c (.d (.str (dgs n 9)))):=by
 have hbs:∀ (lv:Key→LB) (h:lv 0=.hole) (a:CV),stepBuildSlice Tryz.prog 230 1 [0] lv 0 [.c a]=some (.c (.lsl 0 0 1 1),[(0,.cells true false 5 [a])],[],True):=fun lv h a=>bs138 lv 0 h a
 refine CallsP.en0 Go.Proofs.Tryz.func214 rfl fun _=>AW.q ?_
 refine AW.q ?_
 refine AW.seqK fun K hK=>AW.q ?_
 refine AW.block ?_
 refine AW.loopV (fun (i:Nat)=>⟨frOf [(0,.c (.d (.int .i64 ((n / 10 ^ i:Nat):Int)))),(3,.c (.d (.str (dgs n i)))),(4,.c (.d (.int .i64 (i:Int))))],fun _=>.hole⟩) 0 (fun i=>i≤9) (fun i=>9 - i) 0 (Le.mk' _ rfl noMap_hole (by simp [dgs])) (by omega) ?_
 intro i hi
 try simp only at hi
 have hle:n / 10 ^ i≤n:=Nat.div_le_self _ _
 have hnx:n / 10 ^ (i+1)=n / 10 ^ i / 10:=by rw [Nat.pow_succ,Nat.div_div_eq_div_mul]
 have hds:dgs n (i+1)=dgU (n / 10 ^ i % 10)::dgs n i:=rfl
 have hdl:=dgs_len n i
 obtain⟨q,hq⟩:∃ q,n / 10 ^ i=q:=⟨_,rfl⟩
 obtain⟨T,hT⟩:∃ T,dgs n i=T:=⟨_,rfl⟩
 rw [hq] at hle hnx hds
 rw [hT] at hds hdl
 simp only [hq,hT]
 refine AW.seqK fun K3 hK3=>AW.q ?_
 by_cases hlt:i<9
 ·have hlt':(i:Int)<9:=by omega
  have e1:(q:Int).tmod 10=((q % 10:Nat):Int):=tm_nat q 10
  have e2:IntKind.i64.wrap (48+((q % 10:Nat):Int))=((48+q % 10:Nat):Int):=by rw [w64 (by omega) (by omega)];omega
  have e3:IntKind.u8.wrap ((48+q % 10:Nat):Int)=((48+q % 10:Nat):Int):=wrap_in ⟨by simp only [loK];omega,by simp only [hiK];omega⟩
  have e4:(q:Int).tdiv 10=((q / 10:Nat):Int):=td_nat q 10
  have w4:=w64 (n:=((q / 10:Nat):Int)) (by omega) (by omega)
  have w5:=w64 (n:=(i:Int)+1) (by omega) (by omega)
  refine AW.fy (by simp_all) (AW.skip (hK3 _ _ (AW.seqK fun K5 hK5=>AW.block (AW.seqK fun K6 hK6=>?_))))
  refine AW.regionX ?_
  refine ChX.run 5 rfl ?_
  simp [e1,e2,e3,hbs,-stepBuildSlice,-Int.natCast_add,-Int.natCast_emod]
  refine ChX.convB (κ:=0) (off:=0) (own:=true) (fz:=false) (T':=5) (e:=5) (cs:=[.d (.int .u8 ((48+q % 10:Nat):Int))]) (n:=((48+q % 10:Nat):Int)) 1 rfl rfl rfl (by simp) (by simp) (by simp) slT138 Tryz.underlying5 (by simp) ?_
  refine ChX.run 3 rfl ?_
  simp [concat9]
  repeat refine and_o ?_
  refine ChX.done ?_
  apply hK6
  refine AW.rP ?_
  simp [e4,w4,-Int.natCast_ediv]
  apply hK5
  refine AW.rP ?_
  simp [w5]
  refine⟨i+1,Le.keys [] 19 _ rfl rfl (by simp) (by simp) (by simp) (by simp) ?_,by omega,by omega⟩
  have f0:(q:Int) / 10=(n:Int) / 10 ^ (i+1):=by
   have:=congrArg (fun x:Nat=>(x:Int)) hnx
   simpa using this.symm
  have f1:(48+(q:Int) % 10).toNat=48+q % 10:=by omega
  simp [hds,dgU]
  simp_all
 ·obtain rfl:i=9:=by omega
  refine AW.fn (by rfl) (AW.exit (hK _ _ (AW.q ?_)))
  exact AW.r0 (FinP.rt (t:=2) rfl 9 (by simp [hT]))
def decF:Nat→Nat→List UInt8
 | 0,n=>[dgU n]
 | f+1,n=>if n<10 then [dgU n] else decF f (n / 10)++[dgU (n % 10)]
def decS (n:Nat):List UInt8:=decF n n
theorem decF_eq:∀ (f n:Nat),n≤f→decF f n=decS n
 | 0,n,h=>by have:n=0:=by omega
             subst this;rfl
 | f+1,n,h=>by
  unfold decS
  by_cases h10:n<10
  ·cases n with
   | zero=>rfl
   | succ n=>rw [decF,if_pos h10,decF,if_pos h10]
  ·obtain⟨m,rfl⟩:∃ m,n=m+1:=⟨n - 1,by omega⟩
   rw [decF,if_neg h10,decF,if_neg h10,decF_eq f ((m+1) / 10) (by omega),decF_eq m ((m+1) / 10) (by omega)]
theorem decS_lt {n:Nat}(h:n<10):decS n=[dgU n]:=by
 unfold decS
 cases n with
 | zero=>rfl
 | succ n=>rw [decF,if_pos h]
theorem decS_ge {n:Nat}(h:¬ n<10):decS n=decS (n / 10)++[dgU (n % 10)]:=by
 obtain⟨m,rfl⟩:∃ m,n=m+1:=⟨n - 1,by omega⟩
 conv=>lhs;unfold decS
 rw [decF,if_neg h,decF_eq m ((m+1) / 10) (by omega)]
theorem decN_snoc (l:List UInt8)(c:UInt8):decN (l++[c]) 0=10*decN l 0+(c.toNat - 48):=by rw [decN_app];rfl
theorem row_pos {l:List UInt8}(h:isD l) (hne:l≠[]) (h0:l.getD 0 0≠48):1≤decN l 0:=by
 cases l with
 | nil=>grind
 | cons c l=>
  have hc:=h c (by simp)
  have hc48:c≠48:=h0
  have hcn:c.toNat≠48:=fun e=>hc48 (UInt8.toNat_inj.1 (by rw [e];rfl))
  show 1≤decN l (10*0+(c.toNat - 48))
  rw [decN_shift]
  have:1*1≤(10*0+(c.toNat - 48))*10 ^ l.length:=Nat.mul_le_mul (by omega) (Nat.pow_pos (by decide))
  omega
theorem row_eq:∀ (k:Nat) (s:List UInt8),s.length=k→isRow s→s=decS (decN s 0)
 | 0,s,hk,h=>absurd (List.eq_nil_of_length_eq_zero hk) h.2.1
 | k+1,s,hk,⟨h1,h2,h3⟩=>by
  rcases List.eq_nil_or_concat s with rfl|⟨l,c,rfl⟩
  ·grind
  ·rw [List.concat_eq_append] at *
   have hc:=h1 c (by simp)
   have hl:isD l:=fun x hx=>h1 x (by simp [hx])
   rw [decN_snoc]
   by_cases hle:l=[]
   ·subst hle
    show [c]=decS (10*decN [] 0+(c.toNat - 48))
    rw [show 10*decN [] 0+(c.toNat - 48)=c.toNat - 48 by simp [decN],decS_lt (by omega),dgU_of hc]
   ·have h0:l.getD 0 0≠48:=by
     rcases h3 with h3|h3
     ·exfalso
      have:=congrArg List.length h3
      simp at this
      exact hle this
     ·cases l with
      | nil=>exact absurd rfl hle
      | cons a l=>exact h3
    have hp:=row_pos hl hle h0
    have ih:=row_eq k l (by grind) ⟨hl,hle,.inr h0⟩
    rw [decS_ge (by omega),show (10*decN l 0+(c.toNat - 48)) / 10=decN l 0 by omega,show (10*decN l 0+(c.toNat - 48)) % 10=c.toNat - 48 by omega,← ih,dgU_of hc]
theorem row_dec {s:List UInt8}(h:isRow s):s=decS (decN s 0):=row_eq _ s rfl h
theorem r_text_ok (G:List (List DV))(A:Nat)(o:Option (List Nat))(ho:dO o=dig 1000000000 A)(hl:(dig 1000000000 A).length≤100000):CallsP Tryz.prog G 158 [.c (rC o)] (.c (.d (.str (decS A)))):=by
 have hok:=(dig_can (B:=1000000000) (by decide) A).1
 have hval:=dig_val (B:=1000000000) (by decide) A
 obtain⟨D,hD⟩:∃ D,dig 1000000000 A=D:=⟨_,rfl⟩
 rw [hD] at hok hval hl ho
 have nineG:=fun n h=>r_nine_ok G n h
 rw [← nK_rC]
 have hw0:=w64 (n:=(D.length:Int) - 1) (by omega) (by omega)
 refine CallsP.en Go.Proofs.Tryz.func158 rfl fun _=>AW.q ?_
 refine AW.q ?_
 refine AW.seqK fun K hK=>AW.f2 ho hw0 ?_
 refine AW.block ?_
 refine AW.loopV (fun (p:Nat × List UInt8)=>⟨frOf [(0,nK .i64 o),(3,.c (.d (.str p.2))),(4,.c (.d (.int .i64 ((p.1:Int) - 1))))],fun _=>.hole⟩) 0
  (fun p=>p.1≤D.length∧isD p.2∧decN p.2 0=val 1000000000 (D.drop p.1)∧p.2.length=9*(D.length - p.1)) (fun p=>p.1) (D.length,[]) (Le.mk' _ rfl noMap_hole (by simp [])) ⟨Nat.le_refl _,fun c hc=>(by cases hc),by simp [decN],by simp⟩ ?_
 rintro⟨k,S⟩ ⟨h1,h2,h3,h4⟩
 simp only at h1 h2 h3 h4
 refine AW.seqK fun K3 hK3=>AW.q ?_
 cases k with
 | succ k=>
  have hk:k<D.length:=by omega
  have hko:k<(dO o).length:=by rw [ho];exact hk
  have e2:((k+1:Nat):Int) - 1=k:=by omega
  simp only [e2]
  obtain⟨x,hx⟩:∃ x,(dO o)[k]=x:=⟨_,rfl⟩
  have hxD:D[k]=x:=by rw [← hx];congr 1;exact ho.symm
  have hxB:x<1000000000:=by rw [← hxD];exact hok _ (List.getElem_mem hk)
  have hv:=val_drop (B:=1000000000) hk
  rw [hxD] at hv
  have nn:=nineG x hxB
  have hnd:=dgs_d x 9
  have hnv:=dgs_v x 9
  have hnl:=dgs_len x 9
  obtain⟨T,hT⟩:∃ T,dgs x 9=T:=⟨_,rfl⟩
  rw [hT] at nn hnd hnv hnl
  have w9:=w64 (n:=(k:Int) - 1) (by omega) (by omega)
  refine AW.cy (AW.skip (hK3 _ _ (AW.seqK fun K5 hK5=>AW.block (AW.rP ?_))))
  simp [hko,hx]
  refine CallDo.p 0 9 nn ?_
  simp [concat9]
  repeat refine and_o ?_
  apply hK5
  refine AW.rP ?_
  simp [w9]
  refine⟨k,S++T,Le.mk' _ rfl noMap_hole (by simp),⟨by omega,?_,?_,?_⟩,by omega⟩
  ·intro c hc
   rcases List.mem_append.1 hc with hc|hc
   ·exact h2 c hc
   ·exact hnd c hc
  ·rw [decN_app,decN_shift,hnv,hnl,h3,hv,Nat.mod_eq_of_lt hxB];omega
  grind
 | zero=>
  rw [List.drop_zero,hval] at h3
  refine AW.cn (AW.exit (hK _ _ (AW.seqK fun K hK=>AW.block ?_)))
  refine AW.loopV (fun (S:List UInt8)=>⟨frOf [(3,.c (.d (.str S)))],fun _=>.hole⟩) 0
   (fun S=>isD S∧decN S 0=A∧S.length≤9*D.length) (fun S=>S.length) S (Le.mk' _ rfl noMap_hole (by simp)) ⟨h2,h3,by omega⟩ ?_
  rintro S ⟨q1,q2,q3⟩
  have fin:∀ (fr:Nat→AV) (κ:Nat),S≠[]→isRow S→fr 3=.c (.d (.str S))→K ⟨fr,fun _=>.hole⟩ κ:=by
   intro fr κ hne hr z3
   have hrd:=row_dec hr
   rw [q2] at hrd
   apply hK
   refine AW.seqK fun K6 hK6=>AW.f3 z3 @eqEmpty hne ?_
   refine AW.cn (AW.skip (hK6 _ _ (AW.f1 z3 ?_)))
   exact AW.r0 (FinP.rt (t:=2) rfl 9 (by simp_all))
  refine AW.seqK fun K4 hK4=>AW.seqK fun K5 hK5=>?_
  cases S with
  | nil=>
   have hA:A=0:=q2.symm
   refine AW.l0 (hK5 _ _ ?_)
   refine AW.cn (AW.exit (hK _ _ (AW.seqK fun K6 hK6=>AW.f1 @eqEmpty ?_)))
   refine AW.cy (AW.l0 (hK6 _ _ ?_))
   refine AW.q ?_
   have hs:decS A=[48]:=by rw [hA];rfl
   exact AW.r0 (FinP.rt (t:=2) rfl 9 (by simp [hs]))
  | cons c l=>
   have hc:=q1 c (by simp)
   cases l with
   | nil=>
    refine AW.l0 (hK5 _ _ ?_)
    refine AW.cn (AW.exit ?_)
    simp
    refine fin _ _ (by simp) ⟨q1,by simp,?_⟩ (by simp)
    grind
   | cons d l=>
    have hl2:(1:Int)<((l.length:Int)+1+1):=by omega
    have hl3:(0:Int)<((l.length:Int)+1+1):=by omega
    have ll:l.length≤900000:=by simp at q3;omega
    by_cases h:c=48
    ·subst h
     refine AW.rP ?_
     simp [hl2,hl3]
     apply hK5
     refine AW.cy (AW.skip (hK4 _ _ (AW.block (AW.rP ?_))))
     simp
     repeat refine and_o ?_
     have ht:List.take (((l.length:Int)+1+1).toNat) ((48:UInt8)::d::l)=48::d::l:=List.take_of_length_le (by simp;omega)
     exact⟨d::l,Le.mk' _ rfl noMap_hole (by simp [ht]),⟨fun x hx=>q1 x (List.mem_cons_of_mem _ hx),q2,by grind⟩,by simp⟩
    ·have hcn:¬ (c.toNat:Int)=48:=fun e=>h (UInt8.toNat_inj.1 (by grind))
     have hcn2:¬ c.toNat=48:=by omega
     refine AW.rP ?_
     simp [hl2,hl3,hcn]
     apply hK5
     refine AW.cn (AW.exit ?_)
     simp
     exact fin _ _ (by simp) ⟨q1,by simp,.inr h⟩ (by simp)
def ratS (x:Rat):List UInt8:=(if x.num<0 then [45] else [])++decS x.num.natAbs++(if x.den=1 then [] else [47]++decS x.den)
theorem decS_len2 {n L:Nat}(h:n<10 ^ L) (hL:1≤L):(decS n).length≤L:=by
 induction L generalizing n with
 | zero=>omega
 | succ L ih=>
  by_cases h10:n<10
  ·rw [decS_lt h10];simp
  ·rw [decS_ge h10,List.length_append,List.length_singleton]
   grind
theorem decS_nl (n:Nat):(decS n).length≤10*nl n+1:=by
 have h1:=nl_lt n
 have h2:4294967296 ^ nl n≤(10 ^ 10) ^ nl n:=Nat.pow_le_pow_left (by decide) _
 rw [← Nat.pow_mul] at h2
 have h3:n<10 ^ (10*nl n+1):=Nat.lt_of_lt_of_le (Nat.lt_of_lt_of_le h1 h2) (Nat.pow_le_pow_right (by decide) (by omega))
 exact decS_len2 h3 (by omega)
theorem rsg_neg {x:Rat}:rsg x<0↔x.num<0:=by
 unfold rsg
 omega
theorem r_Text_ok (G:List (List DV))(x:Rat)(hx:szR x 20000):CallsP Tryz.prog G 98 [refV x] (.c (.d (.str (ratS x)))):=by
 have h1:=sz9 hx.1
 have h2:=sz9 hx.2
 have t1:=r_text_ok G x.num.natAbs (rtop x) (rtop_d x) (by omega)
 have ii:=r_IsInt_ok G x
 have l1:=decS_nl x.num.natAbs
 have l2:=decS_nl x.den
 have hx1:=hx.1
 have hx2:=hx.2
 have hn:=rsg_neg (x:=x)
 have t2:¬ x.den=1→CallsP Tryz.prog G 158 [.c (rC (rbot x))] (.c (.d (.str (decS x.den)))):=fun h=>by
  have h0:x.num≠0:=fun e=>h (den_zero e)
  refine r_text_ok G x.den (rbot x) (by rw [rbot_ne h0];rfl) (by omega)
 have hS:ratS x=(if x.num<0 then [45] else [])++decS x.num.natAbs++(if x.den=1 then [] else [47]++decS x.den):=rfl
 generalize ratS x=Z at *
 generalize decS x.num.natAbs=P at *
 generalize decS x.den=Q at *
 refine CallsP.en Go.Proofs.Tryz.func98 rfl fun _=>AW.q ?_
 refine AW.c0 1 t1 ?_
 refine AW.seqK fun K hK=>?_
 have fin:∀ (S:List UInt8) (fr:Nat→AV) (κ:Nat),S=(if x.num<0 then [45] else [])++P→fr 1=.c (.ptr 0 0)→fr 3=.c (.d (.str S))→K ⟨fr,upd (fun _=>.hole) 0 (.cells true false 38 [.d (.int .i64 (rsg x)),rC (rtop x),rC (rbot x)])⟩ κ:=by
  intro S fr κ hSe z1 z3
  have hSl:S.length≤P.length+1:=by rw [hSe];split <;> simp <;> omega
  rw [← hSe] at hS
  apply hK
  refine AW.seqK fun K1 hK1=>AW.seqK fun K2 hK2=>?_
  by_cases hd:x.den=1
  ·rw [if_pos hd,List.append_nil] at hS
   refine AW.m2 1 ii z1 hd (hK2 _ _ ?_)
   refine AW.cn (AW.skip (hK1 _ _ (AW.f1 z3 ?_)))
   exact AW.r0 (FinP.rt (t:=2) rfl 9 (by simp [hS]))
  ·have t2':=t2 hd
   rw [if_neg hd] at hS
   refine AW.m2 1 ii z1 hd (hK2 _ _ ?_)
   refine AW.cy (AW.rP ?_)
   simp [z1,z3,concat9]
   repeat refine and_o ?_
   refine CallDo.pure 1 9 t2' (by simp) (by simp) (by simp) ?_
   simp [concat9]
   repeat refine and_o ?_
   apply hK1
   refine AW.q ?_
   exact AW.r0 (FinP.rt (t:=2) rfl 9 (by simp [hS]))
 refine AW.seqK fun K1 hK1=>?_
 by_cases hneg:x.num<0
 ·have hr:=hn.2 hneg
  refine AW.l1 hr (hK1 _ _ ?_)
  refine AW.cy (AW.rP ?_)
  simp [concat9]
  repeat refine and_o ?_
  simp_all
 ·have hr:¬ rsg x<0:=fun h=>hneg (hn.1 h)
  refine AW.l1 hr (hK1 _ _ ?_)
  refine AW.cn (AW.skip ?_)
  simp_all
theorem FinP.tmp4 {c:Ctx}{fn:Func}{x y z u:AV}{t1 t2 t3 t4:Nat}{s:LSt}{κ:Nat}(hr:fn.results=#[.tmp t1,.tmp t2,.tmp t3,.tmp t4]) (kh:Key) (hx:s.fr t1=x) (hy:s.fr t2=y) (hz:s.fr t3=z) (hu:s.fr t4=u) (hp:x.pure=true) (hq:y.pure=true) (hw:z.pure=true) (hv:u.pure=true) (hh:s.lv kh=.hole)
 (n1:x.noTup=true) (n2:y.noTup=true) (n3:z.noTup=true) (n4:u.noTup=true) (h12:t1≠t2) (h13:t1≠t3) (h14:t1≠t4) (h23:t2≠t3) (h24:t2≠t4) (h34:t3≠t4):FinP c fn (.tup [x,y,z,u]) .ret s κ:=by
 refine⟨[(t1,x),(t2,y),(t3,z),(t4,u)],kh,by grind,hh,?_⟩
 rw [hr]
 simp [resA,resL,resV,frOf,h12.symm,h13.symm,h14.symm,h23.symm,h24.symm,h34.symm,n1,n2,n3,n4]
theorem idx_none:∀ {s:List UInt8},(∀ c∈s,c≠47)→ctI s [47] = -1
 | [],_=>rfl
 | a::s,h=>by
  have ha:=h a (by simp)
  have ih:=idx_none (s:=s) fun c hc=>h c (by simp [hc])
  unfold ctI at ih ⊢
  rw [Lib.index]
  grind
theorem idx_at:∀ {a b:List UInt8},(∀ c∈a,c≠47)→ctI (a++47::b) [47]=a.length
 | [],b,_=>by rfl
 | x::a,b,h=>by
  have hx:=h x (by simp)
  have ih:=idx_at (a:=a) (b:=b) fun c hc=>h c (by simp [hc])
  unfold ctI at ih ⊢
  rw [List.cons_append,Lib.index]
  grind
def rwT (s:List UInt8):List UInt8:=ctA s [47]
def rwB (s:List UInt8):List UInt8:=if 0≤ctI s [47] then ctB s [47] else [49]
def sgZ (neg:Bool):Int:=if neg then -1 else 1
abbrev rowsA (neg:Bool)(s:List UInt8):AV:=.tup [.c (.d (.str (rwT s))),.c (.d (.str (rwB s))),.c (.d (.int .i64 (sgZ neg))),.c (.d (.bool (!badB neg (ctA s [47]) (ctB s [47]) (decide (0≤ctI s [47])))))]
theorem r_rows_ok (G:List (List DV))(r:List UInt8):CallsP Tryz.prog G 95 [.c (.d (.str r))] (rowsA (hpB r [45]) (cpS r [45])):=by
 refine CallsS.know 0 (by simp) (fun V v h=>(show r.length≤9223372036854775807 by cases h.1 with|str _ hl=>exact hl)) fun hs=>?_
 have rowG:=fun s=>r_row_ok G s
 have hsl:(cpS r [45]).length≤r.length:=by unfold cpS;split <;> simp
 have hdec:(hpB r [45]=true∧∃ l,r=45::l∧cpS r [45]=l)∨(hpB r [45]=false∧cpS r [45]=r∧(r=[]∨∃ c l,r=c::l∧c≠45)):=by
  cases r with
  | nil=>exact .inr ⟨rfl,rfl,.inl rfl⟩
  | cons c l=>
   by_cases hc:c=45
   ·subst hc
    have:hpB (45::l) [45]=true:=by simp [hpB]
    exact .inl ⟨this,l,rfl,by rfl⟩
   ·have:hpB (c::l) [45]=false:=by simp [hpB,hc]
    exact .inr ⟨this,by unfold cpS;grind,.inr ⟨c,l,rfl,hc⟩⟩
 generalize cpS r [45]=s at *
 generalize hpB r [45]=neg at *
 refine CallsP.en Go.Proofs.Tryz.func95 rfl fun _=>AW.q ?_
 refine AW.q ?_
 refine AW.seqK fun K hK=>?_
 have main:∀ (fr:Nat→AV) (κ:Nat),fr 6=.c (.d (.str s))→fr 7=.c (.d (.int .i64 (sgZ neg)))→K ⟨fr,fun _=>.hole⟩ κ:=by
  intro fr κ z6 z7
  apply hK
  refine AW.seqK fun K hK=>AW.q ?_
  refine AW.block ?_
  refine AW.loopV (fun (i:Nat)=>⟨frOf [(6,.c (.d (.str s))),(7,.c (.d (.int .i64 (sgZ neg)))),(8,.c (.d (.int .i64 (i:Int))))],fun _=>.hole⟩) 0 (fun i=>i≤s.length∧∀ c∈s.take i,c≠47) (fun i=>s.length - i) 0 (Le.mk' _ rfl noMap_hole (by simp_all)) ⟨Nat.zero_le _,fun c hc=>by simp at hc⟩ ?_
  rintro i ⟨hi,hd⟩
  refine AW.seqK fun K3 hK3=>AW.q ?_
  by_cases hlt:i<s.length
  ·have hlt':(i:Int)<(s.length:Int):=by omega
   have wi:=w64 (n:=(i:Int)+1) (by omega) (by omega)
   obtain⟨c,hc⟩:∃ c,s[i]=c:=⟨_,rfl⟩
   refine AW.fy (by simp_all) (AW.skip (hK3 _ _ (AW.seqK fun K5 hK5=>AW.block (AW.sr fun K6 hK6=>?_))))
   simp [hlt,hlt',hc]
   apply hK6
   by_cases h47:c=47
   ·have hcn:(c.toNat:Int)=47:=by rw [h47];rfl
    have hcn2:c.toNat=47:=by rw [h47];rfl
    have hsp:s=s.take i++47::s.drop (i+1):=by
     conv=>lhs;rw [← List.take_append_drop i s,List.drop_eq_getElem_cons hlt,hc,h47]
    have hidx:ctI s [47]=i:=by
     have:=idx_at (b:=s.drop (i+1)) hd
     rw [← hsp,List.length_take,Nat.min_eq_left (by omega)] at this
     exact this
    have hge:0≤ctI s [47]:=by rw [hidx];omega
    have hA:ctA s [47]=s.take i:=by unfold ctA;rw [if_pos hge,hidx,Int.toNat_natCast]
    have hB:ctB s [47]=s.drop (i+1):=by unfold ctB;rw [if_pos hge,hidx,Int.toNat_natCast];rfl
    have hT:rwT s=s.take i:=hA
    have hB2:rwB s=s.drop (i+1):=by unfold rwB;rw [if_pos hge,hB]
    have hbad:(!badB neg (ctA s [47]) (ctB s [47]) (decide (0≤ctI s [47])))=(rowB (s.take i) && rowB (s.drop (i+1)) && !decide (s.drop (i+1)=[48]) && !decide (s.drop (i+1)=[49]) && (!decide (s.take i=[48]) || decide (0<sgZ neg))):=by
     rw [hA,hB,decide_eq_true hge]
     unfold badB sgZ
     cases rowB (s.take i) <;> cases rowB (s.drop (i+1)) <;> cases neg <;> cases decide (s.take i=[48]) <;> cases decide (s.drop (i+1)=[48]) <;> cases decide (s.drop (i+1)=[49]) <;> rfl
    have e1:∀ l:List UInt8,(l.take ((i:Int)).toNat).drop (0:Int).toNat=l.take i:=fun l=>rfl
    have hdr:(s.take ((s.length:Int)).toNat).drop ((i+1:Nat):Int).toNat=s.drop (i+1):=by rw [Int.toNat_natCast,Int.toNat_natCast,List.take_length]
    obtain⟨p,hp⟩:∃ p,s.take i=p:=⟨_,rfl⟩
    obtain⟨q,hq⟩:∃ q,s.drop (i+1)=q:=⟨_,rfl⟩
    have rp:=rowG p
    have rq:=rowG q
    rw [hp] at hT
    rw [hq] at hB2
    rw [hp,hq] at hbad
    have hp':List.drop 0 (List.take i s)=p:=hp
    refine AW.fy (by simp [hcn2] <;> omega) (AW.seqK fun K6 hK6=>?_)
    refine AW.drawP mixed (by kernel_rfl) rfl ?_
    simp [wi,hp,hq]
    repeat refine and_o ?_
    refine⟨by kernel_rfl,?_⟩
    apply hK6
    refine AW.seqK fun K6 hK6=>?_
    have fin:∀ (b:Bool) (fr:Nat→AV) (κ:Nat),fr 2=.c (.d (.str p))→fr 3=.c (.d (.str q))→fr 4=.c (.d (.int .i64 (sgZ neg)))→fr 5=.c (.d (.bool b)) →
     b=(rowB p && rowB q && !decide (q=[48]) && !decide (q=[49]) && (!decide (p=[48]) || decide (0<sgZ neg)))→K6 ⟨fr,fun _=>.hole⟩ κ:=by
     intro b fr κ z2 z3 z4 z5 hb
     rw [← hbad] at hb
     apply hK6
     exact AW.ret (κ:=0) (FinP.tmp4 (κ:=0) rfl 9 (by grind) (by grind) (by simp [z4]) (by grind) rfl rfl rfl rfl rfl rfl rfl rfl rfl (by decide) (by decide) (by decide) (by decide) (by decide) (by decide))
    cases r1:rowB p with
    | false=>
     refine AW.rP ?_
     simp
     refine CallDo.p 0 9 rp ?_
     simp [r1]
     exact fin false _ _ (by simp) (by simp) (by simp) (by simp) (by simp [r1])
    | true=>
    cases r2:rowB q with
    | false=>
     refine AW.rP ?_
     simp
     refine CallDo.p 0 9 rp ?_
     simp [r1]
     refine CallDo.p 0 9 rq ?_
     simp [r2]
     exact fin false _ _ (by simp) (by simp) (by simp) (by simp) (by grind)
    | true=>
    by_cases q0:q=[48]
    ·subst q0
     refine AW.rP ?_
     simp
     refine CallDo.p 0 9 rp ?_
     simp [r1]
     refine CallDo.p 0 9 rq ?_
     simp [r2,neStr]
     exact fin false _ _ (by simp) (by simp) (by simp) (by simp) (by simp)
    by_cases q1:q=[49]
    ·subst q1
     refine AW.rP ?_
     simp
     refine CallDo.p 0 9 rp ?_
     simp [r1]
     refine CallDo.p 0 9 rq ?_
     simp [r2,neStr]
     exact fin false _ _ (by simp) (by simp) (by simp) (by simp) (by simp)
    by_cases p0:p=[48]
    ·subst p0
     refine AW.rP ?_
     simp
     refine CallDo.p 0 9 rp ?_
     simp [r1]
     refine CallDo.p 0 9 rq ?_
     simp [r2,neStr,q0,q1]
     exact fin (decide (0<sgZ neg)) _ _ (by simp) (by simp) (by simp) (by simp) (by simp [r1,r2,q0,q1])
    ·refine AW.rP ?_
     simp
     refine CallDo.p 0 9 rp ?_
     simp [r1]
     refine CallDo.p 0 9 rq ?_
     simp [r2,neStr,q0,q1,p0]
     exact fin true _ _ (by simp) (by simp) (by simp) (by simp) (by grind)
   ·have hcn:¬ (c.toNat:Int)=47:=fun e=>h47 (UInt8.toNat_inj.1 (by grind))
    have hcn2:¬ c.toNat=47:=by omega
    refine AW.fn (by simp_all) (AW.skip (hK5 _ _ (AW.rP ?_)))
    simp [wi]
    refine⟨i+1,Le.mk' _ rfl noMap_hole (by simp),⟨by omega,?_⟩,by omega⟩
    intro x hx
    rw [List.take_add_one,List.getElem?_eq_getElem hlt,List.mem_append] at hx
    grind
  ·have he:i=s.length:=by omega
   subst he
   rw [List.take_length] at hd
   have hidx:=idx_none hd
   have hge:¬ 0≤ctI s [47]:=by rw [hidx];decide
   have hA:ctA s [47]=s:=if_neg hge
   have hT:rwT s=s:=hA
   have hB2:rwB s=[49]:=if_neg hge
   have hbad:(!badB neg (ctA s [47]) (ctB s [47]) (decide (0≤ctI s [47])))=(rowB s && (!decide (s=[48]) || decide (0<sgZ neg))):=by
    rw [hA,decide_eq_false hge]
    unfold badB sgZ
    cases rowB s <;> cases neg <;> cases decide (s=[48]) <;> rfl
   have rs:=rowG s
   refine AW.fn (by simp) (AW.exit (hK _ _ (AW.seqK fun K6 hK6=>?_)))
   have fin:∀ (b:Bool) (fr:Nat→AV) (κ:Nat),fr 2=.c (.d (.str s))→fr 3=.c (.d (.str [49]))→fr 4=.c (.d (.int .i64 (sgZ neg)))→fr 5=.c (.d (.bool b)) →
    b=(rowB s && (!decide (s=[48]) || decide (0<sgZ neg)))→K6 ⟨fr,fun _=>.hole⟩ κ:=by
    intro b fr κ z2 z3 z4 z5 hb
    rw [← hbad] at hb
    apply hK6
    exact AW.ret (κ:=0) (FinP.tmp4 (κ:=0) rfl 9 (by grind) (by grind) (by simp [z4]) (by grind) rfl rfl rfl rfl rfl rfl rfl rfl rfl (by decide) (by decide) (by decide) (by decide) (by decide) (by decide))
   cases r1:rowB s with
   | false=>
    refine AW.rP ?_
    simp
    refine CallDo.p 0 9 rs ?_
    simp [r1]
    simp_all
   | true=>
   by_cases p0:s=[48]
   ·subst p0
    refine AW.rP ?_
    simp
    refine CallDo.p 0 9 rs ?_
    simp [r1,neStr]
    exact fin (decide (0<sgZ neg)) _ _ (by simp) (by simp) (by simp) (by simp) (by simp [r1])
   ·refine AW.rP ?_
    simp
    refine CallDo.p 0 9 rs ?_
    simp [r1,neStr,p0]
    simp_all
 refine AW.seqK fun K1 hK1=>?_
 rcases hdec with ⟨hn,l,hr,hl⟩|⟨hn,hl,hr|⟨c,l,hr,hc⟩⟩
 ·subst hr;subst hl
  have ht:List.take (((s.length:Int)+1).toNat) ((45:UInt8)::s)=45::s:=List.take_of_length_le (by simp)
  have hp:(0:Int)<(s.length:Int)+1:=by omega
  have hll:s.length+1≤9223372036854775807:=by simpa using hs
  refine AW.rP ?_
  simp [hp]
  apply hK1
  refine AW.cy (AW.rP ?_)
  simp
  repeat refine and_o ?_
  exact main _ _ (by simp) (by simp [sgZ,hn])
 ·subst hr;subst hl
  refine AW.l0 (hK1 _ _ ?_)
  refine AW.cn (AW.skip ?_)
  simp
  exact main _ _ (by simp) (by simp [sgZ,hn])
 ·subst hr;subst hl
  have hcn:¬ (c.toNat:Int)=45:=fun e=>hc (UInt8.toNat_inj.1 (by grind))
  have hcn2:¬ c.toNat=45:=by omega
  have hp:(0:Int)<(l.length:Int)+1:=by omega
  refine AW.rP ?_
  simp [hp,hcn]
  apply hK1
  refine AW.cn (AW.skip ?_)
  simp
  exact main _ _ (by simp) (by simp [sgZ,hn])
attribute [local irreducible] FinC
theorem idx_split:∀ (s:List UInt8),(∀ c∈s,c≠47)∨∃ a b,s=a++47::b∧∀ c∈a,c≠47
 | []=>.inl fun c hc=>by cases hc
 | x::s=>by
  by_cases hx:x=47
  ·subst hx;exact .inr ⟨[],s,rfl,fun c hc=>by cases hc⟩
  ·rcases idx_split s with h|⟨a,b,h,ha⟩
   ·grind
   grind
theorem split_uniq:∀ {a a' b b':List UInt8},(∀ c∈a,c≠47)→(∀ c∈a',c≠47)→a++47::b=a'++47::b'→b=b'
 | [],[],b,b',_,_,h=>(List.cons.inj h).2
 | [],x::a',b,b',_,h',h=>absurd (List.cons.inj h).1.symm (h' x (by simp))
 | x::a,[],b,b',h',_,h=>absurd (List.cons.inj h).1 (h' x (by simp))
 | x::a,y::a',b,b',h1,h2,h=>split_uniq (fun c hc=>h1 c (by simp [hc])) (fun c hc=>h2 c (by simp [hc])) (List.cons.inj h).2
theorem isD_47 {s:List UInt8}(h:isD s):∀ c∈s,c≠47:=fun c hc e=>by
 have:=h c hc
 simp_all
theorem decF_d:∀ (f n:Nat),n≤f→isD (decF f n)∧decN (decF f n) 0=n
 | 0,n,h=>by
  have:n=0:=by omega
  subst this
  refine⟨fun c hc=>?_,rfl⟩
  rw [decF,List.mem_singleton] at hc
  rw [hc,dgU_nat (by decide)];omega
 | f+1,n,h=>by
  rw [decF]
  by_cases h10:n<10
  ·rw [if_pos h10]
   refine⟨fun c hc=>?_,?_⟩
   ·rw [List.mem_singleton] at hc
    rw [hc,dgU_nat h10];omega
   ·show 10*0+((dgU n).toNat - 48)=n
    rw [dgU_nat h10];omega
  ·rw [if_neg h10]
   obtain⟨h1,h2⟩:=decF_d f (n / 10) (by omega)
   refine⟨fun c hc=>?_,?_⟩
   ·rcases List.mem_append.1 hc with hc|hc
    ·exact h1 c hc
    ·rw [List.mem_singleton] at hc
     rw [hc,dgU_nat (by omega)];omega
   ·rw [decN_snoc,h2,dgU_nat (by omega)];omega
theorem decS_d (n:Nat):isD (decS n):=(decF_d n n (Nat.le_refl _)).1
theorem decS_v (n:Nat):decN (decS n) 0=n:=(decF_d n n (Nat.le_refl _)).2
theorem hp_split (r:List UInt8):r=(if hpB r [45] then [45] else [])++cpS r [45]:=by
 unfold cpS
 cases h:hpB r [45] with
 | false=>rfl
 | true=>
  unfold hpB at h
  simp only [List.length_singleton,Bool.and_eq_true,decide_eq_true_eq] at h
  show r=[45]++r.drop 1
  rw [← h.2]
  have:=List.take_append_drop 1 r
  grind
theorem ratS_mk (neg:Bool){P Q:Nat}(hP:P≠0) (hQ:Q≠0):ratS (mkRat (sgI neg P) Q)=(if neg then [45] else [])++decS (P / Nat.gcd P Q)++(if Q / Nat.gcd P Q=1 then [] else [47]++decS (Q / Nat.gcd P Q)):=by
 obtain⟨n1,n2⟩:=mkRat_sg neg (a:=P) hQ
 have hg:P / Nat.gcd P Q≠0:=Nat.ne_of_gt (Nat.div_pos (Nat.le_of_dvd (by omega) (Nat.gcd_dvd_left _ _)) (Nat.gcd_pos_of_pos_left _ (by omega)))
 unfold ratS
 rw [n1,n2,sgI_abs]
 cases neg with
 | true=>
  rw [if_pos (show sgI true (P / Nat.gcd P Q)<0 from Int.neg_neg_of_pos (Int.ofNat_lt.2 (Nat.pos_of_ne_zero hg)))];rfl
 | false=>
  rfl
theorem ratS_zero:ratS 0=[48]:=rfl
theorem mkRat_z (neg:Bool)(Q:Nat):mkRat (sgI neg 0) Q=0:=by
 have e2:sgI neg 0=0:=by cases neg <;> rfl
 simp_all
theorem text_whole {neg:Bool}{T:List UInt8}(hT:isRow T) (h0:¬ (neg=true∧T=[48])):ratS (mkRat (sgI neg (decN T 0)) 1)=(if neg then [45] else [])++T:=by
 have hd:=row_dec hT
 by_cases hP:decN T 0=0
 ·rw [hP,mkRat_z,ratS_zero]
  have:T=[48]:=by rw [hd,hP];rfl
  grind
 ·rw [ratS_mk neg hP (by decide),Nat.gcd_one_right,Nat.div_one,Nat.div_one,← hd,if_pos rfl,List.append_nil]
theorem text_frac {neg:Bool}{T B:List UInt8}(hT:isRow T) (hB:isRow B) (hQ:2≤decN B 0):ratS (mkRat (sgI neg (decN T 0)) (decN B 0))=(if neg then [45] else [])++(T++47::B)↔Nat.gcd (decN T 0) (decN B 0)=1:=by
 have hdT:=row_dec hT
 have hdB:=row_dec hB
 have h45:∀ c∈(if neg then [45] else []:List UInt8),c≠47:=by
  intro c hc;split at hc
  ·rw [List.mem_singleton] at hc;rw [hc];decide
  ·cases hc
 have hmem:(47:UInt8)∈(if neg then [45] else []:List UInt8)++(T++47::B):=by simp
 constructor
 ·intro h
  apply Classical.byContradiction
  intro hg
  by_cases hP:decN T 0=0
  ·rw [hP,mkRat_z,ratS_zero] at h
   grind
  ·rw [ratS_mk neg hP (by omega)] at h
   generalize hgg:Nat.gcd (decN T 0) (decN B 0)=g at *
   have hg0:0<g:=by rw [← hgg];exact Nat.gcd_pos_of_pos_left _ (by omega)
   by_cases h1:decN B 0 / g=1
   ·rw [if_pos h1,List.append_nil] at h
    rw [← h] at hmem
    rcases List.mem_append.1 hmem with hm|hm
    ·grind
    ·exact isD_47 (decS_d _) 47 hm rfl
   ·rw [if_neg h1,← List.append_assoc] at h
    have h2:((if neg then [45] else [])++decS (decN T 0 / g))++47::decS (decN B 0 / g)=((if neg then [45] else [])++T)++47::B:=by
     rw [List.append_assoc,List.append_assoc] at h ⊢
     simpa using h
    have h3:=split_uniq (fun c hc=>by
     rcases List.mem_append.1 hc with hc|hc
     ·grind
     ·exact isD_47 (decS_d _) c hc) (fun c hc=>by
     rcases List.mem_append.1 hc with hc|hc
     ·grind
     ·exact isD_47 hT.1 c hc) h2
    have h4:=congrArg (fun l=>decN l 0) h3
    simp only [decS_v] at h4
    have:decN B 0 / g<decN B 0:=Nat.div_lt_self (by omega) (by omega)
    omega
 ·intro hg
  have hP:decN T 0≠0:=by intro e;rw [e,Nat.gcd_zero_left] at hg;omega
  rw [ratS_mk neg hP (by omega),hg,Nat.div_one,Nat.div_one,← hdT,← hdB,if_neg (show ¬ decN B 0=1 by omega),List.append_assoc];rfl
theorem one_row:isRow [49]:=⟨by intro c hc;simp_all,by decide,.inr (by decide)⟩
theorem neStr53 (s t:List UInt8):stepBin Tryz.prog .neq 22 (.c (.d (.str s))) (.c (.d (.str t)))=some (.c (.d (.bool (!decide (s=t)))),[],[],True):=by
 rw [← beqD];rfl
theorem FinC.ref2 {c:Ctx}{fn:Func}{z:Rat}{e:Int}{t u k:Nat}{s:LSt}{κ:Nat}(hr:fn.results=#[.cell t 38,.tmp u]) (ht:s.fr t=.c (.ptr k 0)) (hk:s.lv k=.cells true false 38 [.d (.int .i64 (rsg z)),rC (rtop z),rC (rbot z)]) (hu:s.fr u=.c (.d (.int .i64 e))) (hP:c.P=Tryz.prog):FinC c fn (.tup [refV z,.c (.d (.int .i64 e))]) .ret s κ:=
 FinC.cell2 hr ht hk (by simp_all) hu rfl rfl
theorem badB_row {neg:Bool}{top bot:List UInt8}{brk:Bool}(h:badB neg top bot brk=false):isRow top∧¬ (neg=true∧top=[48])∧(brk=true→isRow bot∧bot≠[48]∧bot≠[49]):=by
 obtain⟨h1,h2⟩:=bad_no h
 refine⟨rowB_iff.1 h1,?_,fun hb=>?_⟩
 ·rintro⟨rfl,rfl⟩
  unfold badB at h
  simp at h
 ·obtain⟨a,b,c⟩:=h2 hb
  exact⟨rowB_iff.1 a,b,c⟩
theorem ratP_bad {r:List UInt8}(h:ratE r≠0):ratP r=0:=if_neg h
@[simp] theorem extA_4a {x y z u:AV}(h:x.noTup=true):extA 0 (.tup [x,y,z,u])=some (x,[],[],True):=by
 cases x <;> first|rfl|cases h
@[simp] theorem extA_4b {x y z u:AV}(h:y.noTup=true):extA 1 (.tup [x,y,z,u])=some (y,[],[],True):=by
 cases y <;> first|rfl|cases h
@[simp] theorem extA_4c {x y z u:AV}(h:z.noTup=true):extA 2 (.tup [x,y,z,u])=some (z,[],[],True):=by
 cases z <;> first|rfl|cases h
@[simp] theorem extA_4d {x y z u:AV}(h:u.noTup=true):extA 3 (.tup [x,y,z,u])=some (u,[],[],True):=by
 cases u <;> first|rfl|cases h
theorem r_Parse_ok (G:List (List DV))(r:List UInt8):CallsP Tryz.prog G 33 [.c (.d (.str r))] (.tup [refV (ratP r),.c (.d (.int .i64 (ratE r)))]):=by
 have rw0:=r_rows_ok G r
 have hE:ratE r=parseE (hpB r [45]) (ctA (cpS r [45]) [47]) (ctB (cpS r [45]) [47]) (decide (0≤ctI (cpS r [45]) [47])):=rfl
 have hP:ratP r=ratQ (hpB r [45]) (ctA (cpS r [45]) [47]) (ctB (cpS r [45]) [47]) (decide (0≤ctI (cpS r [45]) [47])):=rfl
 have hsp:=hp_split r
 obtain⟨s,hs⟩:∃ s,cpS r [45]=s:=⟨_,rfl⟩
 obtain⟨neg,hn⟩:∃ n,hpB r [45]=n:=⟨_,rfl⟩
 rw [hs,hn] at rw0 hE hP hsp
 unfold rowsA at rw0
 have hbad0:=ratP_bad (r:=r)
 have dz:∀ e:Int,dRes (fun _=>LB.hole) (.tup [refV 0,.c (.d (.int .i64 e))])=some (.tup [refV 0,.c (.d (.int .i64 e))],[]):=fun e=>dRes_ref2 _ _ _ _ _
 cases hb:badB neg (ctA s [47]) (ctB s [47]) (decide (0≤ctI s [47])) with
 | true=>
  have e6:ratE r=6:=by rw [hE];unfold parseE;rw [if_pos hb]
  rw [hbad0 (by omega),e6]
  rw [hb] at rw0
  refine CallsP.enc Go.Proofs.Tryz.func33 rfl (fun lv=>dRes_ref2 lv _ _ _ _) fun _=>AW.q ?_
  refine AW.c0 1 rw0 ?_
  refine AW.seqK fun K hK=>AW.q ?_
  refine AW.cy (AW.f2 @bR0 @setSeg.eq_1 ?_)
  exact AW.ret (FinC.ref2 (k:=0) rfl (by simp) (by simp <;> exact⟨rfl,rfl,rfl⟩) (by simp) rfl)
 | false=>
 rw [hb] at rw0
 obtain⟨hT,hT0,hB⟩:=badB_row hb
 obtain⟨T,hTe⟩:∃ T,ctA s [47]=T:=⟨_,rfl⟩
 have hrT:rwT s=T:=hTe
 obtain⟨B,hBe⟩:∃ B,rwB s=B:=⟨_,rfl⟩
 rw [hTe] at hT hT0
 have hsame:(2000<max (ctA s [47]).length (ctB s [47]).length)↔(2000<T.length∨2000<B.length):=by
  rw [hTe]
  by_cases hk:0≤ctI s [47]
  ·have:B=ctB s [47]:=by rw [← hBe];exact if_pos hk
   grind
  ·have h1:B=[49]:=by rw [← hBe];exact if_neg hk
   have h2:ctB s [47]=[]:=if_neg hk
   grind
 have hBrow:isRow B∧1≤decN B 0:=by
  by_cases hk:0≤ctI s [47]
  ·have h1:B=ctB s [47]:=by rw [← hBe];exact if_pos hk
   obtain⟨a,b,c⟩:=hB (decide_eq_true hk)
   rw [h1]
   exact⟨a,by have:=row_ge2 (rowB_iff.2 a) b c;omega⟩
  ·have h1:B=[49]:=by rw [← hBe];exact if_neg hk
   rw [h1];exact⟨one_row,by decide⟩
 rw [hrT,hBe] at rw0
 by_cases hlong:2000<T.length∨2000<B.length
 ·have e3:ratE r=3:=by rw [hE];unfold parseE;rw [if_neg (by rw [hb];decide),if_pos (hsame.2 hlong)]
  rw [hbad0 (by omega),e3]
  refine CallsP.enc Go.Proofs.Tryz.func33 rfl (fun lv=>dRes_ref2 lv _ _ _ _) fun _=>AW.q ?_
  refine AW.c0 1 rw0 ?_
  refine AW.seqK fun K hK=>AW.q ?_
  refine AW.cn (AW.skip (hK _ _ (AW.seqK fun K hK=>AW.seqK fun K1 hK1=>?_)))
  by_cases l1:2000<T.length
  ·have l1':(2000:Int)<(T.length:Int):=by omega
   refine AW.l2 l1 l1' (hK1 _ _ ?_)
   refine AW.cy (AW.f2 @bR0 @setSeg.eq_1 ?_)
   exact AW.ret (FinC.ref2 (k:=0) rfl (by simp) (by simp <;> exact⟨rfl,rfl,rfl⟩) (by simp) rfl)
  ·have l1':¬ (2000:Int)<(T.length:Int):=by omega
   have l2:2000<B.length:=by omega
   have l2':(2000:Int)<(B.length:Int):=by omega
   refine AW.l4 l1 l1' l2 l2' (hK1 _ _ ?_)
   refine AW.cy (AW.f2 @bR0 @setSeg.eq_1 ?_)
   exact AW.ret (FinC.ref2 (k:=0) rfl (by simp) (by simp <;> exact⟨rfl,rfl,rfl⟩) (by simp) rfl)
 have l1:¬ 2000<T.length:=fun h=>hlong (.inl h)
 have l2:¬ 2000<B.length:=fun h=>hlong (.inr h)
 have l1':¬ (2000:Int)<(T.length:Int):=by omega
 have l2':¬ (2000:Int)<(B.length:Int):=by omega
 have rd1:=r_read_ok G T hT.1 hT.2.1 (by omega)
 have rd2:=r_read_ok G B hBrow.1.1 hBrow.1.2.1 (by omega)
 rw [nK_rC] at rd1 rd2
 have n1:=decN_nl hT.1 (by omega:T.length≤2000)
 have n2:=decN_nl hBrow.1.1 (by omega:B.length≤2000)
 have mk:=r_mk_ok G (sgZ neg) neg (decN T 0) (decN B 0) 300 (some (dig 1000000000 (decN T 0))) rfl (fun _=>rfl) hBrow.2 n1 n2 (by decide)
 have hsz:szR (mkRat (sgI neg (decN T 0)) (decN B 0)) 300:=szR_mk _ (by omega) n1 n2
 have tx:=r_Text_ok G _ (szR_mono hsz (by decide:300≤20000))
 have hres:(ratS (mkRat (sgI neg (decN T 0)) (decN B 0))=r∧ratE r=0∧ratP r=mkRat (sgI neg (decN T 0)) (decN B 0))∨(ratS (mkRat (sgI neg (decN T 0)) (decN B 0))≠r∧ratE r=6∧ratP r=0):=by
  rcases idx_split s with h47|⟨a,b,hab,ha⟩
  ·have hk:¬ 0≤ctI s [47]:=by rw [idx_none h47];decide
   have hTs:T=s:=by rw [← hTe];exact if_neg hk
   have hB1:B=[49]:=by rw [← hBe];exact if_neg hk
   have hd1:decN B 0=1:=by rw [hB1];rfl
   left
   have e0:ratE r=0:=by rw [hE];unfold parseE;rw [if_neg (by rw [hb];decide),if_neg (fun h=>hlong (hsame.1 h)),if_pos (decide_eq_false hk)]
   refine⟨?_,e0,?_⟩
   ·rw [hd1,text_whole hT hT0,hTs];grind
   ·rw [hP];unfold ratQ
    grind
  ·have hidx:=idx_at (b:=b) ha
   rw [← hab] at hidx
   have hk:0≤ctI s [47]:=by rw [hidx];omega
   have hA:ctA s [47]=a:=by unfold ctA;rw [if_pos hk,hidx,Int.toNat_natCast,hab,List.take_left]
   have hBb:ctB s [47]=b:=by
    unfold ctB;rw [if_pos hk,hidx,Int.toNat_natCast,hab]
    rw [show a++47::b=(a++[47])++b by simp]
    exact List.drop_left' (by simp)
   have hTa:T=a:=by rw [← hTe];exact hA
   have hBb2:B=b:=by rw [← hBe];unfold rwB;rw [if_pos hk,hBb]
   obtain⟨c1,c2,c3⟩:=hB (decide_eq_true hk)
   have hge:=row_ge2 (rowB_iff.2 c1) c2 c3
   rw [hBb,← hBb2] at hge c1
   have htf:=text_frac (neg:=neg) hT c1 hge
   have hsr:r=(if neg then [45] else [])++(T++47::B):=by rw [hTa,hBb2,← hab];exact hsp
   rw [← hsr] at htf
   have hpe:ratE r=if Nat.gcd (decN T 0) (decN B 0)=1 then 0 else 6:=by
    rw [hE];unfold parseE
    rw [if_neg (by rw [hb];decide),if_neg (fun h=>hlong (hsame.1 h)),if_neg (by rw [decide_eq_true hk];decide),gO_v,hTe,hBb,← hBb2]
   by_cases hg:Nat.gcd (decN T 0) (decN B 0)=1
   ·left
    rw [if_pos hg] at hpe
    refine⟨htf.2 hg,hpe,?_⟩
    rw [hP];unfold ratQ
    grind
   grind
 generalize mkRat (sgI neg (decN T 0)) (decN B 0)=z at *
 rcases hres with ⟨q1,q2,q3⟩|⟨q1,q2,q3⟩
 ·rw [q2,q3]
  refine CallsP.enc Go.Proofs.Tryz.func33 rfl (fun lv=>dRes_ref2 lv _ _ _ _) fun _=>AW.q ?_
  refine AW.c0 1 rw0 ?_
  refine AW.seqK fun K hK=>AW.q ?_
  refine AW.cn (AW.skip (hK _ _ (AW.seqK fun K hK=>AW.f4 l1 l1' l2 l2' ?_)))
  refine AW.cn (AW.skip (hK _ _ (AW.sr fun K hK=>?_)))
  simp
  refine CallDo.p 1 9 rd1 ?_
  simp
  refine CallDo.p 1 9 rd2 ?_
  simp
  refine CallDo.p 1 9 mk ?_
  simp [setSeg]
  apply hK
  refine AW.seqK fun K hK=>AW.c2 2 tx @neStr53 q1 ?_
  refine AW.cn (AW.skip (hK _ _ (AW.f1 @setSeg.eq_1 ?_)))
  exact AW.ret (FinC.ref2 (k:=0) rfl (by simp) (by simp) (by simp) rfl)
 ·rw [q2,q3]
  refine CallsP.enc Go.Proofs.Tryz.func33 rfl (fun lv=>dRes_ref2 lv _ _ _ _) fun _=>AW.q ?_
  refine AW.c0 1 rw0 ?_
  refine AW.seqK fun K hK=>AW.q ?_
  refine AW.cn (AW.skip (hK _ _ (AW.seqK fun K hK=>AW.f4 l1 l1' l2 l2' ?_)))
  refine AW.cn (AW.skip (hK _ _ (AW.sr fun K hK=>?_)))
  simp
  refine CallDo.p 1 9 rd1 ?_
  simp
  refine CallDo.p 1 9 rd2 ?_
  simp
  refine CallDo.p 1 9 mk ?_
  simp [setSeg]
  apply hK
  refine AW.seqK fun K hK=>AW.c2 2 tx @neStr53 q1 ?_
  refine AW.cy (AW.f2 @bR0 @setSeg.eq_1 ?_)
  exact AW.ret (FinC.ref2 (k:=0) rfl (by simp) (by simp <;> exact⟨rfl,rfl,rfl⟩) (by simp) rfl)
end Go.Am
namespace Go.Am
open Go.Am.Ty Go.Proofs N
theorem sgI_xor (a b:Bool)(m n:Nat):sgI (a != b) (m*n)=sgI a m*sgI b n:=by
 unfold sgI;cases a <;> cases b <;> simp [Int.neg_mul,Int.mul_neg]
theorem mul_mk (x y:Rat):x*y=mkRat (sgI (decide (x.num<0) != decide (y.num<0)) (x.num.natAbs*y.num.natAbs)) (x.den*y.den):=by
 rw [Rat.mul_def',sgI_xor,rat_sg,rat_sg]
theorem num_ne {x:Rat}(h:x≠0):x.num.natAbs≠0:=by intro e;exact h (Rat.num_eq_zero.1 (by omega))
theorem div_mk {x y:Rat}(hy:y≠0):x / y=mkRat (sgI (decide (x.num<0) != decide (y.num<0)) (x.num.natAbs*y.den)) (x.den*y.num.natAbs):=by
 have hn:=num_ne hy
 have e:mkRat (sgI (decide (x.num<0) != decide (y.num<0)) (x.num.natAbs*y.den)) (x.den*y.num.natAbs)*y=x:=by
  conv=>lhs;rhs;rw [← Rat.mkRat_self y]
  conv=>rhs;rw [← Rat.mkRat_self x]
  rw [Rat.mkRat_mul_mkRat,Rat.mkRat_eq_iff (Nat.ne_of_gt (Nat.mul_pos (Nat.mul_pos x.den_pos (Nat.pos_of_ne_zero hn)) y.den_pos)) x.den_nz,sgI_xor,rat_sg]
  have h1:sgI (decide (y.num<0)) y.den*y.num=(y.den:Int)*y.num.natAbs:=by
   unfold sgI
   by_cases h:y.num<0
   ·rw [decide_eq_true h,if_pos rfl,show (y.num.natAbs:Int) = -y.num by omega,Int.neg_mul,Int.mul_neg]
   ·rw [decide_eq_false h,if_neg (by decide),show (y.num.natAbs:Int)=y.num by omega]
  rw [Int.mul_assoc x.num,h1,Int.natCast_mul,Int.natCast_mul,Int.mul_assoc,Int.mul_comm _ (x.den:Int),Int.mul_comm (y.den:Int),Int.mul_assoc (x.den:Int)]
 rw [← Rat.mul_div_cancel (a:=mkRat _ _) hy,e]
theorem szR_mul {x y:Rat}{L:Nat}(hx:szR x L) (hy:szR y L):szR (x*y) (2*L):=by
 have e1:=nl_mul x.num.natAbs y.num.natAbs
 have e2:=nl_mul x.den y.den
 obtain⟨a1,a2⟩:=hx
 obtain⟨b1,b2⟩:=hy
 rw [mul_mk]
 exact szR_mk _ (Nat.ne_of_gt (Nat.mul_pos x.den_pos y.den_pos)) (by omega) (by omega)
theorem szR_div {x y:Rat}{L:Nat}(hx:szR x L) (hy:szR y L):szR (x / y) (2*L+1):=by
 by_cases h0:y=0
 ·have:x / y=0:=by rw [h0,Rat.div_def,Rat.inv_zero,Rat.mul_zero]
  rw [this]
  exact⟨by show nl 0≤_;exact Nat.zero_le _,by show nl 1≤_;rw [nl_one];omega⟩
 have e1:=nl_mul x.num.natAbs y.den
 have e2:=nl_mul x.den y.num.natAbs
 obtain⟨a1,a2⟩:=hx
 obtain⟨b1,b2⟩:=hy
 rw [div_mk h0]
 exact szR_mk _ (Nat.ne_of_gt (Nat.mul_pos x.den_pos (Nat.pos_of_ne_zero (num_ne h0)))) (by omega) (by omega)
theorem szR_min {x y:Rat}{L:Nat}(hx:szR x L) (hy:szR y L):szR (minR x y) L:=by unfold minR;split <;> assumption
theorem szR_max {x y:Rat}{L:Nat}(hx:szR x L) (hy:szR y L):szR (maxR x y) L:=by unfold maxR;split <;> assumption
theorem szR_ab {x:Rat}{L:Nat}(hx:szR x L):szR (absQ x) L:=by
 unfold absQ;split
 ·exact szR_neg hx
 ·exact hx
def wholeR (x:Rat)(away:Bool):Rat:=((sgI (decide (x.num<0)) (x.num.natAbs / x.den+if away=true∧x.num.natAbs % x.den≠0 then 1 else 0):Int):Rat)
theorem szR_whole {x:Rat}{L:Nat}(h:szR x L) (away:Bool):szR (wholeR x away) (L+1):=by
 unfold wholeR
 refine szR_int _ _ ?_ (by omega)
 rw [sgI_abs]
 have h1:=h.1
 refine Nat.le_trans (nl_mono (n:=x.num.natAbs+1) ?_) ?_
 ·have:=Nat.div_le_self x.num.natAbs x.den
  split <;> omega
 ·have:=nl_add x.num.natAbs 1
  have h2:=nl_one
  have h3:1≤L:=Nat.le_trans (nl_pos x.den_nz) h.2
  omega
theorem shift_pow (x:Rat)(k:Int):shiftR x k=x*2 ^ k:=by
 unfold shiftR
 split
 ·rename_i h
  have e:k = -((-k).toNat:Int):=by omega
  conv=>rhs;rw [e,← Rat.mkRat_self x,Rat.zpow_neg,Rat.zpow_natCast]
  have h1:((2:Rat) ^ (-k).toNat)⁻¹=mkRat 1 (2 ^ (-k).toNat):=by
   rw [Rat.mkRat_eq_div,Rat.div_def,Rat.natCast_pow]
   show _=(1:Rat)*_
   rw [Rat.one_mul];rfl
  rw [h1,Rat.mkRat_mul_mkRat,Int.mul_one]
 ·rename_i h
  have e:k=(k.toNat:Int):=by omega
  conv=>rhs;rw [e,← Rat.mkRat_self x,Rat.zpow_natCast]
  have h1:(2:Rat) ^ k.toNat=mkRat (2 ^ k.toNat) 1:=by
   rw [Rat.mkRat_one,Rat.intCast_pow];rfl
  rw [h1,Rat.mkRat_mul_mkRat,Nat.mul_one]
theorem two_pos (k:Int):(0:Rat)<2 ^ k:=Rat.zpow_pos (by decide)
theorem shift_neg (x:Rat)(k:Int):((shiftR x k).num<0)↔x.num<0:=by
 have h1:∀ y:Rat,y.num<0↔y<0:=fun y=>by
  rw [← Rat.not_le,← Rat.num_nonneg];omega
 rw [h1,h1,shift_pow]
 exact Rat.mul_neg_iff_of_pos_right (two_pos k)
def rngI (bits:Int):Int:=min (max bits 1) 4000
def gridR (x:Rat)(bits:Int)(away:Bool):Rat:=if x=0 then x else shiftR (wholeR (shiftR x (-(logR x - rngI bits+1))) away) (logR x - rngI bits+1)
def downR (x:Rat)(bits:Int):Rat:=gridR x bits (decide (x.num<0))
def upR (x:Rat)(bits:Int):Rat:=gridR x bits (!decide (x.num<0))
theorem FinC.num {c:Ctx}{fn:Func}{t k:Nat}{s:LSt}{κ:Nat}{r:Rat}(hr:c.P=Tryz.prog∧fn.results=#[.cell t 30]) (ht:s.fr t=.c (.ptr k 0))
 (hk:s.lv k=.cells true false 30 [.d (.bool (decide (r.num<0))),nC (natO r.num.natAbs),nC (denO r.den)]):FinC c fn (ratV r) .ret s κ:=
 FinC.cell hr.2 ht hk (by rw [hr.1,List.drop_zero,loadNum])
theorem FinC.num2 {c:Ctx}{fn:Func}{t k u:Nat}{s:LSt}{κ:Nat}{r:Rat}{y:CV}(hr:c.P=Tryz.prog∧fn.results=#[.cell t 30,.tmp u]) (ht:s.fr t=.c (.ptr k 0))
 (hk:s.lv k=.cells true false 30 [.d (.bool (decide (r.num<0))),nC (natO r.num.natAbs),nC (denO r.den)]) (hy:s.fr u=.c y):FinC c fn (.tup [ratV r,.c y]) .ret s κ:=
 FinC.cell2 hr.2 ht hk (by rw [hr.1,List.drop_zero,loadNum]) hy rfl rfl
theorem neqBool (a b:Bool):stepBin Tryz.prog .neq 4 (.c (.d (.bool a))) (.c (.d (.bool b)))=some (.c (.d (.bool (a != b))),[],[],True):=by
 cases a <;> cases b <;> kernel_rfl
theorem rat_Mul (G:List (List DV))(x y:Rat)(hx:szR x 10000000000)(hy:szR y 10000000000):CallsP Tryz.prog G 75 [ratV x,ratV y] (ratV (x*y)):=by
 have hbx:=num_bottom_ok G (decide (x.num<0)) (natO x.num.natAbs) (denO x.den)
 have hby:=num_bottom_ok G (decide (y.num<0)) (natO y.num.natAbs) (denO y.den)
 have m1:=exact_mul_ok G (natO x.num.natAbs) (natO y.num.natAbs) (by rw [natO_len];have:=hx.1;omega) (by rw [natO_len];have:=hy.1;omega)
 have m2:=exact_mul_ok G (some (dig 4294967296 x.den)) (some (dig 4294967296 y.den)) (by show nl _≤_;have:=hx.2;omega) (by show nl _≤_;have:=hy.2;omega)
 rw [denO_b] at hbx hby
 simp only [natO_v,dO_some,val_dig,nK_nC] at m1 m2
 have e1:=nl_mul x.num.natAbs y.num.natAbs
 have e2:=nl_mul x.den y.den
 have mk:=rat_made' G (decide (x.num<0) != decide (y.num<0)) (x.num.natAbs*y.num.natAbs) (x.den*y.den) (Nat.ne_of_gt (Nat.mul_pos x.den_pos y.den_pos)) (by have:=hx.1;have:=hy.1;omega) (by have:=hx.2;have:=hy.2;omega)
 rw [← mul_mk] at mk
 generalize x*y=r at *
 refine CallsP.enc Go.Proofs.Tryz.func75 rfl (fun lv=>nC_dArg lv _ _ _) fun _=>AW.q ?_
 refine AW.seqK fun K hK=>?_
 refine AW.drawP mixed (by kernel_rfl) rfl ?_
 simp [neqBool]
 refine CallDo.p 3 9 m1 ?_
 simp [neqBool]
 refine CallDo.p 3 9 hbx ?_
 simp [neqBool]
 refine CallDo.p 3 9 hby ?_
 simp [neqBool]
 refine CallDo.p 3 9 m2 ?_
 simp [neqBool]
 refine CallDo.p 3 9 mk ?_
 simp
 refine⟨by kernel_rfl,?_⟩
 repeat refine and_o ?_
 apply hK
 exact AW.ret (FinC.num (κ:=0) (t:=4) (k:=2) ⟨rfl,rfl⟩ (by simp) (by simp [setSeg]))
theorem rat_Quo (G:List (List DV))(x y:Rat)(hx:szR x 10000000000)(hy:szR y 10000000000):CallsP Tryz.prog G 125 [ratV x,ratV y] (.tup [ratV (x / y),.c (.d (.int .i64 (if y=0 then 8 else 0)))]):=by
 have hg:=num_Sign_ok G (decide (y.num<0)) (natO y.num.natAbs) (denO y.den)
 by_cases h0:y=0
 ·have e:x / y=0:=by rw [h0,Rat.div_def,Rat.inv_zero,Rat.mul_zero]
  rw [sgA_zero h0] at hg
  rw [e,if_pos h0]
  have bz:buildA Tryz.prog 30 [] []=some (ratV 0,[],[],True):=bNum0
  generalize (0:Rat)=z at *
  refine CallsP.enc Go.Proofs.Tryz.func125 rfl (fun lv=>dRes_num lv _ _ _ _) fun _=>AW.q ?_
  refine AW.seqK fun K hK=>AW.seqK fun K1 hK1=>AW.rP ?_
  simp
  refine CallDo.p 3 9 hg ?_
  simp
  repeat refine and_o ?_
  apply hK1
  refine AW.cy (AW.seqK fun K1 hK1=>AW.rP ?_)
  simp [bz]
  repeat refine and_o ?_
  apply hK1
  exact AW.ret (FinC.num2 (κ:=0) (t:=4) (k:=2) (u:=5) ⟨rfl,rfl⟩ (by simp) (by simp [setSeg]) (by simp))
 have hne:=sgA_ne h0
 have hbx:=num_bottom_ok G (decide (x.num<0)) (natO x.num.natAbs) (denO x.den)
 have hby:=num_bottom_ok G (decide (y.num<0)) (natO y.num.natAbs) (denO y.den)
 have m1:=exact_mul_ok G (natO x.num.natAbs) (some (dig 4294967296 y.den)) (by rw [natO_len];have:=hx.1;omega) (by show nl _≤_;have:=hy.2;omega)
 have m2:=exact_mul_ok G (some (dig 4294967296 x.den)) (natO y.num.natAbs) (by show nl _≤_;have:=hx.2;omega) (by rw [natO_len];have:=hy.1;omega)
 rw [denO_b] at hbx hby
 simp only [natO_v,dO_some,val_dig,nK_nC] at m1 m2
 have e1:=nl_mul x.num.natAbs y.den
 have e2:=nl_mul x.den y.num.natAbs
 have mk:=rat_made' G (decide (x.num<0) != decide (y.num<0)) (x.num.natAbs*y.den) (x.den*y.num.natAbs) (Nat.ne_of_gt (Nat.mul_pos x.den_pos (Nat.pos_of_ne_zero (num_ne h0)))) (by have:=hx.1;have:=hy.2;omega) (by have:=hx.2;have:=hy.1;omega)
 rw [← div_mk h0] at mk
 rw [if_neg h0]
 generalize x / y=r at *
 refine CallsP.enc Go.Proofs.Tryz.func125 rfl (fun lv=>dRes_num lv _ _ _ _) fun _=>AW.q ?_
 refine AW.seqK fun K hK=>AW.c1 3 hg hne ?_
 refine AW.fn (by simp [hne] <;> omega) (AW.skip (hK _ _ (AW.seqK fun K hK=>?_)))
 refine AW.drawP mixed (by kernel_rfl) rfl ?_
 simp [neqBool]
 refine CallDo.p 3 9 hby ?_
 simp [neqBool]
 refine CallDo.p 3 9 m1 ?_
 simp [neqBool]
 refine CallDo.p 3 9 hbx ?_
 simp [neqBool]
 refine CallDo.p 3 9 m2 ?_
 simp [neqBool]
 refine CallDo.p 3 9 mk ?_
 simp
 refine⟨by kernel_rfl,?_⟩
 repeat refine and_o ?_
 apply hK
 exact AW.ret (FinC.num2 (κ:=0) (t:=4) (k:=2) (u:=5) ⟨rfl,rfl⟩ (by simp) (by simp [setSeg]) (by simp))
theorem rat_Ab (G:List (List DV))(x:Rat):CallsP Tryz.prog G 101 [ratV x] (ratV (absQ x)):=by
 have h:=num_Abs_ok G (decide (x.num<0)) (natO x.num.natAbs) (denO x.den)
 have h1:x.num<0↔x<0:=by
  rw [← Rat.not_le,← Rat.num_nonneg];omega
 have e:nmA false (natO x.num.natAbs) (denO x.den)=ratV (absQ x):=by
  unfold absQ
  split
  ·rename_i hn
   have:=h1.2 hn
   show nmA _ _ _=nmA (decide ((-x).num<0)) (natO (-x).num.natAbs) (denO (-x).den)
   rw [Rat.neg_num,Int.natAbs_neg,Rat.neg_den,decide_eq_false (by omega)]
  ·rename_i hn
   have:¬ x.num<0:=fun h=>hn (h1.1 h)
   show nmA _ _ _=nmA (decide (x.num<0)) _ _
   rw [decide_eq_false this]
 rw [← e]
 exact h
theorem cmpR_neg {x y:Rat}:cmpR x y<0↔x<y:=by unfold cmpR;(repeat' split) <;> simp_all
theorem cmpR_pos {x y:Rat}:0<cmpR x y↔y<x:=by
 unfold cmpR
 split
 ·rename_i h;simp;exact fun h'=>by grind
 ·split <;> simp_all
theorem rat_Max (G:List (List DV))(x y:Rat)(hx:szR x 10000000000)(hy:szR y 10000000000):CallsP Tryz.prog G 78 [ratV x,ratV y] (ratV (maxR x y)):=by
 have hc:=rat_Cmp G x y hx hy
 by_cases h:x<y
 ·have h':=cmpR_neg.2 h
  unfold maxR;rw [if_pos h]
  generalize cmpR x y=n at *
  refine CallsP.enc Go.Proofs.Tryz.func78 rfl (fun lv=>nC_dArg lv _ _ _) fun _=>AW.q ?_
  refine AW.seqK fun K hK=>AW.c1 3 hc h' ?_
  refine AW.fy (by simp [h'] <;> omega) (AW.q ?_)
  exact AW.ret (FinC.num (κ:=0) (t:=4) (k:=2) ⟨rfl,rfl⟩ (by simp) (by simp [setSeg]))
 ·have h':¬ cmpR x y<0:=fun e=>h (cmpR_neg.1 e)
  unfold maxR;rw [if_neg h]
  generalize cmpR x y=n at *
  refine CallsP.enc Go.Proofs.Tryz.func78 rfl (fun lv=>nC_dArg lv _ _ _) fun _=>AW.q ?_
  refine AW.seqK fun K hK=>AW.c1 3 hc h' ?_
  refine AW.fn (by simp [h'] <;> omega) (AW.skip (hK _ _ (AW.q ?_)))
  exact AW.ret (FinC.num (κ:=0) (t:=4) (k:=2) ⟨rfl,rfl⟩ (by simp) (by simp [setSeg]))
theorem rat_Min (G:List (List DV))(x y:Rat)(hx:szR x 10000000000)(hy:szR y 10000000000):CallsP Tryz.prog G 79 [ratV x,ratV y] (ratV (minR x y)):=by
 have hc:=rat_Cmp G x y hx hy
 by_cases h:x<y
 ·have h':=cmpR_neg.2 h
  unfold minR;rw [if_pos h]
  generalize cmpR x y=n at *
  refine CallsP.enc Go.Proofs.Tryz.func79 rfl (fun lv=>nC_dArg lv _ _ _) fun _=>AW.q ?_
  refine AW.seqK fun K hK=>AW.c1 3 hc h' ?_
  refine AW.fy (by simp [h'] <;> omega) (AW.q ?_)
  exact AW.ret (FinC.num (κ:=0) (t:=4) (k:=2) ⟨rfl,rfl⟩ (by simp) (by simp [setSeg]))
 ·have h':¬ cmpR x y<0:=fun e=>h (cmpR_neg.1 e)
  unfold minR;rw [if_neg h]
  generalize cmpR x y=n at *
  refine CallsP.enc Go.Proofs.Tryz.func79 rfl (fun lv=>nC_dArg lv _ _ _) fun _=>AW.q ?_
  refine AW.seqK fun K hK=>AW.c1 3 hc h' ?_
  refine AW.fn (by simp [h'] <;> omega) (AW.skip (hK _ _ (AW.q ?_)))
  exact AW.ret (FinC.num (κ:=0) (t:=4) (k:=2) ⟨rfl,rfl⟩ (by simp) (by simp [setSeg]))
theorem whole_q (x:Rat):dO (divQ (natO x.num.natAbs) (some (dig 4294967296 x.den)))=(dig 4294967296 (x.num.natAbs / x.den)):=by rw [divQ_d,natO_v,dO_some,val_dig]
theorem rat_whole (G:List (List DV))(x:Rat)(away:Bool)(hx:szR x 10000000000):CallsP Tryz.prog G 187 [ratV x,.c (.d (.bool away))] (ratV (wholeR x away)):=by
 have hb:=num_bottom_ok G (decide (x.num<0)) (natO x.num.natAbs) (denO x.den)
 rw [denO_b] at hb
 have hd:=exact_div_ok G (natO x.num.natAbs) (some (dig 4294967296 x.den)) (natO_can _) (can_dig _) (dig_ne x.den_nz) (by rw [natO_len];have:=hx.1;omega)
 have hq:=whole_q x
 have hr:dO (divR (natO x.num.natAbs) (some (dig 4294967296 x.den)))=(dig 4294967296 (x.num.natAbs % x.den)):=by rw [divR_d (natO_can _),natO_v,dO_some,val_dig]
 have ho:=exact_of_ok G 1 (by decide)
 have hl:nl (x.num.natAbs / x.den)≤10000000000:=Nat.le_trans (nl_mono (Nat.div_le_self _ _)) hx.1
 generalize divQ (natO x.num.natAbs) (some (dig 4294967296 x.den))=q at *
 generalize divR (natO x.num.natAbs) (some (dig 4294967296 x.den))=r at *
 have hrl:0<(dO r).length↔x.num.natAbs % x.den≠0:=by
  rw [hr,List.length_pos_iff,Ne,dig_nil (by decide)]
 have hqc:can 4294967296 (dO q):=by rw [hq];exact can_dig _
 have hqv:(val 4294967296 (dO q))=x.num.natAbs / x.den:=by rw [hq,val_dig]
 have hadd:=exact_add_ok G q (some (dig 4294967296 1)) (by rw [hq];show nl _≤_;omega) (by show nl 1≤_;rw [nl_one];decide)
 rw [hqv,dO_some,val_dig] at hadd
 have m1:=rat_made G (decide (x.num<0)) q (some (dig 4294967296 1)) hqc (can_dig _) (dig_ne (by decide)) (by rw [hq];show nl _<_;omega) (by show nl 1<_;rw [nl_one];decide)
 have hl2:=nl_add (x.num.natAbs / x.den) 1
 rw [nl_one] at hl2
 have m2:=rat_made' G (decide (x.num<0)) (x.num.natAbs / x.den+1) 1 (by decide) (by omega) (by rw [nl_one];decide)
 rw [hqv,dO_some,val_dig,mkRat_int] at m1
 rw [mkRat_int] at m2
 simp only [nK_nC] at ho hadd hd
 have hdt:=tup2_pure q r
 simp only [nK_nC] at hdt
 by_cases ha:away=true∧x.num.natAbs % x.den≠0
 ·have e:wholeR x away=((sgI (decide (x.num<0)) (x.num.natAbs / x.den+1):Int):Rat):=by unfold wholeR;rw [if_pos ha]
  rw [e]
  obtain⟨rfl,ha2⟩:=ha
  have hr1:=hrl.2 ha2
  generalize ((sgI (decide (x.num<0)) (x.num.natAbs / x.den+1):Int):Rat)=w at *
  refine CallsP.enc Go.Proofs.Tryz.func187 rfl (fun lv=>nC_dArg lv _ _ _) fun _=>AW.q ?_
  refine AW.seqK fun K hK=>?_
  refine AW.drawP mixed (by kernel_rfl) rfl ?_
  simp
  refine CallDo.p 2 9 hb ?_
  simp
  refine CallDo.pure 2 9 hd hdt (by simp) (by simp) ?_
  simp
  refine⟨by kernel_rfl,?_⟩
  repeat refine and_o ?_
  apply hK
  refine AW.seqK fun K hK=>AW.f2 @lpC hr1 ?_
  refine AW.fy (by simp [hr1] <;> omega) (AW.rP ?_)
  simp
  refine CallDo.p 2 9 ho ?_
  simp
  refine CallDo.p 2 9 hadd ?_
  simp
  repeat refine and_o ?_
  apply hK
  refine AW.seqK fun K hK=>?_
  refine AW.drawP mixed (by kernel_rfl) rfl ?_
  simp
  refine CallDo.p 2 9 ho ?_
  simp
  refine CallDo.p 2 9 m2 ?_
  simp
  refine⟨by kernel_rfl,?_⟩
  repeat refine and_o ?_
  apply hK
  exact AW.ret (FinC.num (κ:=0) (t:=4) (k:=1) ⟨rfl,rfl⟩ (by simp) (by simp [setSeg]))
 ·have e:wholeR x away=((sgI (decide (x.num<0)) (x.num.natAbs / x.den):Int):Rat):=by unfold wholeR;rw [if_neg ha,Nat.add_zero]
  rw [e]
  have ha':¬ (away=true∧0<(dO r).length):=fun h=>ha ⟨h.1,hrl.1 h.2⟩
  generalize ((sgI (decide (x.num<0)) (x.num.natAbs / x.den):Int):Rat)=w at *
  refine CallsP.enc Go.Proofs.Tryz.func187 rfl (fun lv=>nC_dArg lv _ _ _) fun _=>AW.q ?_
  refine AW.seqK fun K hK=>?_
  refine AW.drawP mixed (by kernel_rfl) rfl ?_
  simp
  refine CallDo.p 2 9 hb ?_
  simp
  refine CallDo.pure 2 9 hd hdt (by simp) (by simp) ?_
  simp
  refine⟨by kernel_rfl,?_⟩
  repeat refine and_o ?_
  apply hK
  cases away with
  | false=>
   refine AW.seqK fun K hK=>AW.q ?_
   refine AW.cn (AW.skip (hK _ _ (AW.seqK fun K hK=>?_)))
   refine AW.drawP mixed (by kernel_rfl) rfl ?_
   simp
   refine CallDo.p 2 9 ho ?_
   simp
   refine CallDo.p 2 9 m1 ?_
   simp
   refine⟨by kernel_rfl,?_⟩
   repeat refine and_o ?_
   apply hK
   exact AW.ret (FinC.num (κ:=0) (t:=4) (k:=1) ⟨rfl,rfl⟩ (by simp) (by simp [setSeg]))
  | true=>
   have hr1:¬ 0<(dO r).length:=fun h=>ha' ⟨rfl,h⟩
   refine AW.seqK fun K hK=>AW.f2 @lpC hr1 ?_
   refine AW.fn (by simp [hr1] <;> omega) (AW.skip (hK _ _ (AW.seqK fun K hK=>?_)))
   refine AW.drawP mixed (by kernel_rfl) rfl ?_
   simp
   refine CallDo.p 2 9 ho ?_
   simp
   refine CallDo.p 2 9 m1 ?_
   simp
   refine⟨by kernel_rfl,?_⟩
   repeat refine and_o ?_
   apply hK
   exact AW.ret (FinC.num (κ:=0) (t:=4) (k:=1) ⟨rfl,rfl⟩ (by simp) (by simp [setSeg]))
theorem rngI_r (b:Int):1≤rngI b∧rngI b≤4000:=by unfold rngI;omega
theorem inRange_ok (G:List (List DV))(b:Int):CallsP Tryz.prog G 185 [.c (.d (.int .i64 b))] (.c (.d (.int .i64 (rngI b)))):=by
 have e1:(List.foldl (fun a b:Int=>if a<b then b else a) b [1])=max b 1:=by simp only [List.foldl];split <;> omega
 have e2:(List.foldl (fun a b:Int=>if b<a then b else a) (max b 1) [4000])=rngI b:=by unfold rngI;simp only [List.foldl];split <;> omega
 refine CallsP.en Go.Proofs.Tryz.func185 rfl fun _=>AW.q ?_
 refine AW.sr fun K hK=>?_
 simp [intsOf,e1,e2,-List.foldl_cons,-List.foldl_nil]
 repeat refine and_o ?_
 apply hK
 exact AW.r0 (FinP.rt rfl 2 (by simp))
theorem rat_grid (G:List (List DV))(x:Rat)(bits:Int)(away:Bool)(hx:szR x 10000):CallsP Tryz.prog G 142 [ratV x,.c (.d (.int .i64 bits)),.c (.d (.bool away))] (ratV (gridR x bits away)):=by
 have hg:=num_Sign_ok G (decide (x.num<0)) (natO x.num.natAbs) (denO x.den)
 by_cases h0:x=0
 ·have e:gridR x bits away=x:=if_pos h0
  rw [sgA_zero h0] at hg
  rw [e]
  refine CallsP.enc Go.Proofs.Tryz.func142 rfl (fun lv=>nC_dArg lv _ _ _) fun _=>AW.q ?_
  refine AW.seqK fun K hK=>AW.c0 2 hg ?_
  refine AW.cy (AW.q ?_)
  exact AW.ret (FinC.num (κ:=0) (t:=6) (k:=1) ⟨rfl,rfl⟩ (by simp) (by simp [setSeg]))
 have hne:=sgA_ne h0
 have hl:=rat_log G x h0 (szR_mono hx (by omega))
 have hlr:=logR_rng h0 hx
 have hi:=inRange_ok G bits
 obtain⟨b1,b2⟩:=rngI_r bits
 have e:gridR x bits away=shiftR (wholeR (shiftR x (-(logR x - rngI bits+1))) away) (logR x - rngI bits+1):=if_neg h0
 rw [e]
 generalize logR x=l at *
 generalize rngI bits=b at *
 have w1:IntKind.i64.wrap (l - b)=l - b:=w64 (by omega) (by omega)
 obtain⟨k,hk,k1,k2⟩:∃ k,l - b+1=k∧-325000≤k∧k≤325000:=⟨_,rfl,by omega,by omega⟩
 rw [hk]
 have w2:IntKind.i64.wrap k=k:=w64 (by omega) (by omega)
 have w3:IntKind.i64.wrap (-k) = -k:=w64 (by omega) (by omega)
 have z1:=szR_shift hx (-k)
 have z2:=szR_whole z1 away
 have s1:=rat_shifted G x (-k) (szR_mono hx (by omega)) (by omega) (by omega)
 have s2:=rat_whole G (shiftR x (-k)) away (szR_mono z1 (by omega))
 have s3:=rat_shifted G (wholeR (shiftR x (-k)) away) k (szR_mono z2 (by omega)) (by omega) (by omega)
 generalize shiftR (wholeR (shiftR x (-k)) away) k=r at *
 generalize wholeR (shiftR x (-k)) away=u at *
 generalize shiftR x (-k)=v at *
 refine CallsP.enc Go.Proofs.Tryz.func142 rfl (fun lv=>nC_dArg lv _ _ _) fun _=>AW.q ?_
 refine AW.seqK fun K hK=>AW.c1 2 hg hne ?_
 refine AW.fn (by simp [hne] <;> omega) (AW.skip (hK _ _ (AW.seqK fun K hK=>AW.rP ?_)))
 simp
 refine CallDo.p 2 9 hl ?_
 simp
 refine CallDo.p 2 9 hi ?_
 simp [w1,hk,w2]
 repeat refine and_o ?_
 apply hK
 refine AW.seqK fun K hK=>AW.rP ?_
 simp [w3]
 refine CallDo.p 2 9 s1 ?_
 simp [w3]
 refine CallDo.p 2 9 s2 ?_
 simp
 refine CallDo.p 2 9 s3 ?_
 simp
 repeat refine and_o ?_
 apply hK
 exact AW.ret (FinC.num (κ:=0) (t:=6) (k:=1) ⟨rfl,rfl⟩ (by simp) (by simp [setSeg]))
theorem rat_Down (G:List (List DV))(x:Rat)(bits:Int)(hx:szR x 10000):CallsP Tryz.prog G 83 [ratV x,.c (.d (.int .i64 bits))] (ratV (downR x bits)):=by
 have h:CallsP Tryz.prog G 142 [ratV x,.c (.d (.int .i64 bits)),.c (.d (.bool (decide (x.num<0))))] (ratV (downR x bits)):=rat_grid G x bits (decide (x.num<0)) hx
 generalize downR x bits=r at *
 refine CallsP.enc Go.Proofs.Tryz.func83 rfl (fun lv=>nC_dArg lv _ _ _) fun _=>AW.q ?_
 refine AW.c0 2 h ?_
 exact AW.ret (FinC.num (κ:=0) (t:=4) (k:=1) ⟨rfl,rfl⟩ (by simp) (by simp [setSeg]))
theorem rat_Up (G:List (List DV))(x:Rat)(bits:Int)(hx:szR x 10000):CallsP Tryz.prog G 84 [ratV x,.c (.d (.int .i64 bits))] (ratV (upR x bits)):=by
 have h:CallsP Tryz.prog G 142 [ratV x,.c (.d (.int .i64 bits)),.c (.d (.bool (!decide (x.num<0))))] (ratV (upR x bits)):=rat_grid G x bits (!decide (x.num<0)) hx
 generalize upR x bits=r at *
 refine CallsP.enc Go.Proofs.Tryz.func84 rfl (fun lv=>nC_dArg lv _ _ _) fun _=>AW.seqK fun K hK=>AW.rP ?_
 simp
 repeat refine and_o ?_
 apply hK
 refine AW.seqK fun K hK=>AW.rP ?_
 simp
 refine CallDo.p 2 9 h ?_
 simp
 repeat refine and_o ?_
 apply hK
 exact AW.ret (FinC.num (κ:=0) (t:=4) (k:=1) ⟨rfl,rfl⟩ (by simp) (by simp [setSeg]))
end Go.Am
