/- Helpers: an abstract machine for Go functions, and walks of functions of the program. -/
import Derived.Test.YtanjfmmjpnjkbaaGreatDoorRn08
import Derived.Lib.IndexMore

set_option linter.all false
set_option maxHeartbeats 8000000
set_option maxRecDepth 100000
namespace Go.Am
open Go.Am.Ty Go.Proofs N
theorem eqBool (a b:Bool):stepBin Tryz.prog .eql 4 (.c (.d (.bool a))) (.c (.d (.bool b)))=some (.c (.d (.bool (a == b))),[],[],True):=by
 rfl
theorem rat_made (G:List (List DV))(neg:Bool)(p q:Option (List Nat))(hp:can 4294967296 (dO p))(hq:can 4294967296 (dO q))(hq0:dO q≠[])(hl:(dO p).length<1000000000000)(hl':(dO q).length<1000000000000) :
 CallsP Tryz.prog G 38 [.c (.d (.bool neg)),.c (nC p),.c (nC q)] (ratV (mkRat (sgI neg (val 4294967296 (dO p))) (val 4294967296 (dO q)))):=by
 have:=exact_made_ok G neg p q hp hq hq0 hl hl'
 rw [madeA_rat neg hp hq hq0] at this
 simp only [nK_nC] at this
 omega
theorem rat_made' (G:List (List DV))(neg:Bool)(a b:Nat)(hb:b≠0)(hl:nl a<1000000000000)(hl':nl b<1000000000000) :
 CallsP Tryz.prog G 38 [.c (.d (.bool neg)),.c (nC (some (dig 4294967296 a))),.c (nC (some (dig 4294967296 b)))] (ratV (mkRat (sgI neg a) b)):=by
 have:=rat_made G neg (some (dig 4294967296 a)) (some (dig 4294967296 b)) (can_dig a) (can_dig b) (dig_ne hb) hl hl'
 simp only [dO_some,val_dig] at this
 omega
theorem num_Neg_ok (G:List (List DV))(neg:Bool)(p q:Option (List Nat)):CallsP Tryz.prog G 124 [nmA neg p q] (nmA (!neg && decide (dO p≠[])) p q):=by
 cases neg with
 | true=>
  show CallsP Tryz.prog G 124 [nmA true p q] (nmA false p q)
  refine CallsP.enc Go.Proofs.Tryz.func124 rfl (fun lv=>nC_dArg lv _ _ _) fun _=>AW.q ?_
  refine AW.f1 @bNum ?_
  refine AW.ret ?_
  rfl
 | false=>
  by_cases hp:dO p=[]
  ·rw [show (!false && decide (dO p≠[]))=false by simp [hp]]
   refine CallsP.enc Go.Proofs.Tryz.func124 rfl (fun lv=>nC_dArg lv _ _ _) fun _=>AW.q ?_
   refine AW.f3 @bNum @lpC hp ?_
   refine AW.ret ?_
   rfl
  ·rw [show (!false && decide (dO p≠[]))=true by simp [hp]]
   refine CallsP.enc Go.Proofs.Tryz.func124 rfl (fun lv=>nC_dArg lv _ _ _) fun _=>AW.q ?_
   refine AW.seqK fun K hK=>?_
   have hp':=List.length_pos_iff.2 hp
   refine AW.l4 @bNum @lpC hp hp' (hK _ _ ?_)
   refine AW.ret ?_
   rfl
theorem rat_Neg (G:List (List DV))(x:Rat):CallsP Tryz.prog G 124 [ratV x] (ratV (-x)):=by
 have h:=num_Neg_ok G (decide (x.num<0)) (natO x.num.natAbs) (denO x.den)
 have e:(!decide (x.num<0) && decide (dO (natO x.num.natAbs)≠[]))=decide ((-x).num<0):=by
  rw [Rat.neg_num,natO_d]
  by_cases h0:x.num=0
  ·simp_all
  ·have h1:(dig 4294967296 x.num.natAbs)≠[]:=dig_ne (by omega)
   grind
 rw [e] at h
 show CallsP _ _ _ _ (nmA (decide ((-x).num<0)) (natO (-x).num.natAbs) (denO (-x).den))
 rw [show (-x).num.natAbs=x.num.natAbs by simp,Rat.neg_den]
 exact h
theorem mkRat_int (neg:Bool)(a:Nat):mkRat (sgI neg a) 1=((sgI neg a:Int):Rat):=by
 rw [Rat.mkRat_one]
theorem rat_Int (G:List (List DV))(n:Int)(h1:-9223372036854775808≤n)(h2:n≤9223372036854775807):CallsP Tryz.prog G 48 [.c (.d (.int .i64 n))] (ratV (n:Rat)):=by
 have hof1:=exact_of_ok G 1 (by decide)
 have hofn:=exact_of_ok G n.natAbs (by omega)
 have hl:nl n.natAbs<1000000000000:=by
  have e2:(4294967296:Nat) ^ 2=18446744073709551616:=by decide
  have:=nl_le (n:=n.natAbs) (m:=2) (by omega)
  omega
 have hm:=fun neg=>rat_made' G neg n.natAbs 1 (by decide) hl (by rw [nl_one];decide)
 simp only [nK_nC] at hof1 hofn
 simp only [mkRat_int] at hm
 by_cases hn:n<0
 ·have e:sgI true n.natAbs=n:=by unfold sgI;rw [if_pos rfl];omega
  have hm1:=hm true
  rw [e] at hm1
  have ew:IntKind.u64.wrap (-IntKind.u64.wrap n)=(n.natAbs:Int):=by rw [wu64m,wu64m];omega
  refine CallsP.enc Go.Proofs.Tryz.func48 rfl (fun lv=>nC_dArg lv _ _ _) fun _=>AW.q ?_
  refine AW.seqK fun K hK=>AW.f1 hn ?_
  refine AW.fy (by rfl) (AW.sr fun K1 hK1=>?_)
  simp [ew]
  refine CallDo.p 1 9 hofn ?_
  simp
  refine CallDo.p 1 9 hof1 ?_
  simp
  refine CallDo.p 1 9 hm1 ?_
  simp
  apply hK1
  refine AW.ret ?_
  rfl
 ·have e:sgI false n.natAbs=n:=by unfold sgI;rw [if_neg (by decide)];omega
  have hm1:=hm false
  rw [e] at hm1
  have ew:IntKind.u64.wrap n=(n.natAbs:Int):=by rw [wu64m];omega
  refine CallsP.enc Go.Proofs.Tryz.func48 rfl (fun lv=>nC_dArg lv _ _ _) fun _=>AW.q ?_
  refine AW.seqK fun K hK=>AW.f1 hn ?_
  refine AW.fn (by rfl) (AW.skip (hK _ _ (AW.sr fun K hK=>?_)))
  simp [ew]
  refine CallDo.p 1 9 hofn ?_
  simp
  refine CallDo.p 1 9 hof1 ?_
  simp
  refine CallDo.p 1 9 hm1 ?_
  simp
  apply hK
  refine AW.ret ?_
  rfl
def addR (neg:Bool)(a:Nat)(neg':Bool)(b q:Nat):Rat:=
 if neg=neg' then mkRat (sgI neg (a+b)) q else if a<b then mkRat (sgI neg' (b - a)) q else mkRat (sgI neg (a - b)) q
theorem cmpN_neg {a b:Nat}:(cmpN a b<0)↔a<b:=by unfold cmpN;omega
theorem num_Add_ok (G:List (List DV))(neg neg':Bool)(p q p' q':Option (List Nat))(h1:(dO p).length≤10000000000)(h2:(dO q).length≤10000000000)(h3:(dO p').length≤10000000000)(h4:(dO q').length≤10000000000)
 (c1:can 4294967296 (dO p)) (c2:can 4294967296 (dO (botO q))) (c3:can 4294967296 (dO p')) (c4:can 4294967296 (dO (botO q'))) (z2:(val 4294967296 (dO (botO q)))≠0) (z4:(val 4294967296 (dO (botO q')))≠0) :
 CallsP Tryz.prog G 10 [nmA neg p q,nmA neg' p' q'] (ratV (addR neg ((val 4294967296 (dO p))*(val 4294967296 (dO (botO q')))) neg' ((val 4294967296 (dO p'))*(val 4294967296 (dO (botO q)))) ((val 4294967296 (dO (botO q)))*(val 4294967296 (dO (botO q')))))):=by
 have b1:=botO_len h2 (by decide)
 have b2:=botO_len h4 (by decide)
 have m1:=exact_mul_ok G p (botO q') (by omega) (by omega)
 have m2:=exact_mul_ok G p' (botO q) (by omega) (by omega)
 have m3:=exact_mul_ok G (botO q) (botO q') (by omega) (by omega)
 have hQ:(val 4294967296 (dO (botO q)))*(val 4294967296 (dO (botO q')))≠0:=Nat.ne_of_gt (Nat.mul_pos (Nat.pos_of_ne_zero z2) (Nat.pos_of_ne_zero z4))
 have lv:∀ {o:Option (List Nat)},can 4294967296 (dO o)→nl (val 4294967296 (dO o))=(dO o).length:=fun {o} hc=>by unfold nl;rw [← dig_of (by decide) hc rfl]
 have l1:nl ((val 4294967296 (dO p))*(val 4294967296 (dO (botO q'))))≤20000000000:=by
  have:=nl_mul (val 4294967296 (dO p)) (val 4294967296 (dO (botO q')))
  rw [lv c1,lv c4] at this;omega
 have l2:nl ((val 4294967296 (dO p'))*(val 4294967296 (dO (botO q))))≤20000000000:=by
  have:=nl_mul (val 4294967296 (dO p')) (val 4294967296 (dO (botO q)))
  rw [lv c3,lv c2] at this;omega
 have l3:nl ((val 4294967296 (dO (botO q)))*(val 4294967296 (dO (botO q'))))≤20000000000:=by
  have:=nl_mul (val 4294967296 (dO (botO q))) (val 4294967296 (dO (botO q')))
  rw [lv c2,lv c4] at this;omega
 generalize (val 4294967296 (dO p))*(val 4294967296 (dO (botO q')))=a at *
 generalize (val 4294967296 (dO p'))*(val 4294967296 (dO (botO q)))=b at *
 generalize (val 4294967296 (dO (botO q)))*(val 4294967296 (dO (botO q')))=Q at *
 have la:(dO (some (dig 4294967296 a))).length≤20000000000:=l1
 have lb:(dO (some (dig 4294967296 b))).length≤20000000000:=l2
 have k1:=exact_add_ok G (some (dig 4294967296 a)) (some (dig 4294967296 b)) (by omega) (by omega)
 have k2:=exact_cmp_ok (G:=G) (a:=some (dig 4294967296 a)) (b:=some (dig 4294967296 b)) (can_dig _) (can_dig _)
 have k3:=fun h=>exact_sub_ok G (some (dig 4294967296 a)) (some (dig 4294967296 b)) (by omega) h
 have k4:=fun h=>exact_sub_ok G (some (dig 4294967296 b)) (some (dig 4294967296 a)) (by omega) h
 simp only [dO_some,val_dig] at k1 k2 k3 k4
 simp only [nK_nC,N32] at m1 m2 m3 k1 k2 k3 k4
 have mk1:=fun neg n (h:nl n≤20000000001)=>rat_made' G neg n Q hQ (by omega) (by omega)
 have hsum:nl (a+b)≤20000000001:=by have:=nl_add a b;omega
 have hs1:nl (a - b)≤20000000001:=by have:=nl_mono (Nat.sub_le a b);omega
 have hs2:nl (b - a)≤20000000001:=by have:=nl_mono (Nat.sub_le b a);omega
 refine CallsP.enc Go.Proofs.Tryz.func10 rfl (fun lv=>nC_dArg lv _ _ _) fun _=>AW.q ?_
 refine AW.seqK fun K hK=>?_
 refine AW.drawP mixed (by kernel_rfl) rfl ?_
 simp
 refine CallDo.p 3 9 (num_bottom_ok _ neg' p' q') ?_
 simp
 refine CallDo.p 3 9 m1 ?_
 simp
 refine CallDo.p 3 9 (num_bottom_ok _ neg p q) ?_
 simp
 refine CallDo.p 3 9 m2 ?_
 simp
 refine CallDo.p 3 9 (num_bottom_ok _ neg p q) ?_
 simp
 refine CallDo.p 3 9 (num_bottom_ok _ neg' p' q') ?_
 simp
 refine CallDo.p 3 9 m3 ?_
 simp
 refine⟨by kernel_rfl,?_⟩
 apply hK
 refine AW.seqK fun K hK=>AW.block (AW.f1 @eqBool ?_)
 by_cases hn:neg=neg'
 ·subst hn
  have e:addR neg a neg b Q=mkRat (sgI neg (a+b)) Q:=by unfold addR;rw [if_pos rfl]
  rw [e]
  refine AW.cy (AW.seqK fun K1 hK1=>?_)
  refine AW.drawP mixed (by kernel_rfl) rfl ?_
  simp
  refine CallDo.p 3 9 k1 ?_
  simp
  refine CallDo.p 3 9 (mk1 neg _ hsum) ?_
  simp
  refine⟨by kernel_rfl,?_⟩
  apply hK1
  refine AW.ret ?_
  rfl
 have hn':(neg == neg')=false:=by cases neg <;> cases neg' <;> simp_all
 refine AW.fn (by simp_all) (AW.c0 3 k2 ?_)
 by_cases hab:a<b
 ·have e:addR neg a neg' b Q=mkRat (sgI neg' (b - a)) Q:=by unfold addR;rw [if_neg hn,if_pos hab]
  rw [e]
  have hc:=cmpN_neg.2 hab
  refine AW.fy (by simp_all) (AW.seqK fun K1 hK1=>?_)
  refine AW.drawP mixed (by kernel_rfl) rfl ?_
  simp
  refine CallDo.p 3 9 (k4 (by omega)) ?_
  simp
  refine CallDo.p 3 9 (mk1 neg' _ hs2) ?_
  simp
  refine⟨by kernel_rfl,?_⟩
  apply hK1
  refine AW.ret ?_
  rfl
 ·have e:addR neg a neg' b Q=mkRat (sgI neg (a - b)) Q:=by unfold addR;rw [if_neg hn,if_neg hab]
  have hc:¬ cmpN a b<0:=fun h=>hab (cmpN_neg.1 h)
  refine AW.fn (by simp_all) (AW.skip (hK _ _ (AW.seqK fun K hK=>?_)))
  refine AW.drawP mixed (by kernel_rfl) rfl ?_
  simp
  refine CallDo.p 3 9 (k3 (by omega)) ?_
  simp
  refine CallDo.p 3 9 (mk1 neg _ hs1) ?_
  simp
  refine⟨by kernel_rfl,?_⟩
  apply hK
  refine AW.ret ?_
  refine FinC.cell (κ:=0) (T:=27) (t:=4) (k:=2) (off:=0) (own:=true) (fz:=false) (U:=27) (cs:=[.d (.bool (decide ((mkRat (sgI neg (a - b)) Q).num<0))),nC (natO (mkRat (sgI neg (a - b)) Q).num.natAbs),nC (denO (mkRat (sgI neg (a - b)) Q).den)]) rfl ?_ ?_ ?_
  ·simp
  ·rfl
  simp_all
theorem natO_len (n:Nat):(dO (natO n)).length=nl n:=by rw [natO_d];rfl
theorem denO_len (n:Nat):(dO (denO n)).length≤nl n:=by
 unfold denO;split
 ·simp
 ·exact Nat.le_refl _
theorem rat_Add (G:List (List DV))(x y:Rat)(hx:szR x 10000000000)(hy:szR y 10000000000):CallsP Tryz.prog G 10 [ratV x,ratV y] (ratV (x+y)):=by
 have h:=num_Add_ok G (decide (x.num<0)) (decide (y.num<0)) (natO x.num.natAbs) (denO x.den) (natO y.num.natAbs) (denO y.den)
  (by rw [natO_len];exact hx.1) (Nat.le_trans (denO_len _) hx.2) (by rw [natO_len];exact hy.1) (Nat.le_trans (denO_len _) hy.2) (natO_can _) (denO_can _) (natO_can _) (denO_can _) (by rw [denO_v];exact x.den_nz) (by rw [denO_v];exact y.den_nz)
 simp only [natO_v,denO_v] at h
 have e:addR (decide (x.num<0)) (x.num.natAbs*y.den) (decide (y.num<0)) (y.num.natAbs*x.den) (x.den*y.den)=x+y:=by
  rw [add_mk];unfold addR
  split
  ·rename_i hh;rw [hh,sgI_add]
  ·split
   ·rename_i hh hl;rw [sgI_lt hh hl]
   ·rename_i hh hl;rw [sgI_ge hh hl]
 grind
theorem rat_Sub (G:List (List DV))(x y:Rat)(hx:szR x 10000000000)(hy:szR y 10000000000):CallsP Tryz.prog G 149 [ratV x,ratV y] (ratV (x - y)):=by
 have h1:=rat_Neg G y
 have h2:=rat_Add G x (-y) hx (szR_neg hy)
 rw [← Rat.sub_eq_add_neg] at h2
 refine CallsP.enc Go.Proofs.Tryz.func149 rfl (fun lv=>nC_dArg lv _ _ _) fun _=>AW.q ?_
 refine AW.seqK fun K hK=>?_
 refine AW.drawP mixed (by kernel_rfl) rfl ?_
 simp
 refine CallDo.p 3 9 h1 ?_
 simp
 refine CallDo.p 3 9 h2 ?_
 simp
 refine⟨by kernel_rfl,?_⟩
 apply hK
 refine AW.ret ?_
 rfl
theorem rat_shifted (G:List (List DV))(x:Rat)(k:Int)(hx:szR x 10000000000)(h1:-1000000≤k)(h2:k≤1000000):CallsP Tryz.prog G 42 [ratV x,.c (.d (.int .i64 k))] (ratV (shiftR x k)):=by
 have hbot:=num_bottom_ok G (decide (x.num<0)) (natO x.num.natAbs) (denO x.den)
 rw [denO_b] at hbot
 have hw:IntKind.i64.wrap (-k) = -k:=w64 (by omega) (by omega)
 by_cases hk:k<0
 ·have e:=shiftR_neg (x:=x) hk
  have ht:((-k).toNat:Int) = -k:=by omega
  have hs:=exact_shl_ok G (some (dig 4294967296 x.den)) (-k).toNat (by have:=hx.2;show nl _≤_;omega) (by omega)
  simp only [dO_some,dig_ne x.den_nz,if_false,val_dig,nK_nC,ht] at hs
  have hm:=rat_made G (decide (x.num<0)) (natO x.num.natAbs) (some (dig 4294967296 (x.den*2 ^ (-k).toNat))) (natO_can _) (can_dig _) (dig_ne (den_pow_ne _ _)) (by rw [natO_len];have:=hx.1;omega) (by
   have h3:=nl_mul x.den (2 ^ (-k).toNat)
   have h4:=nl_two (-k).toNat
   have:=hx.2
   show nl _<_
   omega)
  rw [natO_v,dO_some,val_dig,← e] at hm
  generalize shiftR x k=r at *
  refine CallsP.enc Go.Proofs.Tryz.func42 rfl (fun lv=>nC_dArg lv _ _ _) fun _=>AW.q ?_
  refine AW.seqK fun K hK=>AW.f1 hk ?_
  refine AW.fy (by rfl) (AW.seqK fun K1 hK1=>?_)
  refine AW.drawP mixed (by kernel_rfl) rfl ?_
  simp
  refine CallDo.p 2 9 hbot ?_
  simp [hw]
  refine CallDo.p 2 9 hs ?_
  simp
  refine CallDo.p 2 9 hm ?_
  simp
  refine⟨by kernel_rfl,?_⟩
  apply hK1
  refine AW.ret ?_
  rfl
 ·have e:=shiftR_pos (x:=x) hk
  have ht:(k.toNat:Int)=k:=by omega
  have hs:=exact_shl_ok G (natO x.num.natAbs) k.toNat (by rw [natO_len];have:=hx.1;omega) (by omega)
  have hs':CallsP Tryz.prog G 83 [.c (nC (natO x.num.natAbs)),.c (.d (.int .i64 k))] (.c (nC (natO (x.num.natAbs*2 ^ k.toNat)))):=by
   simp only [natO_v] at hs
   simp only [natO_d,ht,nK_nC] at hs
   by_cases h0:x.num.natAbs=0
   ·have:(dig 4294967296 x.num.natAbs)=[]:=by rw [h0];rfl
    rw [if_pos this] at hs
    rw [h0,Nat.zero_mul]
    rw [h0] at hs
    exact hs
   ·rw [if_neg (dig_ne h0)] at hs
    unfold natO at hs ⊢
    rw [if_neg h0] at hs
    rw [if_neg h0,if_neg (Nat.ne_of_gt (Nat.mul_pos (Nat.pos_of_ne_zero h0) (Nat.pow_pos (by decide))))]
    exact hs
  have hm:=rat_made G (decide (x.num<0)) (natO (x.num.natAbs*2 ^ k.toNat)) (some (dig 4294967296 x.den)) (natO_can _) (can_dig _) (dig_ne x.den_nz) (by
   rw [natO_len]
   have h3:=nl_mul x.num.natAbs (2 ^ k.toNat)
   have h4:=nl_two k.toNat
   have:=hx.1
   omega) (by have:=hx.2;show nl _<_;omega)
  rw [natO_v,dO_some,val_dig,← e] at hm
  generalize shiftR x k=r at *
  refine CallsP.enc Go.Proofs.Tryz.func42 rfl (fun lv=>nC_dArg lv _ _ _) fun _=>AW.q ?_
  refine AW.seqK fun K hK=>AW.f1 hk ?_
  refine AW.fn (by rfl) (AW.skip (hK _ _ (AW.seqK fun K hK=>?_)))
  refine AW.drawP mixed (by kernel_rfl) rfl ?_
  simp
  refine CallDo.p 2 9 hs' ?_
  simp
  refine CallDo.p 2 9 hbot ?_
  simp
  refine CallDo.p 2 9 hm ?_
  simp
  refine⟨by kernel_rfl,?_⟩
  apply hK
  refine AW.ret ?_
  rfl
theorem dRes_num (lv:Key→LB)(b:Bool)(p q:Option (List Nat))(n:Int):dRes lv (.tup [nmA b p q,.c (.d (.int .i64 n))])=some (.tup [nmA b p q,.c (.d (.int .i64 n))],[]):=by
 cases p <;> cases q <;> rfl
@[simp] theorem tup_num_pure (b:Bool)(p q:Option (List Nat))(n:Int):(AV.tup [.agg [.d (.bool b),nC p,nC q],.c (.d (.int .i64 n))]).pure=true:=by
 cases p <;> cases q <;> rfl
theorem rat_Shift (G:List (List DV))(x:Rat)(k:Int)(hx:szR x 10000000000)(h1:-20000≤k)(h2:k≤20000):CallsP Tryz.prog G 12 [ratV x,.c (.d (.int .i64 k))] (.tup [ratV (shiftR x k),.c (.d (.int .i64 0))]):=by
 have h:=rat_shifted G x k hx (by omega) (by omega)
 generalize shiftR x k=r at *
 have i1:¬ k < -20000:=by omega
 have i2:¬ 20000<k:=by omega
 refine CallsP.enc Go.Proofs.Tryz.func12 rfl (fun lv=>dRes_num lv _ _ _ _) fun _=>AW.q ?_
 refine AW.seqK fun K hK=>AW.f2 i1 i2 ?_
 refine AW.cn (AW.skip (hK _ _ (AW.c0 2 h ?_)))
 refine AW.ret ?_
 rfl
def logR (x:Rat):Int:=
 let k:=(blen x.num.natAbs:Int) - blen x.den
 if x.num.natAbs*2 ^ (max (-k) 0).toNat<x.den*2 ^ (max k 0).toNat then k - 1 else k
theorem logR_rng {x:Rat}(hx:x≠0) {L:Nat}(h:szR x L):-(32*(L:Int))≤logR x∧logR x≤32*L:=by
 have h0:x.num.natAbs≠0:=by intro e;exact hx (Rat.num_eq_zero.1 (by omega))
 have h1:=blen_nl h0
 have h2:=blen_nl x.den_nz
 have h3:1≤blen x.num.natAbs:=by unfold blen;rw [if_neg h0];omega
 have h4:1≤blen x.den:=by unfold blen;rw [if_neg x.den_nz];omega
 have:=h.1
 have:=h.2
 unfold logR
 grind
theorem rat_log (G:List (List DV))(x:Rat)(hx:x≠0)(hs:szR x 10000000):CallsP Tryz.prog G 228 [ratV x] (.c (.d (.int .i64 (logR x)))):=by
 have h0:x.num.natAbs≠0:=by intro e;exact hx (Rat.num_eq_zero.1 (by omega))
 have hbot:=num_bottom_ok G (decide (x.num<0)) (natO x.num.natAbs) (denO x.den)
 rw [denO_b] at hbot
 have l1:=hs.1
 have l2:=hs.2
 have b1:=blen_nl h0
 have b2:=blen_nl x.den_nz
 have p1:=exact_bits_ok G (natO x.num.natAbs) (natO_can _) (by rw [natO_len];omega)
 have p2:=exact_bits_ok G (some (dig 4294967296 x.den)) (can_dig _) (by show nl _≤_;omega)
 rw [natO_v] at p1
 rw [dO_some,val_dig] at p2
 have ek:∃ k:Int,(blen x.num.natAbs:Int) - blen x.den=k∧-320000000≤k∧k≤320000000:=⟨_,rfl,by omega,by omega⟩
 obtain⟨k,hk,k1,k2⟩:=ek
 have ew:IntKind.i64.wrap ((blen x.num.natAbs:Int) - blen x.den)=k:=by rw [hk];exact w64 (by omega) (by omega)
 have ew2:IntKind.i64.wrap (-k) = -k:=w64 (by omega) (by omega)
 have mx1:(List.foldl (fun a b:Int=>if a<b then b else a) (-k) [0])=((max (-k) 0).toNat:Int):=by simp only [List.foldl];split <;> omega
 have mx2:(List.foldl (fun a b:Int=>if a<b then b else a) k [0])=((max k 0).toNat:Int):=by simp only [List.foldl];split <;> omega
 have hlog:logR x=if x.num.natAbs*2 ^ (max (-k) 0).toNat<x.den*2 ^ (max k 0).toNat then k - 1 else k:=by unfold logR;simp only [hk]
 have s1:=exact_shl_ok G (natO x.num.natAbs) (max (-k) 0).toNat (by rw [natO_len];omega) (by omega)
 have s2:=exact_shl_ok G (some (dig 4294967296 x.den)) (max k 0).toNat (by show nl _≤_;omega) (by omega)
 rw [natO_d,if_neg (dig_ne h0),val_dig] at s1
 rw [dO_some,if_neg (dig_ne x.den_nz),val_dig] at s2
 have cm:=exact_cmp_ok (G:=G) (a:=some (dig 4294967296 (x.num.natAbs*2 ^ (max (-k) 0).toNat))) (b:=some (dig 4294967296 (x.den*2 ^ (max k 0).toNat))) (can_dig _) (can_dig _)
 simp only [dO_some,val_dig] at cm
 generalize x.num.natAbs*2 ^ (max (-k) 0).toNat=a at *
 generalize x.den*2 ^ (max k 0).toNat=b at *
 generalize (max (-k) 0).toNat=u at *
 generalize (max k 0).toNat=v at *
 simp only [nK_nC] at p1 p2 s1 s2 cm
 have ew3:IntKind.i64.wrap (k - 1)=k - 1:=w64 (by omega) (by omega)
 refine CallsP.en Go.Proofs.Tryz.func228 rfl fun _=>AW.q ?_
 refine AW.c0 1 hbot ?_
 refine AW.sr fun K hK=>?_
 simp
 refine CallDo.p 1 9 p1 ?_
 simp
 refine CallDo.p 1 9 p2 ?_
 simp [ew]
 apply hK
 refine AW.seqK fun K hK=>AW.sr fun K1 hK1=>?_
 simp [ew2,intsOf,mx1,-List.foldl_cons,-List.foldl_nil]
 refine CallDo.p 1 9 s1 ?_
 simp [intsOf,mx2,-List.foldl_cons,-List.foldl_nil]
 refine CallDo.p 1 9 s2 ?_
 simp [-List.foldl_cons,-List.foldl_nil]
 refine CallDo.p 1 9 cm ?_
 simp
 apply hK1
 by_cases hab:a<b
 ·have hc:=cmpN_neg.2 hab
  rw [if_pos hab] at hlog
  refine AW.fy (by simp_all) (AW.l1 ew3 (hK _ _ ?_))
  refine AW.q ?_
  exact AW.r0 (FinP.rt rfl 2 (by simp [hlog]))
 ·have hc:¬ cmpN a b<0:=fun h=>hab (cmpN_neg.1 h)
  rw [if_neg hab] at hlog
  refine AW.fn (by simp_all) (AW.skip (hK _ _ (AW.q ?_)))
  exact AW.r0 (FinP.rt rfl 2 (by simp [hlog]))
theorem sgA_ne {x:Rat}(hx:x≠0):sgA (decide (x.num<0)) (natO x.num.natAbs)≠0:=by
 have h0:x.num.natAbs≠0:=by intro e;exact hx (Rat.num_eq_zero.1 (by omega))
 unfold sgA;rw [natO_d,if_neg (dig_ne h0)];omega
theorem sgA_zero {x:Rat}(hx:x=0):sgA (decide (x.num<0)) (natO x.num.natAbs)=0:=by subst hx;rfl
theorem rat_lt {x y:Rat}:x<y↔sgI (decide (x.num<0)) (x.num.natAbs*y.den)<sgI (decide (y.num<0)) (y.num.natAbs*x.den):=by
 rw [Rat.lt_iff,← sgI_mul,← sgI_mul,rat_sg,rat_sg]
theorem cmA_rat (x y:Rat):cmA (decide (x.num<0)) (natO x.num.natAbs) (denO x.den) (decide (y.num<0)) (natO y.num.natAbs) (denO y.den)=cmpR x y:=by
 unfold cmpR
 simp only [rat_lt]
 unfold cmA
 simp only [natO_v,denO_v]
 have hx:0<x.den:=x.den_pos
 have hy:0<y.den:=y.den_pos
 have sx:sgA (decide (x.num<0)) (natO x.num.natAbs)=if x.num.natAbs=0 then 0 else if x.num<0 then -1 else 1:=by
  unfold sgA;rw [natO_d];simp only [dig_nil (by decide:2≤4294967296),decide_eq_true_eq]
 have sy:sgA (decide (y.num<0)) (natO y.num.natAbs)=if y.num.natAbs=0 then 0 else if y.num<0 then -1 else 1:=by
  unfold sgA;rw [natO_d];simp only [dig_nil (by decide:2≤4294967296),decide_eq_true_eq]
 rw [sx,sy]
 have ha:x.num.natAbs*y.den=0↔x.num.natAbs=0:=by rw [Nat.mul_eq_zero];omega
 have hb:y.num.natAbs*x.den=0↔y.num.natAbs=0:=by rw [Nat.mul_eq_zero];omega
 generalize x.num.natAbs*y.den=a at *
 generalize y.num.natAbs*x.den=b at *
 unfold sgI cmpN
 grind
theorem rat_Cmp (G:List (List DV))(x y:Rat)(hx:szR x 10000000000)(hy:szR y 10000000000):CallsP Tryz.prog G 27 [ratV x,ratV y] (.c (.d (.int .i64 (cmpR x y)))):=by
 have h:=num_Cmp_ok G (decide (x.num<0)) (decide (y.num<0)) (natO x.num.natAbs) (denO x.den) (natO y.num.natAbs) (denO y.den)
  (by rw [natO_len];have:=hx.1;omega) (Nat.le_trans (denO_len _) (by have:=hx.2;omega)) (by rw [natO_len];have:=hy.1;omega) (Nat.le_trans (denO_len _) (by have:=hy.2;omega))
 rw [cmA_rat] at h
 exact h
theorem sgI_xor (a b:Bool)(m n:Nat):sgI (a != b) (m*n)=sgI a m*sgI b n:=by
 unfold sgI;cases a <;> cases b <;> simp [Int.neg_mul,Int.mul_neg]
theorem mul_mk (x y:Rat):x*y=mkRat (sgI (decide (x.num<0) != decide (y.num<0)) (x.num.natAbs*y.num.natAbs)) (x.den*y.den):=by
 rw [Rat.mul_def',sgI_xor,rat_sg,rat_sg]
theorem num_ne {x:Rat}(h:x≠0):x.num.natAbs≠0:=by intro e;exact h (Rat.num_eq_zero.1 (by omega))
theorem div_mk {x y:Rat}(hy:y≠0):x / y=mkRat (sgI (decide (x.num<0) != decide (y.num<0)) (x.num.natAbs*y.den)) (x.den*y.num.natAbs):=by
 have hn:=num_ne hy
 have e:mkRat (sgI (decide (x.num<0) != decide (y.num<0)) (x.num.natAbs*y.den)) (x.den*y.num.natAbs)*y=x:=by
  conv=>lhs;rhs;rw [← Rat.mkRat_self y]
  conv=>rhs;rw [← Rat.mkRat_self x]
  rw [Rat.mkRat_mul_mkRat,Rat.mkRat_eq_iff (Nat.ne_of_gt (Nat.mul_pos (Nat.mul_pos x.den_pos (Nat.pos_of_ne_zero hn)) y.den_pos)) x.den_nz,sgI_xor,rat_sg]
  have h1:sgI (decide (y.num<0)) y.den*y.num=(y.den:Int)*y.num.natAbs:=by
   unfold sgI
   by_cases h:y.num<0
   ·rw [decide_eq_true h,if_pos rfl,show (y.num.natAbs:Int) = -y.num by omega,Int.neg_mul,Int.mul_neg]
   ·rw [decide_eq_false h,if_neg (by decide),show (y.num.natAbs:Int)=y.num by omega]
  rw [Int.mul_assoc x.num,h1,Int.natCast_mul,Int.natCast_mul,Int.mul_assoc,Int.mul_comm _ (x.den:Int),Int.mul_comm (y.den:Int),Int.mul_assoc (x.den:Int)]
 rw [← Rat.mul_div_cancel (a:=mkRat _ _) hy,e]
theorem szR_mul {x y:Rat}{L:Nat}(hx:szR x L) (hy:szR y L):szR (x*y) (2*L):=by
 have e1:=nl_mul x.num.natAbs y.num.natAbs
 have e2:=nl_mul x.den y.den
 obtain⟨a1,a2⟩:=hx
 obtain⟨b1,b2⟩:=hy
 rw [mul_mk]
 exact szR_mk _ (Nat.ne_of_gt (Nat.mul_pos x.den_pos y.den_pos)) (by omega) (by omega)
theorem szR_min {x y:Rat}{L:Nat}(hx:szR x L) (hy:szR y L):szR (minR x y) L:=by unfold minR;split <;> assumption
theorem szR_max {x y:Rat}{L:Nat}(hx:szR x L) (hy:szR y L):szR (maxR x y) L:=by unfold maxR;split <;> assumption
def wholeR (x:Rat)(away:Bool):Rat:=((sgI (decide (x.num<0)) (x.num.natAbs / x.den+if away=true∧x.num.natAbs % x.den≠0 then 1 else 0):Int):Rat)
theorem szR_whole {x:Rat}{L:Nat}(h:szR x L) (away:Bool):szR (wholeR x away) (L+1):=by
 unfold wholeR
 refine szR_int _ _ ?_ (by omega)
 rw [sgI_abs]
 have h1:=h.1
 refine Nat.le_trans (nl_mono (n:=x.num.natAbs+1) ?_) ?_
 ·have:=Nat.div_le_self x.num.natAbs x.den
  split <;> omega
 ·have:=nl_add x.num.natAbs 1
  have h2:=nl_one
  have h3:1≤L:=Nat.le_trans (nl_pos x.den_nz) h.2
  omega
theorem shift_pow (x:Rat)(k:Int):shiftR x k=x*2 ^ k:=by
 unfold shiftR
 split
 ·rename_i h
  have e:k = -((-k).toNat:Int):=by omega
  conv=>rhs;rw [e,← Rat.mkRat_self x,Rat.zpow_neg,Rat.zpow_natCast]
  have h1:((2:Rat) ^ (-k).toNat)⁻¹=mkRat 1 (2 ^ (-k).toNat):=by
   rw [Rat.mkRat_eq_div,Rat.div_def,Rat.natCast_pow]
   show _=(1:Rat)*_
   rw [Rat.one_mul];rfl
  rw [h1,Rat.mkRat_mul_mkRat,Int.mul_one]
 ·rename_i h
  have e:k=(k.toNat:Int):=by omega
  conv=>rhs;rw [e,← Rat.mkRat_self x,Rat.zpow_natCast]
  have h1:(2:Rat) ^ k.toNat=mkRat (2 ^ k.toNat) 1:=by
   rw [Rat.mkRat_one,Rat.intCast_pow];rfl
  rw [h1,Rat.mkRat_mul_mkRat,Nat.mul_one]
def rngI (bits:Int):Int:=min (max bits 1) 4000
def gridR (x:Rat)(bits:Int)(away:Bool):Rat:=if x=0 then x else shiftR (wholeR (shiftR x (-(logR x - rngI bits+1))) away) (logR x - rngI bits+1)
def downR (x:Rat)(bits:Int):Rat:=gridR x bits (decide (x.num<0))
def upR (x:Rat)(bits:Int):Rat:=gridR x bits (!decide (x.num<0))
theorem FinC.num {c:Ctx}{fn:Func}{t k:Nat}{s:LSt}{κ:Nat}{r:Rat}(hr:c.P=Tryz.prog∧fn.results=#[.cell t 27]) (ht:s.fr t=.c (.ptr k 0))
 (hk:s.lv k=.cells true false 27 [.d (.bool (decide (r.num<0))),nC (natO r.num.natAbs),nC (denO r.den)]):FinC c fn (ratV r) .ret s κ:=
 FinC.cell hr.2 ht hk (by rw [hr.1,List.drop_zero,loadNum])
theorem FinC.num2 {c:Ctx}{fn:Func}{t k u:Nat}{s:LSt}{κ:Nat}{r:Rat}{y:CV}(hr:c.P=Tryz.prog∧fn.results=#[.cell t 27,.tmp u]) (ht:s.fr t=.c (.ptr k 0))
 (hk:s.lv k=.cells true false 27 [.d (.bool (decide (r.num<0))),nC (natO r.num.natAbs),nC (denO r.den)]) (hy:s.fr u=.c y):FinC c fn (.tup [ratV r,.c y]) .ret s κ:=
 FinC.cell2 hr.2 ht hk (by rw [hr.1,List.drop_zero,loadNum]) hy rfl rfl
theorem neqBool (a b:Bool):stepBin Tryz.prog .neq 4 (.c (.d (.bool a))) (.c (.d (.bool b)))=some (.c (.d (.bool (a != b))),[],[],True):=by
 cases a <;> cases b <;> kernel_rfl
theorem rat_Mul (G:List (List DV))(x y:Rat)(hx:szR x 10000000000)(hy:szR y 10000000000):CallsP Tryz.prog G 50 [ratV x,ratV y] (ratV (x*y)):=by
 have hbx:=num_bottom_ok G (decide (x.num<0)) (natO x.num.natAbs) (denO x.den)
 have hby:=num_bottom_ok G (decide (y.num<0)) (natO y.num.natAbs) (denO y.den)
 have m1:=exact_mul_ok G (natO x.num.natAbs) (natO y.num.natAbs) (by rw [natO_len];have:=hx.1;omega) (by rw [natO_len];have:=hy.1;omega)
 have m2:=exact_mul_ok G (some (dig 4294967296 x.den)) (some (dig 4294967296 y.den)) (by show nl _≤_;have:=hx.2;omega) (by show nl _≤_;have:=hy.2;omega)
 rw [denO_b] at hbx hby
 simp only [natO_v,dO_some,val_dig,nK_nC] at m1 m2
 have e1:=nl_mul x.num.natAbs y.num.natAbs
 have e2:=nl_mul x.den y.den
 have mk:=rat_made' G (decide (x.num<0) != decide (y.num<0)) (x.num.natAbs*y.num.natAbs) (x.den*y.den) (Nat.ne_of_gt (Nat.mul_pos x.den_pos y.den_pos)) (by have:=hx.1;have:=hy.1;omega) (by have:=hx.2;have:=hy.2;omega)
 rw [← mul_mk] at mk
 generalize x*y=r at *
 refine CallsP.enc Go.Proofs.Tryz.func50 rfl (fun lv=>nC_dArg lv _ _ _) fun _=>AW.q ?_
 refine AW.seqK fun K hK=>?_
 refine AW.drawP mixed (by kernel_rfl) rfl ?_
 simp [neqBool]
 refine CallDo.p 3 9 m1 ?_
 simp [neqBool]
 refine CallDo.p 3 9 hbx ?_
 simp [neqBool]
 refine CallDo.p 3 9 hby ?_
 simp [neqBool]
 refine CallDo.p 3 9 m2 ?_
 simp [neqBool]
 refine CallDo.p 3 9 mk ?_
 simp
 refine⟨by kernel_rfl,?_⟩
 repeat refine and_o ?_
 apply hK
 exact AW.ret (FinC.num (κ:=0) (t:=4) (k:=2) ⟨rfl,rfl⟩ (by simp) (by simp [setSeg]))
theorem rat_Quo (G:List (List DV))(x y:Rat)(hx:szR x 10000000000)(hy:szR y 10000000000):CallsP Tryz.prog G 93 [ratV x,ratV y] (.tup [ratV (x / y),.c (.d (.int .i64 (if y=0 then 8 else 0)))]):=by
 have hg:=num_Sign_ok G (decide (y.num<0)) (natO y.num.natAbs) (denO y.den)
 by_cases h0:y=0
 ·have e:x / y=0:=by rw [h0,Rat.div_def,Rat.inv_zero,Rat.mul_zero]
  rw [sgA_zero h0] at hg
  rw [e,if_pos h0]
  have bz:buildA Tryz.prog 27 [] []=some (ratV 0,[],[],True):=bNum0
  generalize (0:Rat)=z at *
  refine CallsP.enc Go.Proofs.Tryz.func93 rfl (fun lv=>dRes_num lv _ _ _ _) fun _=>AW.q ?_
  refine AW.seqK fun K hK=>AW.seqK fun K1 hK1=>AW.rP ?_
  simp
  refine CallDo.p 3 9 hg ?_
  simp
  repeat refine and_o ?_
  apply hK1
  refine AW.cy (AW.seqK fun K1 hK1=>AW.rP ?_)
  simp [bz]
  repeat refine and_o ?_
  apply hK1
  exact AW.ret (FinC.num2 (κ:=0) (t:=4) (k:=2) (u:=5) ⟨rfl,rfl⟩ (by simp) (by simp [setSeg]) (by simp))
 have hne:=sgA_ne h0
 have hbx:=num_bottom_ok G (decide (x.num<0)) (natO x.num.natAbs) (denO x.den)
 have hby:=num_bottom_ok G (decide (y.num<0)) (natO y.num.natAbs) (denO y.den)
 have m1:=exact_mul_ok G (natO x.num.natAbs) (some (dig 4294967296 y.den)) (by rw [natO_len];have:=hx.1;omega) (by show nl _≤_;have:=hy.2;omega)
 have m2:=exact_mul_ok G (some (dig 4294967296 x.den)) (natO y.num.natAbs) (by show nl _≤_;have:=hx.2;omega) (by rw [natO_len];have:=hy.1;omega)
 rw [denO_b] at hbx hby
 simp only [natO_v,dO_some,val_dig,nK_nC] at m1 m2
 have e1:=nl_mul x.num.natAbs y.den
 have e2:=nl_mul x.den y.num.natAbs
 have mk:=rat_made' G (decide (x.num<0) != decide (y.num<0)) (x.num.natAbs*y.den) (x.den*y.num.natAbs) (Nat.ne_of_gt (Nat.mul_pos x.den_pos (Nat.pos_of_ne_zero (num_ne h0)))) (by have:=hx.1;have:=hy.2;omega) (by have:=hx.2;have:=hy.1;omega)
 rw [← div_mk h0] at mk
 rw [if_neg h0]
 generalize x / y=r at *
 refine CallsP.enc Go.Proofs.Tryz.func93 rfl (fun lv=>dRes_num lv _ _ _ _) fun _=>AW.q ?_
 refine AW.seqK fun K hK=>AW.c1 3 hg hne ?_
 refine AW.fn (by simp [hne] <;> omega) (AW.skip (hK _ _ (AW.seqK fun K hK=>?_)))
 refine AW.drawP mixed (by kernel_rfl) rfl ?_
 simp [neqBool]
 refine CallDo.p 3 9 hby ?_
 simp [neqBool]
 refine CallDo.p 3 9 m1 ?_
 simp [neqBool]
 refine CallDo.p 3 9 hbx ?_
 simp [neqBool]
 refine CallDo.p 3 9 m2 ?_
 simp [neqBool]
 refine CallDo.p 3 9 mk ?_
 simp
 refine⟨by kernel_rfl,?_⟩
 repeat refine and_o ?_
 apply hK
 exact AW.ret (FinC.num2 (κ:=0) (t:=4) (k:=2) (u:=5) ⟨rfl,rfl⟩ (by simp) (by simp [setSeg]) (by simp))
theorem rat_Ab (G:List (List DV))(x:Rat):CallsP Tryz.prog G 162 [ratV x] (ratV (absQ x)):=by
 have h:=num_Abs_ok G (decide (x.num<0)) (natO x.num.natAbs) (denO x.den)
 have h1:x.num<0↔x<0:=by
  rw [← Rat.not_le,← Rat.num_nonneg];omega
 have e:nmA false (natO x.num.natAbs) (denO x.den)=ratV (absQ x):=by
  unfold absQ
  split
  ·rename_i hn
   have:=h1.2 hn
   show nmA _ _ _=nmA (decide ((-x).num<0)) (natO (-x).num.natAbs) (denO (-x).den)
   rw [Rat.neg_num,Int.natAbs_neg,Rat.neg_den,decide_eq_false (by omega)]
  ·rename_i hn
   have:¬ x.num<0:=fun h=>hn (h1.1 h)
   show nmA _ _ _=nmA (decide (x.num<0)) _ _
   rw [decide_eq_false this]
 rw [← e]
 exact h
theorem cmpR_neg {x y:Rat}:cmpR x y<0↔x<y:=by unfold cmpR;(repeat' split) <;> simp_all
theorem cmpR_pos {x y:Rat}:0<cmpR x y↔y<x:=by
 unfold cmpR
 split
 ·rename_i h;simp;exact fun h'=>by grind
 ·split <;> simp_all
theorem rat_Max (G:List (List DV))(x y:Rat)(hx:szR x 10000000000)(hy:szR y 10000000000):CallsP Tryz.prog G 24 [ratV x,ratV y] (ratV (maxR x y)):=by
 have hc:=rat_Cmp G x y hx hy
 by_cases h:x<y
 ·have h':=cmpR_neg.2 h
  unfold maxR;rw [if_pos h]
  generalize cmpR x y=n at *
  refine CallsP.enc Go.Proofs.Tryz.func24 rfl (fun lv=>nC_dArg lv _ _ _) fun _=>AW.q ?_
  refine AW.seqK fun K hK=>AW.c1 3 hc h' ?_
  refine AW.fy (by simp [h'] <;> omega) (AW.q ?_)
  exact AW.ret (FinC.num (κ:=0) (t:=4) (k:=2) ⟨rfl,rfl⟩ (by simp) (by simp [setSeg]))
 ·have h':¬ cmpR x y<0:=fun e=>h (cmpR_neg.1 e)
  unfold maxR;rw [if_neg h]
  generalize cmpR x y=n at *
  refine CallsP.enc Go.Proofs.Tryz.func24 rfl (fun lv=>nC_dArg lv _ _ _) fun _=>AW.q ?_
  refine AW.seqK fun K hK=>AW.c1 3 hc h' ?_
  refine AW.fn (by simp [h'] <;> omega) (AW.skip (hK _ _ (AW.q ?_)))
  exact AW.ret (FinC.num (κ:=0) (t:=4) (k:=2) ⟨rfl,rfl⟩ (by simp) (by simp [setSeg]))
theorem rat_Min (G:List (List DV))(x y:Rat)(hx:szR x 10000000000)(hy:szR y 10000000000):CallsP Tryz.prog G 25 [ratV x,ratV y] (ratV (minR x y)):=by
 have hc:=rat_Cmp G x y hx hy
 by_cases h:x<y
 ·have h':=cmpR_neg.2 h
  unfold minR;rw [if_pos h]
  generalize cmpR x y=n at *
  refine CallsP.enc Go.Proofs.Tryz.func25 rfl (fun lv=>nC_dArg lv _ _ _) fun _=>AW.q ?_
  refine AW.seqK fun K hK=>AW.c1 3 hc h' ?_
  refine AW.fy (by simp [h'] <;> omega) (AW.q ?_)
  exact AW.ret (FinC.num (κ:=0) (t:=4) (k:=2) ⟨rfl,rfl⟩ (by simp) (by simp [setSeg]))
 ·have h':¬ cmpR x y<0:=fun e=>h (cmpR_neg.1 e)
  unfold minR;rw [if_neg h]
  generalize cmpR x y=n at *
  refine CallsP.enc Go.Proofs.Tryz.func25 rfl (fun lv=>nC_dArg lv _ _ _) fun _=>AW.q ?_
  refine AW.seqK fun K hK=>AW.c1 3 hc h' ?_
  refine AW.fn (by simp [h'] <;> omega) (AW.skip (hK _ _ (AW.q ?_)))
  exact AW.ret (FinC.num (κ:=0) (t:=4) (k:=2) ⟨rfl,rfl⟩ (by simp) (by simp [setSeg]))
theorem whole_q (x:Rat):dO (divQ (natO x.num.natAbs) (some (dig 4294967296 x.den)))=(dig 4294967296 (x.num.natAbs / x.den)):=by rw [divQ_d,natO_v,dO_some,val_dig]
theorem rat_whole (G:List (List DV))(x:Rat)(away:Bool)(hx:szR x 10000000000):CallsP Tryz.prog G 230 [ratV x,.c (.d (.bool away))] (ratV (wholeR x away)):=by
 have hb:=num_bottom_ok G (decide (x.num<0)) (natO x.num.natAbs) (denO x.den)
 rw [denO_b] at hb
 have hd:=exact_div_ok G (natO x.num.natAbs) (some (dig 4294967296 x.den)) (natO_can _) (can_dig _) (dig_ne x.den_nz) (by rw [natO_len];have:=hx.1;omega)
 have hq:=whole_q x
 have hr:dO (divR (natO x.num.natAbs) (some (dig 4294967296 x.den)))=(dig 4294967296 (x.num.natAbs % x.den)):=by rw [divR_d (natO_can _),natO_v,dO_some,val_dig]
 have ho:=exact_of_ok G 1 (by decide)
 have hl:nl (x.num.natAbs / x.den)≤10000000000:=Nat.le_trans (nl_mono (Nat.div_le_self _ _)) hx.1
 generalize divQ (natO x.num.natAbs) (some (dig 4294967296 x.den))=q at *
 generalize divR (natO x.num.natAbs) (some (dig 4294967296 x.den))=r at *
 have hrl:0<(dO r).length↔x.num.natAbs % x.den≠0:=by
  rw [hr,List.length_pos_iff,Ne,dig_nil (by decide)]
 have hqc:can 4294967296 (dO q):=by rw [hq];exact can_dig _
 have hqv:(val 4294967296 (dO q))=x.num.natAbs / x.den:=by rw [hq,val_dig]
 have hadd:=exact_add_ok G q (some (dig 4294967296 1)) (by rw [hq];show nl _≤_;omega) (by show nl 1≤_;rw [nl_one];decide)
 rw [hqv,dO_some,val_dig] at hadd
 have m1:=rat_made G (decide (x.num<0)) q (some (dig 4294967296 1)) hqc (can_dig _) (dig_ne (by decide)) (by rw [hq];show nl _<_;omega) (by show nl 1<_;rw [nl_one];decide)
 have hl2:=nl_add (x.num.natAbs / x.den) 1
 rw [nl_one] at hl2
 have m2:=rat_made' G (decide (x.num<0)) (x.num.natAbs / x.den+1) 1 (by decide) (by omega) (by rw [nl_one];decide)
 rw [hqv,dO_some,val_dig,mkRat_int] at m1
 rw [mkRat_int] at m2
 simp only [nK_nC] at ho hadd hd
 have hdt:=tup2_pure q r
 simp only [nK_nC] at hdt
 by_cases ha:away=true∧x.num.natAbs % x.den≠0
 ·have e:wholeR x away=((sgI (decide (x.num<0)) (x.num.natAbs / x.den+1):Int):Rat):=by unfold wholeR;rw [if_pos ha]
  rw [e]
  obtain⟨rfl,ha2⟩:=ha
  have hr1:=hrl.2 ha2
  generalize ((sgI (decide (x.num<0)) (x.num.natAbs / x.den+1):Int):Rat)=w at *
  refine CallsP.enc Go.Proofs.Tryz.func230 rfl (fun lv=>nC_dArg lv _ _ _) fun _=>AW.q ?_
  refine AW.seqK fun K hK=>?_
  refine AW.drawP mixed (by kernel_rfl) rfl ?_
  simp
  refine CallDo.p 2 9 hb ?_
  simp
  refine CallDo.pure 2 9 hd hdt (by simp) (by simp) ?_
  simp
  refine⟨by kernel_rfl,?_⟩
  repeat refine and_o ?_
  apply hK
  refine AW.seqK fun K hK=>AW.f2 @lpC hr1 ?_
  refine AW.fy (by simp [hr1] <;> omega) (AW.rP ?_)
  simp
  refine CallDo.p 2 9 ho ?_
  simp
  refine CallDo.p 2 9 hadd ?_
  simp
  repeat refine and_o ?_
  apply hK
  refine AW.seqK fun K hK=>?_
  refine AW.drawP mixed (by kernel_rfl) rfl ?_
  simp
  refine CallDo.p 2 9 ho ?_
  simp
  refine CallDo.p 2 9 m2 ?_
  simp
  refine⟨by kernel_rfl,?_⟩
  repeat refine and_o ?_
  apply hK
  exact AW.ret (FinC.num (κ:=0) (t:=4) (k:=1) ⟨rfl,rfl⟩ (by simp) (by simp [setSeg]))
 ·have e:wholeR x away=((sgI (decide (x.num<0)) (x.num.natAbs / x.den):Int):Rat):=by unfold wholeR;rw [if_neg ha,Nat.add_zero]
  rw [e]
  have ha':¬ (away=true∧0<(dO r).length):=fun h=>ha ⟨h.1,hrl.1 h.2⟩
  generalize ((sgI (decide (x.num<0)) (x.num.natAbs / x.den):Int):Rat)=w at *
  refine CallsP.enc Go.Proofs.Tryz.func230 rfl (fun lv=>nC_dArg lv _ _ _) fun _=>AW.q ?_
  refine AW.seqK fun K hK=>?_
  refine AW.drawP mixed (by kernel_rfl) rfl ?_
  simp
  refine CallDo.p 2 9 hb ?_
  simp
  refine CallDo.pure 2 9 hd hdt (by simp) (by simp) ?_
  simp
  refine⟨by kernel_rfl,?_⟩
  repeat refine and_o ?_
  apply hK
  cases away with
  | false=>
   refine AW.seqK fun K hK=>AW.q ?_
   refine AW.cn (AW.skip (hK _ _ (AW.seqK fun K hK=>?_)))
   refine AW.drawP mixed (by kernel_rfl) rfl ?_
   simp
   refine CallDo.p 2 9 ho ?_
   simp
   refine CallDo.p 2 9 m1 ?_
   simp
   refine⟨by kernel_rfl,?_⟩
   repeat refine and_o ?_
   apply hK
   exact AW.ret (FinC.num (κ:=0) (t:=4) (k:=1) ⟨rfl,rfl⟩ (by simp) (by simp [setSeg]))
  | true=>
   have hr1:¬ 0<(dO r).length:=fun h=>ha' ⟨rfl,h⟩
   refine AW.seqK fun K hK=>AW.f2 @lpC hr1 ?_
   refine AW.fn (by simp [hr1] <;> omega) (AW.skip (hK _ _ (AW.seqK fun K hK=>?_)))
   refine AW.drawP mixed (by kernel_rfl) rfl ?_
   simp
   refine CallDo.p 2 9 ho ?_
   simp
   refine CallDo.p 2 9 m1 ?_
   simp
   refine⟨by kernel_rfl,?_⟩
   repeat refine and_o ?_
   apply hK
   exact AW.ret (FinC.num (κ:=0) (t:=4) (k:=1) ⟨rfl,rfl⟩ (by simp) (by simp [setSeg]))
theorem rngI_r (b:Int):1≤rngI b∧rngI b≤4000:=by unfold rngI;omega
theorem inRange_ok (G:List (List DV))(b:Int):CallsP Tryz.prog G 229 [.c (.d (.int .i64 b))] (.c (.d (.int .i64 (rngI b)))):=by
 have e1:(List.foldl (fun a b:Int=>if a<b then b else a) b [1])=max b 1:=by simp only [List.foldl];split <;> omega
 have e2:(List.foldl (fun a b:Int=>if b<a then b else a) (max b 1) [4000])=rngI b:=by unfold rngI;simp only [List.foldl];split <;> omega
 refine CallsP.en Go.Proofs.Tryz.func229 rfl fun _=>AW.q ?_
 refine AW.sr fun K hK=>?_
 simp [intsOf,e1,e2,-List.foldl_cons,-List.foldl_nil]
 repeat refine and_o ?_
 apply hK
 exact AW.r0 (FinP.rt rfl 2 (by simp))
theorem rat_grid (G:List (List DV))(x:Rat)(bits:Int)(away:Bool)(hx:szR x 10000):CallsP Tryz.prog G 206 [ratV x,.c (.d (.int .i64 bits)),.c (.d (.bool away))] (ratV (gridR x bits away)):=by
 have hg:=num_Sign_ok G (decide (x.num<0)) (natO x.num.natAbs) (denO x.den)
 by_cases h0:x=0
 ·have e:gridR x bits away=x:=if_pos h0
  rw [sgA_zero h0] at hg
  rw [e]
  refine CallsP.enc Go.Proofs.Tryz.func206 rfl (fun lv=>nC_dArg lv _ _ _) fun _=>AW.q ?_
  refine AW.seqK fun K hK=>AW.c0 2 hg ?_
  refine AW.cy (AW.q ?_)
  exact AW.ret (FinC.num (κ:=0) (t:=6) (k:=1) ⟨rfl,rfl⟩ (by simp) (by simp [setSeg]))
 have hne:=sgA_ne h0
 have hl:=rat_log G x h0 (szR_mono hx (by omega))
 have hlr:=logR_rng h0 hx
 have hi:=inRange_ok G bits
 obtain⟨b1,b2⟩:=rngI_r bits
 have e:gridR x bits away=shiftR (wholeR (shiftR x (-(logR x - rngI bits+1))) away) (logR x - rngI bits+1):=if_neg h0
 rw [e]
 generalize logR x=l at *
 generalize rngI bits=b at *
 have w1:IntKind.i64.wrap (l - b)=l - b:=w64 (by omega) (by omega)
 obtain⟨k,hk,k1,k2⟩:∃ k,l - b+1=k∧-325000≤k∧k≤325000:=⟨_,rfl,by omega,by omega⟩
 rw [hk]
 have w2:IntKind.i64.wrap k=k:=w64 (by omega) (by omega)
 have w3:IntKind.i64.wrap (-k) = -k:=w64 (by omega) (by omega)
 have z1:=szR_shift hx (-k)
 have z2:=szR_whole z1 away
 have s1:=rat_shifted G x (-k) (szR_mono hx (by omega)) (by omega) (by omega)
 have s2:=rat_whole G (shiftR x (-k)) away (szR_mono z1 (by omega))
 have s3:=rat_shifted G (wholeR (shiftR x (-k)) away) k (szR_mono z2 (by omega)) (by omega) (by omega)
 generalize shiftR (wholeR (shiftR x (-k)) away) k=r at *
 generalize wholeR (shiftR x (-k)) away=u at *
 generalize shiftR x (-k)=v at *
 refine CallsP.enc Go.Proofs.Tryz.func206 rfl (fun lv=>nC_dArg lv _ _ _) fun _=>AW.q ?_
 refine AW.seqK fun K hK=>AW.c1 2 hg hne ?_
 refine AW.fn (by simp [hne] <;> omega) (AW.skip (hK _ _ (AW.seqK fun K hK=>AW.rP ?_)))
 simp
 refine CallDo.p 2 9 hl ?_
 simp
 refine CallDo.p 2 9 hi ?_
 simp [w1,hk,w2]
 repeat refine and_o ?_
 apply hK
 refine AW.seqK fun K hK=>AW.rP ?_
 simp [w3]
 refine CallDo.p 2 9 s1 ?_
 simp [w3]
 refine CallDo.p 2 9 s2 ?_
 simp
 refine CallDo.p 2 9 s3 ?_
 simp
 repeat refine and_o ?_
 apply hK
 exact AW.ret (FinC.num (κ:=0) (t:=6) (k:=1) ⟨rfl,rfl⟩ (by simp) (by simp [setSeg]))
theorem rat_Down (G:List (List DV))(x:Rat)(bits:Int)(hx:szR x 10000):CallsP Tryz.prog G 163 [ratV x,.c (.d (.int .i64 bits))] (ratV (downR x bits)):=by
 have h:CallsP Tryz.prog G 206 [ratV x,.c (.d (.int .i64 bits)),.c (.d (.bool (decide (x.num<0))))] (ratV (downR x bits)):=rat_grid G x bits (decide (x.num<0)) hx
 generalize downR x bits=r at *
 refine CallsP.enc Go.Proofs.Tryz.func163 rfl (fun lv=>nC_dArg lv _ _ _) fun _=>AW.q ?_
 refine AW.c0 2 h ?_
 exact AW.ret (FinC.num (κ:=0) (t:=4) (k:=1) ⟨rfl,rfl⟩ (by simp) (by simp [setSeg]))
theorem rat_Up (G:List (List DV))(x:Rat)(bits:Int)(hx:szR x 10000):CallsP Tryz.prog G 164 [ratV x,.c (.d (.int .i64 bits))] (ratV (upR x bits)):=by
 have h:CallsP Tryz.prog G 206 [ratV x,.c (.d (.int .i64 bits)),.c (.d (.bool (!decide (x.num<0))))] (ratV (upR x bits)):=rat_grid G x bits (!decide (x.num<0)) hx
 generalize upR x bits=r at *
 refine CallsP.enc Go.Proofs.Tryz.func164 rfl (fun lv=>nC_dArg lv _ _ _) fun _=>AW.seqK fun K hK=>AW.rP ?_
 simp
 repeat refine and_o ?_
 apply hK
 refine AW.seqK fun K hK=>AW.rP ?_
 simp
 refine CallDo.p 2 9 h ?_
 simp
 repeat refine and_o ?_
 apply hK
 exact AW.ret (FinC.num (κ:=0) (t:=4) (k:=1) ⟨rfl,rfl⟩ (by simp) (by simp [setSeg]))
theorem nl_pow {a L:Nat}(h:nl a≤L) (n:Nat):nl (a ^ n)≤n*L+1:=by
 induction n with
 | zero=>rw [Nat.pow_zero,nl_one];omega
 | succ n ih=>
  rw [Nat.pow_succ]
  have:=nl_mul (a ^ n) a
  rw [Nat.succ_mul];omega
abbrev ivV (a:Iv):AV:=.agg [.d (.bool (decide (a.1.num<0))),nC (natO a.1.num.natAbs),nC (denO a.1.den),.d (.bool (decide (a.2.num<0))),nC (natO a.2.num.natAbs),nC (denO a.2.den)]
theorem bIv (b p q b' p' q':CV):buildA Tryz.prog 29 [0,1] [.agg [b,p,q],.agg [b',p',q']]=some (.agg [b,p,q,b',p',q'],[],[],True):=by kernel_rfl
theorem bIv0:buildA Tryz.prog 29 [] []=some (ivV (0,0),[],[],True):=by kernel_rfl
theorem loadIv (b p q b' p' q':CV):loadA Tryz.prog 29 [b,p,q,b',p',q']=some (.agg [b,p,q,b',p',q']):=by kernel_rfl
theorem nC_nD (o:Option (List Nat)):nC o=.d (nD o):=by cases o <;> rfl
@[simp] theorem nC_rn (g:Key→Key)(o:Option (List Nat)):(nC o).ren g=nC o:=by cases o <;> rfl
@[simp] theorem iv_dArg (lv:Key→LB)(b b':Bool)(p q p' q':Option (List Nat)):dRes lv (.agg [.d (.bool b),nC p,nC q,.d (.bool b'),nC p',nC q'])=some (.agg [.d (.bool b),nC p,nC q,.d (.bool b'),nC p',nC q'],[]):=by
 simp only [nC_nD];rfl
@[simp] theorem iv_dArg2 (lv:Key→LB)(b b':Bool)(p q p' q':Option (List Nat))(n:DV)(hn:n.isScal=true):dRes lv (.tup [.agg [.d (.bool b),nC p,nC q,.d (.bool b'),nC p',nC q'],.c (.d n)])=some (.tup [.agg [.d (.bool b),nC p,nC q,.d (.bool b'),nC p',nC q'],.c (.d n)],[]):=by
 simp only [nC_nD];rfl
@[simp] theorem iv_pure (b b':Bool)(p q p' q':Option (List Nat)):(AV.agg [.d (.bool b),nC p,nC q,.d (.bool b'),nC p',nC q']).pure=true:=by
 simp only [nC_nD];rfl
@[simp] theorem iv_pure2 (b b':Bool)(p q p' q':Option (List Nat))(n:DV):(AV.tup [.agg [.d (.bool b),nC p,nC q,.d (.bool b'),nC p',nC q'],.c (.d n)]).pure=true:=by
 simp only [nC_nD];rfl
theorem FinC.iv {c:Ctx}{fn:Func}{t k:Nat}{s:LSt}{κ:Nat}{a:Iv}(hr:c.P=Tryz.prog∧fn.results=#[.cell t 29]) (ht:s.fr t=.c (.ptr k 0))
 (hk:s.lv k=.cells true false 29 [.d (.bool (decide (a.1.num<0))),nC (natO a.1.num.natAbs),nC (denO a.1.den),.d (.bool (decide (a.2.num<0))),nC (natO a.2.num.natAbs),nC (denO a.2.den)]):FinC c fn (ivV a) .ret s κ:=
 FinC.cell hr.2 ht hk (by rw [hr.1,List.drop_zero,loadIv])
theorem FinC.iv2 {c:Ctx}{fn:Func}{t k u:Nat}{s:LSt}{κ:Nat}{a:Iv}{y:CV}(hr:c.P=Tryz.prog∧fn.results=#[.cell t 29,.tmp u]) (ht:s.fr t=.c (.ptr k 0))
 (hk:s.lv k=.cells true false 29 [.d (.bool (decide (a.1.num<0))),nC (natO a.1.num.natAbs),nC (denO a.1.den),.d (.bool (decide (a.2.num<0))),nC (natO a.2.num.natAbs),nC (denO a.2.den)]) (hy:s.fr u=.c y):FinC c fn (.tup [ivV a,.c y]) .ret s κ:=
 FinC.cell2 hr.2 ht hk (by rw [hr.1,List.drop_zero,loadIv]) hy rfl rfl
def Iv.sz (a:Iv)(L:Nat):Prop:=szR a.1 L∧szR a.2 L
theorem Iv.sz_mono {a:Iv}{L M:Nat}(h:a.sz L) (hm:L≤M):a.sz M:=⟨szR_mono h.1 hm,szR_mono h.2 hm⟩
theorem cmpR_le {x y:Rat}:cmpR x y≤0↔x≤y:=by
 rw [← Rat.not_lt,← cmpR_pos];omega
theorem cmpR_ge {x y:Rat}:0≤cmpR x y↔y≤x:=by
 rw [← Rat.not_lt,← cmpR_neg];omega
theorem iv_Lo (G:List (List DV))(a:Iv):CallsP Tryz.prog G 9 [ivV a] (ratV a.1):=by
 obtain⟨a1,a2⟩:=a
 refine CallsP.enc Go.Proofs.Tryz.func9 rfl (fun lv=>nC_dArg lv _ _ _) fun _=>AW.q ?_
 refine AW.q ?_
 exact AW.ret (FinC.num (κ:=0) (t:=2) (k:=1) ⟨rfl,rfl⟩ (by simp) (by simp [setSeg]))
theorem iv_Hi (G:List (List DV))(a:Iv):CallsP Tryz.prog G 11 [ivV a] (ratV a.2):=by
 obtain⟨a1,a2⟩:=a
 refine CallsP.enc Go.Proofs.Tryz.func11 rfl (fun lv=>nC_dArg lv _ _ _) fun _=>AW.q ?_
 refine AW.q ?_
 exact AW.ret (FinC.num (κ:=0) (t:=2) (k:=1) ⟨rfl,rfl⟩ (by simp) (by simp [setSeg]))
theorem iv_Has (G:List (List DV))(a:Iv)(x:Rat)(ha:a.sz 10000000000)(hx:szR x 10000000000):CallsP Tryz.prog G 26 [ivV a,ratV x] (.c (.d (.bool (decide (a.has x))))):=by
 obtain⟨a1,a2⟩:=a
 have c1:=rat_Cmp G a1 x ha.1 hx
 have c2:=rat_Cmp G a2 x ha.2 hx
 have e1:cmpR a1 x≤0↔a1≤x:=cmpR_le
 have e2:0≤cmpR a2 x↔x≤a2:=cmpR_ge
 by_cases g1:a1≤x
 ·have d1:=e1.2 g1
  by_cases g2:x≤a2
  ·have d2:=e2.2 g2
   rw [show decide (Iv.has (a1,a2) x)=true from decide_eq_true ⟨g1,g2⟩]
   generalize cmpR a1 x=n1 at *
   generalize cmpR a2 x=n2 at *
   refine CallsP.en Go.Proofs.Tryz.func26 rfl fun _=>AW.q ?_
   refine AW.sr fun K hK=>?_
   simp
   refine CallDo.p 2 9 c1 ?_
   simp [d1]
   refine CallDo.p 2 9 c2 ?_
   simp [d2]
   repeat refine and_o ?_
   apply hK
   exact AW.r0 (FinP.rt rfl 4 (by simp))
  ·have d2:¬ 0≤cmpR a2 x:=fun h=>g2 (e2.1 h)
   rw [show decide (Iv.has (a1,a2) x)=false from decide_eq_false fun h=>g2 h.2]
   generalize cmpR a1 x=n1 at *
   generalize cmpR a2 x=n2 at *
   refine CallsP.en Go.Proofs.Tryz.func26 rfl fun _=>AW.q ?_
   refine AW.sr fun K hK=>?_
   simp
   refine CallDo.p 2 9 c1 ?_
   simp [d1]
   refine CallDo.p 2 9 c2 ?_
   simp [d2]
   repeat refine and_o ?_
   apply hK
   exact AW.r0 (FinP.rt rfl 4 (by simp))
 ·have d1:¬ cmpR a1 x≤0:=fun h=>g1 (e1.1 h)
  rw [show decide (Iv.has (a1,a2) x)=false from decide_eq_false fun h=>g1 h.1]
  generalize cmpR a1 x=n1 at *
  refine CallsP.en Go.Proofs.Tryz.func26 rfl fun _=>AW.q ?_
  refine AW.c1 2 c1 d1 ?_
  exact AW.r0 (FinP.rt rfl 4 (by simp))
theorem iv_Add (G:List (List DV))(a b:Iv)(ha:a.sz 10000000000)(hb:b.sz 10000000000):CallsP Tryz.prog G 123 [ivV a,ivV b] (ivV (a.add b)):=by
 have c1:=rat_Add G a.1 b.1 ha.1 hb.1
 have c2:=rat_Add G a.2 b.2 ha.2 hb.2
 unfold Iv.add
 generalize a.1+b.1=r1 at *
 generalize a.2+b.2=r2 at *
 refine CallsP.enc Go.Proofs.Tryz.func123 rfl (fun lv=>iv_dArg lv _ _ _ _ _ _) fun _=>AW.q ?_
 refine AW.seqK fun K hK=>?_
 refine AW.drawP mixed (by kernel_rfl) rfl ?_
 simp
 refine CallDo.p 3 9 c1 ?_
 simp
 refine CallDo.p 3 9 c2 ?_
 simp [bIv]
 refine⟨by kernel_rfl,?_⟩
 repeat refine and_o ?_
 apply hK
 exact AW.ret (FinC.iv (κ:=0) (t:=4) (k:=2) ⟨rfl,rfl⟩ (by simp) (by simp [setSeg]))
theorem iv_Sub (G:List (List DV))(a b:Iv)(ha:a.sz 10000000000)(hb:b.sz 10000000000):CallsP Tryz.prog G 204 [ivV a,ivV b] (ivV (a.sub b)):=by
 have c1:=rat_Sub G a.1 b.2 ha.1 hb.2
 have c2:=rat_Sub G a.2 b.1 ha.2 hb.1
 unfold Iv.sub
 generalize a.1 - b.2=r1 at *
 generalize a.2 - b.1=r2 at *
 refine CallsP.enc Go.Proofs.Tryz.func204 rfl (fun lv=>iv_dArg lv _ _ _ _ _ _) fun _=>AW.q ?_
 refine AW.seqK fun K hK=>?_
 refine AW.drawP mixed (by kernel_rfl) rfl ?_
 simp
 refine CallDo.p 3 9 c1 ?_
 simp
 refine CallDo.p 3 9 c2 ?_
 simp [bIv]
 refine⟨by kernel_rfl,?_⟩
 repeat refine and_o ?_
 apply hK
 exact AW.ret (FinC.iv (κ:=0) (t:=4) (k:=2) ⟨rfl,rfl⟩ (by simp) (by simp [setSeg]))
theorem iv_Join (G:List (List DV))(a b:Iv)(ha:a.sz 10000000000)(hb:b.sz 10000000000):CallsP Tryz.prog G 276 [ivV a,ivV b] (ivV (a.join b)):=by
 have c1:=rat_Min G a.1 b.1 ha.1 hb.1
 have c2:=rat_Max G a.2 b.2 ha.2 hb.2
 unfold Iv.join
 generalize minR a.1 b.1=r1 at *
 generalize maxR a.2 b.2=r2 at *
 refine CallsP.enc Go.Proofs.Tryz.func276 rfl (fun lv=>iv_dArg lv _ _ _ _ _ _) fun _=>AW.q ?_
 refine AW.seqK fun K hK=>?_
 refine AW.drawP mixed (by kernel_rfl) rfl ?_
 simp
 refine CallDo.p 3 9 c1 ?_
 simp
 refine CallDo.p 3 9 c2 ?_
 simp [bIv]
 refine⟨by kernel_rfl,?_⟩
 repeat refine and_o ?_
 apply hK
 exact AW.ret (FinC.iv (κ:=0) (t:=4) (k:=2) ⟨rfl,rfl⟩ (by simp) (by simp [setSeg]))
theorem iv_Out (G:List (List DV))(a:Iv)(bits:Int)(ha:a.sz 10000):CallsP Tryz.prog G 125 [ivV a,.c (.d (.int .i64 bits))] (ivV (downR a.1 bits,upR a.2 bits)):=by
 have c1:=rat_Down G a.1 bits ha.1
 have c2:=rat_Up G a.2 bits ha.2
 generalize downR a.1 bits=r1 at *
 generalize upR a.2 bits=r2 at *
 refine CallsP.enc Go.Proofs.Tryz.func125 rfl (fun lv=>iv_dArg lv _ _ _ _ _ _) fun _=>AW.q ?_
 refine AW.seqK fun K hK=>?_
 refine AW.drawP mixed (by kernel_rfl) rfl ?_
 simp
 refine CallDo.p 2 9 c1 ?_
 simp
 refine CallDo.p 2 9 c2 ?_
 simp [bIv]
 refine⟨by kernel_rfl,?_⟩
 repeat refine and_o ?_
 apply hK
 exact AW.ret (FinC.iv (κ:=0) (t:=4) (k:=1) ⟨rfl,rfl⟩ (by simp) (by simp [setSeg]))
theorem iv_Neg (G:List (List DV))(a:Iv):CallsP Tryz.prog G 203 [ivV a] (ivV a.neg):=by
 have c1:=rat_Neg G a.2
 have c2:=rat_Neg G a.1
 unfold Iv.neg
 generalize -a.2=r1 at *
 generalize -a.1=r2 at *
 refine CallsP.enc Go.Proofs.Tryz.func203 rfl (fun lv=>iv_dArg lv _ _ _ _ _ _) fun _=>AW.q ?_
 refine AW.seqK fun K hK=>?_
 refine AW.drawP mixed (by kernel_rfl) rfl ?_
 simp
 refine CallDo.p 2 9 c1 ?_
 simp
 refine CallDo.p 2 9 c2 ?_
 simp [bIv]
 refine⟨by kernel_rfl,?_⟩
 repeat refine and_o ?_
 apply hK
 exact AW.ret (FinC.iv (κ:=0) (t:=2) (k:=1) ⟨rfl,rfl⟩ (by simp) (by simp [setSeg]))
def fromI (x y:Rat):Iv:=if x≤y then (x,y) else (0,0)
theorem iv_From (G:List (List DV))(x y:Rat)(hx:szR x 10000000000)(hy:szR y 10000000000):CallsP Tryz.prog G 35 [ratV x,ratV y] (.tup [ivV (fromI x y),.c (.d (.int .i64 (if x≤y then 0 else 7)))]):=by
 have c1:=rat_Cmp G x y hx hy
 by_cases h:x≤y
 ·have h':¬ 0<cmpR x y:=by have:=cmpR_le.2 h;omega
  rw [if_pos h,show fromI x y=(x,y) from if_pos h]
  generalize cmpR x y=n at *
  refine CallsP.enc Go.Proofs.Tryz.func35 rfl (fun lv=>iv_dArg2 lv _ _ _ _ _ _ _ rfl) fun _=>AW.q ?_
  refine AW.seqK fun K hK=>AW.c1 3 c1 h' ?_
  refine AW.fn (by simp [h'] <;> omega) (AW.skip (hK _ _ (AW.f1 @bIv ?_)))
  exact AW.ret (FinC.iv2 (κ:=0) (t:=4) (k:=2) (u:=5) ⟨rfl,rfl⟩ (by simp) (by simp [setSeg]) (by simp))
 ·have h':0<cmpR x y:=cmpR_pos.2 (Rat.not_le.1 h)
  rw [if_neg h,show fromI x y=(0,0) from if_neg h]
  generalize cmpR x y=n at *
  refine CallsP.enc Go.Proofs.Tryz.func35 rfl (fun lv=>iv_dArg2 lv _ _ _ _ _ _ _ rfl) fun _=>AW.q ?_
  refine AW.seqK fun K hK=>AW.c1 3 c1 h' ?_
  refine AW.fy (by simp [h'] <;> omega) (AW.f1 bIv0 ?_)
  exact AW.ret (FinC.iv2 (κ:=0) (t:=4) (k:=2) (u:=5) ⟨rfl,rfl⟩ (by simp) (by simp [setSeg]) (by simp))
theorem rat_quo (G:List (List DV))(x y:Rat)(hx:szR x 10000000000)(hy:szR y 10000000000):CallsP Tryz.prog G 103 [ratV x,ratV y] (ratV (x / y)):=by
 have c1:=rat_Quo G x y hx hy
 generalize x / y=r at *
 generalize (if y=0 then (8:Int) else 0)=n at *
 refine CallsP.enc Go.Proofs.Tryz.func103 rfl (fun lv=>nC_dArg lv _ _ _) fun _=>AW.q ?_
 refine AW.c0 3 c1 ?_
 refine AW.f1 @setSeg.eq_1 ?_
 exact AW.ret (FinC.num (κ:=0) (t:=4) (k:=2) ⟨rfl,rfl⟩ (by simp) (by simp [setSeg]))
def numD (x:Rat):List DV:=[.bool (decide (x.num<0)),nD (natO x.num.natAbs),nD (denO x.den)]
abbrev numsA (l:List Rat):AV:=.c (.d (.sl (l.map numD)))
abbrev cmpF:AV:=.c (.d (.func (.func 27) [] []))
theorem lpNums (l:List Rat)(lv:Key→LB):lenP Tryz.prog 48 lv (numsA l)=some (.c (.d (.int .i64 l.length)),[],[],True):=by
 simp [lenP,lenA,keyOf]
theorem ixNums (l:List Rat)(lv:Key→LB)(i:Nat)(x:Rat)(h:l[i]?=some x):stepIndexAddr Tryz.prog 48 lv (numsA l) (.c (.d (.int .i64 (i:Int))))=some (.c (.d (.ptr (numD x))),[],[],True):=by
 obtain⟨hi,e⟩:=List.getElem?_eq_some_iff.1 h
 have hi':(i:Int)<(l.length:Int):=by omega
 simp [hi,e,numD]
def minL (l:List Rat)(m:Rat):Rat:=l.foldl (fun m x=>minR x m) m
def maxL (l:List Rat)(m:Rat):Rat:=l.foldl (fun m x=>maxR m x) m
theorem minR_comm (x y:Rat):minR x y=minR y x:=by unfold minR;split <;> split <;> grind
theorem hull_minL (w x y z:Rat):(minL [x,y,z] w,maxL [x,y,z] w)=hull4 w x y z:=by
 simp only [minL,maxL,List.foldl,hull4,minR_comm z,minR_comm y,minR_comm x]
theorem minL_drop {l:List Rat}{i:Nat}{x m:Rat}(h:l[i]?=some x):minL (l.drop i) m=minL (l.drop (i+1)) (minR x m):=by
 obtain⟨hi,e⟩:=List.getElem?_eq_some_iff.1 h
 rw [List.drop_eq_getElem_cons hi,e];rfl
theorem maxL_drop {l:List Rat}{i:Nat}{x m:Rat}(h:l[i]?=some x):maxL (l.drop i) m=maxL (l.drop (i+1)) (maxR m x):=by
 obtain⟨hi,e⟩:=List.getElem?_eq_some_iff.1 h
 rw [List.drop_eq_getElem_cons hi,e];rfl
theorem minFunc_ok (G:List (List DV))(l:List Rat)(x0:Rat)(h0:l[0]?=some x0)(hn:l.length≤1000)(hs:∀ x∈l,szR x 10000000000) :
 CallsP Tryz.prog G 67 [numsA l,cmpF] (ratV (minL (l.drop 1) x0)):=by
 have hl:0<l.length:=(List.getElem?_eq_some_iff.1 h0).1
 have hl1:¬ (l.length:Int)<1:=by omega
 have e0:l[0]'hl=x0:=(List.getElem?_eq_some_iff.1 h0).2
 generalize hR:minL (l.drop 1) x0=R
 refine CallsP.enc Go.Proofs.Tryz.func67 rfl (fun lv=>nC_dArg lv _ _ _) fun _=>AW.q ?_
 refine AW.seqK fun K hK=>AW.f2 @lpNums hl1 ?_
 refine AW.fn (by simp [hl1] <;> omega) (AW.skip ?_)
 simp
 repeat refine and_o ?_
 apply hK
 refine AW.seqK fun K hK=>AW.rP ?_
 simp [h0,hl,e0,numD,← nC_nD,setSeg]
 repeat refine and_o ?_
 apply hK
 refine AW.seqK fun K hK=>AW.seqK fun K1 hK1=>AW.rP ?_
 simp
 repeat refine and_o ?_
 apply hK1
 refine AW.block ?_
 refine AW.loopV (fun (p:Nat × Rat)=>⟨frOf [(0,numsA l),(1,cmpF),(4,.c (.ptr 0 0)),(5,.c (.ptr 1 0)),(6,.c (.d (.int .i64 (p.1:Int))))],
  upd (upd (fun _=>.hole) 0 (.cells true false 27 [.d (.bool false),.d .nilsl,.d .nilsl])) 1 (.cells true false 27 [.d (.bool (decide (p.2.num<0))),nC (natO p.2.num.natAbs),nC (denO p.2.den)])⟩) 2
  (fun p=>1≤p.1∧p.1≤l.length∧szR p.2 10000000000∧minL (l.drop p.1) p.2=R) (fun p=>l.length - p.1) (1,x0) (Le.mk2 _) ⟨Nat.le_refl _,hl,hs _ (List.mem_of_getElem? h0),hR⟩ ?_
 rintro⟨i,m⟩ ⟨h1,h2,h3,h4⟩
 simp only at h1 h2 h3 h4
 refine AW.seqK fun K2 hK2=>AW.f1 @lpNums ?_
 by_cases hlt:i<l.length
 ·have hlt':(i:Int)<(l.length:Int):=by omega
  obtain⟨x,hx⟩:∃ x,l[i]?=some x:=⟨_,List.getElem?_eq_getElem hlt⟩
  have hxs:=hs _ (List.mem_of_getElem? hx)
  have hix:=fun lv=>ixNums l lv i x hx
  have hc:=rat_Cmp G x m hxs h3
  have f12:=w64 (n:=(i:Int)+1) (by omega) (by omega)
  refine AW.fy (by simp [hlt'] <;> omega) (AW.skip (hK2 _ _ (AW.seqK fun K4 hK4=>AW.block (AW.seqK fun K5 hK5=>?_))))
  refine AW.drawP mixed (by kernel_rfl) rfl ?_
  simp [hix,numD,← nC_nD]
  refine CallDo.p 2 9 hc ?_
  simp [hix,numD,← nC_nD]
  refine⟨by kernel_rfl,?_⟩
  repeat refine and_o ?_
  apply hK5
  by_cases hm:x<m
  ·have hm':=cmpR_neg.2 hm
   refine AW.fy (by simp [hm'] <;> omega) (AW.rP ?_)
   simp [hix,numD,← nC_nD]
   repeat refine and_o ?_
   apply hK4
   refine AW.rP ?_
   simp [f12]
   refine⟨i+1,x,Le.mk2 _ (by simp [setSeg]),⟨by omega,by omega,hxs,?_⟩,by omega⟩
   rw [← h4,minL_drop hx,show minR x m=x from if_pos hm]
  ·have hm':¬ cmpR x m<0:=fun h=>hm (cmpR_neg.1 h)
   refine AW.fn (by simp [hm'] <;> omega) (AW.skip (hK4 _ _ (AW.rP ?_)))
   simp [f12]
   refine⟨i+1,m,Le.mk2 _,⟨by omega,by omega,h3,?_⟩,by omega⟩
   rw [← h4,minL_drop hx,show minR x m=m from if_neg hm]
 ·have hlt':¬ (i:Int)<(l.length:Int):=by omega
  have hd:l.drop i=[]:=List.drop_eq_nil_of_le (by omega)
  rw [hd] at h4
  have h5:m=R:=h4
  refine AW.fn (by simp [hlt'] <;> omega) (AW.exit (hK _ _ (AW.q ?_)))
  subst h5
  exact AW.ret (FinC.num (κ:=0) (t:=4) (k:=0) ⟨rfl,rfl⟩ (by simp) (by simp [setSeg]))
theorem maxFunc_ok (G:List (List DV))(l:List Rat)(x0:Rat)(h0:l[0]?=some x0)(hn:l.length≤1000)(hs:∀ x∈l,szR x 10000000000) :
 CallsP Tryz.prog G 68 [numsA l,cmpF] (ratV (maxL (l.drop 1) x0)):=by
 have hl:0<l.length:=(List.getElem?_eq_some_iff.1 h0).1
 have hl1:¬ (l.length:Int)<1:=by omega
 have e0:l[0]'hl=x0:=(List.getElem?_eq_some_iff.1 h0).2
 generalize hR:maxL (l.drop 1) x0=R
 refine CallsP.enc Go.Proofs.Tryz.func68 rfl (fun lv=>nC_dArg lv _ _ _) fun _=>AW.q ?_
 refine AW.seqK fun K hK=>AW.f2 @lpNums hl1 ?_
 refine AW.fn (by simp [hl1] <;> omega) (AW.skip (hK _ _ (AW.sr fun K hK=>?_)))
 simp [h0,hl,e0,numD,← nC_nD,setSeg]
 repeat refine and_o ?_
 apply hK
 refine AW.seqK fun K hK=>AW.seqK fun K1 hK1=>AW.rP ?_
 simp
 repeat refine and_o ?_
 apply hK1
 refine AW.block ?_
 refine AW.loopV (fun (p:Nat × Rat)=>⟨frOf [(0,numsA l),(1,cmpF),(4,.c (.ptr 0 0)),(5,.c (.ptr 1 0)),(6,.c (.d (.int .i64 (p.1:Int))))],
  upd (upd (fun _=>.hole) 0 (.cells true false 27 [.d (.bool false),.d .nilsl,.d .nilsl])) 1 (.cells true false 27 [.d (.bool (decide (p.2.num<0))),nC (natO p.2.num.natAbs),nC (denO p.2.den)])⟩) 2
  (fun p=>1≤p.1∧p.1≤l.length∧szR p.2 10000000000∧maxL (l.drop p.1) p.2=R) (fun p=>l.length - p.1) (1,x0) (Le.mk2 _) ⟨Nat.le_refl _,hl,hs _ (List.mem_of_getElem? h0),hR⟩ ?_
 rintro⟨i,m⟩ ⟨h1,h2,h3,h4⟩
 simp only at h1 h2 h3 h4
 refine AW.seqK fun K2 hK2=>AW.f1 @lpNums ?_
 by_cases hlt:i<l.length
 ·have hlt':(i:Int)<(l.length:Int):=by omega
  obtain⟨x,hx⟩:∃ x,l[i]?=some x:=⟨_,List.getElem?_eq_getElem hlt⟩
  have hxs:=hs _ (List.mem_of_getElem? hx)
  have hix:=fun lv=>ixNums l lv i x hx
  have hc:=rat_Cmp G x m hxs h3
  have f12:=w64 (n:=(i:Int)+1) (by omega) (by omega)
  refine AW.fy (by simp [hlt'] <;> omega) (AW.skip (hK2 _ _ (AW.seqK fun K4 hK4=>AW.block (AW.seqK fun K5 hK5=>?_))))
  refine AW.drawP mixed (by kernel_rfl) rfl ?_
  simp [hix,numD,← nC_nD]
  refine CallDo.p 2 9 hc ?_
  simp [hix,numD,← nC_nD]
  refine⟨by kernel_rfl,?_⟩
  repeat refine and_o ?_
  apply hK5
  by_cases hm:m<x
  ·have hm':=cmpR_pos.2 hm
   refine AW.fy (by simp [hm'] <;> omega) (AW.rP ?_)
   simp [hix,numD,← nC_nD]
   repeat refine and_o ?_
   apply hK4
   refine AW.rP ?_
   simp [f12]
   refine⟨i+1,x,Le.mk2 _ (by simp [setSeg]),⟨by omega,by omega,hxs,?_⟩,by omega⟩
   rw [← h4,maxL_drop hx,show maxR m x=x from if_pos hm]
  ·have hm':¬ 0<cmpR x m:=fun h=>hm (cmpR_pos.1 h)
   refine AW.fn (by simp [hm'] <;> omega) (AW.skip (hK4 _ _ (AW.rP ?_)))
   simp [f12]
   refine⟨i+1,m,Le.mk2 _,⟨by omega,by omega,h3,?_⟩,by omega⟩
   rw [← h4,maxL_drop hx,show maxR m x=m from if_neg hm]
 ·have hlt':¬ (i:Int)<(l.length:Int):=by omega
  have hd:l.drop i=[]:=List.drop_eq_nil_of_le (by omega)
  rw [hd] at h4
  have h5:m=R:=h4
  refine AW.fn (by simp [hlt'] <;> omega) (AW.exit (hK _ _ (AW.q ?_)))
  subst h5
  exact AW.ret (FinC.num (κ:=0) (t:=4) (k:=0) ⟨rfl,rfl⟩ (by simp) (by simp [setSeg]))
theorem hull_ok (G:List (List DV))(w x y z:Rat)(h1:szR w 10000000000)(h2:szR x 10000000000)(h3:szR y 10000000000)(h4:szR z 10000000000) :
 CallsP Tryz.prog G 28 [numsA [w,x,y,z]] (ivV (hull4 w x y z)):=by
 have hs:∀ u∈[w,x,y,z],szR u 10000000000:=by
  intro u hu
  simp only [List.mem_cons,List.not_mem_nil,or_false] at hu
  rcases hu with rfl|rfl|rfl|rfl <;> assumption
 have c1:=minFunc_ok G [w,x,y,z] w rfl (by simp) hs
 have c2:=maxFunc_ok G [w,x,y,z] w rfl (by simp) hs
 rw [← hull_minL]
 change CallsP _ _ _ _ (ratV (minL [x,y,z] w)) at c1
 change CallsP _ _ _ _ (ratV (maxL [x,y,z] w)) at c2
 generalize minL [x,y,z] w=r1 at *
 generalize maxL [x,y,z] w=r2 at *
 generalize [w,x,y,z]=l at *
 refine CallsP.enc Go.Proofs.Tryz.func28 rfl (fun lv=>iv_dArg lv _ _ _ _ _ _) fun _=>AW.q ?_
 refine AW.sr fun K hK=>?_
 simp
 refine CallDo.p 1 9 c1 ?_
 simp
 refine CallDo.p 1 9 c2 ?_
 simp [bIv]
 repeat refine and_o ?_
 apply hK
 exact AW.ret (FinC.iv (κ:=0) (t:=2) (k:=0) ⟨rfl,rfl⟩ (by simp) (by simp [setSeg]))
theorem CallDo.frz4 {c:Ctx}{f:FuncId}{lv:Key→LB}{K:AV→List (Key × LB)→List Key→Nat→Prop}(κ' kh κb:Key) {T:TypeId}{w x y z:Rat}{X:AV}
 (hk:lv κb=.cells true false T (((numD w++numD x)++(numD y++numD z)).map CV.d)) (hc:CallsP c.P c.G f [numsA [w,x,y,z]] X) (hX:X.pure=true) (hh:lv kh=.hole) (hkh:kh≠κb)
 (hK:K X [(κb,.cells true true T (((numD w++numD x)++(numD y++numD z)).map CV.d))] [kh] κ'):CallDo c f [.c (.lsl κb 0 4 3)] lv K:=by
 refine CallDo.frz κ' kh κb T _ [kh] hc hX hk hh hkh rfl (fun i p q=>?_) (fun a ha j hj=>?_) (by simp) hK
 ·have hi:i=0:=by simp at p;omega
  subst hi
  right
  simp only [List.getElem_cons_zero,dArg,toDV,upd_same]
  rfl
 ·simp only [List.mem_singleton] at ha;subst ha
  simp only [rdA,rdK,List.mem_cons,upd_same] at hj
  rcases hj with rfl|hj
  ·exact .inr rfl
  ·simp only [List.mem_flatMap] at hj
   obtain⟨y,hy,hj⟩:=hj
   simp only [List.mem_map] at hy
   obtain⟨z,_,rfl⟩:=hy
   cases hj
theorem fill4 (a b c d e f g h i j k l:CV):fillA (fun i=>some (i*3,3)) (repl 4 [.d (.bool false),.d .nilsl,.d .nilsl]) [(0,.agg [a,b,c]),(1,.agg [d,e,f]),(2,.agg [g,h,i]),(3,.agg [j,k,l])]=some [a,b,c,d,e,f,g,h,i,j,k,l]:=by kernel_rfl
theorem sgA_pos (x:Rat):0≤sgA (decide (x.num<0)) (natO x.num.natAbs)↔0≤x:=by
 unfold sgA;rw [natO_d,← Rat.num_nonneg]
 by_cases h0:x.num.natAbs=0
 ·rw [if_pos ((dig_nil (by decide)).2 h0)];omega
 ·rw [if_neg (dig_ne h0)]
  by_cases hn:x.num<0
  ·rw [decide_eq_true hn,if_pos rfl];omega
  ·rw [decide_eq_false hn,if_neg (by decide)];omega
theorem sgA_le (x:Rat):sgA (decide (x.num<0)) (natO x.num.natAbs)≤0↔x≤0:=by
 have h2:0≤-x↔x≤0:=by constructor <;> intro h <;> grind
 unfold sgA;rw [natO_d,← h2,← Rat.num_nonneg,Rat.neg_num]
 by_cases h0:x.num.natAbs=0
 ·rw [if_pos ((dig_nil (by decide)).2 h0)];omega
 ·rw [if_neg (dig_ne h0)]
  by_cases hn:x.num<0
  ·rw [decide_eq_true hn,if_pos rfl];omega
  ·rw [decide_eq_false hn,if_neg (by decide)];omega
theorem iv_mul_step (G:List (List DV))(a b:Iv)(ha:a.sz 10000000)(hb:b.sz 10000000)(la:a.1≤a.2)(lb:b.1≤b.2)
 (r1:a.1<0→a.2≤0→CallsP Tryz.prog G 202 [ivV a.neg,ivV b] (ivV (a.neg.mul b)))
 (r2:¬ (a.1<0∧a.2≤0)→b.1<0→b.2≤0→CallsP Tryz.prog G 202 [ivV a,ivV b.neg] (ivV (a.mul b.neg))) :
 CallsP Tryz.prog G 202 [ivV a,ivV b] (ivV (a.mul b)):=by
 obtain⟨a1,a2⟩:=a
 obtain⟨b1,b2⟩:=b
 have sz:∀ {x:Rat},szR x 10000000→szR x 10000000000:=fun h=>szR_mono h (by decide)
 have g1:=num_Sign_ok G (decide (a1.num<0)) (natO a1.num.natAbs) (denO a1.den)
 have g2:=num_Sign_ok G (decide (a2.num<0)) (natO a2.num.natAbs) (denO a2.den)
 have g3:=num_Sign_ok G (decide (b1.num<0)) (natO b1.num.natAbs) (denO b1.den)
 have g4:=num_Sign_ok G (decide (b2.num<0)) (natO b2.num.natAbs) (denO b2.den)
 have p1:=sgA_pos a1
 have p2:=sgA_le a2
 have p3:=sgA_pos b1
 have p4:=sgA_le b2
 by_cases c0:0≤a1∧0≤b1
 ·have m1:=rat_Mul G a1 b1 (sz ha.1) (sz hb.1)
  have m2:=rat_Mul G a2 b2 (sz ha.2) (sz hb.2)
  rw [Iv.mul_pos la lb c0.1 c0.2]
  have q1:=p1.2 c0.1
  have q3:=p3.2 c0.2
  generalize sgA (decide (a1.num<0)) (natO a1.num.natAbs)=s1 at *
  generalize sgA (decide (b1.num<0)) (natO b1.num.natAbs)=s3 at *
  simp only at m1 m2 ⊢
  generalize a1*b1=u1 at *
  generalize a2*b2=u2 at *
  refine CallsP.enc Go.Proofs.Tryz.func202 rfl (fun lv=>iv_dArg lv _ _ _ _ _ _) fun _=>AW.q ?_
  refine AW.seqK fun K hK=>AW.block (AW.sr fun K1 hK1=>?_)
  simp
  refine CallDo.p 3 9 g1 ?_
  simp [q1]
  refine CallDo.p 3 9 g3 ?_
  simp [q3]
  repeat refine and_o ?_
  apply hK1
  refine AW.cy (AW.seqK fun K1 hK1=>?_)
  refine AW.drawP mixed (by kernel_rfl) rfl ?_
  simp
  refine CallDo.p 3 9 m1 ?_
  simp
  refine CallDo.p 3 9 m2 ?_
  simp [bIv]
  refine⟨by kernel_rfl,?_⟩
  repeat refine and_o ?_
  apply hK1
  exact AW.ret (FinC.iv (κ:=0) (t:=4) (k:=2) ⟨rfl,rfl⟩ (by simp) (by simp [setSeg]))
 by_cases c1:a1<0∧a2≤0
 ·have m1:=r1 c1.1 c1.2
  have n1:=iv_Neg G (a1,a2)
  have n2:=iv_Neg G (Iv.mul (Iv.neg (a1,a2)) (b1,b2))
  rw [Iv.mul_negl] at n2
  have q1:¬ 0≤sgA (decide (a1.num<0)) (natO a1.num.natAbs):=fun h=>absurd (p1.1 h) (Rat.not_le.2 c1.1)
  have q2:=p2.2 c1.2
  have q1':sgA (decide (a1.num<0)) (natO a1.num.natAbs)<0:=by omega
  generalize sgA (decide (a1.num<0)) (natO a1.num.natAbs)=s1 at *
  generalize sgA (decide (a2.num<0)) (natO a2.num.natAbs)=s2 at *
  generalize Iv.mul (Iv.neg (a1,a2)) (b1,b2)=u at *
  generalize Iv.mul (a1,a2) (b1,b2)=v at *
  generalize Iv.neg (a1,a2)=na at *
  refine CallsP.enc Go.Proofs.Tryz.func202 rfl (fun lv=>iv_dArg lv _ _ _ _ _ _) fun _=>AW.q ?_
  refine AW.seqK fun K hK=>AW.block (AW.sr fun K1 hK1=>?_)
  simp
  refine CallDo.p 3 9 g1 ?_
  simp [q1]
  repeat refine and_o ?_
  apply hK1
  refine AW.cn (AW.sr fun K1 hK1=>?_)
  simp
  refine CallDo.p 3 9 g1 ?_
  simp [q1']
  refine CallDo.p 3 9 g2 ?_
  simp [q2]
  repeat refine and_o ?_
  apply hK1
  refine AW.cy (AW.seqK fun K1 hK1=>?_)
  refine AW.drawP mixed (by kernel_rfl) rfl ?_
  simp
  refine CallDo.p 3 9 n1 ?_
  simp
  refine CallDo.p 3 9 m1 ?_
  simp
  refine CallDo.p 3 9 n2 ?_
  simp
  refine⟨by kernel_rfl,?_⟩
  repeat refine and_o ?_
  apply hK1
  exact AW.ret (FinC.iv (κ:=0) (t:=4) (k:=2) ⟨rfl,rfl⟩ (by simp) (by simp [setSeg]))
 have q1n:¬ 0≤a1→a1<0:=fun h=>Rat.not_le.1 h
 have s1n:a1<0→sgA (decide (a1.num<0)) (natO a1.num.natAbs)<0:=fun h=>by
  have:¬ 0≤sgA (decide (a1.num<0)) (natO a1.num.natAbs):=fun h'=>absurd (p1.1 h') (Rat.not_le.2 h)
  omega
 have s3n:b1<0→sgA (decide (b1.num<0)) (natO b1.num.natAbs)<0:=fun h=>by
  have:¬ 0≤sgA (decide (b1.num<0)) (natO b1.num.natAbs):=fun h'=>absurd (p3.1 h') (Rat.not_le.2 h)
  omega
 by_cases c2:b1<0∧b2≤0
 ·have m1:=r2 c1 c2.1 c2.2
  have n1:=iv_Neg G (b1,b2)
  have n2:=iv_Neg G (Iv.mul (a1,a2) (Iv.neg (b1,b2)))
  rw [Iv.mul_negr] at n2
  have q3':=s3n c2.1
  have q3:¬ 0≤sgA (decide (b1.num<0)) (natO b1.num.natAbs):=by omega
  have q4:=p4.2 c2.2
  by_cases h1:0≤a1
  ·have q1:=p1.2 h1
   have q1':¬ sgA (decide (a1.num<0)) (natO a1.num.natAbs)<0:=by omega
   generalize sgA (decide (a1.num<0)) (natO a1.num.natAbs)=s1 at *
   generalize sgA (decide (a2.num<0)) (natO a2.num.natAbs)=s2 at *
   generalize sgA (decide (b1.num<0)) (natO b1.num.natAbs)=s3 at *
   generalize sgA (decide (b2.num<0)) (natO b2.num.natAbs)=s4 at *
   generalize Iv.mul (a1,a2) (Iv.neg (b1,b2))=u at *
   generalize Iv.mul (a1,a2) (b1,b2)=v at *
   generalize Iv.neg (b1,b2)=nb at *
   refine CallsP.enc Go.Proofs.Tryz.func202 rfl (fun lv=>iv_dArg lv _ _ _ _ _ _) fun _=>AW.q ?_
   refine AW.seqK fun K hK=>AW.block (AW.sr fun K1 hK1=>?_)
   simp
   refine CallDo.p 3 9 g1 ?_
   simp [q1]
   refine CallDo.p 3 9 g3 ?_
   simp [q3]
   repeat refine and_o ?_
   apply hK1
   refine AW.cn (AW.c1 3 g1 q1' ?_)
   refine AW.cn (AW.sr fun K1 hK1=>?_)
   simp
   refine CallDo.p 3 9 g3 ?_
   simp [q3']
   refine CallDo.p 3 9 g4 ?_
   simp [q4]
   repeat refine and_o ?_
   apply hK1
   refine AW.cy (AW.seqK fun K1 hK1=>?_)
   refine AW.drawP mixed (by kernel_rfl) rfl ?_
   simp
   refine CallDo.p 3 9 n1 ?_
   simp
   refine CallDo.p 3 9 m1 ?_
   simp
   refine CallDo.p 3 9 n2 ?_
   simp
   refine⟨by kernel_rfl,?_⟩
   repeat refine and_o ?_
   apply hK1
   exact AW.ret (FinC.iv (κ:=0) (t:=4) (k:=2) ⟨rfl,rfl⟩ (by simp) (by simp [setSeg]))
  ·have q1':=s1n (q1n h1)
   have q1:¬ 0≤sgA (decide (a1.num<0)) (natO a1.num.natAbs):=by omega
   have q2:¬ sgA (decide (a2.num<0)) (natO a2.num.natAbs)≤0:=fun h=>c1 ⟨q1n h1,p2.1 h⟩
   generalize sgA (decide (a1.num<0)) (natO a1.num.natAbs)=s1 at *
   generalize sgA (decide (a2.num<0)) (natO a2.num.natAbs)=s2 at *
   generalize sgA (decide (b1.num<0)) (natO b1.num.natAbs)=s3 at *
   generalize sgA (decide (b2.num<0)) (natO b2.num.natAbs)=s4 at *
   generalize Iv.mul (a1,a2) (Iv.neg (b1,b2))=u at *
   generalize Iv.mul (a1,a2) (b1,b2)=v at *
   generalize Iv.neg (b1,b2)=nb at *
   refine CallsP.enc Go.Proofs.Tryz.func202 rfl (fun lv=>iv_dArg lv _ _ _ _ _ _) fun _=>AW.q ?_
   refine AW.seqK fun K hK=>AW.block (AW.sr fun K1 hK1=>?_)
   simp
   refine CallDo.p 3 9 g1 ?_
   simp [q1]
   repeat refine and_o ?_
   apply hK1
   refine AW.cn (AW.sr fun K1 hK1=>?_)
   simp
   refine CallDo.p 3 9 g1 ?_
   simp [q1']
   refine CallDo.p 3 9 g2 ?_
   simp [q2]
   repeat refine and_o ?_
   apply hK1
   refine AW.cn (AW.sr fun K1 hK1=>?_)
   simp
   refine CallDo.p 3 9 g3 ?_
   simp [q3']
   refine CallDo.p 3 9 g4 ?_
   simp [q4]
   repeat refine and_o ?_
   apply hK1
   refine AW.cy (AW.seqK fun K1 hK1=>?_)
   refine AW.drawP mixed (by kernel_rfl) rfl ?_
   simp
   refine CallDo.p 3 9 n1 ?_
   simp
   refine CallDo.p 3 9 m1 ?_
   simp
   refine CallDo.p 3 9 n2 ?_
   simp
   refine⟨by kernel_rfl,?_⟩
   repeat refine and_o ?_
   apply hK1
   exact AW.ret (FinC.iv (κ:=0) (t:=4) (k:=2) ⟨rfl,rfl⟩ (by simp) (by simp [setSeg]))
 have hm:Iv.mul (a1,a2) (b1,b2)=hull4 (a1*b1) (a1*b2) (a2*b1) (a2*b2):=rfl
 have m1:=rat_Mul G a1 b1 (sz ha.1) (sz hb.1)
 have m2:=rat_Mul G a1 b2 (sz ha.1) (sz hb.2)
 have m3:=rat_Mul G a2 b1 (sz ha.2) (sz hb.1)
 have m4:=rat_Mul G a2 b2 (sz ha.2) (sz hb.2)
 have zz:∀ {x y:Rat},szR x 10000000→szR y 10000000→szR (x*y) 10000000000:=fun h h'=>szR_mono (szR_mul h h') (by decide)
 have hh:=hull_ok G (a1*b1) (a1*b2) (a2*b1) (a2*b2) (zz ha.1 hb.1) (zz ha.1 hb.2) (zz ha.2 hb.1) (zz ha.2 hb.2)
 rw [hm]
 generalize hull4 (a1*b1) (a1*b2) (a2*b1) (a2*b2)=v at *
 generalize a1*b1=u1 at *
 generalize a1*b2=u2 at *
 generalize a2*b1=u3 at *
 generalize a2*b2=u4 at *
 by_cases h1:0≤a1
 ·have h3:b1<0:=Rat.not_le.1 fun h=>c0 ⟨h1,h⟩
  have q1:=p1.2 h1
  have q1':¬ sgA (decide (a1.num<0)) (natO a1.num.natAbs)<0:=by omega
  have q3':=s3n h3
  have q3:¬ 0≤sgA (decide (b1.num<0)) (natO b1.num.natAbs):=by omega
  have q4:¬ sgA (decide (b2.num<0)) (natO b2.num.natAbs)≤0:=fun h=>c2 ⟨h3,p4.1 h⟩
  generalize sgA (decide (a1.num<0)) (natO a1.num.natAbs)=s1 at *
  generalize sgA (decide (b1.num<0)) (natO b1.num.natAbs)=s3 at *
  generalize sgA (decide (b2.num<0)) (natO b2.num.natAbs)=s4 at *
  refine CallsP.enc Go.Proofs.Tryz.func202 rfl (fun lv=>iv_dArg lv _ _ _ _ _ _) fun _=>AW.q ?_
  refine AW.seqK fun K hK=>AW.block (AW.sr fun K1 hK1=>?_)
  simp
  refine CallDo.p 3 9 g1 ?_
  simp [q1]
  refine CallDo.p 3 9 g3 ?_
  simp [q3]
  repeat refine and_o ?_
  apply hK1
  refine AW.cn (AW.c1 3 g1 q1' ?_)
  refine AW.cn (AW.sr fun K1 hK1=>?_)
  simp
  refine CallDo.p 3 9 g3 ?_
  simp [q3']
  refine CallDo.p 3 9 g4 ?_
  simp [q4]
  repeat refine and_o ?_
  apply hK1
  refine AW.cn (AW.skip (hK _ _ (AW.seqK fun K hK=>?_)))
  refine AW.drawP mixed (by kernel_rfl) rfl ?_
  simp
  refine CallDo.p 3 9 m1 ?_
  simp
  refine CallDo.p 3 9 m2 ?_
  simp
  refine CallDo.p 3 9 m3 ?_
  simp
  refine CallDo.p 3 9 m4 ?_
  simp [fill4]
  refine CallDo.frz4 (T:=27) 4 9 3 (w:=u1) (x:=u2) (y:=u3) (z:=u4) ?_ hh ?_ ?_ ?_ ?_
  ·simp [numD,nC_nD]
  ·simp
  ·simp
  ·decide
  simp
  refine⟨by kernel_rfl,?_⟩
  repeat refine and_o ?_
  apply hK
  exact AW.ret (FinC.iv (κ:=0) (t:=4) (k:=2) ⟨rfl,rfl⟩ (by simp) (by simp [setSeg]))
 have q1':=s1n (q1n h1)
 have q1:¬ 0≤sgA (decide (a1.num<0)) (natO a1.num.natAbs):=by omega
 have q2:¬ sgA (decide (a2.num<0)) (natO a2.num.natAbs)≤0:=fun h=>c1 ⟨q1n h1,p2.1 h⟩
 by_cases h3:b1<0
 ·have q3':=s3n h3
  have q4:¬ sgA (decide (b2.num<0)) (natO b2.num.natAbs)≤0:=fun h=>c2 ⟨h3,p4.1 h⟩
  generalize sgA (decide (a1.num<0)) (natO a1.num.natAbs)=s1 at *
  generalize sgA (decide (a2.num<0)) (natO a2.num.natAbs)=s2 at *
  generalize sgA (decide (b1.num<0)) (natO b1.num.natAbs)=s3 at *
  generalize sgA (decide (b2.num<0)) (natO b2.num.natAbs)=s4 at *
  refine CallsP.enc Go.Proofs.Tryz.func202 rfl (fun lv=>iv_dArg lv _ _ _ _ _ _) fun _=>AW.q ?_
  refine AW.seqK fun K hK=>AW.block (AW.sr fun K1 hK1=>?_)
  simp
  refine CallDo.p 3 9 g1 ?_
  simp [q1]
  repeat refine and_o ?_
  apply hK1
  refine AW.cn (AW.sr fun K1 hK1=>?_)
  simp
  refine CallDo.p 3 9 g1 ?_
  simp [q1']
  refine CallDo.p 3 9 g2 ?_
  simp [q2]
  repeat refine and_o ?_
  apply hK1
  refine AW.cn (AW.sr fun K1 hK1=>?_)
  simp
  refine CallDo.p 3 9 g3 ?_
  simp [q3']
  refine CallDo.p 3 9 g4 ?_
  simp [q4]
  repeat refine and_o ?_
  apply hK1
  refine AW.cn (AW.skip (hK _ _ (AW.seqK fun K hK=>?_)))
  refine AW.drawP mixed (by kernel_rfl) rfl ?_
  simp
  refine CallDo.p 3 9 m1 ?_
  simp
  refine CallDo.p 3 9 m2 ?_
  simp
  refine CallDo.p 3 9 m3 ?_
  simp
  refine CallDo.p 3 9 m4 ?_
  simp [fill4]
  refine CallDo.frz4 (T:=27) 4 9 3 (w:=u1) (x:=u2) (y:=u3) (z:=u4) ?_ hh ?_ ?_ ?_ ?_
  ·simp [numD,nC_nD]
  ·simp
  ·simp
  ·decide
  simp
  refine⟨by kernel_rfl,?_⟩
  repeat refine and_o ?_
  apply hK
  exact AW.ret (FinC.iv (κ:=0) (t:=4) (k:=2) ⟨rfl,rfl⟩ (by simp) (by simp [setSeg]))
 ·have q3':¬ sgA (decide (b1.num<0)) (natO b1.num.natAbs)<0:=by
   have:=p3.2 (Rat.not_lt.1 h3)
   omega
  generalize sgA (decide (a1.num<0)) (natO a1.num.natAbs)=s1 at *
  generalize sgA (decide (a2.num<0)) (natO a2.num.natAbs)=s2 at *
  generalize sgA (decide (b1.num<0)) (natO b1.num.natAbs)=s3 at *
  refine CallsP.enc Go.Proofs.Tryz.func202 rfl (fun lv=>iv_dArg lv _ _ _ _ _ _) fun _=>AW.q ?_
  refine AW.seqK fun K hK=>AW.block (AW.sr fun K1 hK1=>?_)
  simp
  refine CallDo.p 3 9 g1 ?_
  simp [q1]
  repeat refine and_o ?_
  apply hK1
  refine AW.cn (AW.sr fun K1 hK1=>?_)
  simp
  refine CallDo.p 3 9 g1 ?_
  simp [q1']
  refine CallDo.p 3 9 g2 ?_
  simp [q2]
  repeat refine and_o ?_
  apply hK1
  refine AW.cn (AW.c1 3 g3 q3' ?_)
  refine AW.cn (AW.skip (hK _ _ (AW.seqK fun K hK=>?_)))
  refine AW.drawP mixed (by kernel_rfl) rfl ?_
  simp
  refine CallDo.p 3 9 m1 ?_
  simp
  refine CallDo.p 3 9 m2 ?_
  simp
  refine CallDo.p 3 9 m3 ?_
  simp
  refine CallDo.p 3 9 m4 ?_
  simp [fill4]
  refine CallDo.frz4 (T:=27) 4 9 3 (w:=u1) (x:=u2) (y:=u3) (z:=u4) ?_ hh ?_ ?_ ?_ ?_
  ·simp [numD,nC_nD]
  ·simp
  ·simp
  ·decide
  simp
  refine⟨by kernel_rfl,?_⟩
  repeat refine and_o ?_
  apply hK
  exact AW.ret (FinC.iv (κ:=0) (t:=4) (k:=2) ⟨rfl,rfl⟩ (by simp) (by simp [setSeg]))
theorem iv_Mul (G:List (List DV))(a b:Iv)(ha:a.sz 10000000)(hb:b.sz 10000000)(la:a.1≤a.2)(lb:b.1≤b.2) :
 CallsP Tryz.prog G 202 [ivV a,ivV b] (ivV (a.mul b)):=by
 have sn:∀ {a:Iv},a.sz 10000000→a.neg.sz 10000000:=fun h=>⟨szR_neg h.2,szR_neg h.1⟩
 have ln:∀ {a:Iv},a.1≤a.2→a.neg.1≤a.neg.2:=fun h=>Rat.neg_le_neg h
 have nn:∀ {a:Iv},a.2≤0→¬ a.neg.1<0:=fun {a} h h'=>by
  have:-a.2<0:=h'
  grind
 refine iv_mul_step G a b ha hb la lb (fun h1 h2=>?_) (fun h0 h1 h2=>?_)
 ·refine iv_mul_step G a.neg b (sn ha) hb (ln la) lb (fun h3 _=>absurd h3 (nn h2)) (fun _ h4 h5=>?_)
  exact iv_mul_step G a.neg b.neg (sn ha) (sn hb) (ln la) (ln lb) (fun h3 _=>absurd h3 (nn h2)) (fun _ h3 _=>absurd h3 (nn h5))
 ·exact iv_mul_step G a b.neg ha (sn hb) la (ln lb) (fun h3 h4=>absurd ⟨h3,h4⟩ h0) (fun _ h3 _=>absurd h3 (nn h2))
def qc (x:Rat):List CV:=[.d (.bool (decide (x.num<0))),nC (natO x.num.natAbs),nC (denO x.den)]
theorem qc_len (x:Rat):(qc x).length=3:=rfl
def qK (f:Sq):Nat→List CV
 | 0=>[]
 | m+1=>qK f m++qc (f m)
theorem qK_len (f:Sq)(m:Nat):(qK f m).length=m*3:=by
 induction m with
 | zero=>rfl
 | succ m ih=>simp only [qK,List.length_append,ih,qc_len];omega
theorem qK_ext {f g:Sq}{m:Nat}(h:∀ i,i<m→f i=g i):qK f m=qK g m:=by
 induction m with
 | zero=>rfl
 | succ m ih=>simp only [qK];rw [ih fun i hi=>h i (by omega),h m (by omega)]
theorem qK_split (f:Sq){m i:Nat}(h:i<m):∃ r,qK f m=qK f i++qc (f i)++r∧∀ g:Sq,(∀ j,j<m→j≠i→g j=f j)→qK g m=qK f i++qc (g i)++r:=by
 induction m with
 | zero=>omega
 | succ m ih=>
  by_cases e:i=m
  ·subst e
   exact⟨[],by simp [qK],fun g hg=>by simp only [qK,List.append_nil];rw [qK_ext fun j hj=>hg j (by omega) (by omega)]⟩
  ·obtain⟨r,h1,h2⟩:=ih (by omega)
   refine⟨r++qc (f m),by simp only [qK,h1,List.append_assoc],fun g hg=>?_⟩
   simp only [qK]
   rw [h2 g fun j hj hne=>hg j (by omega) hne,hg m (by omega) (by omega)]
   simp only [List.append_assoc]
theorem qK_drop (f:Sq){m i:Nat}(h:i<m):∃ r,(qK f m).drop (i*3)=qc (f i)++r:=by
 obtain⟨r,h1,_⟩:=qK_split f h
 refine⟨r,?_⟩
 rw [h1,List.append_assoc,List.drop_left' (by rw [qK_len])]
theorem qK_set (f:Sq){m i:Nat}(h:i<m) (v:Rat):setSeg (qK f m) (i*3) (qc v)=qK (fun j=>if j=i then v else f j) m:=by
 obtain⟨r,h1,h2⟩:=qK_split f h
 rw [h2 (fun j=>if j=i then v else f j) fun j _ hne=>if_neg hne,h1]
 unfold setSeg
 have hl:(qK f i).length=i*3:=qK_len f i
 have e:=List.append_assoc (qK f i) (qc (f i)) r
 rw [e,List.take_left' hl,← e,List.drop_left' (by rw [List.length_append,hl,qc_len,qc_len])]
 simp only [if_true]
theorem qK_ren (f:Sq)(m:Nat)(g:Key→Key):(qK f m).map (CV.ren g)=qK f m:=by
 induction m with
 | zero=>rfl
 | succ m ih=>simp only [qK,List.map_append,ih];simp [qc,nC_nD,CV.ren]
def lnK (k:Key)(frm step n:Nat):List CV:=(List.range (n+1)).map fun i=>.ptr k ((frm+i*step)*3)
theorem lnK_len (k:Key)(frm step n:Nat):(lnK k frm step n).length=n+1:=by simp [lnK]
theorem lnK_get (k:Key)(frm step n:Nat){i:Nat}(h:i≤n):∃ r,(lnK k frm step n).drop i=.ptr k ((frm+i*step)*3)::r:=by
 have hi:i<(lnK k frm step n).length:=by rw [lnK_len];omega
 refine⟨(lnK k frm step n).drop (i+1),?_⟩
 rw [List.drop_eq_getElem_cons hi]
 simp [lnK]
section
variable {lv:Key→LB}{own fz:Bool}{T:TypeId}
theorem ixLn {k:Key}{cs:List CV}{n i:Nat}(h:lv k=.cells own fz T cs):stepIndexAddr Tryz.prog 104 lv (.c (.lsl k 0 n 1)) (.c (.d (.int .i64 (i:Int))))=some (.c (.ptr k i),[],[k],i<n):=by
 simp [stepIndexAddr,h]
theorem ldLn {k c:Key}{frm step n i:Nat}(h:lv k=.cells own fz T (lnK c frm step n)) (hi:i≤n):stepLoad Tryz.prog 105 lv (.c (.ptr k i))=some (.c (.ptr c ((frm+i*step)*3)),[],[k],True):=by
 obtain⟨r,hr⟩:=lnK_get c frm step n hi
 simp [stepLoad,h,hr]
theorem ldQ {k:Key}{f:Sq}{m i:Nat}(h:lv k=.cells own fz T (qK f m)) (hi:i<m):stepLoad Tryz.prog 27 lv (.c (.ptr k (i*3)))=some (ratV (f i),[],[k],True):=by
 obtain⟨r,hr⟩:=qK_drop f hi
 simp [stepLoad,h,hr,qc]
theorem stQ {k:Key}{f:Sq}{m i:Nat}(h:lv k=.cells own false T (qK f m)) (hi:i<m) (v:Rat):stepStore Tryz.prog 27 lv (.c (.ptr k (i*3))) (ratV v)=some (.undef,[(k,.cells own false T (qK (fun j=>if j=i then v else f j) m))],[],True):=by
 have e:=qK_set f hi v
 have hl:i*3+3≤(qK f m).length:=by rw [qK_len];omega
 unfold qc at e
 simp [stepStore,h,AV.cells,e,hl]
end
def isDg (c:UInt8):Bool:=decide (48≤c.toNat∧c.toNat≤57)
def asc:List DV:=(List.range 256).map fun c=>.bool (decide (48≤c∧c≤57))
theorem asc_len:asc.length=256:=by simp [asc]
theorem asc_drop (c:UInt8):asc.drop c.toNat=.bool (isDg c)::asc.drop (c.toNat+1):=by
 have h:c.toNat<asc.length:=by rw [asc_len];exact c.toNat_lt
 rw [List.drop_eq_getElem_cons h]
 congr 1
 simp [asc,isDg]
theorem contains_ok (G:List (List DV))(c:UInt8):CallsP Tryz.prog G 212 [.c (.d (.ptr asc)),.c (.d (.int .u8 c.toNat))] (.c (.d (.bool (isDg c)))):=by
 have hc:=c.toNat_lt
 have hl:=asc_len
 have ha:=asc_drop c
 refine CallsP.en Go.Proofs.Tryz.func212 rfl fun _=>AW.q ?_
 refine AW.sr fun K hK=>?_
 simp [stepIndexAddr,ha,hl]
 repeat refine and_o ?_
 apply hK
 exact AW.r0 (FinP.rt rfl 4 (by simp))
theorem trimLeft_ok (G:List (List DV))(s:List UInt8):CallsP Tryz.prog G 173 [.c (.d (.str s)),.c (.d (.ptr asc))] (.c (.d (.str (s.dropWhile isDg)))):=by
 refine CallsP.en Go.Proofs.Tryz.func173 rfl fun _=>AW.q ?_
 refine AW.seqK fun K hK=>AW.block ?_
 refine AW.loopV (fun (p:List UInt8)=>⟨frOf [(0,.c (.d (.str p))),(1,.c (.d (.ptr asc)))],fun _=>.hole⟩) 0 (fun p=>p.dropWhile isDg=s.dropWhile isDg) (fun p=>p.length) s (Le.mk' _ rfl (by simp) (by simp)) rfl ?_
 rintro p hp
 refine AW.seqK fun K3 hK3=>AW.q ?_
 cases p with
 | nil=>
  refine AW.cn (AW.exit (hK _ _ (AW.q ?_)))
  have hp':s.dropWhile isDg=[]:=by rw [← hp];rfl
  exact AW.r0 (FinP.rt rfl 4 (by simp [hp']))
 | cons c l=>
  refine AW.cy (AW.skip (hK3 _ _ (AW.block (AW.seqK fun K5 hK5=>AW.sr fun K6 hK6=>?_))))
  simp
  refine CallDo.pure 0 9 (contains_ok _ c) (by simp) (by simp) rfl ?_
  simp
  apply hK6
  cases hd:isDg c with
  | false=>
   refine AW.fy (by rfl) (AW.exit (hK _ _ ?_))
   simp only [List.dropWhile,hd] at hp
   refine AW.q ?_
   exact AW.r0 (FinP.rt rfl 4 (by simp [hp]))
  | true=>
   refine AW.fn (by rfl) (AW.skip (hK5 _ _ (AW.rP ?_)))
   simp
   simp only [List.dropWhile,hd] at hp
   exact⟨by omega,l,Le.mk' _ rfl (by simp) (by simp),hp,by simp⟩
def trimRD (s:List UInt8):List UInt8:=(s.reverse.dropWhile isDg).reverse
theorem trimRight_ok (G:List (List DV))(s:List UInt8):CallsP Tryz.prog G 174 [.c (.d (.str s)),.c (.d (.ptr asc))] (.c (.d (.str (trimRD s)))):=by
 refine CallsS.know 0 (by simp) (fun V v h=>(show s.length≤9223372036854775807 by cases h.1 with|str _ hl=>exact hl)) fun hr=>?_
 refine CallsP.en Go.Proofs.Tryz.func174 rfl fun _=>AW.q ?_
 refine AW.seqK fun K hK=>AW.block ?_
 refine AW.loopV (fun (p:List UInt8)=>⟨frOf [(0,.c (.d (.str p))),(1,.c (.d (.ptr asc)))],fun _=>.hole⟩) 0 (fun p=>p.reverse.dropWhile isDg=s.reverse.dropWhile isDg∧p.length≤s.length) (fun p=>p.length) s (Le.mk' _ rfl (by simp) (by simp)) ⟨rfl,Nat.le_refl _⟩ ?_
 rintro p ⟨hp,hpl⟩
 refine AW.seqK fun K3 hK3=>AW.q ?_
 rcases List.eq_nil_or_concat p with rfl|⟨l,c,rfl⟩
 ·refine AW.cn (AW.exit (hK _ _ (AW.q ?_)))
  have hp':trimRD s=[]:=by unfold trimRD;rw [← hp];rfl
  exact AW.r0 (FinP.rt rfl 4 (by simp [hp']))
 ·rw [List.concat_eq_append] at *
  have hn:0<(l++[c]).length:=by simp
  have hlen:(l++[c]).length=l.length+1:=by simp
  have e2:IntKind.i64.wrap (l.length:Int)=(l.length:Int):=w64 (by omega) (by omega)
  have hr1:(l++[c]).reverse=c::l.reverse:=by simp
  rw [hr1] at hp
  refine AW.cy (AW.skip (hK3 _ _ (AW.block (AW.seqK fun K5 hK5=>AW.sr fun K6 hK6=>?_))))
  simp [e2]
  refine⟨by omega,?_⟩
  refine CallDo.pure 0 9 (contains_ok _ c) (by simp) (by simp) rfl ?_
  simp
  apply hK6
  cases hd:isDg c with
  | false=>
   refine AW.fy (by rfl) (AW.exit (hK _ _ ?_))
   simp only [List.dropWhile,hd] at hp
   refine AW.q ?_
   have hp':trimRD s=l++[c]:=by unfold trimRD;rw [← hp];simp
   exact AW.r0 (FinP.rt rfl 4 (by simp [hp']))
  | true=>
   refine AW.fn (by rfl) (AW.skip (hK5 _ _ (AW.rP ?_)))
   simp [e2]
   simp only [List.dropWhile,hd] at hp
   exact⟨by omega,l,Le.mk' _ rfl (by simp) (by simp),⟨hp,by omega⟩,by simp⟩
end Go.Am
namespace Go.Am
open Go.Proofs
theorem mkset_ok (m:Int):CallsP Tryz.prog (GG m) 172 [.c (.d (.str [48,49,50,51,52,53,54,55,56,57]))] (.tup [.agg (asc.map .d),.c (.d (.bool true))]):=
 CallsP.of_ev (evA_ok m 60) (by kernel_rfl)
end Go.Am
namespace Go.Am
open Go.Am.Ty Go.Proofs N
abbrev digs:List UInt8:=[48,49,50,51,52,53,54,55,56,57]
def trimD (s:List UInt8):List UInt8:=(trimRD s).dropWhile isDg
def zerS:List CV:=List.replicate 256 (.d (.bool false))
def ascC:List CV:=asc.map .d
theorem mkset' (m:Int):CallsP Tryz.prog (GG m) 172 [.c (.d (.str digs))] (.tup [.agg ascC,.c (.d (.bool true))]):=mkset_ok m
theorem mksetP:(AV.tup [.agg ascC,.c (.d (.bool true))]).pure=true:=by kernel_rfl
abbrev lvS:Key→LB:=upd (fun _=>LB.hole) 0 (.cells true false 227 ascC)
theorem dargS (s:List UInt8):dArgs lvS [.c (.d (.str s)),.c (.ptr 0 0)]=some ([.c (.d (.str s)),.c (.d (.ptr asc))],[0]):=by kernel_rfl
theorem rdaS:rdA lvS (.c (.ptr 0 0))=[0]:=by kernel_rfl
theorem rdS (s:List UInt8):∀ a∈[AV.c (.d (.str s)),AV.c (.ptr 0 0)],∀ k∈rdA lvS a,k∈[0]:=by
 intro a ha k hk
 simp only [List.mem_cons,List.not_mem_nil,or_false] at ha
 rcases ha with rfl|rfl
 ·cases hk
 ·rw [rdaS] at hk;exact hk
theorem zcS:zcells Tryz.prog 227=some zerS:=by kernel_rfl
theorem stS:stepStore Tryz.prog 227 (upd (fun _=>.hole) 0 (.cells true false 227 zerS)) (.c (.ptr 0 0)) (.agg ascC)=some (.undef,[(0,.cells true false 227 ascC)],[],True):=by
 have hl:ascC.length=256:=by unfold ascC;simp [asc_len]
 have hz:zerS.length=256:=List.length_replicate
 have hs:setSeg zerS 0 ascC=ascC:=by
  unfold setSeg;rw [hl,List.take_zero,List.nil_append,Nat.zero_add,List.drop_eq_nil_of_le (Nat.le_of_eq hz),List.append_nil]
 simp_all
theorem CallDo.flat {c:Ctx}{f:FuncId}{xs us:List AV}{ks rds:List Key}{x:AV}{lv:Key→LB}{K:AV→List (Key × LB)→List Key→Nat→Prop}(κ:Nat) (ha:dArgs lv xs=some (us,ks)) (hc:CallsP c.P c.G f us x) (hx:x.flat=true)
 (hr:∀ a∈xs,∀ k∈rdA lv a,k∈rds) (hK:K x [] rds κ):CallDo c f xs lv K:=⟨x,[],rds,κ,CallEff.flat us ks rds x ha hc hx hr,hK⟩
theorem eqEmpty (s:List UInt8):stepBin Tryz.prog .eql 9 (.c (.d (.str s))) (.c (.d (.str [])))=some (.c (.d (.bool (decide (s=[])))),[],[],True):=by
 cases s with
 | nil=>kernel_rfl
 | cons a l=>rfl
theorem trim_ok (m:Int)(s:List UInt8):CallsP Tryz.prog (GG m) 129 [.c (.d (.str s)),.c (.d (.str digs))] (.c (.d (.str (trimD s)))):=by
 refine CallsP.en Go.Proofs.Tryz.func129 rfl fun _=>AW.q ?_
 refine AW.seqK fun K hK=>AW.seqK fun K1 hK1=>?_
 by_cases hs:s=[]
 ·refine AW.l2 @eqEmpty hs (hK1 _ _ ?_)
  refine AW.cy (AW.q ?_)
  exact AW.r0 (FinP.rt rfl 4 (by simp [hs,trimD,trimRD]))
 refine AW.l2 @eqEmpty hs (hK1 _ _ ?_)
 refine AW.cn (AW.skip (hK _ _ (AW.seqK fun K hK=>AW.q ?_)))
 refine AW.cn (AW.skip (hK _ _ (AW.seqK fun K hK=>AW.sr fun K1 hK1=>?_)))
 simp
 refine CallDo.pure 0 9 (mkset' m) mksetP (by simp) rfl ?_
 simp [zcS,stS,-stepStore]
 apply hK1
 refine AW.q ?_
 refine AW.cy (AW.sr fun K1 hK1=>?_)
 simp
 refine CallDo.flat 2 (us:=[.c (.d (.str s)),.c (.d (.ptr asc))]) (ks:=[0]) (rds:=[0]) (dargS s) (trimRight_ok _ s) rfl (rdS s) ?_
 simp
 refine CallDo.flat 2 (us:=[.c (.d (.str (trimRD s))),.c (.d (.ptr asc))]) (ks:=[0]) (rds:=[0]) (dargS _) (trimLeft_ok _ (trimRD s)) rfl (rdS _) ?_
 simp
 apply hK1
 exact AW.r0 (FinP.rt rfl 9 (by rfl))
theorem beqD (s t:List UInt8):(s == t)=decide (s=t):=by
 grind
theorem eqStr (s t:List UInt8):stepBin Tryz.prog .eql 9 (.c (.d (.str s))) (.c (.d (.str t)))=some (.c (.d (.bool (decide (s=t)))),[],[],True):=by
 rw [← beqD];rfl
theorem neStr (s t:List UInt8):stepBin Tryz.prog .neq 9 (.c (.d (.str s))) (.c (.d (.str t)))=some (.c (.d (.bool (!decide (s=t)))),[],[],True):=by
 rw [← beqD];rfl
def rowB (s:List UInt8):Bool:=!decide (s=[]) && decide (trimD s=[]) && (decide (s=[48]) || !decide (s.getD 0 0=48))
theorem row_ok (m:Int)(s:List UInt8):CallsP Tryz.prog (GG m) 76 [.c (.d (.str s))] (.c (.d (.bool (rowB s)))):=by
 refine CallsP.en Go.Proofs.Tryz.func76 rfl fun _=>AW.q ?_
 refine AW.seqK fun K hK=>?_
 cases s with
 | nil=>
  refine AW.l1 @neStr (hK _ _ ?_)
  exact AW.r0 (FinP.rt rfl 2 (by simp [rowB]))
 | cons a l=>
  refine AW.rP ?_
  simp [neStr]
  refine CallDo.pure 0 9 (trim_ok m (a::l)) (by simp) (by simp) rfl ?_
  by_cases ht:trimD (a::l)=[]
  ·by_cases h0:a::l=[48]
   ·have ht':trimD [48]=[]:=h0 ▸ ht
    simp [eqStr,h0,ht']
    apply hK
    exact AW.r0 (FinP.rt rfl 2 (by simp [rowB,h0,ht']))
   ·simp [eqStr,ht,h0]
    apply hK
    have ha:((a.toNat:Int)=48)↔a=48:=by
     constructor
     ·intro h;exact UInt8.toNat_inj.1 (by grind)
     ·simp_all
    have hr:rowB (a::l) = !decide ((a.toNat:Int)=48):=by
     have h1:decide ((a.toNat:Int)=48)=decide (a=48):=by simp only [ha]
     rw [h1]
     simp [rowB,ht,h0]
    exact AW.r0 (FinP.rt rfl 2 (by simp [hr]))
  ·simp [eqStr,ht]
   apply hK
   exact AW.r0 (FinP.rt rfl 2 (by simp [rowB,ht]))
def hpB (s p:List UInt8):Bool:=decide (p.length≤s.length) && decide (s.take p.length=p)
def cpS (s p:List UInt8):List UInt8:=if hpB s p=true then s.drop p.length else s
theorem hasPrefix_ok (G:List (List DV))(s p:List UInt8):CallsP Tryz.prog G 168 [.c (.d (.str s)),.c (.d (.str p))] (.c (.d (.bool (hpB s p)))):=by
 refine CallsP.en Go.Proofs.Tryz.func168 rfl fun _=>AW.q ?_
 refine AW.seqK fun K hK=>?_
 by_cases h:p.length≤s.length
 ·have h':(p.length:Int)≤(s.length:Int):=by omega
  refine AW.l3 @eqStr h h' (hK _ _ ?_)
  exact AW.r0 (FinP.rt rfl 4 (by simp [hpB,h]))
 ·have h':¬ (p.length:Int)≤(s.length:Int):=by omega
  refine AW.l3 @eqStr h h' (hK _ _ ?_)
  exact AW.r0 (FinP.rt rfl 4 (by simp [hpB,h]))
theorem cutPrefix0_ok (G:List (List DV))(s p:List UInt8):CallsP Tryz.prog G 127 [.c (.d (.str s)),.c (.d (.str p))] (.tup [.c (.d (.str (cpS s p))),.c (.d (.bool (hpB s p)))]):=by
 refine CallsP.en Go.Proofs.Tryz.func127 rfl fun _=>AW.q ?_
 refine AW.seqK fun K hK=>AW.sr fun K1 hK1=>?_
 simp
 refine CallDo.pure 0 9 (hasPrefix_ok _ s p) (by simp) (by simp) rfl ?_
 simp
 apply hK1
 by_cases h:hpB s p=true
 ·refine AW.fn (by simp_all) (AW.skip (hK _ _ (AW.seqK fun K hK=>?_)))
  have hl:p.length≤s.length:=by
   unfold hpB at h;simp only [Bool.and_eq_true,decide_eq_true_eq] at h;exact h.1
  refine AW.l1 hl (hK _ _ ?_)
  exact AW.r0 (FinP.t2 rfl 5 (by simp [cpS,h]) (by simp [h]))
 ·refine AW.fy (by simp_all) (AW.q ?_)
  exact AW.r0 (FinP.t2 rfl 5 (by simp [cpS,h]) (by simp [h]))
theorem cutPrefix_ok (G:List (List DV))(s p:List UInt8):CallsP Tryz.prog G 74 [.c (.d (.str s)),.c (.d (.str p))] (.tup [.c (.d (.str (cpS s p))),.c (.d (.bool (hpB s p)))]):=by
 refine CallsP.en Go.Proofs.Tryz.func74 rfl fun _=>AW.q ?_
 refine AW.sr fun K hK=>?_
 simp
 refine CallDo.pure 0 9 (cutPrefix0_ok _ s p) rfl (by simp) rfl ?_
 simp
 apply hK
 exact AW.r0 (FinP.t2 rfl 6 (by simp) (by simp))
theorem FinP.tmp3 {c:Ctx}{fn:Func}{x y z:AV}{t u v:Nat}{s:LSt}{κ:Nat}(hr:fn.results=#[.tmp t,.tmp u,.tmp v]) (kh:Key) (hx:s.fr t=x) (hy:s.fr u=y) (hz:s.fr v=z) (hp:x.pure=true) (hq:y.pure=true) (hw:z.pure=true) (hh:s.lv kh=.hole)
 (hn:x.noTup=true) (hm:y.noTup=true) (hl:z.noTup=true) (htu:t≠u) (htv:t≠v) (huv:u≠v):FinP c fn (.tup [x,y,z]) .ret s κ:=by
 refine⟨[(t,x),(u,y),(v,z)],kh,by grind,hh,?_⟩
 rw [hr]
 have h1:¬ u=t:=fun h=>htu h.symm
 have h2:¬ v=t:=fun h=>htv h.symm
 have h3:¬ v=u:=fun h=>huv h.symm
 simp [resA,resL,resV,frOf,h1,h2,h3,hn,hm,hl]
theorem FinP.t3 {c:Ctx}{fn:Func}{x y z:AV}{t u v:Nat}{s:LSt}(hr:fn.results=#[.tmp t,.tmp u,.tmp v]) (kh:Key) (hx:s.fr t=x:=by simp) (hy:s.fr u=y:=by simp) (hz:s.fr v=z:=by simp) (hp:x.pure=true:=by first|rfl|simp) (hq:y.pure=true:=by first|rfl|simp) (hw:z.pure=true:=by first|rfl|simp)
 (hh:s.lv kh=.hole:=by first|rfl|simp) (h1:x.noTup=true:=by first|rfl|simp) (h2:y.noTup=true:=by first|rfl|simp) (h3:z.noTup=true:=by first|rfl|simp) (d1:t≠u:=by decide) (d2:t≠v:=by decide) (d3:u≠v:=by decide):FinP c fn (.tup [x,y,z]) .ret s 0:=FinP.tmp3 hr kh hx hy hz hp hq hw hh h1 h2 h3 d1 d2 d3
def ctI (s t:List UInt8):Int:=Lib.index s t
def ctA (s t:List UInt8):List UInt8:=if 0≤ctI s t then s.take (ctI s t).toNat else s
def ctB (s t:List UInt8):List UInt8:=if 0≤ctI s t then s.drop ((ctI s t).toNat+t.length) else []
theorem index_lt (s t:List UInt8)(h:s.length≤9223372036854775807):-9223372036854775808≤Lib.index s t∧Lib.index s t≤9223372036854775807:=by
 have h1:=Lib.index_ge s t
 have h2:Lib.index s t≤s.length:=by
  clear h h1
  induction s with
  | nil=>simp only [Lib.index];omega
  | cons a s ih=>
   simp only [Lib.index]
   grind
 omega
theorem indexB_ok (G:List (List DV))(s:List UInt8)(c:Nat)(hc:c<256):CallsP Tryz.prog G 208 [.c (.d (.str s)),.c (.d (.int .u8 (c:Int)))] (.c (.d (.int .i64 (ctI s [UInt8.ofNat c])))):=by
 refine CallsS.know 0 (by simp) (fun V v h=>(show s.length≤9223372036854775807 by cases h.1 with|str _ hl=>exact hl)) fun hs=>?_
 refine CallsP.of_CallG (X:=.c (.d (.int .i64 (ctI s [UInt8.ofNat c])))) (lv':=fun _=>.hole) (ks:=[]) ?_ rfl
 refine CallG.of_same (by rfl) fun F β w vs hS hl hv=>?_
 obtain⟨u,v,rfl,hu,hv⟩:=args2 hl hv
 have:=Tryz.stringslite_IndexByte ⟨s.toArray⟩ c w
 refine⟨.int .i64 (ctI s [UInt8.ofNat c]),av_int (index_lt s _ hs),?_⟩
 rw [Vw.c_str hu,Vw.c_int hv]
 simpa [ctI,← index_one] using this
theorem idx_self (c:UInt8):ctI [c] [c]=0:=by simp [ctI,Lib.index,List.isPrefixOf]
theorem index1_ok (G:List (List DV))(s:List UInt8)(c:UInt8):CallsP Tryz.prog G 169 [.c (.d (.str s)),.c (.d (.str [c]))] (.c (.d (.int .i64 (ctI s [c])))):=by
 have hb:=indexB_ok G s c.toNat c.toNat_lt
 rw [show UInt8.ofNat c.toNat=c from UInt8.ofNat_toNat] at hb
 refine CallsP.en Go.Proofs.Tryz.func169 rfl fun _=>AW.q ?_
 refine AW.q ?_
 refine AW.seqK fun K hK=>AW.block (AW.seqK fun K1 hK1=>?_)
 by_cases hs:[c]=s
 ·have h0:ctI s [c]=0:=by rw [← hs];exact idx_self c
  refine AW.l2 @eqStr hs (hK1 _ _ ?_)
  refine AW.cy (AW.q ?_)
  exact AW.r0 (FinP.rt rfl 4 (by simp [h0]))
 ·refine AW.l2 @eqStr hs (hK1 _ _ ?_)
  refine AW.cn (AW.q ?_)
  refine AW.cy (AW.sr fun K1 hK1=>?_)
  simp
  refine CallDo.pure 0 9 hb (by simp) (by simp) rfl ?_
  simp
  apply hK1
  exact AW.r0 (FinP.rt rfl 4 (by simp))
theorem cutA0_ok (m:Int)(s t:List UInt8)(h:s.length≤9223372036854775807)(hix:CallsP Tryz.prog (GG m) 169 [.c (.d (.str s)),.c (.d (.str t))] (.c (.d (.int .i64 (ctI s t))))):CallsP Tryz.prog (GG m) 128 [.c (.d (.str s)),.c (.d (.str t))] (.tup [.c (.d (.str (ctA s t))),.c (.d (.str (ctB s t))),.c (.d (.bool (decide (0≤ctI s t))))]):=by
 refine CallsP.en Go.Proofs.Tryz.func128 rfl fun _=>AW.q ?_
 refine AW.seqK fun K hK=>AW.sr fun K1 hK1=>?_
 simp
 refine CallDo.pure 0 9 hix (by simp) (by simp) rfl ?_
 simp
 apply hK1
 refine AW.q ?_
 by_cases hi:0≤ctI s t
 ·refine AW.fy (by simp_all) ?_
  obtain⟨n,hn⟩:∃ n:Nat,ctI s t=n:=⟨(ctI s t).toNat,(Int.toNat_of_nonneg hi).symm⟩
  have hr:=Lib.index_room s t (by unfold ctI at hi;exact hi)
  have hr':n+t.length≤s.length:=by unfold ctI at hn;rw [hn] at hr;omega
  have hw:IntKind.i64.wrap ((n:Int)+t.length)=((n+t.length:Nat):Int):=by rw [w64 (by omega) (by omega)];omega
  have hn1:n≤s.length:=by omega
  refine AW.seqK fun K1 hK1=>?_
  refine AW.drawQ mixed (by kernel_rfl) rfl rfl ?_
  simp [hn,hw,hn1,hr',-Int.natCast_add]
  apply hK1
  exact AW.r0 (FinP.t3 rfl 9 (by simp [ctA,hn]) (by simp [ctB,hn]) (by simp [hn]))
 ·refine AW.fn (by simp_all) (AW.skip (hK _ _ (AW.q ?_)))
  exact AW.r0 (FinP.t3 rfl 9 (by simp [ctA,hi]) (by simp [ctB,hi]) (by simp [hi]))
theorem cutA_ok (m:Int)(s t:List UInt8)(h:s.length≤9223372036854775807)(hix:CallsP Tryz.prog (GG m) 169 [.c (.d (.str s)),.c (.d (.str t))] (.c (.d (.int .i64 (ctI s t))))):CallsP Tryz.prog (GG m) 75 [.c (.d (.str s)),.c (.d (.str t))] (.tup [.c (.d (.str (ctA s t))),.c (.d (.str (ctB s t))),.c (.d (.bool (decide (0≤ctI s t))))]):=by
 refine CallsP.en Go.Proofs.Tryz.func75 rfl fun _=>AW.q ?_
 refine AW.sr fun K hK=>?_
 simp
 refine CallDo.pure 0 9 (cutA0_ok m s t h hix) rfl (by simp) rfl ?_
 simp
 apply hK
 exact AW.r0 (FinP.t3 rfl 9 (by simp) (by simp) (by simp))
theorem cut1_ok (m:Int)(s:List UInt8)(c:UInt8):CallsP Tryz.prog (GG m) 75 [.c (.d (.str s)),.c (.d (.str [c]))] (.tup [.c (.d (.str (ctA s [c]))),.c (.d (.str (ctB s [c]))),.c (.d (.bool (decide (0≤ctI s [c]))))]):=by
 refine CallsS.know 0 (by simp) (fun V v h=>(show s.length≤9223372036854775807 by cases h.1 with|str _ hl=>exact hl)) fun hs=>?_
 exact cutA_ok m s [c] hs (index1_ok (GG m) s c)
theorem dw_nil {p:UInt8→Bool}:∀ {l:List UInt8},l.dropWhile p=[]→∀ x∈l,p x=true
 | [],_,x,hx=>by cases hx
 | a::l,h,x,hx=>by
  simp only [List.dropWhile] at h
  split at h
  ·rename_i ha
   rcases List.mem_cons.1 hx with rfl|hx
   ·exact ha
   ·exact dw_nil h x hx
  grind
theorem trimD_nil {s:List UInt8}(h:trimD s=[]):isD s:=by
 have h1:∀ x∈trimRD s,isDg x=true:=dw_nil h
 have h2:∀ x∈s.reverse.dropWhile isDg,isDg x=true:=fun x hx=>h1 x (by unfold trimRD;grind)
 have h3:∀ x∈s.reverse,isDg x=true:=by
  intro x hx
  rw [← List.takeWhile_append_dropWhile (p:=isDg) (l:=s.reverse),List.mem_append] at hx
  rcases hx with hx|hx
  ·have:=List.all_takeWhile (p:=isDg) (l:=s.reverse)
   grind
  ·grind
 intro c hc
 have:=h3 c (List.mem_reverse.2 hc)
 simpa [isDg] using this
theorem rowB_d {s:List UInt8}(h:rowB s=true):isD s∧s≠[]:=by
 unfold rowB at h
 simp only [Bool.and_eq_true,Bool.not_eq_true',decide_eq_false_iff_not,decide_eq_true_eq] at h
 exact⟨trimD_nil h.1.2,h.1.1⟩
abbrev nm0:AV:=nmA false none none
def badB (neg:Bool)(top bot:List UInt8)(brk:Bool):Bool:=!rowB top || (neg && decide (top=[48])) || (brk && (!rowB bot || decide (bot=[48]) || decide (bot=[49])))
abbrev rdO (s:List UInt8):Option (List Nat):=some (dig 4294967296 (decN s 0))
def parseR (neg:Bool)(top bot:List UInt8)(brk:Bool):AV:=
 if badB neg top bot brk=true then .tup [nm0,.c (.d (.int .i64 6))]
 else if 2000<max top.length bot.length then .tup [nm0,.c (.d (.int .i64 3))]
 else if brk=false then .tup [madeA neg (rdO top) (some (dig 4294967296 1)),.c (.d (.int .i64 0))]
 else if val 4294967296 (dO (gO (rdO top) (rdO bot)))=1 then .tup [nmA neg (rdO top) (rdO bot),.c (.d (.int .i64 0))]
 else .tup [nm0,.c (.d (.int .i64 6))]
theorem parseR_dRes (lv:Key→LB)(neg:Bool)(top bot:List UInt8)(brk:Bool):dRes lv (parseR neg top bot brk)=some (parseR neg top bot brk,[]):=by
 have h1:∀ b p q n,dRes lv (.tup [nmA b p q,.c (.d (.int .i64 n))])=some (.tup [nmA b p q,.c (.d (.int .i64 n))],[]):=by
  intro b p q n;cases p <;> cases q <;> rfl
 unfold parseR madeA
 grind
theorem read_row (G:List (List DV)){s:List UInt8}(h:rowB s=true) (hl:s.length≤2000):CallsP Tryz.prog G 77 [.c (.d (.str s))] (.c (nC (rdO s))):=by
 obtain⟨h1,h2⟩:=rowB_d h
 have:=exact_read_ok G s h1 (by omega)
 have e:oO (!s.isEmpty) (decN s 0)=rdO s:=by
  cases s with
  | nil=>grind
  | cons a l=>rfl
 rw [e,nK_nC] at this
 omega
theorem parse_ok (m:Int)(r:List UInt8) :
 CallsP Tryz.prog (GG m) 34 [.c (.d (.str r))] (parseR (hpB r [45]) (ctA (cpS r [45]) [47]) (ctB (cpS r [45]) [47]) (decide (0≤ctI (cpS r [45]) [47]))):=by
 refine CallsS.know 0 (by simp) (fun V v h=>(show r.length≤9223372036854775807 by cases h.1 with|str _ hl=>exact hl)) fun hr=>?_
 have hcl:(cpS r [45]).length≤9223372036854775807:=by
  unfold cpS;split
  ·grind
  ·exact hr
 have hcp:=cutPrefix_ok (GG m) r [45]
 have hct:=cut1_ok m (cpS r [45]) 47
 have hta:(ctA (cpS r [45]) [47]).length≤9223372036854775807:=by
  unfold ctA;split
  ·grind
  ·omega
 have htb:(ctB (cpS r [45]) [47]).length≤9223372036854775807:=by
  unfold ctB;split
  ·grind
  ·simp
 generalize hpB r [45]=neg at *
 generalize cpS r [45]=s at *
 generalize ctA s [47]=top at *
 generalize ctB s [47]=bot at *
 generalize decide (0≤ctI s [47])=brk at *
 refine CallsP.enc Go.Proofs.Tryz.func34 rfl (fun lv=>parseR_dRes lv _ _ _ _) fun _=>AW.q ?_
 refine AW.sr fun K hK=>?_
 simp
 refine CallDo.pure 1 9 hcp rfl (by simp) (by simp) ?_
 simp
 apply hK
 refine AW.sr fun K hK=>?_
 simp
 refine CallDo.pure 1 9 hct rfl (by simp) (by simp) ?_
 simp
 apply hK
 refine AW.seqK fun K hK=>AW.block (AW.seqK fun K1 hK1=>?_)
 have row1:=row_ok m top
 have row2:=row_ok m bot
 have hbad:∀ (fr:Nat→AV) (κ:Nat),fr 2=.c (.ptr 0 0)→fr 22=.c (.d (.bool true))→badB neg top bot brk=true →
  K1 ⟨fr,upd (fun _=>.hole) 0 (.cells true false 27 [.d (.bool false),.d .nilsl,.d .nilsl])⟩ κ:=by
  intro fr κ z2 z22 hb
  apply hK1
  refine AW.fy (by simp_all) (AW.f2 z2 @bNum0 ?_)
  refine AW.ret ?_
  simp only [parseR,if_pos hb]
  refine FinC.cell2 (κ:=0) (T:=27) (t:=2) (u:=3) (k:=0) (off:=0) (own:=true) (fz:=false) (U:=27) (cs:=[.d (.bool false),.d .nilsl,.d .nilsl]) rfl ?_ ?_ ?_ ?_ rfl rfl
  ·simp [z2]
  ·rfl
  ·rfl
  ·simp
 have hgood:∀ (fr:Nat→AV) (κ:Nat),fr 2=.c (.ptr 0 0)→fr 5=.c (.d (.bool neg))→fr 6=.c (.d (.str top))→fr 7=.c (.d (.str bot))→fr 8=.c (.d (.bool brk))→fr 22=.c (.d (.bool false)) →
  rowB top=true→(brk=true→rowB bot=true)→badB neg top bot brk=false →
  K1 ⟨fr,upd (fun _=>.hole) 0 (.cells true false 27 [.d (.bool false),.d .nilsl,.d .nilsl])⟩ κ:=by
  intro fr κ z2 z5 z6 z7 z8 z22 g1 g2 hb
  apply hK1
  refine AW.fn (by simp_all) (AW.seqK fun K2 hK2=>?_)
  have hmx:∀ (a b:Nat),(List.foldl (fun a b:Int=>if a<b then b else a) (a:Int) [(b:Int)])=((max a b:Nat):Int):=by
   intro a b;simp only [List.foldl];split <;> omega
  refine AW.rP ?_
  simp [z6,z7,intsOf,hmx,-List.foldl_cons,-List.foldl_nil]
  apply hK2
  have hbf:¬ badB neg top bot brk=true:=by rw [hb];decide
  by_cases hl:2000<max top.length bot.length
  ·have hl':(2000:Int)<((max top.length bot.length:Nat):Int):=by omega
   refine AW.fy (by simp_all) (AW.f2 z2 @bNum0 ?_)
   refine AW.ret ?_
   simp only [parseR,if_neg hbf,if_pos hl]
   refine FinC.cell2 (κ:=0) (T:=27) (t:=2) (u:=3) (k:=0) (off:=0) (own:=true) (fz:=false) (U:=27) (cs:=[.d (.bool false),.d .nilsl,.d .nilsl]) rfl ?_ ?_ ?_ ?_ rfl rfl
   ·simp [z2]
   ·rfl
   ·rfl
   ·simp
  have hl':¬ (2000:Int)<((max top.length bot.length:Nat):Int):=by omega
  refine AW.fn (by simp_all) (AW.skip (hK _ _ ?_))
  have ht2:top.length≤2000:=by omega
  have hb2:bot.length≤2000:=by omega
  have rd1:=read_row (GG m) g1 ht2
  have hof:=exact_of_ok (GG m) 1 (by decide)
  have c1:can 4294967296 (dO (rdO top)):=dig_can (by decide) _
  have c2:can 4294967296 (dO (some (dig 4294967296 1))):=dig_can (by decide) _
  have dlen:∀ (u:List UInt8),isD u→u.length≤2000→(dO (rdO u)).length<1000000000000:=by
   intro u hu hlu
   have h1:=decN_lt hu
   have h2:(10:Nat) ^ u.length≤4294967296 ^ u.length:=Nat.pow_le_pow_left (by decide) _
   have:=dig_len_le (B:=4294967296) (n:=decN u 0) (m:=u.length) (by decide) (by omega)
   simp only [dO_some]
   omega
  have l1:=dlen top (rowB_d g1).1 ht2
  have l2:(dO (some (dig 4294967296 1))).length<1000000000000:=Nat.lt_of_le_of_lt (dig_len_le (m:=1) (by decide) (by decide)) (by decide)
  refine AW.seqK fun K3 hK3=>AW.f1 z8 ?_
  cases hk:brk with
  | false=>
   rw [hk] at hbf
   have hmade:=exact_made_ok (GG m) neg (rdO top) (some (dig 4294967296 1)) c1 c2 (by intro h;exact absurd ((dig_nil (by decide)).1 h) (by decide)) l1 l2
   simp only [nK_nC] at hmade hof
   refine AW.cy (AW.sr fun K4 hK4=>?_)
   simp [z5,z6]
   refine CallDo.pure κ 9 rd1 (by simp) (by simp) (by simp) ?_
   simp
   refine CallDo.pure κ 9 hof (by simp) (by simp) (by simp) ?_
   simp
   by_cases hz:dO (rdO top)=[]
   ·simp only [madeA,if_pos hz] at hmade
    refine CallDo.pure κ 9 hmade (by simp) (by simp) (by simp) ?_
    simp [z2]
    apply hK4
    refine AW.ret ?_
    simp only [parseR,if_neg hbf,if_neg hl,reduceIte,madeA,if_pos hz]
    refine FinC.cell2 (κ:=0) (T:=27) (t:=2) (u:=3) (k:=0) (off:=0) (own:=true) (fz:=false) (U:=27) (cs:=[.d (.bool false),nC none,nC none]) rfl ?_ ?_ ?_ ?_ rfl rfl
    ·simp [z2]
    ·rfl
    ·rfl
    ·simp
   ·simp only [madeA,if_neg hz] at hmade
    refine CallDo.pure κ 9 hmade (by simp) (by simp) (by simp) ?_
    simp [z2]
    apply hK4
    refine AW.ret ?_
    simp only [parseR,if_neg hbf,if_neg hl,reduceIte,madeA,if_neg hz]
    refine FinC.cell2 (κ:=0) (T:=27) (t:=2) (u:=3) (k:=0) (off:=0) (own:=true) (fz:=false) (U:=27) (cs:=[.d (.bool neg),nC (mP (rdO top) (some (dig 4294967296 1))),nC (mQ (rdO top) (some (dig 4294967296 1)))]) rfl ?_ ?_ ?_ ?_ rfl rfl
    ·simp [z2]
    ·rfl
    ·rfl
    ·simp
  | true=>
   rw [hk] at hbf
   have g3:=g2 hk
   have rd2:=read_row (GG m) g3 hb2
   have c3:can 4294967296 (dO (rdO bot)):=dig_can (by decide) _
   have l3:=dlen bot (rowB_d g3).1 hb2
   have hgcd:=exact_gcd_ok (GG m) (rdO top) (rdO bot) c1 c3 l1 l3
   have his:=exact_is1_ok (GG m) (gO (rdO top) (rdO bot)) (by unfold gO;rw [gcdO_d c1 c3];exact dig_can (by decide) _)
   change CallsP _ _ 80 _ (nK .u32 (gO (rdO top) (rdO bot))) at hgcd
   simp only [nK_nC] at hgcd his
   refine AW.cn (AW.skip (hK3 _ _ (AW.sr fun K4 hK4=>?_)))
   simp [z6]
   refine CallDo.pure κ 9 rd1 (by simp) (by simp) (by simp) ?_
   simp [z7]
   refine CallDo.pure κ 9 rd2 (by simp) (by simp) (by simp) ?_
   simp
   apply hK4
   refine AW.seqK fun K4 hK4=>AW.sr fun K5 hK5=>?_
   simp
   refine CallDo.pure κ 9 hgcd (by simp) (by simp) (by simp) ?_
   simp
   refine CallDo.pure κ 9 his (by simp) (by simp) (by simp) ?_
   simp
   apply hK5
   by_cases h1:val 4294967296 (dO (gO (rdO top) (rdO bot)))=1
   ·refine AW.fn (by simp_all) (AW.skip (hK4 _ _ (AW.f3 z2 z5 @bNum ?_)))
    refine AW.ret ?_
    have hp:parseR neg top bot brk=.tup [nmA neg (rdO top) (rdO bot),.c (.d (.int .i64 0))]:=by rw [hk];unfold parseR;rw [if_neg hbf,if_neg hl,if_neg (by decide),if_pos h1]
    rw [hp]
    refine FinC.cell2 (κ:=0) (T:=27) (t:=2) (u:=3) (k:=0) (off:=0) (own:=true) (fz:=false) (U:=27) (cs:=[.d (.bool neg),nC (rdO top),nC (rdO bot)]) rfl ?_ ?_ ?_ ?_ rfl rfl
    ·simp [z2]
    ·rfl
    ·rfl
    ·simp
   ·refine AW.fy (by simp_all) (AW.f2 z2 @bNum0 ?_)
    refine AW.ret ?_
    have hp:parseR neg top bot brk=.tup [nm0,.c (.d (.int .i64 6))]:=by rw [hk];unfold parseR;rw [if_neg hbf,if_neg hl,if_neg (by decide),if_neg h1]
    rw [hp]
    refine FinC.cell2 (κ:=0) (T:=27) (t:=2) (u:=3) (k:=0) (off:=0) (own:=true) (fz:=false) (U:=27) (cs:=[.d (.bool false),.d .nilsl,.d .nilsl]) rfl ?_ ?_ ?_ ?_ rfl rfl
    ·simp [z2]
    ·rfl
    ·rfl
    ·simp
 refine AW.rP ?_
 simp
 refine CallDo.pure 1 9 row1 (by simp) (by simp) (by simp) ?_
 cases g1:rowB top with
 | false=>
  simp
  exact hbad _ _ (by simp) (by simp) (by simp [badB,g1])
 | true=>
  cases hn:neg with
  | true=>
   by_cases h48:top=[48]
   ·have e48:decide (top=[48])=true:=decide_eq_true h48
    simp [eqStr,e48]
    exact hbad _ _ (by simp) (by simp) (by simp [badB,hn,h48])
   ·cases hk:brk with
    | false=>
     simp [eqStr,h48]
     exact hgood _ _ (by simp) (by simp [hn]) (by simp) (by simp) (by simp [hk]) (by simp) g1 (fun h=>by grind) (by simp [badB,g1,hn,h48,hk])
    | true=>
     simp [eqStr,h48]
     refine CallDo.pure 1 9 row2 (by simp) (by simp) (by simp) ?_
     cases g2:rowB bot with
     | false=>
      simp
      exact hbad _ _ (by simp) (by simp) (by simp [badB,g2,hk])
     | true=>
      by_cases b48:bot=[48]
      ·have e:decide (bot=[48])=true:=decide_eq_true b48
       simp [eqStr,e]
       exact hbad _ _ (by simp) (by simp) (by simp [badB,e,hk])
      ·by_cases b49:bot=[49]
       ·have e:decide (bot=[49])=true:=decide_eq_true b49
        simp [eqStr,b48,e]
        exact hbad _ _ (by simp) (by simp) (by simp [badB,e,hk])
       ·simp [eqStr,b48,b49]
        exact hgood _ _ (by simp) (by simp [hn]) (by simp) (by simp) (by simp [hk]) (by simp) g1 (fun _=>g2) (by simp [badB,g1,hn,h48,hk,g2,b48,b49])
  | false=>
   cases hk:brk with
   | false=>
    simp
    exact hgood _ _ (by simp) (by simp [hn]) (by simp) (by simp) (by simp [hk]) (by simp) g1 (fun h=>by grind) (by simp [badB,g1,hn,hk])
   | true=>
    simp
    refine CallDo.pure 1 9 row2 (by simp) (by simp) (by simp) ?_
    cases g2:rowB bot with
    | false=>
     simp
     exact hbad _ _ (by simp) (by simp) (by simp [badB,g2,hk])
    | true=>
     by_cases b48:bot=[48]
     ·have e:decide (bot=[48])=true:=decide_eq_true b48
      simp [eqStr,e]
      exact hbad _ _ (by simp) (by simp) (by simp [badB,e,hk])
     ·by_cases b49:bot=[49]
      ·have e:decide (bot=[49])=true:=decide_eq_true b49
       simp [eqStr,b48,e]
       exact hbad _ _ (by simp) (by simp) (by simp [badB,e,hk])
      ·simp [eqStr,b48,b49]
       exact hgood _ _ (by simp) (by simp [hn]) (by simp) (by simp) (by simp [hk]) (by simp) g1 (fun _=>g2) (by simp [badB,g1,hn,hk,g2,b48,b49])
def parseE (neg:Bool)(top bot:List UInt8)(brk:Bool):Int:=
 if badB neg top bot brk=true then 6
 else if 2000<max top.length bot.length then 3
 else if brk=false then 0
 else if val 4294967296 (dO (gO (rdO top) (rdO bot)))=1 then 0 else 6
theorem parseR_form (neg:Bool)(top bot:List UInt8)(brk:Bool):∃ b p q,parseR neg top bot brk=.tup [nmA b p q,.c (.d (.int .i64 (parseE neg top bot brk)))]:=by
 unfold parseR parseE madeA
 (repeat' split) <;> exact⟨_,_,_,rfl⟩
theorem exactCheck_ok (m:Int)(r:List UInt8) :
 CallsP Tryz.prog (GG m) 92 [.c (.d (.str r))] (.c (.d (.int .i64 (parseE (hpB r [45]) (ctA (cpS r [45]) [47]) (ctB (cpS r [45]) [47]) (decide (0≤ctI (cpS r [45]) [47])))))):=by
 have hp:=parse_ok m r
 obtain⟨b,p,q,e⟩:=parseR_form (hpB r [45]) (ctA (cpS r [45]) [47]) (ctB (cpS r [45]) [47]) (decide (0≤ctI (cpS r [45]) [47]))
 rw [e] at hp
 generalize parseE (hpB r [45]) (ctA (cpS r [45]) [47]) (ctB (cpS r [45]) [47]) (decide (0≤ctI (cpS r [45]) [47]))=n at *
 have hpu:(AV.tup [nmA b p q,.c (.d (.int .i64 n))]).pure=true:=by cases p <;> cases q <;> rfl
 refine CallsP.en Go.Proofs.Tryz.func92 rfl fun _=>AW.q ?_
 refine AW.sr fun K hK=>?_
 simp
 refine CallDo.pure 0 9 hp hpu (by simp) rfl ?_
 simp
 apply hK
 refine AW.q ?_
 exact AW.r0 (FinP.rt rfl 9 (by simp))
theorem row_ge2 {s:List UInt8}(h:rowB s=true) (h0:s≠[48]) (h1:s≠[49]):2≤decN s 0:=by
 obtain⟨hD,hne⟩:=rowB_d h
 unfold rowB at h
 simp only [Bool.and_eq_true,Bool.or_eq_true,Bool.not_eq_true',decide_eq_true_eq,decide_eq_false_iff_not] at h
 have h4:s.getD 0 0≠48:=by
  rcases h.2 with h3|h3
  ·exact absurd h3 h0
  ·exact h3
 cases s with
 | nil=>grind
 | cons c l=>
  have hc:=hD c (by simp)
  have hc48:c≠48:=h4
  have hcn:c.toNat≠48:=fun e=>hc48 (UInt8.toNat_inj.1 (by rw [e];rfl))
  have e:decN (c::l) 0=(c.toNat - 48)*10 ^ l.length+decN l 0:=by
   show decN l (10*0+(c.toNat - 48))=_
   rw [decN_shift,Nat.mul_zero,Nat.zero_add]
  rw [e]
  cases l with
  | nil=>
   have hc49:c.toNat≠49:=fun e=>h1 (by rw [UInt8.toNat_inj.1 (show c.toNat=(49:UInt8).toNat by rw [e];rfl)])
   grind
  | cons d l=>
   have h10:10≤10 ^ (d::l).length:=by
    rw [List.length_cons,Nat.pow_succ]
    have:=Nat.pow_pos (a:=10) (n:=l.length) (by decide)
    omega
   have:1*10≤(c.toNat - 48)*10 ^ (d::l).length:=Nat.mul_le_mul (by omega) h10
   omega
def ratQ (neg:Bool)(top bot:List UInt8)(brk:Bool):Rat:=if parseE neg top bot brk=0 then mkRat (sgI neg (decN top 0)) (if brk=true then decN bot 0 else 1) else 0
theorem rdO_v (s:List UInt8):(val 4294967296 (dO (rdO s)))=decN s 0:=by show val 4294967296 (dig 4294967296 (decN s 0))=_;rw [val_dig]
theorem rdO_can (s:List UInt8):can 4294967296 (dO (rdO s)):=can_dig _
theorem gO_v (s t:List UInt8):(val 4294967296 (dO (gO (rdO s) (rdO t))))=Nat.gcd (decN s 0) (decN t 0):=by
 unfold gO;rw [gcdO_d (rdO_can s) (rdO_can t),val_dig,rdO_v,rdO_v]
theorem bad_no {neg:Bool}{top bot:List UInt8}{brk:Bool}(h:badB neg top bot brk=false):rowB top=true∧(brk=true→rowB bot=true∧bot≠[48]∧bot≠[49]):=by
 unfold badB at h
 grind
theorem parseR_rat (neg:Bool)(top bot:List UInt8)(brk:Bool):parseR neg top bot brk=.tup [ratV (ratQ neg top bot brk),.c (.d (.int .i64 (parseE neg top bot brk)))]:=by
 by_cases h1:badB neg top bot brk=true
 ·have e:parseE neg top bot brk=6:=by unfold parseE;rw [if_pos h1]
  have e2:ratQ neg top bot brk=0:=by unfold ratQ;rw [e,if_neg (by decide)]
  rw [e,e2];unfold parseR;rw [if_pos h1];rfl
 by_cases h2:2000<max top.length bot.length
 ·have e:parseE neg top bot brk=3:=by unfold parseE;rw [if_neg h1,if_pos h2]
  have e2:ratQ neg top bot brk=0:=by unfold ratQ;rw [e,if_neg (by decide)]
  rw [e,e2];unfold parseR;rw [if_neg h1,if_pos h2];rfl
 obtain⟨g1,g2⟩:=bad_no (by simpa using h1)
 by_cases h3:brk=false
 ·have e:parseE neg top bot brk=0:=by unfold parseE;rw [if_neg h1,if_neg h2,if_pos h3]
  have e2:ratQ neg top bot brk=mkRat (sgI neg (decN top 0)) 1:=by unfold ratQ;rw [e,if_pos rfl,h3];rfl
  rw [e,e2];unfold parseR;rw [if_neg h1,if_neg h2,if_pos h3]
  rw [madeA_rat neg (rdO_can top) (q:=some (dig 4294967296 1)) (can_dig 1) (dig_ne (by decide)),rdO_v,dO_some,val_dig]
 have hb:brk=true:=by simpa using h3
 obtain⟨r1,r2,r3⟩:=g2 hb
 have hge:=row_ge2 r1 r2 r3
 by_cases h4:(val 4294967296 (dO (gO (rdO top) (rdO bot))))=1
 ·have e:parseE neg top bot brk=0:=by unfold parseE;rw [if_neg h1,if_neg h2,if_neg h3,if_pos h4]
  have e2:ratQ neg top bot brk=mkRat (sgI neg (decN top 0)) (decN bot 0):=by unfold ratQ;rw [e,if_pos rfl,hb];rfl
  rw [e,e2];unfold parseR;rw [if_neg h1,if_neg h2,if_neg h3,if_pos h4]
  rw [gO_v] at h4
  have ha:decN top 0≠0:=by intro h0;rw [h0,Nat.gcd_zero_left] at h4;omega
  obtain⟨n1,n2⟩:=mkRat_sg neg (a:=decN top 0) (b:=decN bot 0) (by omega)
  rw [h4,Nat.div_one] at n1 n2
  show AV.tup [nmA neg (some (dig 4294967296 (decN top 0))) (some (dig 4294967296 (decN bot 0))),_]=AV.tup [nmA (decide ((mkRat (sgI neg (decN top 0)) (decN bot 0)).num<0)) (natO (mkRat (sgI neg (decN top 0)) (decN bot 0)).num.natAbs) (denO (mkRat (sgI neg (decN top 0)) (decN bot 0)).den),_]
  rw [n1,n2,sgI_abs,sgI_neg neg ha]
  unfold natO denO
  grind
 ·have e:parseE neg top bot brk=6:=by unfold parseE;rw [if_neg h1,if_neg h2,if_neg h3,if_neg h4]
  have e2:ratQ neg top bot brk=0:=by unfold ratQ;rw [e,if_neg (by decide)]
  rw [e,e2];unfold parseR;rw [if_neg h1,if_neg h2,if_neg h3,if_neg h4];rfl
theorem szR_zero (L:Nat)(h:1≤L):szR 0 L:=⟨by show nl 0≤_;exact Nat.zero_le _,by show nl 1≤_;rw [nl_one];exact h⟩
theorem decN_nl {s:List UInt8}(h:isD s) (hl:s.length≤2000):nl (decN s 0)≤300:=by
 have:=nl_ten (decN_lt h)
 omega
theorem ratQ_sz (neg:Bool)(top bot:List UInt8)(brk:Bool):szR (ratQ neg top bot brk) 300:=by
 unfold ratQ
 split
 ·rename_i h
  have h1:¬ badB neg top bot brk=true:=by
   intro hb;unfold parseE at h;rw [if_pos hb] at h;cases h
  have h2:¬ 2000<max top.length bot.length:=by
   intro hb;unfold parseE at h;rw [if_neg h1,if_pos hb] at h;cases h
  obtain⟨g1,g2⟩:=bad_no (by simpa using h1)
  split
  ·rename_i hb
   obtain⟨r1,r2,r3⟩:=g2 hb
   have hge:=row_ge2 r1 r2 r3
   exact szR_mk _ (by omega) (decN_nl (rowB_d g1).1 (by omega)) (decN_nl (rowB_d r1).1 (by omega))
  ·exact szR_mk _ (by decide) (decN_nl (rowB_d g1).1 (by omega)) (by rw [nl_one];decide)
 ·exact szR_zero _ (by decide)
def ratE (r:List UInt8):Int:=parseE (hpB r [45]) (ctA (cpS r [45]) [47]) (ctB (cpS r [45]) [47]) (decide (0≤ctI (cpS r [45]) [47]))
def ratP (r:List UInt8):Rat:=ratQ (hpB r [45]) (ctA (cpS r [45]) [47]) (ctB (cpS r [45]) [47]) (decide (0≤ctI (cpS r [45]) [47]))
theorem ratP_sz (r:List UInt8):szR (ratP r) 300:=ratQ_sz ..
theorem rat_Parse (m:Int)(r:List UInt8):CallsP Tryz.prog (GG m) 34 [.c (.d (.str r))] (.tup [ratV (ratP r),.c (.d (.int .i64 (ratE r)))]):=by
 have h:=parse_ok m r
 rw [parseR_rat] at h
 exact h
theorem rat_Check (m:Int)(r:List UInt8):CallsP Tryz.prog (GG m) 92 [.c (.d (.str r))] (.c (.d (.int .i64 (ratE r)))):=exactCheck_ok m r
def ofE (lo hi:List UInt8):Int:=if ratE lo≠0 then ratE lo else if ratE hi≠0 then ratE hi else if ratP lo≤ratP hi then 0 else 7
def ofI (lo hi:List UInt8):Iv:=if ofE lo hi=0 then (ratP lo,ratP hi) else (0,0)
theorem ofE_zero {lo hi:List UInt8}:ofE lo hi=0↔ratE lo=0∧ratE hi=0∧ratP lo≤ratP hi:=by
 unfold ofE;(repeat' split) <;> simp_all
theorem ofI_sz (lo hi:List UInt8):(ofI lo hi).sz 300:=by
 unfold ofI;split
 ·exact⟨ratP_sz lo,ratP_sz hi⟩
 ·exact⟨szR_zero _ (by decide),szR_zero _ (by decide)⟩
theorem ofI_le {lo hi:List UInt8}(h:ofE lo hi=0):(ofI lo hi).1≤(ofI lo hi).2:=by
 unfold ofI;rw [if_pos h];exact (ofE_zero.1 h).2.2
theorem szB {x:Rat}(h:szR x 300):szR x 10000000000:=szR_mono h (by decide)
theorem of_ok (m:Int)(lo hi:List UInt8):CallsP Tryz.prog (GG m) 8 [.agg [.d (.str lo),.d (.str hi)]] (.tup [ivV (ofI lo hi),.c (.d (.int .i64 (ofE lo hi)))]):=by
 have c1:=rat_Parse m lo
 have c2:=rat_Parse m hi
 have c3:=iv_From (GG m) (ratP lo) (ratP hi) (szB (ratP_sz lo)) (szB (ratP_sz hi))
 by_cases h1:ratE lo=0
 rotate_left
 ·have e:ofE lo hi=ratE lo:=if_pos h1
  have e2:ofI lo hi=(0,0):=by unfold ofI;rw [e,if_neg h1]
  rw [e2,e]
  generalize ratE lo=n at *
  generalize ratP lo=r at *
  refine CallsP.enc Go.Proofs.Tryz.func8 rfl (fun lv=>iv_dArg2 lv _ _ _ _ _ _ _ rfl) fun _=>AW.q ?_
  refine AW.c0 2 c1 ?_
  refine AW.seqK fun K hK=>AW.f1 h1 ?_
  refine AW.fy (by simp [h1] <;> omega) (AW.f1 @bIv0 ?_)
  exact AW.ret (FinC.iv2 (κ:=0) (t:=2) (k:=1) (u:=3) ⟨rfl,rfl⟩ (by simp) (by simp [setSeg]) (by simp))
 by_cases h2:ratE hi=0
 rotate_left
 ·have e:ofE lo hi=ratE hi:=by unfold ofE;rw [if_neg (not_not_intro h1),if_pos h2]
  have e2:ofI lo hi=(0,0):=by unfold ofI;rw [e,if_neg h2]
  rw [e2,e]
  rw [h1] at c1
  generalize ratE hi=n at *
  generalize ratP lo=r at *
  generalize ratP hi=r2 at *
  refine CallsP.enc Go.Proofs.Tryz.func8 rfl (fun lv=>iv_dArg2 lv _ _ _ _ _ _ _ rfl) fun _=>AW.q ?_
  refine AW.c0 2 c1 ?_
  refine AW.seqK fun K hK=>AW.q ?_
  refine AW.cn (AW.skip (hK _ _ (AW.c0 3 c2 ?_)))
  refine AW.seqK fun K hK=>AW.f1 h2 ?_
  refine AW.fy (by simp [h2] <;> omega) (AW.f1 @bIv0 ?_)
  exact AW.ret (FinC.iv2 (κ:=0) (t:=2) (k:=1) (u:=3) ⟨rfl,rfl⟩ (by simp) (by simp [setSeg]) (by simp))
 have e:ofE lo hi=if ratP lo≤ratP hi then 0 else 7:=by unfold ofE;rw [if_neg (not_not_intro h1),if_neg (not_not_intro h2)]
 have e2:ofI lo hi=fromI (ratP lo) (ratP hi):=by
  unfold ofI fromI;rw [e];split <;> simp_all
 rw [e2,e]
 rw [h1] at c1
 rw [h2] at c2
 generalize (if ratP lo≤ratP hi then (0:Int) else 7)=n at *
 generalize fromI (ratP lo) (ratP hi)=v at *
 generalize ratP lo=r at *
 generalize ratP hi=r2 at *
 refine CallsP.enc Go.Proofs.Tryz.func8 rfl (fun lv=>iv_dArg2 lv _ _ _ _ _ _ _ rfl) fun _=>AW.q ?_
 refine AW.c0 2 c1 ?_
 refine AW.seqK fun K hK=>AW.q ?_
 refine AW.cn (AW.skip (hK _ _ (AW.c0 3 c2 ?_)))
 refine AW.seqK fun K hK=>AW.seqK fun K1 hK1=>AW.rP ?_
 simp
 repeat refine and_o ?_
 apply hK1
 refine AW.cn (AW.skip ?_)
 simp
 repeat refine and_o ?_
 apply hK
 refine AW.c1 4 c3 @setSeg.eq_1 ?_
 exact AW.ret (FinC.iv2 (κ:=0) (t:=2) (k:=1) (u:=3) ⟨rfl,rfl⟩ (by simp) (by simp [setSeg]) (by simp))
end Go.Am
namespace Go.Am
theorem CallsP.ed {P:Program}{G:List (List DV)}{f:FuncId}{fn:Func}{code:Code}{args:List AV}{x:AV}(hf:P.funcs[f]?=some fn) (hb:fn.body=some code)
 (h:∀ z:Ev,AW ⟨P,G,z.w,z.F,z.W,fn.ntmps,fun _=>.hole,z.b,z.d⟩ none code ⟨fun t=>args.getD t .undef,fun _=>.hole⟩ 0 (FinD ⟨P,G,z.w,z.F,z.W,fn.ntmps,fun _=>.hole,z.b,z.d⟩ fn x)) (hl:Nat.ble args.length fn.ntmps=true:=by kernel_rfl):CallsP P G f args x:=
 CallsP.of_AWd hf hb (Nat.le_of_ble_eq_true hl) fun⟨_,_,w,F,W,_,q,b,d⟩ h1 h2 h3 h4=>by cases h1;cases h2;cases h3;cases h4;exact h ⟨w,F,W,fun _=>.hole,b,d⟩
theorem toDVs_d {lv:Key→LB}{n:Nat}:∀ (l:List DV),toDVs (toDV lv n) (l.map CV.d)=some (l,[])
 | []=>rfl
 | x::l=>by
  have ih:=toDVs_d (lv:=lv) (n:=n) l
  simp only [List.map_cons,toDVs] at ih ⊢
  rw [ih]
  cases n <;> rfl
theorem chunk_flat {α:Type}{sz:Nat}:∀ (es:List (List α)),(∀ e∈es,e.length=sz)→chunk sz es.length es.flatten=es
 | [],_=>rfl
 | e::es,h=>by
  have he:e.length=sz:=h e (by simp)
  have ih:=chunk_flat es fun x hx=>h x (by simp [hx])
  have hlen:es.flatten.length=es.length*sz:=by
   rw [List.length_flatten]
   have:∀ l:List (List α),(∀ e∈l,e.length=sz)→(l.map List.length).sum=l.length*sz:=by
    intro l
    induction l with
    | nil=>simp
    | cons a l ih=>grind
   exact this es fun x hx=>h x (by simp [hx])
  unfold chunk at ih ⊢
  rw [List.length_cons,List.range_succ_eq_map,List.map_cons,List.map_map]
  congr 1
  ·grind
  ·conv=>rhs;rw [← ih]
   apply List.map_congr_left
   intro i _
   simp only [Function.comp,List.flatten_cons]
   have:(i+1)*sz=e.length+i*sz:=by rw [he,Nat.succ_mul];omega
   rw [Nat.succ_eq_add_one,this,List.drop_append,List.drop_eq_nil_of_le (by omega),Nat.add_sub_cancel_left,List.nil_append]
theorem dRes_sl {lv:Key→LB}{k:Key}{own fz:Bool}{T:TypeId}{es:List (List DV)}{sz:Nat}(h:lv k=.cells own fz T (es.flatten.map CV.d)) (hs:∀ e∈es,e.length=sz) (hl:es.length≤9223372036854775807) :
 dRes lv (.c (.lsl k 0 es.length sz))=some (.c (.d (.sl es)),[k]):=by
 have hlen:es.flatten.length=es.length*sz:=by
  rw [List.length_flatten]
  have:∀ l:List (List DV),(∀ e∈l,e.length=sz)→(l.map List.length).sum=l.length*sz:=by
   intro l
   induction l with
   | nil=>simp
   | cons a l ih=>grind
  exact this es hs
 have ht:(es.flatten.map CV.d).take (es.length*sz)=es.flatten.map CV.d:=List.take_of_length_le (by grind)
 simp only [dRes,dArg,toDV,h,List.length_map,hlen,Nat.zero_add,Nat.le_refl,hl,and_self,if_true,List.drop_zero,ht,toDVs_d,Option.map_some,chunk_flat es hs]
end Go.Am
namespace Go.Am
open Go.Am.Ty Go.Proofs N
theorem upd_hl {lv:Key→LB}{k:Key}(h:lv k=.hole):upd lv k .hole=lv:=by
 funext j
 simp_all
theorem ixA' {P:Program}{T:TypeId}{lv:Key→LB}{o:Option (List (List DV))}{k:Int}{sz:Nat}{e:List DV}(h:(slT P T).map (·.2)=some sz) (h0:0≤k) (hi:k<(sO o).length) (he:(sO o).getD k.toNat []=e) (hs:e.length=sz) :
 stepIndexAddr P T lv (slA o) (.c (.d (.int .i64 k)))=some (.c (.d (.ptr e)),[],[],True):=by
 obtain⟨i,rfl⟩:∃ i:Nat,k=i:=⟨k.toNat,by omega⟩
 have hi':i<(sO o).length:=by omega
 have e1:(sO o)[i]=e:=by rw [← he,Int.toNat_natCast,List.getD_eq_getElem?_getD,List.getElem?_eq_getElem hi'];rfl
 rw [ix_slA h hi' (by rw [e1];exact hs),e1]
abbrev Sp:=List UInt8 × List UInt8
@[simp] theorem sp_pure (a b:List UInt8):(AV.agg [.d (.str a),.d (.str b)]).pure=true:=rfl
def spD (s:Sp):List DV:=[.str s.1,.str s.2]
def bxO (b:Option (List Sp)):Option (List (List DV)):=b.map (·.map spD)
def bxL (b:Option (List Sp)):List Sp:=b.getD []
theorem bxO_len (b:Option (List Sp)):(sO (bxO b)).length=(bxL b).length:=by cases b <;> simp [bxO,bxL,sO]
theorem lpBx (lv:Key→LB)(b:Option (List Sp)):lenP Tryz.prog 23 lv (.c (scC (bxO b)))=some (.c (.d (.int .i64 (bxL b).length)),[],[],True):=by
 rw [← bxO_len];exact lenP_slA (by simp)
theorem ixBx (lv:Key→LB)(b:Option (List Sp)){i:Nat}(hi:i<(bxL b).length):stepIndexAddr Tryz.prog 23 lv (.c (scC (bxO b))) (.c (.d (.int .i64 (i:Int))))=some (.c (.d (.ptr (spD (bxL b)[i]))),[],[],True):=by
 refine ixA' (sz:=2) (by simp) (by omega) (by rw [bxO_len];omega) ?_ rfl
 cases b with
 | none=>cases hi
 | some l=>
  have hi':i<l.length:=hi
  rw [Int.toNat_natCast]
  show (l.map spD).getD i []=spD l[i]
  rw [List.getD_eq_getElem?_getD,List.getElem?_map,List.getElem?_eq_getElem hi'];rfl
@[simp] theorem scC_pure' (o:Option (List (List DV))):(AV.c (scC o)).pure=true:=by cases o <;> rfl
@[simp] theorem scC_ren' (o:Option (List (List DV)))(g:Key→Key):(scC o).ren g=scC o:=by cases o <;> rfl
@[simp] theorem scC_flat1' (o:Option (List (List DV))):(AV.c (scC o)).flat1=true:=by cases o <;> rfl
@[simp] theorem scC_noTup (o:Option (List (List DV))):(AV.c (scC o)).noTup=true:=rfl
def ivD (a:Iv):List DV:=[.bool (decide (a.1.num<0)),nD (natO a.1.num.natAbs),nD (denO a.1.den),.bool (decide (a.2.num<0)),nD (natO a.2.num.natAbs),nD (denO a.2.den)]
theorem ivD_map (a:Iv):(ivD a).map CV.d=[.d (.bool (decide (a.1.num<0))),nC (natO a.1.num.natAbs),nC (denO a.1.den),.d (.bool (decide (a.2.num<0))),nC (natO a.2.num.natAbs),nC (denO a.2.den)]:=by simp only [nC_nD];rfl
def iK (l:List Iv):List CV:=(l.map ivD).flatten.map CV.d
def iB (l:List Iv):LB:=if l=[] then .hole else .cells true false 29 (iK l)
def iS (l:List Iv):AV:=if l=[] then .c (.d .nilsl) else .c (.lsl 0 0 l.length 6)
def iO (l:List Iv):Option (List (List DV)):=if l=[] then none else some (l.map ivD)
theorem flat_len6 {l:List (List DV)}{z:Nat}(h:∀ e∈l,e.length=z):l.flatten.length=l.length*z:=by
 induction l with
 | nil=>simp
 | cons a l ih=>
  rw [List.flatten_cons,List.length_append,ih fun e he=>h e (List.mem_cons_of_mem _ he),h a (List.mem_cons_self ..),List.length_cons,Nat.succ_mul];omega
theorem iK_len (l:List Iv):(iK l).length=l.length*6:=by
 unfold iK;rw [List.length_map,flat_len6 (z:=6) (by intro e he;obtain⟨a,_,rfl⟩:=List.mem_map.1 he;rfl),List.length_map]
theorem iK_snoc (l:List Iv)(a:Iv):iK l++[.d (.bool (decide (a.1.num<0))),nC (natO a.1.num.natAbs),nC (denO a.1.den),.d (.bool (decide (a.2.num<0))),nC (natO a.2.num.natAbs),nC (denO a.2.den)]=iK (l++[a]):=by
 unfold iK;rw [← ivD_map];simp
theorem iB_snoc (l:List Iv)(a:Iv):iB (l++[a])=.cells true false 29 (iK (l++[a])):=by
 unfold iB;rw [if_neg (by simp)]
theorem iS_snoc (l:List Iv)(a:Iv):iS (l++[a])=.c (.lsl 0 0 (l.length+1) 6):=by
 unfold iS;rw [if_neg (by simp)];simp
theorem iK_ren (l:List Iv)(g:Key→Key):(iK l).map (CV.ren g)=iK l:=by
 unfold iK;rw [List.map_map];rfl
theorem bsIv (lv:Key→LB)(κ:Key)(h:lv κ=.hole)(a b c d e f:CV):stepBuildSlice Tryz.prog 89 1 [0] lv κ [.agg [a,b,c,d,e,f]]=some (.c (.lsl κ 0 1 6),[(κ,.cells true false 29 [a,b,c,d,e,f])],[],True):=by
 unfold stepBuildSlice;rw [h];kernel_rfl
def bxE:List Sp→Int→Int
 | [],w=>w
 | s::l,w=>if ofE s.1 s.2=7 then bxE l 7 else if ofE s.1 s.2≠0 then ofE s.1 s.2 else bxE l w
def bxI (l:List Sp):List Iv:=l.map fun s=>ofI s.1 s.2
theorem FinD.tmp2' {c:Ctx}{fn:Func}{x X Y:AV}{t u:Nat}{s:LSt}{κ:Nat}{ks:List Key}(hr:fn.results=#[.tmp t,.tmp u]) (hx:s.fr t=X) (hy:s.fr u=Y) (hn:X.noTup=true) (hm:Y.noTup=true) (hd:dRes s.lv (.tup [X,Y])=some (x,ks)):FinD c fn x .ret s κ:=
 ⟨.tup [X,Y],ks,by rw [hr];simp [resA,resL,resV,hx,hy,hn,hm],hd⟩
theorem FinD.tmp3' {c:Ctx}{fn:Func}{x X Y Z:AV}{t u v:Nat}{s:LSt}{κ:Nat}{ks:List Key}(hr:fn.results=#[.tmp t,.tmp u,.tmp v]) (hx:s.fr t=X) (hy:s.fr u=Y) (hz:s.fr v=Z) (hn:X.noTup=true) (hm:Y.noTup=true) (ho:Z.noTup=true) (hd:dRes s.lv (.tup [X,Y,Z])=some (x,ks)):FinD c fn x .ret s κ:=
 ⟨.tup [X,Y,Z],ks,by rw [hr];simp [resA,resL,resV,hx,hy,hz,hn,hm,ho],hd⟩
theorem dRes2 {lv:Key→LB}{x:CV}{x':AV}{ks:List Key}{e:Int}(h:dRes lv (.c x)=some (x',ks)):dRes lv (.tup [.c x,.c (.d (.int .i64 e))])=some (.tup [x',.c (.d (.int .i64 e))],ks):=by
 have h:dArg lv (.c x)=some (x',ks):=h
 have he:dArg lv (AV.c (CV.d (DV.int IntKind.i64 e)))=some (.c (.d (.int .i64 e)),[]):=rfl
 simp [dRes,dArgs,h,he]
theorem dRes_iK {lv:Key→LB}{k:Key}{own fz:Bool}{T:TypeId}{l:List Iv}(h:lv k=.cells own fz T (iK l)) (hl:l.length≤9223372036854775807) (h0:l≠[]):dRes lv (.c (.lsl k 0 l.length 6))=some (.c (scC (iO l)),[k]):=by
 have:=dRes_sl (es:=l.map ivD) (sz:=6) h (by intro e he;obtain⟨a,_,rfl⟩:=List.mem_map.1 he;rfl) (by rw [List.length_map];exact hl)
 rw [List.length_map] at this
 rw [this];unfold iO;rw [if_neg h0];rfl
theorem take_bxI {L:List Sp}{i:Nat}(h:i<L.length):bxI (L.take (i+1))=bxI (L.take i)++[ofI L[i].1 L[i].2]:=by
 rw [List.take_add_one,List.getElem?_eq_getElem h];unfold bxI;rw [List.map_append];rfl
theorem boxed_ok (m:Int)(b:Option (List Sp))(hb:(bxL b).length≤1048576):CallsP Tryz.prog (GG m) 43 [.c (scC (bxO b))] (.tup [.c (scC (if bxE (bxL b) 0=0 then iO (bxI (bxL b)) else none)),.c (.d (.int .i64 (bxE (bxL b) 0)))]):=by
 have hlp:=fun lv=>lpBx lv b
 have hix:=fun lv {i:Nat}(hi:i<(bxL b).length)=>ixBx lv b hi
 refine CallsP.ed Go.Proofs.Tryz.func43 rfl fun _=>AW.q ?_
 refine AW.q ?_
 refine AW.q ?_
 refine AW.seqK fun K hK=>AW.f1 hlp ?_
 refine AW.block ?_
 refine AW.loopV (fun (d:Nat × Int)=>⟨frOf [(4,iS (bxI ((bxL b).take d.1))),(5,.c (.d (.int .i64 d.2))),(10,.c (scC (bxO b))),(11,.c (.d (.int .i64 (bxL b).length))),(12,.c (.d (.int .i64 d.1)))],upd (fun _=>.hole) 0 (iB (bxI ((bxL b).take d.1)))⟩) 1
  (fun d=>d.1≤(bxL b).length∧bxE ((bxL b).drop d.1) d.2=bxE (bxL b) 0) (fun d=>(bxL b).length - d.1) (0,0) (Le.mk2 _ (by simp only [List.take_zero,bxI,List.map_nil,iB,if_true];exact (upd_hl rfl).symm) (by simp [iS,bxI])) ⟨Nat.zero_le _,rfl⟩ ?_
 rintro⟨i,w⟩ ⟨hi,hb2⟩
 try simp only at hi hb2 ⊢
 refine AW.q ?_
 refine AW.seqK fun K2 hK2=>?_
 by_cases hlt:i<(bxL b).length
 ·have hlt':(i:Int)<((bxL b).length:Int):=by omega
  have hx:=fun lv=>hix lv hlt
  have hnx:=take_bxI hlt
  have hll:(bxI ((bxL b).take i)).length=i:=by unfold bxI;rw [List.length_map,List.length_take];omega
  have f12:=w64 (n:=(i:Int)+1) (by omega) (by omega)
  have hd:(bxL b).drop i=(bxL b)[i]::(bxL b).drop (i+1):=List.drop_eq_getElem_cons hlt
  rw [hd] at hb2
  have hof:=of_ok m (bxL b)[i].1 (bxL b)[i].2
  generalize (bxL b)[i]=s at *
  generalize bxI ((bxL b).take i)=l at *
  refine AW.fy (by simp [hlt'] <;> omega) (AW.skip (hK2 _ _ (AW.seqK fun K5 hK5=>AW.block (AW.sr fun K6 hK6=>?_))))
  simp [hx,spD]
  repeat refine and_o ?_
  apply hK6
  refine AW.c1 10 hof @setSeg.eq_1 ?_
  refine AW.seqK fun K6 hK6=>AW.q ?_
  by_cases h7:ofE s.1 s.2=7
  ·have hb1:bxE (s::(bxL b).drop (i+1)) w=bxE ((bxL b).drop (i+1)) 7:=if_pos h7
   have hE:=h7
   refine AW.fy (by simp [h7] <;> omega) (AW.l0 (hK6 _ _ ?_))
   by_cases hl:l=[]
   ·subst hl
    refine AW.rP ?_
    simp [iB,iS,bsIv,srcA,keyOf,setSeg,-stepBuildSlice]
    repeat refine and_o ?_
    apply hK5
    refine AW.rP ?_
    simp [f12]
    exact⟨i+1,7,Le.keys [(0,13,iB ([]++[ofI s.1 s.2]))] 19 _ (by rw [hnx];rfl) rfl (by simp) (by simp) (by simp) (by
     intro e he
     simp only [List.mem_cons,List.not_mem_nil,or_false] at he
     subst he
     rw [iB_snoc]
     simp [iK,ivD_map]) (by rw [hnx,iS_snoc];simp [kmap,hE]),⟨by omega,hb1.symm.trans hb2⟩,by omega⟩
   ·have hzb:iB l=.cells true false 29 (iK l):=if_neg hl
    have hzs:iS l=.c (.lsl 0 0 l.length 6):=if_neg hl
    have hzl:=iK_len l
    refine AW.rP ?_
    simp [hzb,hzs,bsIv,srcA,keyOf,hzl,setSeg,-stepBuildSlice]
    repeat refine and_o ?_
    apply hK5
    refine AW.rP ?_
    simp [f12]
    exact⟨i+1,7,Le.keys [(0,13,iB (l++[ofI s.1 s.2]))] 19 _ (by rw [hnx];rfl) rfl (by simp) (by simp) (by simp) (by
     intro e he
     simp only [List.mem_cons,List.not_mem_nil,or_false] at he
     subst he
     rw [iB_snoc,← iK_snoc]
     simp [iK_ren]) (by rw [hnx,iS_snoc];simp [kmap,hE]),⟨by omega,hb1.symm.trans hb2⟩,by omega⟩
  by_cases h0:ofE s.1 s.2=0
  ·have hb1:bxE (s::(bxL b).drop (i+1)) w=bxE ((bxL b).drop (i+1)) w:=by rw [bxE,if_neg h7,if_neg (not_not_intro h0)]
   have hE:=h0
   refine AW.fn (by simp [h7] <;> omega) (AW.q ?_)
   refine AW.fn (by simp [h0] <;> omega) (AW.skip (hK6 _ _ ?_))
   by_cases hl:l=[]
   ·subst hl
    refine AW.rP ?_
    simp [iB,iS,bsIv,srcA,keyOf,setSeg,-stepBuildSlice]
    repeat refine and_o ?_
    apply hK5
    refine AW.rP ?_
    simp [f12]
    exact⟨i+1,w,Le.keys [(0,13,iB ([]++[ofI s.1 s.2]))] 19 _ (by rw [hnx];rfl) rfl (by simp) (by simp) (by simp) (by
     intro e he
     simp only [List.mem_cons,List.not_mem_nil,or_false] at he
     subst he
     rw [iB_snoc]
     simp [iK,ivD_map]) (by rw [hnx,iS_snoc];simp [kmap,hE]),⟨by omega,hb1.symm.trans hb2⟩,by omega⟩
   ·have hzb:iB l=.cells true false 29 (iK l):=if_neg hl
    have hzs:iS l=.c (.lsl 0 0 l.length 6):=if_neg hl
    have hzl:=iK_len l
    refine AW.rP ?_
    simp [hzb,hzs,bsIv,srcA,keyOf,hzl,setSeg,-stepBuildSlice]
    repeat refine and_o ?_
    apply hK5
    refine AW.rP ?_
    simp [f12]
    exact⟨i+1,w,Le.keys [(0,13,iB (l++[ofI s.1 s.2]))] 19 _ (by rw [hnx];rfl) rfl (by simp) (by simp) (by simp) (by
     intro e he
     simp only [List.mem_cons,List.not_mem_nil,or_false] at he
     subst he
     rw [iB_snoc,← iK_snoc]
     simp [iK_ren]) (by rw [hnx,iS_snoc];simp [kmap,hE]),⟨by omega,hb1.symm.trans hb2⟩,by omega⟩
  ·have hb1:bxE (s::(bxL b).drop (i+1)) w=ofE s.1 s.2:=by rw [bxE,if_neg h7,if_pos h0]
   have hbe:bxE (bxL b) 0=ofE s.1 s.2:=hb2.symm.trans hb1
   refine AW.fn (by simp [h7] <;> omega) (AW.q ?_)
   refine AW.fy (by simp [h0] <;> omega) (AW.q ?_)
   rw [hbe,if_neg h0]
   exact AW.ret (κ:=0) (FinD.tmp2' (κ:=0) (X:=.c (.d .nilsl)) (Y:=.c (.d (.int .i64 (ofE s.1 s.2)))) (ks:=[]) rfl (by simp) (by simp) rfl rfl rfl)
 have hlt':¬ (i:Int)<((bxL b).length:Int):=by omega
 have hie:i=(bxL b).length:=by omega
 subst hie
 have hw:bxE (bxL b) 0=w:=by rw [← hb2,List.drop_length];rfl
 rw [List.take_length]
 refine AW.fn (by simp [hlt'] <;> omega) (AW.exit (hK _ _ (AW.seqK fun K hK=>AW.q ?_)))
 by_cases h0:w=0
 ·subst h0
  refine AW.cn (AW.skip (hK _ _ (AW.q ?_)))
  rw [hw,if_pos rfl]
  by_cases hl:bxI (bxL b)=[]
  ·rw [hl]
   exact AW.ret (κ:=0) (FinD.tmp2' (κ:=0) (X:=.c (.d .nilsl)) (Y:=.c (.d (.int .i64 0))) (ks:=[]) rfl (by simp [iS,hl]) (by simp) rfl rfl rfl)
  ·have hzb:iB (bxI (bxL b))=.cells true false 29 (iK (bxI (bxL b))):=if_neg hl
   have hzs:iS (bxI (bxL b))=.c (.lsl 0 0 (bxI (bxL b)).length 6):=if_neg hl
   exact AW.ret (κ:=0) (FinD.tmp2' (κ:=0) (Y:=.c (.d (.int .i64 0))) rfl (by simp [hzs]) (by simp) rfl rfl (dRes2 (e:=0) (dRes_iK (k:=0) (own:=true) (fz:=false) (T:=29) (by simp [hzb]) (by simp [bxI];omega) hl)))
 ·refine AW.fy (by simp [h0] <;> omega) (AW.q ?_)
  rw [hw,if_neg h0]
  exact AW.ret (κ:=0) (FinD.tmp2' (κ:=0) (X:=.c (.d .nilsl)) (Y:=.c (.d (.int .i64 w))) (ks:=[]) rfl (by simp) (by simp) rfl rfl rfl)
theorem iO_len (l:List Iv):(sO (iO l)).length=l.length:=by unfold iO;split <;> simp_all [sO]
theorem lpIv (lv:Key→LB)(l:List Iv):lenP Tryz.prog 89 lv (.c (scC (iO l)))=some (.c (.d (.int .i64 l.length)),[],[],True):=by
 rw [← iO_len l];exact lenP_slA (by simp)
theorem ixIv (lv:Key→LB)(l:List Iv){i:Nat}(hi:i<l.length):stepIndexAddr Tryz.prog 89 lv (.c (scC (iO l))) (.c (.d (.int .i64 (i:Int))))=some (.c (.d (.ptr (ivD l[i]))),[],[],True):=by
 refine ixA' (sz:=6) (by simp) (by omega) (by rw [iO_len];omega) ?_ rfl
 have hl:l≠[]:=by intro e;subst e;cases hi
 rw [Int.toNat_natCast]
 unfold iO;rw [if_neg hl]
 show (l.map ivD).getD i []=ivD l[i]
 rw [List.getD_eq_getElem?_getD,List.getElem?_map,List.getElem?_eq_getElem hi];rfl
theorem nD_C (o:Option (List Nat)):CV.d (nD o)=nC o:=(nC_nD o).symm
def Iv.z (a:Iv):Prop:=szR a.1 300∧szR a.2 300
theorem Iv.z_sub {a:Iv}(h:a.z):szR (a.2 - a.1) 601:=by
 rw [Rat.sub_eq_add_neg];exact szR_add h.2 (szR_neg h.1)
theorem bxI_z (l:List Sp):∀ a∈bxI l,a.z:=by
 intro a ha
 obtain⟨s,_,rfl⟩:=List.mem_map.1 ha
 exact ofI_sz s.1 s.2
theorem width_ok (G:List (List DV))(a:Iv)(h:a.z):CallsP Tryz.prog G 104 [ivV a] (ratV (a.2 - a.1)):=by
 have c1:=rat_Sub G a.2 a.1 (szB h.2) (szB h.1)
 obtain⟨a1,a2⟩:=a
 simp only at c1
 refine CallsP.enc Go.Proofs.Tryz.func104 rfl (fun lv=>nC_dArg lv _ _ _) fun _=>AW.q ?_
 refine AW.c1 4 c1 @setSeg.eq_1 ?_
 exact AW.ret (FinC.num (κ:=0) (t:=2) (k:=1) ⟨rfl,rfl⟩ (by simp) (by simp [setSeg]))
theorem lnK_ren (k:Key)(frm step n:Nat)(g:Key→Key)(h:g k=k):(lnK k frm step n).map (CV.ren g)=lnK k frm step n:=by
 unfold lnK
 rw [List.map_map]
 refine List.map_congr_left fun i _=>?_
 show CV.ptr (g k) _=_
 rw [h]
def ups (c:Sq)(frm step n:Nat)(b:Sq):Sq:=fun j=>if frm≤j∧(j - frm) % step=0∧(j - frm) / step≤n then b ((j - frm) / step) else c j
section
variable {c:Sq}{frm step n:Nat}
theorem ups_at (hs:0<step)(b:Sq){i:Nat}(h:i≤n):ups c frm step n b (frm+i*step)=b i:=by
 unfold ups
 have e:frm+i*step - frm=i*step:=by omega
 rw [e,if_pos ⟨by omega,Nat.mul_mod_left _ _,by rw [Nat.mul_div_cancel _ hs];exact h⟩,Nat.mul_div_cancel _ hs]
theorem ups_set (hs:0<step)(b:Sq){i:Nat}(h:i≤n) (v:Rat):(fun j=>if j=frm+i*step then v else ups c frm step n b j)=ups c frm step n (fun k=>if k=i then v else b k):=by
 funext j
 by_cases e:j=frm+i*step
 ·subst e
  rw [if_pos rfl,ups_at hs _ h,if_pos rfl]
 ·rw [if_neg e]
  unfold ups
  split
  ·rename_i h2
   have hd:=Nat.div_mul_cancel (Nat.dvd_of_mod_eq_zero h2.2.1)
   have hne:(j - frm) / step≠i:=fun e2=>by rw [e2] at hd;omega
   show _=if (j - frm) / step=i then v else _
   rw [if_neg hne]
  ·rfl
theorem ups_ext {b b':Sq}(h:∀ k,k≤n→b k=b' k):ups c frm step n b=ups c frm step n b':=by
 funext j
 unfold ups
 split
 ·rename_i h2;exact h _ h2.2.2
 ·rfl
theorem ups_self (hs:0<step):ups c frm step n (fun k=>c (frm+k*step))=c:=by
 funext j
 unfold ups
 split
 ·rename_i h2
  have hd:=Nat.div_mul_cancel (Nat.dvd_of_mod_eq_zero h2.2.1)
  show c (frm+(j - frm) / step*step)=c j
  rw [hd]
  congr 1
  omega
 ·rfl
end
theorem convert_ok (m:Int)(c:Sq)(M frm step n:Nat)(a:Iv)(hs:0<step)(hM:frm+n*step<M)(hM2:M≤1000)(hn:n≤600){L:Nat}(hL:L≤1000000000)
 (h1:∀ i k j,i≤n→j≤n→szR (hzS a.1 n (fun k=>c (frm+k*step)) i k j) L) (hz:a.z) (hL3:1000≤L)
 (h2:∀ k,k≤n→szR (scl n (a.2 - a.1) k) L) (h3:∀ k j,j≤n→szR (hzM n a.1 (a.2 - a.1) (fun k=>c (frm+k*step)) k j) L)
 (h4:∀ i k j,j≤n→0<i∨k=0→szR (hzP (fun k=>shf a.1 n (fun k=>c (frm+k*step)) k*scl n (a.2 - a.1) k) i k j) L) :
 CallsS Tryz.prog (GG m) 59 [.c (.lsl 0 0 (n+1) 1),ivV a] [.cells false false 105 (lnK 1 frm step n),.cells false false 27 (qK c M)]
  (.ret (.tup []) [.cells false false 105 (lnK 1 frm step n),.cells false false 27 (qK (ups c frm step n (cnv n a.1 (a.2 - a.1) (fun k=>c (frm+k*step)))) M)] []):=by
 have hlo:szR a.1 L:=szR_mono hz.1 (by omega)
 generalize hA:(fun k=>c (frm+k*step))=A at *
 have wn:IntKind.i64.wrap ((((n+1:Nat):Int)) - 1)=(n:Int):=by rw [w64 (by omega) (by omega)];omega
 have wn0:IntKind.i64.wrap (n:Int)=(n:Int):=w64 (by omega) (by omega)
 have hσ:lvOf [.cells false false 105 (lnK 1 frm step n),.cells false false 27 (qK c M)] []=upd (upd (fun _=>.hole) 0 (.cells false false 105 (lnK 1 frm step n))) 1 (.cells false false 27 (qK c M)):=by
  funext k;match k with|0=>rfl|1=>rfl|k+2=>simp [lvOf,upd]
 refine CallsS.enm Go.Proofs.Tryz.func59 rfl hσ fun _=>?_
 refine AW.at0 10 ?_
 refine AW.q ?_
 refine AW.f1 wn ?_
 refine AW.seqK fun K hK=>AW.seqK fun K1 hK1=>AW.rP ?_
 simp
 repeat refine and_o ?_
 apply hK1
 refine AW.block ?_
 refine AW.loopV (fun (i:Nat)=>⟨frOf [(0,.c (.lsl 0 0 (n+1) 1)),(3,.c (.ptr 10 0)),(4,.c (.d (.int .i64 n))),(14,.c (.d (.int .i64 n))),(15,.c (.d (.int .i64 i)))],
  upd (upd (upd (fun _=>.hole) 0 (.cells false false 105 (lnK 1 frm step n))) 1 (.cells false false 27 (qK (ups c frm step n (hzS a.1 n A i n)) M))) 10 (.cells true false 29 [.d (.bool (decide (a.1.num<0))),nC (natO a.1.num.natAbs),nC (denO a.1.den),.d (.bool (decide (a.2.num<0))),nC (natO a.2.num.natAbs),nC (denO a.2.den)])⟩) 20
  (fun i=>i≤n) (fun i=>n - i) 0 (Le.mk' _ (by
   have e:ups c frm step n (hzS a.1 n A 0 n)=c:=by
    rw [ups_ext (b':=fun k=>c (frm+k*step)) fun k hk=>by rw [hzS_zero _ _ _ hk,← hA],ups_self hs]
   simp only [e]) (by repeat (first|exact noMap_hole|refine noMap_upd ?_ _ _ _ _ _|(refine noMap_upd_dead ?_ _)|(refine noMap_blS ?_ _ _ _)|(refine noMap_upd_nils ?_ _)|simp)) (by simp [wn0])) (Nat.zero_le _) ?_
 rintro i hi
 try simp only at hi ⊢
 refine AW.q ?_
 refine AW.seqK fun K2 hK2=>?_
 by_cases hlt:i<n
 ·have hlt':(i:Int)<(n:Int):=by omega
  have f15:=w64 (n:=(i:Int)+1) (by omega) (by omega)
  have f6:=w64 (n:=(n:Int) - 1) (by omega) (by omega)
  refine AW.fy (by simp [hlt'] <;> omega) (AW.skip (hK2 _ _ (AW.seqK fun K4 hK4=>AW.block (AW.seqK fun K5 hK5=>AW.rP ?_))))
  simp
  repeat refine and_o ?_
  apply hK5
  refine AW.seqK fun K5 hK5=>AW.rP ?_
  simp [f6]
  repeat refine and_o ?_
  apply hK5
  refine AW.block ?_
  refine AW.loopV (fun (p:Nat)=>⟨frOf [(0,.c (.lsl 0 0 (n+1) 1)),(3,.c (.ptr 10 0)),(4,.c (.d (.int .i64 n))),(14,.c (.d (.int .i64 n))),(15,.c (.d (.int .i64 i))),(5,.c (.d (.int .i64 i))),(6,.c (.d (.int .i64 ((p:Int) - 1))))],
   upd (upd (upd (fun _=>.hole) 0 (.cells false false 105 (lnK 1 frm step n))) 1 (.cells false false 27 (qK (ups c frm step n (hzS a.1 n A i p)) M))) 10 (.cells true false 29 [.d (.bool (decide (a.1.num<0))),nC (natO a.1.num.natAbs),nC (denO a.1.den),.d (.bool (decide (a.2.num<0))),nC (natO a.2.num.natAbs),nC (denO a.2.den)])⟩) 20
   (fun p=>i≤p∧p≤n) (fun p=>p) n (Le.mk2 _) ⟨hi,Nat.le_refl _⟩ ?_
  rintro p ⟨hp,hpn⟩
  try simp only at hp hpn ⊢
  refine AW.seqK fun K6 hK6=>AW.q ?_
  by_cases hip:i<p
  ·obtain⟨k,rfl⟩:∃ k,p=k+1:=⟨p - 1,by omega⟩
   have ek:(((k+1:Nat):Int)) - 1=(k:Int):=by omega
   have hik:(i:Int)≤(k:Int):=by omega
   have fk1:IntKind.i64.wrap ((k:Int)+1)=(k:Int)+1:=w64 (by omega) (by omega)
   have fk:IntKind.i64.wrap ((k:Int) - 1)=(k:Int) - 1:=w64 (by omega) (by omega)
   rw [ek]
   refine AW.fy (by simp [hik] <;> omega) (AW.skip (hK6 _ _ ?_))
   obtain⟨lv,hlv⟩:∃ lv,upd (upd (upd (fun _=>LB.hole) 0 (.cells false false 105 (lnK 1 frm step n))) 1 (.cells false false 27 (qK (ups c frm step n (hzS a.1 n A i (k+1))) M))) 10 (.cells true false 29 [.d (.bool (decide (a.1.num<0))),nC (natO a.1.num.natAbs),nC (denO a.1.den),.d (.bool (decide (a.2.num<0))),nC (natO a.2.num.natAbs),nC (denO a.2.den)])=lv:=⟨_,rfl⟩
   have q0:lv 0=.cells false false 105 (lnK 1 frm step n):=by rw [← hlv];rfl
   have q1:lv 1=.cells false false 27 (qK (ups c frm step n (hzS a.1 n A i (k+1))) M):=by rw [← hlv];rfl
   have q2:lv 10=.cells true false 29 [.d (.bool (decide (a.1.num<0))),nC (natO a.1.num.natAbs),nC (denO a.1.den),.d (.bool (decide (a.2.num<0))),nC (natO a.2.num.natAbs),nC (denO a.2.den)]:=by rw [← hlv];rfl
   have hkM:frm+k*step<M:=by have:k*step≤n*step:=Nat.mul_le_mul_right _ (by omega);omega
   have hkM1:frm+(k+1)*step<M:=by have:(k+1)*step≤n*step:=Nat.mul_le_mul_right _ (by omega);omega
   have x1:=ixLn (lv:=lv) (n:=n+1) (i:=k) q0
   have x1':=ixLn (lv:=lv) (n:=n+1) (i:=k+1) q0
   rw [eq_true (show k<n+1 by omega)] at x1
   rw [eq_true (show k+1<n+1 by omega),show (((k+1:Nat):Int))=(k:Int)+1 by omega] at x1'
   have x2:=ldLn (i:=k) q0 (by omega)
   have x3:=ldLn (i:=k+1) q0 (by omega)
   have x4:=ldQ (i:=frm+k*step) q1 hkM
   have x5:=ldQ (i:=frm+(k+1)*step) q1 hkM1
   rw [ups_at hs _ (by omega)] at x4 x5
   have x6:=fun v=>stQ (i:=frm+k*step) q1 hkM v
   have c1:=rat_Mul (GG m) (hzS a.1 n A i (k+1) (k+1)) a.1 (szR_mono (h1 _ _ _ (by omega) (by omega)) (by omega)) (szR_mono hlo (by omega))
   have c2:=rat_Add (GG m) (hzS a.1 n A i (k+1) k) (hzS a.1 n A i (k+1) (k+1)*a.1) (szR_mono (h1 _ _ _ (by omega) (by omega)) (by omega)) (szR_mono (szR_mul (szR_mono (h1 i (k+1) (k+1) (by omega) (by omega)) (Nat.le_refl L)) (szR_mono hlo (Nat.le_refl L))) (by omega))
   refine AW.seqK fun K8 hK8=>AW.block ?_
   rw [hlv]
   have x7:stepLoad Tryz.prog 27 lv (.c (.ptr 10 0))=some (ratV a.1,[],[10],True):=by simp [stepLoad,q2]
   refine AW.drawP mixed (by kernel_rfl) rfl ?_
   simp [x1,x1',x2,x3,x4,x5,fk1,q1,q2,x7,-stepLoad,-stepStore]
   have q9:lv 9=.hole:=by rw [← hlv];rfl
   refine CallDo.p 20 9 c1 ?_ (hh:=q9)
   simp [q1,q2,x4,-stepLoad,-stepStore]
   refine CallDo.p 20 9 c2 ?_ (hh:=q9)
   simp [q1,x6,-stepLoad,-stepStore]
   refine⟨by kernel_rfl,?_⟩
   have e8:(fun j=>if j=frm+k*step then hzS a.1 n A i (k+1) k+hzS a.1 n A i (k+1) (k+1)*a.1 else ups c frm step n (hzS a.1 n A i (k+1)) j)=ups c frm step n (hzS a.1 n A i k):=by
    rw [ups_set hs _ (by omega),hzS_step a.1 n A (by omega) (by omega)]
   have e9:upd lv 1 (.cells false false 27 (qK (ups c frm step n (hzS a.1 n A i k)) M))=upd (upd (upd (fun _=>LB.hole) 0 (.cells false false 105 (lnK 1 frm step n))) 1 (.cells false false 27 (qK (ups c frm step n (hzS a.1 n A i k)) M))) 10 (.cells true false 29 [.d (.bool (decide (a.1.num<0))),nC (natO a.1.num.natAbs),nC (denO a.1.den),.d (.bool (decide (a.2.num<0))),nC (natO a.2.num.natAbs),nC (denO a.2.den)]):=by
    rw [← hlv]
    funext j
    by_cases j1:j=1
    ·subst j1;rfl
    ·by_cases j2:j=10
     ·subst j2;rfl
     ·by_cases j3:j=0
      ·subst j3;rfl
      ·simp only [upd,if_neg j1,if_neg j2,if_neg j3]
   rw [e8,e9]
   repeat refine and_o ?_
   apply hK8
   refine AW.rP ?_
   simp [fk]
   refine⟨k,Le.mk2 _,⟨by omega,by omega⟩,by omega⟩
  ·have hpi:p=i:=by omega
   subst hpi
   have hno:¬ (p:Int)≤(p:Int) - 1:=by omega
   refine AW.fn (by simp [hno] <;> omega) ?_
   have e10:ups c frm step n (hzS a.1 n A p p)=ups c frm step n (hzS a.1 n A (p+1) n):=ups_ext fun k hk=>hzS_next a.1 n A hlt hk
   rw [e10]
   refine AW.exit (hK4 _ _ (AW.rP ?_))
   simp [f15]
   exact⟨p+1,Le.mk2 _,by omega,by omega⟩
 ·have hin:i=n:=by omega
  subst hin
  have e11:ups c frm step i (hzS a.1 i A i i)=ups c frm step i (hzM i a.1 (a.2 - a.1) A 1):=ups_ext fun k hk=>by rw [hzS_end a.1 i A hk,hzM_one]
  rw [e11]
  refine AW.cn (AW.exit (hK _ _ ?_))
  have cI:=rat_Int (GG m) 1 (by decide) (by decide)
  refine AW.c1 20 cI @setSeg.eq_1 ?_
  refine AW.seqK fun K hK=>AW.q ?_
  refine AW.block ?_
  refine AW.loopV (fun (p:Nat)=>⟨frOf [(0,.c (.lsl 0 0 (i+1) 1)),(3,.c (.ptr 10 0)),(4,.c (.d (.int .i64 i))),(7,.c (.ptr 20 0)),(8,.c (.d (.int .i64 ((p:Int)+1))))],
   upd (upd (upd (upd (fun _=>.hole) 0 (.cells false false 105 (lnK 1 frm step i))) 1 (.cells false false 27 (qK (ups c frm step i (hzM i a.1 (a.2 - a.1) A (p+1))) M))) 10 (.cells true false 29 [.d (.bool (decide (a.1.num<0))),nC (natO a.1.num.natAbs),nC (denO a.1.den),.d (.bool (decide (a.2.num<0))),nC (natO a.2.num.natAbs),nC (denO a.2.den)])) 20 (.cells true false 27 (qc (scl i (a.2 - a.1) p)))⟩) 30
   (fun p=>p≤i) (fun p=>i - p) 0 (Le.mk2 _) (Nat.zero_le _) ?_
  rintro p hp
  try simp only at hp ⊢
  refine AW.seqK fun K6 hK6=>AW.q ?_
  by_cases hip:p<i
  ·have hip':(p:Int)+1≤(i:Int):=by omega
   have cw:=width_ok (GG m) a hz
   have ck:=rat_Int (GG m) ((p:Int)+1) (by omega) (by omega)
   have fq:IntKind.i64.wrap ((i:Int) - ((p:Int)+1))=(i:Int) - ((p:Int)+1):=w64 (by omega) (by omega)
   have fq1:IntKind.i64.wrap ((i:Int) - ((p:Int)+1)+1)=((i - p:Nat):Int):=by rw [w64 (by omega) (by omega)];omega
   have fp:IntKind.i64.wrap ((p:Int)+1+1)=(((p+1:Nat):Int))+1:=by rw [w64 (by omega) (by omega)];omega
   have cn:=rat_Int (GG m) ((i - p:Nat):Int) (by omega) (by omega)
   have hw:szR (a.2 - a.1) L:=szR_mono (Iv.z_sub hz) (by omega)
   have hsc:=h2 p (by omega)
   have cm1:=rat_Mul (GG m) (scl i (a.2 - a.1) p) (a.2 - a.1) (szR_mono hsc (by omega)) (szR_mono hw (by omega))
   have s1:=szR_mul hsc hw
   have sk:szR (((p:Int)+1:Int):Rat) (2*L):=szR_int _ _ (by
    have:=nl_mono (show ((p:Int)+1).natAbs≤4294967295 by omega)
    have e:nl 4294967295=1:=by decide
    omega) (by omega)
   have sn:szR (((i - p:Nat):Int):Rat) (4*L):=szR_int _ _ (by
    have:=nl_mono (show (((i - p:Nat):Int)).natAbs≤4294967295 by omega)
    have e:nl 4294967295=1:=by decide
    omega) (by omega)
   have cm2:=rat_Mul (GG m) (scl i (a.2 - a.1) p*(a.2 - a.1)) (((p:Int)+1:Int):Rat) (szR_mono s1 (by omega)) (szR_mono sk (by omega))
   have s2:=szR_mul s1 sk
   have cq:=rat_quo (GG m) (scl i (a.2 - a.1) p*(a.2 - a.1)*(((p:Int)+1:Int):Rat)) (((i - p:Nat):Int):Rat) (szR_mono s2 (by omega)) (szR_mono sn (by omega))
   have es:scl i (a.2 - a.1) p*(a.2 - a.1)*(((p:Int)+1:Int):Rat) / (((i - p:Nat):Int):Rat)=scl i (a.2 - a.1) (p+1):=by
    show _=scl i (a.2 - a.1) p*(a.2 - a.1)*((p+1:Nat):Rat) / ((i - p:Nat):Rat)
    rw [show (p:Int)+1=((p+1:Nat):Int) by omega,Rat.intCast_natCast,Rat.intCast_natCast]
   rw [es] at cq
   clear es
   generalize ((i - p:Nat):Int)=ip at *
   generalize ((ip:Int):Rat)=iq at *
   generalize (((p:Int)+1:Int):Rat)=kq at *
   refine AW.fy (by simp [hip'] <;> omega) (AW.skip (hK6 _ _ (AW.seqK fun K8 hK8=>AW.block (AW.seqK fun K9 hK9=>?_))))
   obtain⟨lv,hlv⟩:∃ lv,upd (upd (upd (upd (fun _=>LB.hole) 0 (.cells false false 105 (lnK 1 frm step i))) 1 (.cells false false 27 (qK (ups c frm step i (hzM i a.1 (a.2 - a.1) A (p+1))) M))) 10 (.cells true false 29 [.d (.bool (decide (a.1.num<0))),nC (natO a.1.num.natAbs),nC (denO a.1.den),.d (.bool (decide (a.2.num<0))),nC (natO a.2.num.natAbs),nC (denO a.2.den)])) 20 (.cells true false 27 (qc (scl i (a.2 - a.1) p)))=lv:=⟨_,rfl⟩
   have q0:lv 0=.cells false false 105 (lnK 1 frm step i):=by rw [← hlv];rfl
   have q1:lv 1=.cells false false 27 (qK (ups c frm step i (hzM i a.1 (a.2 - a.1) A (p+1))) M):=by rw [← hlv];rfl
   have q2:lv 10=.cells true false 29 [.d (.bool (decide (a.1.num<0))),nC (natO a.1.num.natAbs),nC (denO a.1.den),.d (.bool (decide (a.2.num<0))),nC (natO a.2.num.natAbs),nC (denO a.2.den)]:=by rw [← hlv];rfl
   have q3:lv 20=.cells true false 27 (qc (scl i (a.2 - a.1) p)):=by rw [← hlv];rfl
   have q9:lv 9=.hole:=by rw [← hlv];rfl
   have y1:stepLoad Tryz.prog 27 lv (.c (.ptr 20 0))=some (ratV (scl i (a.2 - a.1) p),[],[20],True):=by simp [stepLoad,q3,qc]
   have y2:stepLoad Tryz.prog 29 lv (.c (.ptr 10 0))=some (ivV a,[],[10],True):=by simp [stepLoad,q2,loadIv]
   have y3:∀ v,stepStore Tryz.prog 27 lv (.c (.ptr 20 0)) (ratV v)=some (.undef,[(20,.cells true false 27 (qc v))],[],True):=fun v=>by simp [stepStore,q3,qc,AV.cells,setSeg]
   rw [hlv]
   refine AW.drawP mixed (by kernel_rfl) rfl ?_
   simp [y1,y2,-stepLoad,-stepStore]
   refine CallDo.p 30 9 cw ?_ (hh:=q9)
   simp [-stepLoad,-stepStore]
   refine CallDo.p 30 9 cm1 ?_ (hh:=q9)
   simp [-stepLoad,-stepStore]
   refine CallDo.p 30 9 ck ?_ (hh:=q9)
   simp [-stepLoad,-stepStore]
   refine CallDo.p 30 9 cm2 ?_ (hh:=q9)
   simp [-stepLoad,-stepStore,fq,fq1]
   refine CallDo.p 30 9 cn ?_ (hh:=q9)
   simp [-stepLoad,-stepStore]
   refine CallDo.p 30 9 cq ?_ (hh:=q9)
   simp [-stepLoad,-stepStore,y3]
   refine⟨by kernel_rfl,?_⟩
   repeat refine and_o ?_
   apply hK9
   obtain⟨lw,hlw⟩:∃ lw,upd lv 20 (.cells true false 27 (qc (scl i (a.2 - a.1) (p+1))))=lw:=⟨_,rfl⟩
   have r0:lw 0=.cells false false 105 (lnK 1 frm step i):=by rw [← hlw];exact q0
   have r1:lw 1=.cells false false 27 (qK (ups c frm step i (hzM i a.1 (a.2 - a.1) A (p+1))) M):=by rw [← hlw];exact q1
   have r2:lw 10=.cells true false 29 [.d (.bool (decide (a.1.num<0))),nC (natO a.1.num.natAbs),nC (denO a.1.den),.d (.bool (decide (a.2.num<0))),nC (natO a.2.num.natAbs),nC (denO a.2.den)]:=by rw [← hlw];exact q2
   have r3:lw 20=.cells true false 27 (qc (scl i (a.2 - a.1) (p+1))):=by rw [← hlw];rfl
   have r9:lw 9=.hole:=by rw [← hlw];exact q9
   have hkM:frm+(p+1)*step<M:=by have:(p+1)*step≤i*step:=Nat.mul_le_mul_right _ (by omega);omega
   have x1:=ixLn (lv:=lw) (n:=i+1) (i:=p+1) r0
   rw [eq_true (show p+1<i+1 by omega),show (((p+1:Nat):Int))=(p:Int)+1 by omega] at x1
   have x2:=ldLn (i:=p+1) r0 (by omega)
   have x4:=ldQ (i:=frm+(p+1)*step) r1 hkM
   rw [ups_at hs _ (by omega)] at x4
   have x6:=fun v=>stQ (i:=frm+(p+1)*step) r1 hkM v
   have x7:stepLoad Tryz.prog 27 lw (.c (.ptr 20 0))=some (ratV (scl i (a.2 - a.1) (p+1)),[],[20],True):=by simp [stepLoad,r3,qc]
   have c5:=rat_Mul (GG m) (hzM i a.1 (a.2 - a.1) A (p+1) (p+1)) (scl i (a.2 - a.1) (p+1)) (szR_mono (h3 _ _ (by omega)) (by omega)) (szR_mono (h2 _ (by omega)) (by omega))
   have e12:(fun j=>if j=frm+(p+1)*step then hzM i a.1 (a.2 - a.1) A (p+1) (p+1)*scl i (a.2 - a.1) (p+1) else ups c frm step i (hzM i a.1 (a.2 - a.1) A (p+1)) j)=ups c frm step i (hzM i a.1 (a.2 - a.1) A (p+1+1)):=by
    rw [ups_set hs _ (by omega),hzM_step]
   have e13:upd lw 1 (.cells false false 27 (qK (ups c frm step i (hzM i a.1 (a.2 - a.1) A (p+1+1))) M))=upd (upd (upd (upd (fun _=>LB.hole) 0 (.cells false false 105 (lnK 1 frm step i))) 1 (.cells false false 27 (qK (ups c frm step i (hzM i a.1 (a.2 - a.1) A (p+1+1))) M))) 10 (.cells true false 29 [.d (.bool (decide (a.1.num<0))),nC (natO a.1.num.natAbs),nC (denO a.1.den),.d (.bool (decide (a.2.num<0))),nC (natO a.2.num.natAbs),nC (denO a.2.den)])) 20 (.cells true false 27 (qc (scl i (a.2 - a.1) (p+1)))):=by
    rw [← hlw,← hlv]
    funext j
    by_cases j1:j=1
    ·subst j1;rfl
    ·by_cases j2:j=10
     ·subst j2;rfl
     ·by_cases j3:j=0
      ·subst j3;rfl
      ·by_cases j4:j=20
       ·subst j4;rfl
       ·simp only [upd,if_neg j1,if_neg j2,if_neg j3,if_neg j4]
   rw [hlw]
   refine AW.drawP mixed (by kernel_rfl) rfl ?_
   simp [x1,x2,x4,x7,r1,r3,-stepLoad,-stepStore]
   refine CallDo.p 30 9 c5 ?_ (hh:=r9)
   simp [r1,x6,-stepLoad,-stepStore]
   refine⟨by kernel_rfl,?_⟩
   rw [e12,e13]
   repeat refine and_o ?_
   apply hK8
   refine AW.rP ?_
   simp [fp]
   exact⟨p+1,Le.mk2 _,by omega,by omega⟩
  ·have hpi:p=i:=by omega
   subst hpi
   have hno:¬ (p:Int)+1≤(p:Int):=by omega
   obtain⟨d,hd⟩:∃ d:Sq,(fun k=>shf a.1 p A k*scl p (a.2 - a.1) k)=d:=⟨_,rfl⟩
   have e14:ups c frm step p (hzM p a.1 (a.2 - a.1) A (p+1))=ups c frm step p (hzP d p p):=ups_ext fun k hk=>by
    rw [hzP_start d p k hk,← hd]
    unfold hzM
    rw [if_pos (by omega)]
   rw [e14]
   refine AW.fn (by simp [hno] <;> omega) (AW.exit (hK _ _ ?_))
   rw [hd] at h4
   refine AW.q ?_
   refine AW.block ?_
   refine AW.loopV (fun (q:Nat)=>⟨frOf [(0,.c (.lsl 0 0 (p+1) 1)),(4,.c (.d (.int .i64 p))),(9,.c (.d (.int .i64 q)))],
    upd (upd (upd (upd (fun _=>LB.hole) 0 (.cells false false 105 (lnK 1 frm step p))) 1 (.cells false false 27 (qK (ups c frm step p (hzP d q q)) M))) 10 (.cells true false 29 [.d (.bool (decide (a.1.num<0))),nC (natO a.1.num.natAbs),nC (denO a.1.den),.d (.bool (decide (a.2.num<0))),nC (natO a.2.num.natAbs),nC (denO a.2.den)])) 20 (.cells true false 27 (qc (scl p (a.2 - a.1) p)))⟩) 40 (fun q=>q≤p) (fun q=>q) p (Le.mk2 _) (Nat.le_refl _) ?_
   rintro q hq
   try simp only at hq ⊢
   refine AW.seqK fun K6 hK6=>AW.q ?_
   by_cases hq0:0<q
   ·have hq0':0<(q:Int):=by omega
    obtain⟨q',rfl⟩:∃ q',q=q'+1:=⟨q - 1,by omega⟩
    have fq1:IntKind.i64.wrap (q':Int)=(q':Int):=w64 (by omega) (by omega)
    refine AW.fy (by simp [hq0'] <;> omega) (AW.skip (hK6 _ _ (AW.seqK fun K8 hK8=>AW.block (AW.q ?_))))
    refine AW.block ?_
    refine AW.loopV (fun (k:Nat)=>⟨frOf [(0,.c (.lsl 0 0 (p+1) 1)),(4,.c (.d (.int .i64 p))),(9,.c (.d (.int .i64 ((q':Int)+1)))),(10,.c (.d (.int .i64 (k:Int))))],
     upd (upd (upd (upd (fun _=>LB.hole) 0 (.cells false false 105 (lnK 1 frm step p))) 1 (.cells false false 27 (qK (ups c frm step p (hzP d (q'+1) k)) M))) 10 (.cells true false 29 [.d (.bool (decide (a.1.num<0))),nC (natO a.1.num.natAbs),nC (denO a.1.den),.d (.bool (decide (a.2.num<0))),nC (natO a.2.num.natAbs),nC (denO a.2.den)])) 20 (.cells true false 27 (qc (scl p (a.2 - a.1) p)))⟩) 50 (fun k=>q'+1≤k∧k≤p+1) (fun k=>p+1 - k) (q'+1) (Le.mk2 _) ⟨Nat.le_refl _,by omega⟩ ?_
    rintro k ⟨hk,hkp⟩
    try simp only at hk hkp ⊢
    refine AW.seqK fun K10 hK10=>AW.q ?_
    by_cases hkk:k≤p
    ·obtain⟨k',rfl⟩:∃ k',k=k'+1:=⟨k - 1,by omega⟩
     have hkk':(k':Int)+1≤(p:Int):=by omega
     have fk:IntKind.i64.wrap ((k':Int)+1+1)=(k':Int)+1+1:=w64 (by omega) (by omega)
     have fk1:IntKind.i64.wrap (k':Int)=(k':Int):=w64 (by omega) (by omega)
     refine AW.fy (by simp [hkk'] <;> omega) (AW.skip (hK10 _ _ (AW.seqK fun K12 hK12=>AW.block ?_)))
     obtain⟨lv,hlv⟩:∃ lv,upd (upd (upd (upd (fun _=>LB.hole) 0 (.cells false false 105 (lnK 1 frm step p))) 1 (.cells false false 27 (qK (ups c frm step p (hzP d (q'+1) (k'+1))) M))) 10 (.cells true false 29 [.d (.bool (decide (a.1.num<0))),nC (natO a.1.num.natAbs),nC (denO a.1.den),.d (.bool (decide (a.2.num<0))),nC (natO a.2.num.natAbs),nC (denO a.2.den)])) 20 (.cells true false 27 (qc (scl p (a.2 - a.1) p)))=lv:=⟨_,rfl⟩
     have q0:lv 0=.cells false false 105 (lnK 1 frm step p):=by rw [← hlv];rfl
     have q1:lv 1=.cells false false 27 (qK (ups c frm step p (hzP d (q'+1) (k'+1))) M):=by rw [← hlv];rfl
     have q9:lv 9=.hole:=by rw [← hlv];rfl
     have hkM:frm+k' * step<M:=by have:k' * step≤p*step:=Nat.mul_le_mul_right _ (by omega);omega
     have hkM1:frm+(k'+1)*step<M:=by have:(k'+1)*step≤p*step:=Nat.mul_le_mul_right _ (by omega);omega
     have x1:=ixLn (lv:=lv) (n:=p+1) (i:=k') q0
     have x1':=ixLn (lv:=lv) (n:=p+1) (i:=k'+1) q0
     rw [eq_true (show k'<p+1 by omega)] at x1
     rw [eq_true (show k'+1<p+1 by omega),show (((k'+1:Nat):Int))=(k':Int)+1 by omega] at x1'
     have x2:=ldLn (i:=k') q0 (by omega)
     have x3:=ldLn (i:=k'+1) q0 (by omega)
     have x4:=ldQ (i:=frm+k' * step) q1 hkM
     have x5:=ldQ (i:=frm+(k'+1)*step) q1 hkM1
     rw [ups_at hs _ (by omega)] at x4 x5
     have x6:=fun v=>stQ (i:=frm+(k'+1)*step) q1 hkM1 v
     have c2:=rat_Add (GG m) (hzP d (q'+1) (k'+1) (k'+1)) (hzP d (q'+1) (k'+1) k') (szR_mono (h4 _ _ _ (by omega) (.inl (by omega))) (by omega)) (szR_mono (h4 _ _ _ (by omega) (.inl (by omega))) (by omega))
     have e8:(fun j=>if j=frm+(k'+1)*step then hzP d (q'+1) (k'+1) (k'+1)+hzP d (q'+1) (k'+1) k' else ups c frm step p (hzP d (q'+1) (k'+1)) j)=ups c frm step p (hzP d (q'+1) (k'+1+1)):=by
      have:=hzP_step d (i:=q'+1) (k:=k'+1) (by omega) (by omega)
      rw [ups_set hs _ (by omega),← this];rfl
     have e9:upd lv 1 (.cells false false 27 (qK (ups c frm step p (hzP d (q'+1) (k'+1+1))) M))=upd (upd (upd (upd (fun _=>LB.hole) 0 (.cells false false 105 (lnK 1 frm step p))) 1 (.cells false false 27 (qK (ups c frm step p (hzP d (q'+1) (k'+1+1))) M))) 10 (.cells true false 29 [.d (.bool (decide (a.1.num<0))),nC (natO a.1.num.natAbs),nC (denO a.1.den),.d (.bool (decide (a.2.num<0))),nC (natO a.2.num.natAbs),nC (denO a.2.den)])) 20 (.cells true false 27 (qc (scl p (a.2 - a.1) p))):=by
      rw [← hlv]
      funext j
      by_cases j1:j=1
      ·subst j1;rfl
      ·by_cases j2:j=10
       ·subst j2;rfl
       ·by_cases j3:j=0
        ·subst j3;rfl
        ·by_cases j4:j=20
         ·subst j4;rfl
         ·simp only [upd,if_neg j1,if_neg j2,if_neg j3,if_neg j4]
     rw [hlv]
     refine AW.drawP mixed (by kernel_rfl) rfl ?_
     simp [x1,x1',x2,x3,x4,x5,fk1,q1,-stepLoad,-stepStore]
     refine CallDo.p 60 9 c2 ?_ (hh:=q9)
     simp [q1,x6,-stepLoad,-stepStore]
     refine⟨by kernel_rfl,?_⟩
     rw [e8,e9]
     repeat refine and_o ?_
     apply hK12
     refine AW.rP ?_
     simp [fk]
     exact⟨k'+1+1,Le.mk2 _,⟨by omega,by omega⟩,by omega⟩
    ·have hkp':k=p+1:=by omega
     subst hkp'
     have hno2:¬ (p:Int)+1≤(p:Int):=by omega
     have e15:ups c frm step p (hzP d (q'+1) (p+1))=ups c frm step p (hzP d q' q'):=ups_ext fun k hk=>hzP_next d (by omega) hk
     rw [e15]
     refine AW.fn (by simp [hno2] <;> omega) (AW.exit (hK8 _ _ (AW.rP ?_)))
     simp [fq1]
     exact⟨q',Le.mk2 _,by omega,by omega⟩
   ·have hq0':q=0:=by omega
    subst hq0'
    have e16:ups c frm step p (hzP d 0 0)=ups c frm step p (cnv p a.1 (a.2 - a.1) A):=ups_ext fun k _=>by rw [cnv_hzP,hd]
    rw [e16]
    refine AW.cn (AW.exit ?_)
    simp
    refine⟨[(0,0,.cells false false 105 (lnK 1 frm step p)),(1,1,.cells false false 27 (qK (ups c frm step p (cnv p a.1 (a.2 - a.1) A)) M))],9,?_,by simp,by simp,rfl,?_,?_,rfl,rfl⟩
    ·funext k
     match k with
     | 0=>rfl
     | 1=>rfl
     | k+2=>simp [lvOf,updL,upd]
    ·intro k hk
     match k with
     | 0=>exact .inr rfl
     | 1=>exact .inr rfl
     | k+2=>exact absurd (by simp [upd]) hk
    ·intro e he
     simp only [List.mem_cons,List.not_mem_nil,or_false] at he
     rcases he with rfl|rfl
     ·exact LB.like_cells.2 ⟨rfl,rfl,(lnK_ren _ _ _ _ _ rfl).symm,id⟩
     ·exact LB.like_cells.2 ⟨rfl,rfl,(qK_ren _ _ _).symm,id⟩
abbrev Tm:=List UInt8 × Option (List Int)
def pwL (o:Option (List Int)):List Int:=o.getD []
def pwO (o:Option (List Int)):Option (List (List DV)):=o.map (·.map fun k=>[.int .i64 k])
def pwD:Option (List Int)→DV
 | none=>.nilsl
 | some l=>.sl (l.map fun k=>[.int .i64 k])
theorem pwD_sc (o:Option (List Int)):CV.d (pwD o)=scC (pwO o):=by cases o <;> rfl
theorem pwO_len (o:Option (List Int)):(sO (pwO o)).length=(pwL o).length:=by cases o <;> simp [pwO,pwL,sO]
def tmD (t:Tm):List DV:=[.str t.1,pwD t.2]
def tmO (b:Option (List Tm)):Option (List (List DV)):=b.map (·.map tmD)
def tmL (b:Option (List Tm)):List Tm:=b.getD []
theorem tmO_len (b:Option (List Tm)):(sO (tmO b)).length=(tmL b).length:=by cases b <;> simp [tmO,tmL,sO]
theorem lpTm (lv:Key→LB)(b:Option (List Tm)):lenP Tryz.prog 22 lv (.c (scC (tmO b)))=some (.c (.d (.int .i64 (tmL b).length)),[],[],True):=by
 rw [← tmO_len];exact lenP_slA (by simp)
theorem ixTm (lv:Key→LB)(b:Option (List Tm)){i:Nat}(hi:i<(tmL b).length):stepIndexAddr Tryz.prog 22 lv (.c (scC (tmO b))) (.c (.d (.int .i64 (i:Int))))=some (.c (.d (.ptr (tmD (tmL b)[i]))),[],[],True):=by
 refine ixA' (sz:=2) (by simp) (by omega) (by rw [tmO_len];omega) ?_ rfl
 cases b with
 | none=>cases hi
 | some l=>
  have hi':i<l.length:=hi
  rw [Int.toNat_natCast]
  show (l.map tmD).getD i []=tmD l[i]
  rw [List.getD_eq_getElem?_getD,List.getElem?_map,List.getElem?_eq_getElem hi'];rfl
theorem lpPw (lv:Key→LB)(o:Option (List Int)):lenP Tryz.prog 59 lv (.c (.d (pwD o)))=some (.c (.d (.int .i64 (pwL o).length)),[],[],True):=by
 rw [← pwO_len,pwD_sc];exact lenP_slA (by simp)
theorem ixPw (lv:Key→LB)(o:Option (List Int)){i:Nat}(hi:i<(pwL o).length):stepIndexAddr Tryz.prog 59 lv (.c (.d (pwD o))) (.c (.d (.int .i64 (i:Int))))=some (.c (.d (.ptr [.int .i64 (pwL o)[i]])),[],[],True):=by
 rw [pwD_sc]
 refine ixA' (sz:=1) (by simp) (by omega) (by rw [pwO_len];omega) ?_ rfl
 cases o with
 | none=>cases hi
 | some l=>
  have hi':i<l.length:=hi
  rw [Int.toNat_natCast]
  show (l.map fun k=>[DV.int .i64 k]).getD i []=[DV.int .i64 l[i]]
  rw [List.getD_eq_getElem?_getD,List.getElem?_map,List.getElem?_eq_getElem hi'];rfl
def pwB:Int→List Int→Bool
 | _,[]=>true
 | left,k::r=>if k<0∨left<k then false else pwB (left - k) r
theorem pwB_cons (left k:Int)(r:List Int):pwB left (k::r)=if k<0∨left<k then false else pwB (left - k) r:=rfl
def tmE1 (n:Int)(t:Tm):Int:=if ratE t.1≠0 then ratE t.1 else if pwB 16 (pwL t.2)=false then 7 else if ((pwL t.2).length:Int)≠n then 7 else 0
def tmEs (n:Int):List Tm→Int
 | []=>0
 | t::r=>if tmE1 n t≠0 then tmE1 n t else tmEs n r
def tmE (l:List Tm)(n:Int):Int:=if 200<l.length then 3 else tmEs n l
theorem terms_ok (m:Int)(b:Option (List Tm))(n:Int)(hl:(tmL b).length≤9223372036854775807)(hp:∀ t∈tmL b,(pwL t.2).length≤9223372036854775807):CallsP Tryz.prog (GG m) 47 [.c (scC (tmO b)),.c (.d (.int .i64 n))] (.c (.d (.int .i64 (tmE (tmL b) n)))):=by
 have hlp:=fun lv=>lpTm lv b
 have hix:=fun lv {i:Nat}(hi:i<(tmL b).length)=>ixTm lv b hi
 generalize hR:tmE (tmL b) n=R
 refine CallsP.en0 Go.Proofs.Tryz.func47 rfl fun _=>AW.q ?_
 refine AW.seqK fun K hK=>AW.f1 hlp ?_
 by_cases h200:200<(tmL b).length
 ·have h200':(200:Int)<((tmL b).length:Int):=by omega
  have e:R=3:=hR ▸ if_pos h200
  refine AW.fy (by simp [h200'] <;> omega) (AW.q ?_)
  exact AW.r0 (FinP.rt rfl 4 (by simp [e]))
 have h200':¬ (200:Int)<((tmL b).length:Int):=by omega
 have e:tmEs n (tmL b)=R:=hR ▸ (if_neg h200).symm
 refine AW.fn (by simp [h200'] <;> omega) (AW.skip (hK _ _ (AW.seqK fun K hK=>AW.f1 hlp ?_)))
 refine AW.block ?_
 refine AW.loopV (fun (i:Nat)=>⟨frOf [(1,.c (.d (.int .i64 n))),(14,.c (scC (tmO b))),(15,.c (.d (.int .i64 (tmL b).length))),(16,.c (.d (.int .i64 i)))],fun _=>.hole⟩) 1
  (fun i=>i≤(tmL b).length∧tmEs n ((tmL b).drop i)=R) (fun i=>(tmL b).length - i) 0 (Le.mk2 _) ⟨Nat.zero_le _,e⟩ ?_
 rintro i ⟨hi,hE⟩
 try simp only at hi hE ⊢
 refine AW.q ?_
 refine AW.seqK fun K2 hK2=>?_
 by_cases hlt:i<(tmL b).length
 ·have hlt':(i:Int)<((tmL b).length:Int):=by omega
  have hx:=fun lv=>hix lv hlt
  have f16:=w64 (n:=(i:Int)+1) (by omega) (by omega)
  have hd:(tmL b).drop i=(tmL b)[i]::(tmL b).drop (i+1):=List.drop_eq_getElem_cons hlt
  have hpl:=hp _ (List.getElem_mem hlt)
  rw [hd] at hE
  generalize (tmL b)[i]=t at *
  refine AW.fy (by simp [hlt'] <;> omega) (AW.skip ?_)
  simp
  repeat refine and_o ?_
  apply hK2
  refine AW.seqK fun K5 hK5=>AW.block (AW.seqK fun K6 hK6=>AW.rP ?_)
  simp [hx,tmD]
  repeat refine and_o ?_
  apply hK6
  have c1:=rat_Check m t.1
  obtain⟨ce,hce⟩:∃ x,ratE t.1=x:=⟨_,rfl⟩
  rw [hce] at c1
  refine AW.seqK fun K6 hK6=>AW.c1 2 c1 @setSeg.eq_1 ?_
  refine AW.q ?_
  by_cases hc:ce=0
  ·refine AW.fn (by simp [hc] <;> omega) (AW.skip (hK6 _ _ (AW.q ?_)))
   refine AW.seqK fun K6 hK6=>AW.f1 @lpPw ?_
   refine AW.block ?_
   obtain⟨pl,hpw⟩:∃ pl,pwL t.2=pl:=⟨_,rfl⟩
   have hE1:tmE1 n t=if pwB 16 pl=false then 7 else if (pl.length:Int)≠n then 7 else 0:=by unfold tmE1;rw [hce,if_neg (not_not_intro hc),hpw]
   have hip:=fun lv {j:Nat}(hj:j<(pwL t.2).length)=>ixPw lv t.2 hj
   have hlp2:=fun lv=>lpPw lv t.2
   simp only [hpw] at hip hpl hlp2 ⊢
   have hfail:tmE1 n t=7→R=7:=fun h=>by rw [← hE];unfold tmEs;rw [h];rfl
   refine AW.loopV (fun (q:Nat × Int)=>⟨frOf [(1,.c (.d (.int .i64 n))),(14,.c (scC (tmO b))),(15,.c (.d (.int .i64 (tmL b).length))),(16,.c (.d (.int .i64 i))),(6,.c (.ptr 1 0)),(8,.c (.d (.int .i64 q.2))),(27,.c (.d (pwD t.2))),(28,.c (.d (.int .i64 pl.length))),(29,.c (.d (.int .i64 q.1)))],
    upd (fun _=>.hole) 1 (.cells true false 98 [.d (.str t.1),.d (pwD t.2)])⟩) 10
    (fun q=>q.1≤pl.length∧0≤q.2∧q.2≤16∧pwB q.2 (pl.drop q.1)=pwB 16 pl) (fun q=>pl.length - q.1) (0,16) (Le.mk2 _ (by simp [setSeg])) ⟨Nat.zero_le _,by decide,by decide,rfl⟩ ?_
   rintro⟨j,left⟩ ⟨hj,hl0,hl1,hB⟩
   try simp only at hj hl0 hl1 hB ⊢
   refine AW.q ?_
   refine AW.seqK fun K10 hK10=>?_
   by_cases hjl:j<pl.length
   ·have hjl':(j:Int)<(pl.length:Int):=by omega
    have hxp:=fun lv=>hip lv hjl
    have hdp:pl.drop j=pl[j]::pl.drop (j+1):=List.drop_eq_getElem_cons hjl
    have f29:=w64 (n:=(j:Int)+1) (by omega) (by omega)
    rw [hdp] at hB
    generalize pl[j]=k at *
    refine AW.fy (by simp [hjl'] <;> omega) (AW.skip ?_)
    simp
    repeat refine and_o ?_
    apply hK10
    refine AW.seqK fun K11 hK11=>AW.block (AW.seqK fun K12 hK12=>AW.rP ?_)
    simp [hxp]
    repeat refine and_o ?_
    apply hK12
    by_cases hk0:k<0
    ·have h7:R=7:=hfail (by rw [hE1,← hB,pwB_cons,if_pos (Or.inl hk0),if_pos rfl])
     refine AW.seqK fun K12 hK12=>AW.f1 hk0 ?_
     refine AW.cy (AW.q ?_)
     exact AW.r0 (FinP.rt rfl 4 (by simp [h7]))
    by_cases hkl:left<k
    ·have h7:R=7:=hfail (by rw [hE1,← hB,pwB_cons,if_pos (Or.inr hkl),if_pos rfl])
     refine AW.seqK fun K12 hK12=>AW.f2 hk0 hkl ?_
     refine AW.cy (AW.q ?_)
     exact AW.r0 (FinP.rt rfl 4 (by simp [h7]))
    have hB2:pwB (left - k) (pl.drop (j+1))=pwB 16 pl:=by rw [← hB,pwB_cons,if_neg (by omega)]
    have fl:IntKind.i64.wrap (left - k)=left - k:=w64 (by omega) (by omega)
    refine AW.seqK fun K12 hK12=>AW.f2 hk0 hkl ?_
    refine AW.cn (AW.skip (hK12 _ _ (AW.l1 fl (hK11 _ _ ?_))))
    refine AW.rP ?_
    simp [f29]
    exact⟨j+1,left - k,Le.mk2 _,⟨by omega,by omega,by omega,hB2⟩,by omega⟩
   ·have hdn:pl.drop j=[]:=List.drop_eq_nil_of_le (by omega)
    rw [hdn] at hB
    have hB:true=pwB 16 pl:=hB
    rw [← hB,if_neg (by decide)] at hE1
    refine AW.fn (by simp [hjl] <;> omega) (AW.exit (hK6 _ _ (AW.f1 hlp2 ?_)))
    by_cases hn:(pl.length:Int)=n
    ·have h0:tmEs n ((tmL b).drop (i+1))=R:=by rw [← hE];unfold tmEs;rw [hE1,if_neg (not_not_intro hn),if_neg (by decide)];cases (tmL b).drop (i+1) <;> rfl
     refine AW.fn (by simp [hn] <;> omega) (AW.skip (hK5 _ _ (AW.rP ?_)))
     simp [f16]
     exact⟨i+1,Le.drop2 [1] 9,⟨by omega,h0⟩,by omega⟩
    ·have h7:R=7:=hfail (by rw [hE1,if_pos hn])
     refine AW.fy (by simp [hn] <;> omega) (AW.q ?_)
     exact AW.r0 (FinP.rt rfl 4 (by simp [h7]))
  ·have hE1:tmE1 n t=ce:=by unfold tmE1;rw [hce,if_pos hc]
   have hE2:R=ce:=by rw [← hE];unfold tmEs;rw [hE1,if_pos hc]
   refine AW.fy (by simp [hc] <;> omega) (AW.q ?_)
   exact AW.r0 (FinP.rt rfl 4 (by simp [hE2]))
 ·have hnil:(tmL b).drop i=[]:=List.drop_eq_nil_of_le (by omega)
  rw [hnil] at hE
  have hE2:R=0:=hE.symm
  refine AW.fn (by simp [hlt] <;> omega) (AW.exit (hK _ _ (AW.q ?_)))
  exact AW.r0 (FinP.rt rfl 4 (by simp [hE2]))
def tmT (t:Tm):Trm:=(ratP t.1,(pwL t.2).map Int.toNat)
theorem pwB_ok:∀ {l:List Int}{left:Int},0≤left→pwB left l=true→(∀ k∈l,0≤k)∧((l.map Int.toNat).sum:Int)≤left
 | [],left,h0,_=>⟨fun k hk=>(by cases hk),by simpa using h0⟩
 | k::r,left,h0,h=>by
  rw [pwB_cons] at h
  split at h
  ·cases h
  ·rename_i hk
   obtain⟨h1,h2⟩:=pwB_ok (l:=r) (left:=left - k) (by omega) h
   refine⟨fun j hj=>?_,?_⟩
   ·rcases List.mem_cons.1 hj with rfl|hj
    ·omega
    ·exact h1 j hj
   ·simp only [List.map_cons,List.sum_cons]
    omega
theorem tmEs_ok {n:Int}:∀ {l:List Tm},tmEs n l=0→∀ t∈l,tmE1 n t=0
 | [],_,t,h=>by cases h
 | u::r,h,t,ht=>by
  unfold tmEs at h
  by_cases h1:tmE1 n u=0
  ·rw [if_neg (not_not_intro h1)] at h
   rcases List.mem_cons.1 ht with rfl|ht
   ·exact h1
   ·exact tmEs_ok h t ht
  ·rw [if_pos h1] at h;exact absurd h h1
structure TmOK (n:Nat) (t:Tm):Prop where
 e:ratE t.1=0
 pos:∀ k∈pwL t.2,0≤k
 sum:(tmT t).2.sum≤16
 len:(pwL t.2).length=n
theorem tmE1_ok {n:Nat}{t:Tm}(h:tmE1 n t=0):TmOK n t:=by
 unfold tmE1 at h
 by_cases h1:ratE t.1=0
 ·rw [if_neg (not_not_intro h1)] at h
  by_cases h2:pwB 16 (pwL t.2)=true
  ·rw [if_neg (by rw [h2];decide)] at h
   by_cases h3:((pwL t.2).length:Int)=n
   ·obtain⟨h4,h5⟩:=pwB_ok (by decide) h2
    exact⟨h1,h4,by show ((pwL t.2).map Int.toNat).sum≤16;omega,by omega⟩
   ·rw [if_pos h3] at h;exact absurd h (by decide)
  ·rw [if_pos (by simpa using h2)] at h;exact absurd h (by decide)
 ·rw [if_pos h1] at h;exact absurd h h1
theorem tmE_ok {n:Nat}{l:List Tm}(h:tmE l n=0):l.length≤200∧∀ t∈l,TmOK n t:=by
 unfold tmE at h
 split at h
 ·exact absurd h (by decide)
 ·exact⟨by omega,fun t ht=>tmE1_ok (tmEs_ok h t ht)⟩
theorem take_tmT {l:List Tm}{i:Nat}(h:i<l.length):(l.take (i+1)).map tmT=(l.take i).map tmT++[tmT l[i]]:=by
 rw [List.take_add_one,List.getElem?_eq_getElem h,List.map_append];rfl
end Go.Am
namespace Go.Am
def bas (n step j:Nat):Nat:=j - j / step % (n+1)*step
theorem bas_le {n step:Nat}(j:Nat):j / step % (n+1)*step≤j:=Nat.le_trans (Nat.mul_le_mul_right _ (Nat.mod_le _ _)) (Nat.div_mul_le_self _ _)
theorem bas_div {n step:Nat}(hs:0<step) (j:Nat):bas n step j / step % (n+1)=0:=by
 unfold bas
 rw [Nat.mul_comm (j / step % (n+1)) step,Nat.sub_mul_div]
 have h:=Nat.div_add_mod (j / step) (n+1)
 have e:j / step - j / step % (n+1)=(n+1)*(j / step / (n+1)):=by omega
 rw [e,Nat.mul_mod_right]
theorem bas_line {n step F j:Nat}(hs:0<step) (hF:F / step % (n+1)=0):(F≤j∧(j - F) % step=0∧(j - F) / step≤n)↔bas n step j=F:=by
 constructor
 ·rintro⟨h1,h2,h3⟩
  obtain⟨k,hk⟩:∃ k,(j - F) / step=k:=⟨_,rfl⟩
  have h4:=Nat.div_mul_cancel (Nat.dvd_of_mod_eq_zero h2)
  rw [hk] at h3 h4
  have ej:j=F+k*step:=by omega
  have e1:j / step=F / step+k:=by rw [ej,Nat.add_mul_div_right _ _ hs]
  have e2:j / step % (n+1)=k:=by
   rw [e1,Nat.add_mod,hF,Nat.zero_add,Nat.mod_mod]
   exact Nat.mod_eq_of_lt (by omega)
  unfold bas
  rw [e2];omega
 ·intro h
  have hl:=bas_le (n:=n) (step:=step) j
  unfold bas at h
  obtain⟨k,hk⟩:∃ k,j / step % (n+1)=k:=⟨_,rfl⟩
  have hkn:k≤n:=by have:=Nat.mod_lt (j / step) (show 0<n+1 by omega);omega
  rw [hk] at h hl
  have e:j - F=k*step:=by omega
  exact⟨by omega,by rw [e];exact Nat.mul_mod_left _ _,by rw [e,Nat.mul_div_cancel _ hs];exact hkn⟩
def ech (n step:Nat)(M:Sq→Sq)(c:Sq)(F:Nat):Sq:=fun j=>if bas n step j<F then tr n step M c j else c j
theorem ech_zero (n step:Nat)(M:Sq→Sq)(c:Sq):ech n step M c 0=c:=by funext j;exact if_neg (by omega)
theorem ech_skip {n step:Nat}(hs:0<step) (M:Sq→Sq) (c:Sq) {F:Nat}(hF:F / step % (n+1)≠0):ech n step M c (F+1)=ech n step M c F:=by
 funext j
 unfold ech
 have hne:bas n step j≠F:=fun e=>hF (e ▸ bas_div hs j)
 by_cases h:bas n step j<F
 ·rw [if_pos (by omega),if_pos h]
 ·rw [if_neg (by omega),if_neg h]
theorem ech_line {n step:Nat}(hs:0<step) (M:Sq→Sq) (c:Sq) {F:Nat}(hF:F / step % (n+1)=0) (hM:∀ a b:Sq,(∀ k,k≤n→a k=b k)→∀ k,k≤n→M a k=M b k) :
 ups (ech n step M c F) F step n (M (fun k=>ech n step M c F (F+k*step)))=ech n step M c (F+1):=by
 funext j
 unfold ups
 by_cases h:F≤j∧(j - F) % step=0∧(j - F) / step≤n
 ·rw [if_pos h]
  have hb:=(bas_line hs hF).1 h
  have e1:ech n step M c (F+1) j=tr n step M c j:=if_pos (by omega)
  rw [e1]
  unfold tr
  have hk:(j - F) / step=j / step % (n+1):=by
   unfold bas at hb
   have:=bas_le (n:=n) (step:=step) j
   have e:j - F=j / step % (n+1)*step:=by omega
   rw [e,Nat.mul_div_cancel _ hs]
  rw [hk]
  have hkn:j / step % (n+1)≤n:=by have:=Nat.mod_lt (j / step) (show 0<n+1 by omega);omega
  refine hM _ _ (fun k hk=>?_) _ hkn
  have hb2:j - j / step % (n+1)*step=F:=hb
  rw [hb2]
  have hb3:bas n step (F+k*step)=F:=(bas_line hs hF).1 ⟨by omega,by rw [Nat.add_sub_cancel_left];exact Nat.mul_mod_left _ _,by rw [Nat.add_sub_cancel_left,Nat.mul_div_cancel _ hs];exact hk⟩
  exact if_neg (by omega)
 ·rw [if_neg h]
  have hne:bas n step j≠F:=fun e=>h ((bas_line hs hF).2 e)
  unfold ech
  by_cases h2:bas n step j<F
  ·rw [if_pos h2,if_pos (by omega)]
  ·rw [if_neg h2,if_neg (by omega)]
theorem ech_all {n step:Nat}(M:Sq→Sq) (c:Sq) {N j:Nat}(h:j<N):ech n step M c N j=tr n step M c j:=if_pos (by unfold bas;omega)
theorem cnv_loc' (n:Nat)(lo w:Rat)(a b:Sq)(h:∀ k,k≤n→a k=b k)(k:Nat)(hk:k≤n):cnv n lo w a k=cnv n lo w b k:=cnv_Loc n lo w k hk a b h
end Go.Am
namespace Go.Am
open Go.Am.Ty Go.Proofs N
theorem lnK_map (frm step n:Nat)(kc:Key)(g:Key→Key)(h:g 1=kc):(lnK 1 frm step n).map (CV.ren g)=lnK kc frm step n:=by
 unfold lnK
 rw [List.map_map]
 refine List.map_congr_left fun i _=>?_
 show CV.ptr (g 1) _=_
 rw [h]
theorem rdK_qc (lv:Key→LB)(m:Nat)(c:Sq)(M:Nat):(qK c M).flatMap (rdK lv m)=[]:=by
 induction M with
 | zero=>rfl
 | succ M ih=>
  simp only [qK,List.flatMap_append,ih,List.nil_append,qc,nC_nD]
  cases m <;> rfl
theorem rdK_line {lv:Key→LB}{kc:Key}{o2 fz:Bool}{T1:TypeId}{c:Sq}{M m frm step n:Nat}(h:lv kc=.cells o2 fz T1 (qK c M)) (k:Key) (hk:k∈(lnK kc frm step n).flatMap (rdK lv (m+1))):k=kc:=by
 obtain⟨x,hx,hk⟩:=List.mem_flatMap.1 hk
 unfold lnK at hx
 obtain⟨i,_,rfl⟩:=List.mem_map.1 hx
 simp only [rdK,h,rdK_qc,List.mem_cons,List.not_mem_nil,or_false] at hk
 exact hk
theorem CallDo.line {c0:Ctx}{fid:FuncId}{lv:Key→LB}{K:AV→List (Key × LB)→List Key→Nat→Prop}(κ' kh:Key) (kl kc:Key) {o1 o2:Bool}{T0 T1:TypeId}{frm step n M:Nat}{c c':Sq}{y:AV}(hy:y.pure=true)
 (hc:CallsS c0.P c0.G fid [.c (.lsl 0 0 (n+1) 1),y] [.cells false false T0 (lnK 1 frm step n),.cells false false T1 (qK c M)] (.ret (.tup []) [.cells false false T0 (lnK 1 frm step n),.cells false false T1 (qK c' M)] []))
 (h0:lv kl=.cells o1 false T0 (lnK kc frm step n)) (h1:lv kc=.cells o2 false T1 (qK c M)) (hne:kl≠kc) (hk0:kh≠kl) (hk1:kh≠kc) (hh:lv kh=.hole)
 (hK:K (.tup []) [(kl,.cells false false T0 (lnK kc frm step n)),(kc,.cells false false T1 (qK c' M))] [kh,kl,kc] κ'):CallDo c0 fid [.c (.lsl kl 0 (n+1) 1),y] lv K:=by
 obtain⟨g,hg⟩:∃ g,keyMap [kl,kc] [] kh=g:=⟨_,rfl⟩
 have g0:g 0=kl:=by rw [← hg];rfl
 have g1:g 1=kc:=by rw [← hg];rfl
 refine CallDo.passM κ' kh false [kl,kc] [] _ _ _ (us:=[.c (.lsl 0 0 (n+1) 1),y]) [kh,kl,kc] hc (by simp [hne]) (by simp [hk0,hk1]) rfl rfl rfl (by simp) ?_ (by simp) hh ?_ ?_ (by simp) rfl ?_ ?_ (by simp) ?_
 ·rw [hg]
  intro i q1 q2
  match i,q1,q2 with
  | 0,_,_=>
   show (lv kl).like _ _
   rw [h0]
   exact LB.like_cells.2 ⟨rfl,rfl,(lnK_map frm step n kc g g1).symm,fun h=>by cases h⟩
  | 1,_,_=>
   show (lv kc).like _ _
   rw [h1]
   exact LB.like_cells.2 ⟨rfl,rfl,(qK_ren c M g).symm,fun h=>by cases h⟩
 ·intro b hb
  simp only [List.mem_cons,List.not_mem_nil,or_false] at hb
  rcases hb with rfl|rfl <;> rfl
 ·intro b hb
  simp only [List.cons_append,List.nil_append,List.append_nil,List.mem_cons,List.not_mem_nil,or_false] at hb
  rcases hb with rfl|rfl|rfl|rfl <;> exact fun h=>by cases h
 ·rw [hg]
  intro i q1 q2
  match i,q1,q2 with
  | 0,_,_=>exact⟨rfl,by show _=AV.c (.lsl (g 0) 0 (n+1) 1);rw [g0];rfl⟩
  | 1,_,_=>exact⟨AV.flat1_pure hy,(AV.ren_pure hy _).symm⟩
 ·intro a ha k hk
  rcases List.mem_cons.1 ha with rfl|ha
  ·have hk:k∈rdK lv 8 (.lsl kl 0 (n+1) 1):=hk
   simp only [rdK,h0,List.mem_cons] at hk
   rcases hk with rfl|hk
   ·simp
   ·have:=rdK_line h1 _ hk
    subst this;simp
  ·rw [List.mem_singleton.1 ha,rdA_pure hy] at hk;cases hk
 ·rw [hg]
  have e:backW g false [kl,kc] [.cells false false T0 (lnK 1 frm step n),.cells false false T1 (qK c' M)]++backW g false [] []=[(kl,.cells false false T0 (lnK kc frm step n)),(kc,.cells false false T1 (qK c' M))]:=by
   simp [backW,LB.fix,lnK_map frm step n kc g g1,qK_ren]
  rw [e]
  exact hK
theorem hullL_ok (G:List (List DV))(l:List Rat)(x0:Rat)(h0:l[0]?=some x0)(hn:l.length≤1000)(hs:∀ x∈l,szR x 10000000000) :
 CallsP Tryz.prog G 28 [numsA l] (ivV (minL (l.drop 1) x0,maxL (l.drop 1) x0)):=by
 have c1:=minFunc_ok G l x0 h0 hn hs
 have c2:=maxFunc_ok G l x0 h0 hn hs
 generalize minL (l.drop 1) x0=r1 at *
 generalize maxL (l.drop 1) x0=r2 at *
 refine CallsP.enc Go.Proofs.Tryz.func28 rfl (fun lv=>iv_dArg lv _ _ _ _ _ _) fun _=>AW.q ?_
 refine AW.sr fun K hK=>?_
 simp
 refine CallDo.p 1 9 c1 ?_
 simp
 refine CallDo.p 1 9 c2 ?_
 simp [bIv]
 repeat refine and_o ?_
 apply hK
 exact AW.ret (FinC.iv (κ:=0) (t:=2) (k:=0) ⟨rfl,rfl⟩ (by simp) (by simp [setSeg]))
theorem coefs2_ok (m:Int)(l:List Iv)(j:Nat)(a:Iv)(c:Sq)(M frm step n:Nat)(hj:j<l.length)(ha:l[j]=a)(hz:a.z)(hs:0<step)(hM:frm+n*step<M)(hM2:M≤1000)(hn:n≤600){L:Nat}(hL:L≤1000000000) (hL3:1000≤L)
 (hok:LnOK (fun x=>szR x L) n a.1 (a.2 - a.1) (fun k=>c (frm+k*step))) :
 CallsS Tryz.prog (GG m) 58 [.c (.lsl 0 0 (n+1) 1),.c (.ptr 2 0),.c (.ptr 3 0)] [.cells false false 105 (lnK 1 frm step n),.cells false false 27 (qK c M),.cells false false 89 [scC (iO l)],.cells false false 3 [.d (.int .i64 (j:Int))]]
  (.ret (.tup []) [.cells false false 105 (lnK 1 frm step n),.cells false false 27 (qK (ups c frm step n (cnv n a.1 (a.2 - a.1) (fun k=>c (frm+k*step)))) M),.cells false false 89 [scC (iO l)],.cells false false 3 [.d (.int .i64 (j:Int))]] []):=by
 have cc:=convert_ok m c M frm step n a hs hM hM2 hn hL hok.h1 hz hL3 hok.h2 hok.h3 hok.h4
 have hix:=fun lv=>ixIv lv l hj
 rw [ha] at hix
 have hσ:lvOf [.cells false false 105 (lnK 1 frm step n),.cells false false 27 (qK c M),.cells false false 89 [scC (iO l)],.cells false false 3 [.d (.int .i64 (j:Int))]] []=upd (upd (upd (upd (fun _=>.hole) 0 (.cells false false 105 (lnK 1 frm step n))) 1 (.cells false false 27 (qK c M))) 2 (.cells false false 89 [scC (iO l)])) 3 (.cells false false 3 [.d (.int .i64 (j:Int))]):=by
  funext k;match k with|0=>rfl|1=>rfl|2=>rfl|3=>rfl|k+4=>simp [lvOf,upd]
 generalize ups c frm step n (cnv n a.1 (a.2 - a.1) (fun k=>c (frm+k*step)))=c' at *
 refine CallsS.enm Go.Proofs.Tryz.func58 rfl hσ fun _=>AW.rP ?_
 simp [hix,ivD,nD_C]
 refine CallDo.line 20 9 0 1 (by simp) cc rfl rfl (by decide) (by decide) (by decide) rfl ?_
 simp
 refine⟨[(0,0,.cells false false 105 (lnK 1 frm step n)),(1,1,.cells false false 27 (qK c' M)),(2,2,.cells false false 89 [scC (iO l)]),(3,3,.cells false false 3 [.d (.int .i64 (j:Int))])],9,?_,by simp,by simp,rfl,?_,?_,rfl,rfl⟩
 ·funext k
  match k with
  | 0=>rfl
  | 1=>rfl
  | 2=>rfl
  | 3=>rfl
  | k+4=>simp [lvOf,updL,upd]
 ·intro k hk
  match k with
  | 0=>exact .inr rfl
  | 1=>exact .inr rfl
  | 2=>exact .inr rfl
  | 3=>exact .inr rfl
  | k+4=>exact absurd (by simp [upd]) hk
 ·intro e he
  simp only [List.mem_cons,List.not_mem_nil,or_false] at he
  rcases he with rfl|rfl|rfl|rfl
  ·exact LB.like_cells.2 ⟨rfl,rfl,(lnK_ren _ _ _ _ _ rfl).symm,id⟩
  ·exact LB.like_cells.2 ⟨rfl,rfl,(qK_ren _ _ _).symm,id⟩
  ·exact LB.like_cells.2 ⟨rfl,rfl,by simp,id⟩
  ·exact LB.like_cells.2 ⟨rfl,rfl,rfl,id⟩
theorem Le.keysP {c:Ctx}{fr:Nat→AV}{lv lv':Key→LB}(m:List (Key × Key × LB)) (kh:Key) (l:List (Nat × AV)) (hlv':lv'=updL (fun _=>.hole) (m.map fun e=>(e.1,e.2.2))) (hc:∀ k,c.lv0 k≠.hole→kmap m kh k=k)
 (hn1:(m.map (·.1)).Nodup) (hn2:(m.map (·.2.1)).Nodup) (hh:lv kh=.hole) (has:∀ e∈m,(lv e.2.1).like e.2.2 (kmap m kh)) (hl:∀ p∈l,p.2.flat1=true∧fr p.1=p.2.ren (kmap m kh)):Le c ⟨fr,lv⟩ ⟨frOf l,lv'⟩:=
 ⟨_,Coarse.keys (s:=⟨fr,lv⟩) m kh l hlv' (fun k hk=>.inr (hc k hk)) hn1 hn2 hh has hl⟩
def lnP (k:Key)(frm step i:Nat):List CV:=(List.range i).map fun i=>.ptr k ((frm+i*step)*3)
theorem lnP_len (k:Key)(frm step i:Nat):(lnP k frm step i).length=i:=by simp [lnP]
theorem lnP_snoc (k:Key)(frm step i:Nat):lnP k frm step i++[.ptr k ((frm+i*step)*3)]=lnP k frm step (i+1):=by
 unfold lnP;rw [List.range_succ,List.map_append];rfl
theorem lnP_ren (k:Key)(frm step i:Nat)(g:Key→Key)(h:g k=k):(lnP k frm step i).map (CV.ren g)=lnP k frm step i:=by
 unfold lnP
 rw [List.map_map]
 refine List.map_congr_left fun i _=>?_
 show CV.ptr (g k) _=_
 rw [h]
def lnB (F step:Nat):Nat→LB
 | 0=>.hole
 | k+1=>.cells true false 105 (lnP 1 F step (k+1))
def lnS:Nat→AV
 | 0=>.c (.d .nilsl)
 | k+1=>.c (.lsl 10 0 (k+1) 1)
theorem bsPt (lv:Key→LB)(κ:Key)(h:lv κ=.hole)(k:Key)(o:Nat):stepBuildSlice Tryz.prog 104 1 [0] lv κ [.c (.ptr k o)]=some (.c (.lsl κ 0 1 1),[(κ,.cells true false 105 [.ptr k o])],[],True):=by
 unfold stepBuildSlice;rw [h];kernel_rfl
theorem ech_new {n step:Nat}(hs:0<step) {Mp:Sq→Sq}{c:Sq}{F k:Nat}(hF:F / step % (n+1)=0) (hk:k≤n):ech n step Mp c F (F+k*step)=c (F+k*step):=by
 have hb3:bas n step (F+k*step)=F:=(bas_line hs hF).1 ⟨by omega,by rw [Nat.add_sub_cancel_left];exact Nat.mul_mod_left _ _,by rw [Nat.add_sub_cancel_left,Nat.mul_div_cancel _ hs];exact hk⟩
 exact if_neg (by omega)
theorem line_fit {n step F M:Nat}(hs:0<step) (hF:F / step % (n+1)=0) (hq:∃ q,M=q*((n+1)*step)) (hlt:F<M):F+n*step<M:=by
 obtain⟨q,rfl⟩:=hq
 have h1:=Nat.div_add_mod (F / step) (n+1)
 rw [hF,Nat.add_zero] at h1
 obtain⟨t,ht⟩:∃ t,F / step / (n+1)=t:=⟨_,rfl⟩
 rw [ht] at h1
 have h2:=Nat.div_add_mod F step
 have h3:=Nat.mod_lt F hs
 rw [← h1] at h2
 have h4:step*((n+1)*t)=t*((n+1)*step):=by grind
 rw [h4] at h2
 have h5:t<q:=by
  refine Nat.lt_of_mul_lt_mul_right (a:=(n+1)*step) ?_
  omega
 have h6:(t+1)*((n+1)*step)≤q*((n+1)*step):=Nat.mul_le_mul_right _ h5
 have h7:(t+1)*((n+1)*step)=t*((n+1)*step)+(n*step+step):=by rw [Nat.add_mul,Nat.one_mul,Nat.add_mul,Nat.one_mul]
 omega
abbrev eL6 (l:List Iv)(j M step n:Nat)(q:List CV):Key→LB:=
 upd (upd (upd (upd (upd (upd (fun _=>.hole) 0 (.cells false false 48 [.lsl 1 0 M 3])) 1 (.cells false false 27 q)) 2 (.cells false false 3 [.d (.int .i64 (step:Int))])) 3 (.cells false false 3 [.d (.int .i64 (n:Int))])) 4 (.cells false false 89 [scC (iO l)])) 5 (.cells false false 3 [.d (.int .i64 (j:Int))])
abbrev eB6 (l:List Iv)(j M step n:Nat)(q:List CV):List LB:=
 [.cells false false 48 [.lsl 1 0 M 3],.cells false false 27 q,.cells false false 3 [.d (.int .i64 (step:Int))],.cells false false 3 [.d (.int .i64 (n:Int))],.cells false false 89 [scC (iO l)],.cells false false 3 [.d (.int .i64 (j:Int))]]
abbrev eM (l:List Iv)(j M step n:Nat)(q:List CV)(k10:Key)(b:LB):List (Key × Key × LB):=
 [(0,0,.cells false false 48 [.lsl 1 0 M 3]),(1,1,.cells false false 27 q),(2,2,.cells false false 3 [.d (.int .i64 (step:Int))]),(3,3,.cells false false 3 [.d (.int .i64 (n:Int))]),(4,4,.cells false false 89 [scC (iO l)]),(5,5,.cells false false 3 [.d (.int .i64 (j:Int))]),(10,k10,b)]
theorem e1Le {c:Ctx}{fr:Nat→AV}{lv:Key→LB}{l:List Iv}{j M step n:Nat}{q0 q:List CV}(k10:Key) (b:LB) (L:List (Nat × AV)) (hl0:c.lv0=eL6 l j M step n q0) (hq:∀ g,q.map (CV.ren g)=q)
 (h0:lv 0=.cells false false 48 [.lsl 1 0 M 3]) (h1:lv 1=.cells false false 27 q) (h2:lv 2=.cells false false 3 [.d (.int .i64 (step:Int))]) (h3:lv 3=.cells false false 3 [.d (.int .i64 (n:Int))]) (h4:lv 4=.cells false false 89 [scC (iO l)]) (h5:lv 5=.cells false false 3 [.d (.int .i64 (j:Int))])
 (h10:(lv k10).like b (kmap (eM l j M step n q k10 b) 19)) (h19:lv 19=.hole) (hk:([0,1,2,3,4,5,k10]:List Key).Nodup) (hl:∀ x∈L,x.2.flat1=true∧fr x.1=x.2.ren (kmap (eM l j M step n q k10 b) 19)) :
 Le c ⟨fr,lv⟩ ⟨frOf L,upd (eL6 l j M step n q) 10 b⟩:=by
 refine Le.keysP (eM l j M step n q k10 b) 19 L rfl ?_ (by simp) hk h19 ?_ hl
 ·intro k hk
  rw [hl0] at hk
  match k with
  | 0=>rfl
  | 1=>rfl
  | 2=>rfl
  | 3=>rfl
  | 4=>rfl
  | 5=>rfl
  | k+6=>exact absurd (by simp [upd]) hk
 ·intro e he
  simp only [List.mem_cons,List.not_mem_nil,or_false] at he
  rcases he with rfl|rfl|rfl|rfl|rfl|rfl|rfl
  ·show (lv 0).like _ _
   rw [h0];exact LB.like_cells.2 ⟨rfl,rfl,rfl,id⟩
  ·show (lv 1).like _ _
   rw [h1];exact LB.like_cells.2 ⟨rfl,rfl,(hq _).symm,id⟩
  ·show (lv 2).like _ _
   rw [h2];exact LB.like_cells.2 ⟨rfl,rfl,rfl,id⟩
  ·show (lv 3).like _ _
   rw [h3];exact LB.like_cells.2 ⟨rfl,rfl,rfl,id⟩
  ·show (lv 4).like _ _
   rw [h4];exact LB.like_cells.2 ⟨rfl,rfl,by simp,id⟩
  ·show (lv 5).like _ _
   rw [h5];exact LB.like_cells.2 ⟨rfl,rfl,rfl,id⟩
  ·exact h10
theorem e2Le {c:Ctx}{fr:Nat→AV}{lv:Key→LB}{l:List Iv}{j M step n:Nat}{q0 q:List CV}(L:List (Nat × AV)) (hl0:c.lv0=eL6 l j M step n q0) (hq:∀ g,q.map (CV.ren g)=q)
 (h0:lv 0=.cells false false 48 [.lsl 1 0 M 3]) (h1:lv 1=.cells false false 27 q) (h2:lv 2=.cells false false 3 [.d (.int .i64 (step:Int))]) (h3:lv 3=.cells false false 3 [.d (.int .i64 (n:Int))]) (h4:lv 4=.cells false false 89 [scC (iO l)]) (h5:lv 5=.cells false false 3 [.d (.int .i64 (j:Int))])
 (h20:lv 20=.hole) (h19:lv 19=.hole) (hl:∀ x∈L,x.2.flat1=true∧fr x.1=x.2.ren (kmap (eM l j M step n q 20 .hole) 19)):Le c ⟨fr,lv⟩ ⟨frOf L,eL6 l j M step n q⟩:=by
 have h:=e1Le (M:=M) 20 .hole L hl0 hq h0 h1 h2 h3 h4 h5 h20 h19 (by simp) hl
 rw [upd_hl rfl] at h
 exact h
theorem CallDo.inner {c0:Ctx}{fid:FuncId}{lv:Key→LB}{K:AV→List (Key × LB)→List Key→Nat→Prop}(κ':Nat) {o:Bool}{frm step n M j:Nat}{l:List Iv}{c c':Sq}
 (hc:CallsS c0.P c0.G fid [.c (.lsl 0 0 (n+1) 1),.c (.ptr 2 0),.c (.ptr 3 0)] [.cells false false 105 (lnK 1 frm step n),.cells false false 27 (qK c M),.cells false false 89 [scC (iO l)],.cells false false 3 [.d (.int .i64 (j:Int))]]
  (.ret (.tup []) [.cells false false 105 (lnK 1 frm step n),.cells false false 27 (qK c' M),.cells false false 89 [scC (iO l)],.cells false false 3 [.d (.int .i64 (j:Int))]] []))
 (h0:lv 10=.cells o false 105 (lnK 1 frm step n)) (h1:lv 1=.cells false false 27 (qK c M)) (h2:lv 4=.cells false false 89 [scC (iO l)]) (h3:lv 5=.cells false false 3 [.d (.int .i64 (j:Int))]) (hh:lv 19=.hole)
 (hK:K (.tup []) [(10,.cells false false 105 (lnK 1 frm step n)),(1,.cells false false 27 (qK c' M)),(4,.cells false false 89 [scC (iO l)]),(5,.cells false false 3 [.d (.int .i64 (j:Int))])] [19,10,1,4,5] κ'):CallDo c0 fid [.c (.lsl 10 0 (n+1) 1),.c (.ptr 4 0),.c (.ptr 5 0)] lv K:=by
 obtain⟨g,hg⟩:∃ g,keyMap [10,1,4,5] [] 19=g:=⟨_,rfl⟩
 have g0:g 0=10:=by rw [← hg];rfl
 have g1:g 1=1:=by rw [← hg];rfl
 have g2:g 2=4:=by rw [← hg];rfl
 have g3:g 3=5:=by rw [← hg];rfl
 refine CallDo.passM κ' 19 false [10,1,4,5] [] _ _ _ (us:=[.c (.lsl 0 0 (n+1) 1),.c (.ptr 2 0),.c (.ptr 3 0)]) [19,10,1,4,5] hc (by simp) (by simp) rfl rfl rfl (by simp) ?_ (by simp) hh ?_ ?_ (by simp) rfl ?_ ?_ (by simp) ?_
 ·rw [hg]
  intro i q1 q2
  match i,q1,q2 with
  | 0,_,_=>
   show (lv 10).like _ _
   rw [h0]
   exact LB.like_cells.2 ⟨rfl,rfl,(lnK_map frm step n 1 g g1).symm,fun h=>by cases h⟩
  | 1,_,_=>
   show (lv 1).like _ _
   rw [h1]
   exact LB.like_cells.2 ⟨rfl,rfl,(qK_ren c M g).symm,fun h=>by cases h⟩
  | 2,_,_=>
   show (lv 4).like _ _
   rw [h2]
   exact LB.like_cells.2 ⟨rfl,rfl,by simp,fun h=>by cases h⟩
  | 3,_,_=>
   show (lv 5).like _ _
   rw [h3]
   exact LB.like_cells.2 ⟨rfl,rfl,rfl,fun h=>by cases h⟩
 ·intro b hb
  simp only [List.mem_cons,List.not_mem_nil,or_false] at hb
  rcases hb with rfl|rfl|rfl|rfl <;> rfl
 ·intro b hb
  simp only [List.cons_append,List.nil_append,List.append_nil,List.mem_cons,List.not_mem_nil,or_false] at hb
  rcases hb with rfl|rfl|rfl|rfl|rfl|rfl|rfl|rfl <;> exact fun h=>by cases h
 ·rw [hg]
  intro i q1 q2
  match i,q1,q2 with
  | 0,_,_=>exact⟨rfl,by show _=AV.c (.lsl (g 0) 0 (n+1) 1);rw [g0];rfl⟩
  | 1,_,_=>exact⟨rfl,by show _=AV.c (.ptr (g 2) 0);rw [g2];rfl⟩
  | 2,_,_=>exact⟨rfl,by show _=AV.c (.ptr (g 3) 0);rw [g3];rfl⟩
 ·intro a ha k hk
  simp only [List.mem_cons,List.not_mem_nil,or_false] at ha
  rcases ha with rfl|rfl|rfl
  ·have hk:k∈rdK lv 8 (.lsl 10 0 (n+1) 1):=hk
   simp only [rdK,h0,List.mem_cons] at hk
   rcases hk with rfl|hk
   ·simp
   ·have:=rdK_line h1 _ hk
    subst this;simp
  ·have hk:k∈rdK lv 8 (.ptr 4 0):=hk
   have e:rdK lv 7 (scC (iO l))=[]:=by cases iO l <;> rfl
   simp only [rdK,h2,List.flatMap_cons,List.flatMap_nil,e,List.append_nil,List.mem_cons,List.not_mem_nil,or_false] at hk
   subst hk;simp
  ·have hk:k∈rdK lv 8 (.ptr 5 0):=hk
   simp only [rdK,h3,List.flatMap_cons,List.flatMap_nil,List.append_nil,List.mem_cons,List.not_mem_nil,or_false] at hk
   subst hk;simp
 ·rw [hg]
  have e:backW g false [10,1,4,5] [.cells false false 105 (lnK 1 frm step n),.cells false false 27 (qK c' M),.cells false false 89 [scC (iO l)],.cells false false 3 [.d (.int .i64 (j:Int))]]++backW g false [] []=[(10,.cells false false 105 (lnK 1 frm step n)),(1,.cells false false 27 (qK c' M)),(4,.cells false false 89 [scC (iO l)]),(5,.cells false false 3 [.d (.int .i64 (j:Int))])]:=by
   simp [backW,LB.fix,lnK_map frm step n 1 g g1,qK_ren]
  rw [e]
  exact hK
theorem coefs1_ok (m:Int)(l:List Iv)(j:Nat)(a:Iv)(c:Sq)(M step n:Nat)(hj:j<l.length)(ha:l[j]=a)(hz:a.z)(hs:0<step)(hM2:M≤1000)(hn:n≤600)(hq:∃ q,M=q*((n+1)*step)){L:Nat}(hL:L≤1000000000) (hL3:1000≤L) (hjn:j<1048576)
 (hok:∀ A:Sq,(∀ k,k≤n→∃ i,A k=c i)→LnOK (fun x=>szR x L) n a.1 (a.2 - a.1) A) :
 CallsS Tryz.prog (GG m) 57 [.c (.func (.func 58) [] [.ptr 4 0,.ptr 5 0]),.c (.ptr 0 0),.c (.ptr 2 0),.c (.ptr 3 0)] (eB6 l j M step n (qK c M))
  (.ret (.tup []) (eB6 l j M step n (qK (tr n step (cnv n a.1 (a.2 - a.1)) c) M)) []):=by
 have hσ:∀ q,lvOf (eB6 l j M step n q) []=eL6 l j M step n q:=fun q=>by
  funext k;match k with|0=>rfl|1=>rfl|2=>rfl|3=>rfl|4=>rfl|5=>rfl|k+6=>simp [lvOf,upd]
 obtain⟨Mp,hMp⟩:∃ Mp,cnv n a.1 (a.2 - a.1)=Mp:=⟨_,rfl⟩
 have e0:=ech_zero n step Mp c
 refine CallsS.enm Go.Proofs.Tryz.func57 rfl (hσ _) fun _=>AW.q ?_
 refine AW.block ?_
 refine AW.loopV (fun (F:Nat)=>⟨frOf [(0,.c (.func (.func 58) [] [.ptr 4 0,.ptr 5 0])),(1,.c (.ptr 0 0)),(2,.c (.ptr 2 0)),(3,.c (.ptr 3 0)),(9,.c (.d (.int .i64 M))),(10,.c (.d (.int .i64 F)))],eL6 l j M step n (qK (ech n step Mp c F) M)⟩) 20
  (fun F=>F≤M) (fun F=>M - F) 0 (Le.mk2 _ (by rw [e0])) (Nat.zero_le _) ?_
 rintro F hF
 try simp only at hF ⊢
 refine AW.q ?_
 refine AW.seqK fun K2 hK2=>?_
 by_cases hlt:F<M
 ·have hlt':(F:Int)<(M:Int):=by omega
  have f10:=w64 (n:=(F:Int)+1) (by omega) (by omega)
  obtain⟨d,hd⟩:∃ d,F / step=d:=⟨_,rfl⟩
  have hdF:d≤F:=by rw [← hd];exact Nat.div_le_self _ _
  obtain⟨e,he⟩:∃ e,d % (n+1)=e:=⟨_,rfl⟩
  have fd:(F:Int).tdiv (step:Int)=(d:Int):=by rw [← hd];rfl
  have fn:=w64 (n:=(n:Int)+1) (by omega) (by omega)
  have fw:=w64 (n:=(d:Int)) (by omega) (by omega)
  have fe:(d:Int).tmod ((n:Int)+1)=(e:Int):=by rw [← he];rfl
  refine AW.fy (by simp [hlt'] <;> omega) (AW.skip ?_)
  simp
  repeat refine and_o ?_
  apply hK2
  refine AW.seqK fun K4 hK4=>AW.block (AW.seqK fun K5 hK5=>AW.rP ?_)
  simp
  repeat refine and_o ?_
  apply hK5
  refine AW.seqK fun K5 hK5=>AW.e4 mixed fd fn fe fw ?_
  by_cases h0:e=0
  rotate_left
  ·have h0':¬ (e:Int)=0:=by omega
   have es:=ech_skip hs Mp c (n:=n) (F:=F) (by rw [hd,he];exact h0)
   refine AW.fy (by simp [h0] <;> omega) (AW.exit (hK4 _ _ (AW.rP ?_)))
   simp [f10]
   exact⟨F+1,Le.mk2 _ (by rw [es]),by omega,by omega⟩
  ·subst h0
   have hF0:F / step % (n+1)=0:=by rw [hd];exact he
   refine AW.cn (AW.skip ?_)
   simp
   repeat refine and_o ?_
   apply hK5
   refine AW.seqK fun K5 hK5=>AW.rP ?_
   simp
   repeat refine and_o ?_
   apply hK5
   refine AW.seqK fun K5 hK5=>?_
   have hfit:=line_fit hs hF0 hq hlt
   refine AW.f1 fn ?_
   refine AW.block ?_
   refine AW.loopV (fun (k:Nat)=>⟨frOf [(0,.c (.func (.func 58) [] [.ptr 4 0,.ptr 5 0])),(1,.c (.ptr 0 0)),(2,.c (.ptr 2 0)),(3,.c (.ptr 3 0)),(9,.c (.d (.int .i64 M))),(10,.c (.d (.int .i64 F))),(5,.c (.d (.int .i64 F))),(6,lnS k),(21,.c (.d (.int .i64 ((n:Int)+1)))),(22,.c (.d (.int .i64 k)))],
    upd (eL6 l j M step n (qK (ech n step Mp c F) M)) 10 (lnB F step k)⟩) 40
    (fun k=>k≤n+1) (fun k=>n+1 - k) 0 (Le.mk2 _ (by exact (upd_hl rfl).symm) (by simp [lnS])) (Nat.zero_le _) ?_
   rintro k hk
   try simp only at hk ⊢
   refine AW.seqK fun K7 hK7=>AW.rP ?_
   simp
   repeat refine and_o ?_
   apply hK7
   refine AW.seqK fun K8 hK8=>?_
   by_cases hkn:k<n+1
   ·have hkn':(k:Int)<(n:Int)+1:=by omega
    have f22:=w64 (n:=(k:Int)+1) (by omega) (by omega)
    obtain⟨ks,hks⟩:∃ x,k*step=x:=⟨_,rfl⟩
    obtain⟨i,hi⟩:∃ x,F+ks=x:=⟨_,rfl⟩
    have hksn:ks≤n*step:=by rw [← hks];exact Nat.mul_le_mul_right _ (by omega)
    have hiM:i<M:=by omega
    have f30:IntKind.i64.wrap ((k:Int)*(step:Int))=(ks:Int):=by rw [← Int.natCast_mul,hks];exact w64 (by omega) (by omega)
    have f31:IntKind.i64.wrap ((F:Int)+(ks:Int))=(i:Int):=by rw [w64 (by omega) (by omega)];omega
    have hsn:=lnP_snoc 1 F step k
    rw [hks,hi] at hsn
    refine AW.fy (by simp [hkn'] <;> omega) (AW.skip (hK8 _ _ (AW.seqK fun K9 hK9=>AW.block (AW.q ?_))))
    by_cases hk0:k=0
    ·have hS:lnS k=.c (.d .nilsl):=by subst hk0;rfl
     have hB:lnB F step k=.hole:=by subst hk0;rfl
     have hP:lnP 1 F step k=[]:=by subst hk0;rfl
     rw [hP,List.nil_append] at hsn
     rw [hS,hB]
     refine AW.rP ?_
     simp [f30,f31,bsPt,srcA,keyOf,setSeg,hiM,-stepBuildSlice]
     repeat refine and_o ?_
     apply hK9
     refine AW.rP ?_
     simp [f22]
     exact⟨k+1,e1Le 41 (lnB F step (k+1)) _ rfl (qK_ren _ _) rfl rfl rfl rfl rfl rfl (by rw [show lnB F step (k+1)=.cells true false 105 (lnP 1 F step (k+1)) from rfl,← hsn];exact LB.like_cells.2 ⟨rfl,rfl,by first|rfl|(rw [List.map_append,lnP_ren _ _ _ _ _ rfl];rfl),id⟩) rfl (by simp) (by rw [show lnS (k+1)=.c (.lsl 10 0 (k+1) 1) from rfl];simp [kmap,hk0];rfl),by omega,by omega⟩
    ·have hS:lnS k=.c (.lsl 10 0 k 1):=by obtain⟨z,rfl⟩:∃ z,k=z+1:=⟨k - 1,by omega⟩;rfl
     have hB:lnB F step k=.cells true false 105 (lnP 1 F step k):=by obtain⟨z,rfl⟩:∃ z,k=z+1:=⟨k - 1,by omega⟩;rfl
     have hPl:=lnP_len 1 F step k
     rw [hS,hB]
     refine AW.rP ?_
     simp [f30,f31,bsPt,srcA,keyOf,setSeg,hiM,hPl,-stepBuildSlice]
     repeat refine and_o ?_
     apply hK9
     refine AW.rP ?_
     simp [f22]
     exact⟨k+1,e1Le 41 (lnB F step (k+1)) _ rfl (qK_ren _ _) rfl rfl rfl rfl rfl rfl (by rw [show lnB F step (k+1)=.cells true false 105 (lnP 1 F step (k+1)) from rfl,← hsn];exact LB.like_cells.2 ⟨rfl,rfl,by first|rfl|(rw [List.map_append,lnP_ren _ _ _ _ _ rfl];rfl),id⟩) rfl (by simp) (by rw [show lnS (k+1)=.c (.lsl 10 0 (k+1) 1) from rfl];simp [kmap];rfl),by omega,by omega⟩
   ·have hkn':¬ (k:Int)<(n:Int)+1:=by omega
    obtain rfl:k=n+1:=by omega
    have hS:lnS (n+1)=.c (.lsl 10 0 (n+1) 1):=rfl
    have hB:lnB F step (n+1)=.cells true false 105 (lnK 1 F step n):=rfl
    rw [hS,hB]
    refine AW.fn (by simp [hkn'] <;> omega) (AW.exit (hK5 _ _ (AW.rP ?_)))
    simp
    have hok2:LnOK (fun x=>szR x L) n a.1 (a.2 - a.1) (fun k=>ech n step Mp c F (F+k*step)):=hok _ fun k hk=>⟨_,ech_new hs hF0 hk⟩
    have cc:=coefs2_ok m l j a (ech n step Mp c F) M F step n hj ha hz hs hfit hM2 hn hL hL3 hok2
    rw [hMp,ech_line hs Mp c hF0 (fun x y h k hk=>by rw [← hMp];exact cnv_loc' n a.1 (a.2 - a.1) x y h k hk)] at cc
    refine⟨by simp,?_⟩
    refine CallDo.inner 50 cc rfl rfl rfl rfl rfl ?_
    simp
    repeat refine and_o ?_
    apply hK4
    refine AW.rP ?_
    simp [f10]
    exact⟨F+1,e2Le _ rfl (qK_ren _ _) rfl rfl rfl rfl rfl rfl rfl rfl (by simp [kmap];rfl),by omega,by omega⟩
 ·have hFM:F=M:=by omega
  subst hFM
  have e1:qK (ech n step Mp c F) F=qK (tr n step (cnv n a.1 (a.2 - a.1)) c) F:=by rw [hMp];exact qK_ext fun i hi=>ech_all Mp c hi
  rw [e1]
  generalize tr n step (cnv n a.1 (a.2 - a.1)) c=c' at *
  refine AW.cn (AW.exit ?_)
  simp
  refine⟨(eM l j F step n (qK c' F) 20 .hole).dropLast,19,(hσ _).trans rfl,by simp,by simp,rfl,?_,?_,rfl,rfl⟩
  ·intro k hk
   match k with
   | 0=>exact .inr rfl
   | 1=>exact .inr rfl
   | 2=>exact .inr rfl
   | 3=>exact .inr rfl
   | 4=>exact .inr rfl
   | 5=>exact .inr rfl
   | k+6=>exact absurd (by simp [upd]) hk
  ·intro e he
   simp only [List.dropLast,List.mem_cons,List.not_mem_nil,or_false] at he
   rcases he with rfl|rfl|rfl|rfl|rfl|rfl
   ·exact LB.like_cells.2 ⟨rfl,rfl,rfl,id⟩
   ·exact LB.like_cells.2 ⟨rfl,rfl,(qK_ren _ _ _).symm,id⟩
   ·exact LB.like_cells.2 ⟨rfl,rfl,rfl,id⟩
   ·exact LB.like_cells.2 ⟨rfl,rfl,rfl,id⟩
   ·exact LB.like_cells.2 ⟨rfl,rfl,by simp,id⟩
   ·exact LB.like_cells.2 ⟨rfl,rfl,rfl,id⟩
def cStep:Nat→Code→Code
 | 0,.seq a _=>a
 | 1,.seq _ b=>b
 | 2,.block _ b=>b
 | 3,.loop b=>b
 | 4,.cond _ a _=>a
 | 5,.cond _ _ b=>b
 | _,c=>c
def cWalk:List Nat→Code→Code
 | [],c=>c
 | n::l,c=>cWalk l (cStep n c)
def cW (l:List Nat)(f:Func):Code:=cWalk l (f.body.getD .skip)
theorem AW.as {c:Ctx}{r:Option Nat}{x y:Code}{s:LSt}{κ:Nat}{Q:Ex→LSt→Nat→Prop}(h:x=y) (k:AW c r y s κ Q):AW c r x s κ Q:=h ▸ k
theorem AW.le {c:Ctx}{r:Option Nat}{x:Code}{s s2:LSt}{κ κ2:Nat}{Q:Ex→LSt→Nat→Prop}(h:Le c s s2) (k:AW c r x s2 κ2 Q):AW c r x s κ Q:=by
 obtain⟨g,hg⟩:=h
 exact AW.coarse hg k
theorem bq_sz {D B L:Nat}{x:Rat}(h:bq D B x) (hD:D≠0) (hL:nl D+nl B≤L):szR x L:=by
 have h1:nl x.den≤nl D:=nl_mono (Nat.le_of_dvd (Nat.pos_of_ne_zero hD) h.1)
 have h2:=nl_mono h.2
 have h3:=nl_mul B x.den
 exact⟨by omega,by omega⟩
theorem ch_le (n k:Nat):ch n k≤2 ^ n:=by
 induction n generalizing k with
 | zero=>cases k <;> simp [ch]
 | succ n ih=>
  cases k with
  | zero=>simp only [ch];exact Nat.pow_pos (by decide)
  | succ k=>
   simp only [ch]
   have h1:=ih k
   have h2:=ih (k+1)
   rw [Nat.pow_succ];omega
theorem chp_le (n:Nat):∀ m,chp n m≤2 ^ (n*m)
 | 0=>by simp [chp]
 | m+1=>by
  have h1:=chp_le n m
  have h2:=ch_le n m
  show chp n m*ch n m≤_
  rw [Nat.mul_succ,Nat.pow_add]
  exact Nat.mul_le_mul h1 h2
theorem nl_chp {n:Nat}(h:n≤16):nl (chp n (n+1))≤9:=by
 have h1:=nl_mono (chp_le n (n+1))
 have h2:=nl_two (n*(n+1))
 have h3:n*(n+1)≤16*17:=Nat.mul_le_mul h (by omega)
 omega
theorem nl_nxD {D n:Nat}{lo w:Rat}(hn:n≤16) (hl:szR lo 300) (hw:szR w 601):nl (nxD D n lo w)≤nl D+20000:=by
 have h1:=nl_pow hl.2 n
 have h2:=nl_pow hw.2 n
 have h3:=nl_chp hn
 have h4:=nl_mul (D*lo.den ^ n) (w.den ^ n*chp n (n+1))
 have h5:=nl_mul D (lo.den ^ n)
 have h6:=nl_mul (w.den ^ n) (chp n (n+1))
 have h7:n*300≤16*300:=Nat.mul_le_mul_right _ hn
 have h8:n*601≤16*601:=Nat.mul_le_mul_right _ hn
 unfold nxD
 omega
theorem nl_nxB {B n:Nat}{lo w:Rat}(hn:n≤16) (hl:szR lo 300) (hw:szR w 601):nl (nxB B n lo w)≤nl B+99000:=by
 have a1:nl (1+lo.num.natAbs)≤301:=by have:=nl_add 1 lo.num.natAbs;have:=nl_one;have:=hl.1;omega
 have a2:nl (w.num.natAbs+1)≤602:=by have:=nl_add w.num.natAbs 1;have:=nl_one;have:=hw.1;omega
 have h1:=nl_pow a1 (n*n+n)
 have h2:=nl_pow a2 n
 have h3:=nl_two n
 have h4:=nl_mul (B*(1+lo.num.natAbs) ^ (n*n+n)*(w.num.natAbs+1) ^ n) (2 ^ n)
 have h5:=nl_mul (B*(1+lo.num.natAbs) ^ (n*n+n)) ((w.num.natAbs+1) ^ n)
 have h6:=nl_mul B ((1+lo.num.natAbs) ^ (n*n+n))
 have h7:n*n≤16*16:=Nat.mul_le_mul hn hn
 have h8:(n*n+n)*301≤272*301:=Nat.mul_le_mul_right _ (by omega)
 have h9:n*602≤16*602:=Nat.mul_le_mul_right _ hn
 unfold nxB
 omega
def Bnd (t:Nat)(c:Sq):Prop:=∃ D B,D≠0∧nl D≤100000*(t+1)∧nl B≤100000*(t+1)∧∀ i,bq D B (c i)
theorem Bnd.sz {t:Nat}{c:Sq}(h:Bnd t c) (ht:t≤9) (i:Nat):szR (c i) 10000000:=by
 obtain⟨D,B,h1,h2,h3,h4⟩:=h
 exact bq_sz (h4 i) h1 (by omega)
theorem Bnd.start {ts:List Trm}(hl:ts.length≤200) (hz:∀ t∈ts,szR t.1 300) (pl:List Nat→Nat):Bnd 0 (trm (fun _=>0) ts pl):=by
 obtain⟨h1,h2⟩:=trm_bq pl ts
 have key:∀ r:List Trm,(∀ t∈r,szR t.1 300)→nl (dpr r.reverse)≤1+300*r.length∧nl (nsm r.reverse)≤300+r.length:=by
  intro r
  induction r with
  | nil=>
   intro _
   have h0:nl 0=0:=rfl
   have e1:dpr ([]:List Trm).reverse=1:=rfl
   have e2:nsm ([]:List Trm).reverse=0:=rfl
   rw [e1,e2,h0,nl_one]
   exact⟨by simp,by simp⟩
  | cons t r ih=>
   intro h
   obtain⟨i1,i2⟩:=ih fun u hu=>h u (List.mem_cons_of_mem _ hu)
   have ht:=h t (List.mem_cons_self ..)
   rw [List.reverse_cons,dpr_snoc,nsm_snoc,List.length_cons]
   have m1:=nl_mul (dpr r.reverse) t.1.den
   have m2:=nl_add (nsm r.reverse) t.1.num.natAbs
   have:=ht.1
   have:=ht.2
   exact⟨by omega,by omega⟩
 have:=key ts.reverse fun t ht=>hz t (List.mem_reverse.1 ht)
 rw [List.reverse_reverse,List.length_reverse] at this
 exact⟨_,_,h1,by omega,by omega,h2⟩
theorem Bnd.step {t:Nat}{c:Sq}{n s:Nat}{lo w:Rat}(h:Bnd t c) (hn:n≤16) (hl:szR lo 300) (hw:szR w 601):Bnd (if n=0 then t else t+1) (tr n s (cnv n lo w) c):=by
 obtain⟨D,B,h1,h2,h3,h4⟩:=h
 refine⟨nxD D n lo w,nxB B n lo w,nxD_ne h1 n lo w,?_,?_,fun i=>tr_bq h1 h4 i⟩
 ·by_cases h0:n=0
  ·subst h0;rw [nxD_zero,if_pos rfl];exact h2
  ·rw [if_neg h0];have:=nl_nxD (D:=D) hn hl hw;omega
 ·by_cases h0:n=0
  ·subst h0;rw [nxB_zero,if_pos rfl];exact h3
  ·rw [if_neg h0];have:=nl_nxB (B:=B) hn hl hw;omega
theorem Bnd.line {t:Nat}{c:Sq}{n:Nat}{lo w:Rat}(h:Bnd t c) (ht:t≤9) (hn:n≤16) (hl:szR lo 300) (hw:szR w 601) (A:Sq) (hA:∀ k,k≤n→∃ i,A k=c i):LnOK (fun x=>szR x 10000000) n lo w A:=by
 obtain⟨D,B,h1,h2,h3,h4⟩:=h
 have d1:=nl_nxD (D:=D) hn hl hw
 have d2:=nl_nxB (B:=B) hn hl hw
 refine line_ok (D:=D) (B:=B) h1 (fun j hj=>?_) _ (fun x hx=>bq_sz hx (nxD_ne h1 n lo w) (by omega)) fun x hx=>?_
 ·obtain⟨i,e⟩:=hA j hj
  rw [e];exact h4 i
 ·have a2:nl (w.num.natAbs+1)≤602:=by have:=nl_add w.num.natAbs 1;have:=nl_one;have:=hw.1;omega
  have e1:=nl_pow hw.2 n
  have e2:=nl_pow a2 n
  have e3:=nl_chp hn
  have e4:=nl_mul (w.den ^ n) (chp n (n+1))
  have h8:n*601≤16*601:=Nat.mul_le_mul_right _ hn
  have h9:n*602≤16*602:=Nat.mul_le_mul_right _ hn
  exact bq_sz hx (Nat.mul_ne_zero (pow_ne w.den_nz) (chp_ne n (n+1) (Nat.le_refl _))) (by omega)
def jK (f:Nat→Nat)(N:Nat):List CV:=(List.range N).map fun i=>.d (.int .i64 (f i:Int))
theorem jK_len (f:Nat→Nat)(N:Nat):(jK f N).length=N:=by simp [jK]
theorem jK_ext {f g:Nat→Nat}{N:Nat}(h:∀ i,i<N→f i=g i):jK f N=jK g N:=by
 unfold jK;exact List.map_congr_left fun i hi=>by rw [h i (List.mem_range.1 hi)]
@[simp] theorem jK_ren (f:Nat→Nat)(N:Nat)(g:Key→Key):(jK f N).map (CV.ren g)=jK f N:=by
 unfold jK;rw [List.map_map];rfl
theorem jK_rep (N:Nat):List.replicate N (CV.d (.int .i64 0))=jK (fun _=>0) N:=by
 unfold jK
 refine List.ext_getElem (by simp) fun i h1 h2=>by simp
theorem jK_drop (f:Nat→Nat){N i:Nat}(h:i<N):∃ r,(jK f N).drop i=.d (.int .i64 (f i:Int))::r:=by
 have hi:i<(jK f N).length:=by rw [jK_len];exact h
 refine⟨(jK f N).drop (i+1),?_⟩
 rw [List.drop_eq_getElem_cons hi]
 simp [jK]
theorem seg_one {cs:List CV}{i:Nat}(h:i<cs.length) (x:CV):setSeg cs i [x]=cs.set i x:=by
 unfold setSeg;simp [List.set_eq_take_append_cons_drop,h]
theorem jK_set (f:Nat→Nat){N i:Nat}(h:i<N) (v:Nat):setSeg (jK f N) i [.d (.int .i64 (v:Int))]=jK (fun j=>if j=i then v else f j) N:=by
 rw [seg_one (by rw [jK_len];exact h)]
 refine List.ext_getElem (by simp [jK]) fun k h1 h2=>?_
 rw [List.getElem_set]
 simp only [jK,List.getElem_map,List.getElem_range]
 by_cases e:i=k
 ·subst e;rw [if_pos rfl,if_pos rfl]
 ·rw [if_neg e,if_neg fun h=>e h.symm]
section
variable {lv:Key→LB}{own fz:Bool}{T:TypeId}
theorem ixJ {k:Key}{cs:List CV}{n i:Nat}(h:lv k=.cells own fz T cs):stepIndexAddr Tryz.prog 59 lv (.c (.lsl k 0 n 1)) (.c (.d (.int .i64 (i:Int))))=some (.c (.ptr k i),[],[k],i<n):=by
 simp [stepIndexAddr,h]
theorem ldJ {k:Key}{f:Nat→Nat}{N i:Nat}(h:lv k=.cells own fz T (jK f N)) (hi:i<N):stepLoad Tryz.prog 3 lv (.c (.ptr k i))=some (.c (.d (.int .i64 (f i:Int))),[],[k],True):=by
 obtain⟨r,hr⟩:=jK_drop f hi
 simp [stepLoad,h,hr]
theorem ldJ' {f:Nat→Nat}{N i:Nat}(hi:i<N):loadA Tryz.prog 3 ((jK f N).drop i)=some (.c (.d (.int .i64 (f i:Int)))):=by
 obtain⟨r,hr⟩:=jK_drop f hi
 simp [hr]
theorem stJ {k:Key}{f:Nat→Nat}{N i:Nat}(h:lv k=.cells own false T (jK f N)) (hi:i<N) (v:Nat):stepStore Tryz.prog 3 lv (.c (.ptr k i)) (.c (.d (.int .i64 (v:Int))))=some (.undef,[(k,.cells own false T (jK (fun j=>if j=i then v else f j) N))],[],True):=by
 have e:=jK_set f hi v
 have hl:i+1≤(jK f N).length:=by rw [jK_len];omega
 simp [stepStore,h,AV.cells,e,hl]
theorem ixQ {k:Key}{cs:List CV}{n i:Nat}(h:lv k=.cells own fz T cs):stepIndexAddr Tryz.prog 48 lv (.c (.lsl k 0 n 3)) (.c (.d (.int .i64 (i:Int))))=some (.c (.ptr k (i*3)),[],[k],i<n):=by
 simp [stepIndexAddr,h]
end
@[simp] theorem qK_ren' (f:Sq)(m:Nat)(g:Key→Key):(qK f m).map (CV.ren g)=qK f m:=qK_ren f m g
theorem upd_twice {α:Type}(f:Nat→α) (k:Nat) (x y:α):upd (upd f k x) k y=upd f k y:=by
 funext j;unfold upd;split <;> rfl
def dgF (l:List Tm)(i:Nat):Nat→Nat:=dgX ((l.take i).map tmT)
theorem dgF_zero (l:List Tm):dgF l 0=fun _=>0:=rfl
theorem dgF_all (l:List Tm):dgF l l.length=dgX (l.map tmT):=by unfold dgF;rw [List.take_length]
theorem dgF_succ {l:List Tm}{i:Nat}(h:i<l.length) (j:Nat):dgF l (i+1) j=max (dgF l i j) ((tmT l[i]).2.getD j 0):=by
 unfold dgF;rw [take_tmT h,dgX_snoc]
def dgI (f:Nat→Nat)(ks:List Nat)(q:Nat):Nat→Nat:=fun p=>if p<q then max (f p) (ks.getD p 0) else f p
theorem dgI_zero (f:Nat→Nat)(ks:List Nat):dgI f ks 0=f:=by funext p;exact if_neg (by omega)
theorem dgI_step (f:Nat→Nat)(ks:List Nat)(q v:Nat)(hv:v=max (f q) (ks.getD q 0)):(fun j=>if j=q then v else dgI f ks q j)=dgI f ks (q+1):=by
 funext p
 unfold dgI
 by_cases e:p=q
 ·subst e;rw [if_pos rfl,if_pos (by omega),hv]
 ·rw [if_neg e]
  by_cases h:p<q
  ·rw [if_pos h,if_pos (by omega)]
  ·rw [if_neg h,if_neg (by omega)]
theorem dgI_at (f:Nat→Nat)(ks:List Nat)(q:Nat):dgI f ks q q=f q:=if_neg (by omega)
theorem dgI_end {l:List Tm}{i:Nat}(h:i<l.length) (N:Nat):jK (dgI (dgF l i) (tmT l[i]).2 N) N=jK (dgF l (i+1)) N:=jK_ext fun j hj=>by
 rw [dgF_succ h];exact if_pos hj
def axL (ts:List Trm)(is:List Iv):List Ax:=(List.range is.length).map fun j=>⟨dgX ts j,(is.getD j (0,0)).1,(is.getD j (0,0)).2 - (is.getD j (0,0)).1⟩
theorem axL_len (ts:List Trm)(is:List Iv):(axL ts is).length=is.length:=by simp [axL]
theorem axL_get (ts:List Trm)(is:List Iv){j:Nat}(h:j<(axL ts is).length):(axL ts is)[j]=⟨dgX ts j,(is[j]'(by rw [axL_len] at h;exact h)).1,(is[j]'(by rw [axL_len] at h;exact h)).2 - (is[j]'(by rw [axL_len] at h;exact h)).1⟩:=by
 have h':j<is.length:=by rw [axL_len] at h;exact h
 simp [axL,h']
theorem axL_n (ts:List Trm)(is:List Iv):(axL ts is).map (·.n)=dgL ts is.length:=by simp [axL,dgL,Function.comp_def]
def cfP (ts:List Trm)(N:Nat):Sq:=trm (fun _=>0) ts (plN (dgL ts N))
def cfB (ts:List Trm)(is:List Iv):Sq:=brn (axL ts is) (cfP ts is.length)
def cfM (ts:List Trm)(N:Nat):Nat:=sizN (dgL ts N)
def cfE (l:List Tm)(b:List Sp):Int:=if bxE b 0≠0 then bxE b 0 else if tmE l b.length≠0 then tmE l b.length else if 600<cfM (l.map tmT) b.length then 3 else 0
def cfL (ts:List Trm)(is:List Iv):List Rat:=(List.range (cfM ts is.length)).map (cfB ts is)
theorem qK_D (c:Sq)(M:Nat):qK c M=(((List.range M).map c).map numD).flatten.map CV.d:=by
 induction M with
 | zero=>rfl
 | succ M ih=>
  rw [List.range_succ]
  simp only [qK,ih,List.map_append,List.flatten_append,List.map_cons,List.map_nil,List.flatten_cons,List.flatten_nil,List.append_nil]
  congr 1
  simp only [qc,nC_nD];rfl
theorem dRes_qK {lv:Key→LB}{k:Key}{own fz:Bool}{T:TypeId}{c:Sq}{M:Nat}(h:lv k=.cells own fz T (qK c M)) (hl:M≤9223372036854775807):dRes lv (.c (.lsl k 0 M 3))=some (numsA ((List.range M).map c),[k]):=by
 have:=dRes_sl (es:=((List.range M).map c).map numD) (lv:=lv) (k:=k) (own:=own) (fz:=fz) (T:=T) (sz:=3) (h.trans (congrArg _ (qK_D c M))) (by intro e he;obtain⟨a,_,rfl⟩:=List.mem_map.1 he;rfl) (by simpa using hl)
 rw [List.length_map,List.length_map,List.length_range] at this
 exact this
def intsA (f:Nat→Nat)(N:Nat):AV:=.c (.d (.sl ((List.range N).map fun i=>[.int .i64 (f i:Int)])))
theorem jK_D (f:Nat→Nat)(N:Nat):jK f N=((List.range N).map fun i=>[DV.int .i64 (f i:Int)]).flatten.map CV.d:=by
 unfold jK
 induction N with
 | zero=>rfl
 | succ N ih=>rw [List.range_succ];simp only [List.map_append,List.flatten_append,ih];rfl
theorem dRes_jK {lv:Key→LB}{k:Key}{own fz:Bool}{T:TypeId}{f:Nat→Nat}{N:Nat}(h:lv k=.cells own fz T (jK f N)) (hl:N≤9223372036854775807):dRes lv (.c (.lsl k 0 N 1))=some (intsA f N,[k]):=by
 have:=dRes_sl (es:=(List.range N).map fun i=>[DV.int .i64 (f i:Int)]) (lv:=lv) (k:=k) (own:=own) (fz:=fz) (T:=T) (sz:=1) (h.trans (congrArg _ (jK_D f N))) (by intro e he;obtain⟨a,_,rfl⟩:=List.mem_map.1 he;rfl) (by simpa using hl)
 rw [List.length_map,List.length_range] at this
 exact this
@[simp] theorem scT_pure (o:Option (List (List DV)))(n:DV):(AV.tup [AV.c (scC o),AV.c (.d n)]).pure=true:=by cases o <;> rfl
theorem bxI_len (l:List Sp):(bxI l).length=l.length:=by simp [bxI]
theorem srcA_sl' {lv:Key→LB}{sz:Nat}{es:List (List DV)}(h:∀ e∈es,e.length=sz):srcA lv sz (.c (.d (.sl es)))=some (es.length,es.flatten.map CV.d):=by
 have:es.all (·.length == sz)=true:=List.all_eq_true.2 fun e he=>by simpa using h e he
 show (if es.all (·.length == sz)=true then _ else _)=_
 rw [if_pos this]
theorem flat_ren' (es:List (List DV))(g:Key→Key):(es.flatten.map CV.d).map (CV.ren g)=es.flatten.map CV.d:=by
 rw [List.map_map];rfl
theorem flat_like' (E:TypeId)(es:List (List DV))(g:Key→Key):(LB.cells true false E (es.flatten.map CV.d)).like (.cells true false E (es.flatten.map CV.d)) g:=LB.like_cells.2 ⟨rfl,rfl,(flat_ren' es g).symm,id⟩
def spK (l:List Sp):List CV:=(l.map spD).flatten.map CV.d
theorem cloneSp_ok (G:List (List DV))(l:List Sp)(hl:l.length≤1048576):CallsS Tryz.prog G 44 [.c (.d (.sl (l.map spD)))] [] (.ret (.c (.lsl 1000 0 l.length 2)) [] [.cells true false 37 (spK l)]):=by
 have e2:∀ es,stepBin Tryz.prog .eql 23 (.c (.d (.sl es))) (.c (.d .nilsl))=some (.c (.d (.bool false)),[],[],True):=fun es=>by kernel_rfl
 have hlen:(l.map spD).length=l.length:=List.length_map ..
 have h:∀ e∈l.map spD,e.length=2:=by intro e he;obtain⟨s,_,rfl⟩:=List.mem_map.1 he;rfl
 unfold spK
 rw [← hlen] at hl ⊢
 generalize l.map spD=es at *
 have hsrc:∀ lv,srcA lv 2 (.c (.d (.sl es)))=some (es.length,es.flatten.map CV.d):=fun lv=>srcA_sl' h
 refine CallsS.enn Go.Proofs.Tryz.func44 rfl fun _=>AW.q ?_
 refine AW.seqK fun K hK=>AW.f1 e2 ?_
 refine AW.cn (AW.skip (hK _ _ (AW.sr fun K hK=>?_)))
 simp [hsrc,repl,fillA,keyOf,-List.map_flatten]
 repeat refine and_o ?_
 apply hK
 refine AW.ret (κ:=0) ⟨[(1000,1,.cells true false 37 (es.flatten.map CV.d))],9,lvOf_n1 _,by simp,by simp,by simp,?_,rfl,?_⟩
 ·intro e he
  rw [List.mem_singleton.1 he]
  exact flat_like' 37 es _
 ·show resA _ _ [.tmp 2]=_
  simp [resA,resL,resV,kmap]
def splR (l:List Sp)(i:Int)(at_:List UInt8):Option (List Sp) × Option (List Sp) × Int:=
 if bxE l 0≠0 then (none,none,bxE l 0)
 else if i<0∨(l.length:Int)≤i then (none,none,7)
 else if ratE at_≠0 then (none,none,ratE at_)
 else if ratP at_≤((bxI l).getD i.toNat (0,0)).1∨((bxI l).getD i.toNat (0,0)).2≤ratP at_ then (none,none,7)
 else (some (l.set i.toNat ((l.getD i.toNat ([],[])).1,at_)),some (l.set i.toNat (at_,(l.getD i.toNat ([],[])).2)),0)
theorem spK_cons (s:Sp)(l:List Sp):spK (s::l)=.d (.str s.1)::.d (.str s.2)::spK l:=rfl
theorem spK_len:∀ l:List Sp,(spK l).length=l.length*2
 | []=>rfl
 | s::l=>by rw [spK_cons,List.length_cons,List.length_cons,spK_len l,List.length_cons];omega
theorem spK_set1 (v:List UInt8):∀ (l:List Sp) (k:Nat),k<l.length→setSeg (spK l) (k*2+1) [.d (.str v)]=spK (l.set k ((l.getD k ([],[])).1,v))
 | [],k,h=>by cases h
 | s::l,0,_=>by simp [spK_cons,setSeg]
 | s::l,k+1,h=>by
  have ih:=spK_set1 v l k (by simpa using h)
  rw [List.set_cons_succ,List.getD_cons_succ,spK_cons,spK_cons,← ih,show (k+1)*2+1=(k*2+1)+1+1 by omega]
  simp [setSeg,show (k*2+1)+1+1+1=(k*2+1+1)+1+1 by omega]
theorem spK_set0 (v:List UInt8):∀ (l:List Sp) (k:Nat),k<l.length→setSeg (spK l) (k*2) [.d (.str v)]=spK (l.set k (v,(l.getD k ([],[])).2))
 | [],k,h=>by cases h
 | s::l,0,_=>by simp [spK_cons,setSeg]
 | s::l,k+1,h=>by
  have ih:=spK_set0 v l k (by simpa using h)
  rw [List.set_cons_succ,List.getD_cons_succ,spK_cons,spK_cons,← ih,show (k+1)*2=k*2+1+1 by omega]
  simp [setSeg,show k*2+1+1+1=(k*2+1)+1+1 by omega]
theorem spK_ren (l:List Sp)(g:Key→Key):(spK l).map (CV.ren g)=spK l:=by
 unfold spK;rw [List.map_map];rfl
theorem fixC (T:TypeId)(cs:List CV):LB.fix true (.cells true false T cs)=.cells true false T cs:=rfl
theorem dRes_spK {lv:Key→LB}{k n:Nat}{own fz:Bool}{T:TypeId}{l:List Sp}(h:lv k=.cells own fz T (spK l)) (hn:n=l.length) (hl:l.length≤9223372036854775807):dRes lv (.c (.lsl k 0 n 2))=some (.c (scC (bxO (some l))),[k]):=by
 have:=dRes_sl (es:=l.map spD) (sz:=2) h (by intro e he;obtain⟨a,_,rfl⟩:=List.mem_map.1 he;rfl) (by rw [List.length_map];exact hl)
 rw [List.length_map] at this
 rw [hn,this];rfl
theorem dRes3 {lv:Key→LB}{x y:CV}{x' y':AV}{ks js:List Key}{e:Int}(h:dRes lv (.c x)=some (x',ks)) (h':dRes lv (.c y)=some (y',js)):dRes lv (.tup [.c x,.c y,.c (.d (.int .i64 e))])=some (.tup [x',y',.c (.d (.int .i64 e))],ks++js):=by
 have h:dArg lv (.c x)=some (x',ks):=h
 have h':dArg lv (.c y)=some (y',js):=h'
 have he:dArg lv (AV.c (CV.d (DV.int IntKind.i64 e)))=some (.c (.d (.int .i64 e)),[]):=rfl
 simp [dRes,dArgs,h,h',he]
theorem splR_1 {l:List Sp}{i:Int}{t:List UInt8}(h:bxE l 0≠0):splR l i t=(none,none,bxE l 0):=if_pos h
theorem splR_2 {l:List Sp}{i:Int}{t:List UInt8}(h:bxE l 0=0) (h1:i<0∨(l.length:Int)≤i):splR l i t=(none,none,7):=by
 unfold splR;rw [if_neg (not_not_intro h),if_pos h1]
theorem splR_3 {l:List Sp}{i:Int}{t:List UInt8}(h:bxE l 0=0) (h1:¬ (i<0∨(l.length:Int)≤i)) (h2:ratE t≠0):splR l i t=(none,none,ratE t):=by
 unfold splR;rw [if_neg (not_not_intro h),if_neg h1,if_pos h2]
theorem splR_4 {l:List Sp}{k:Nat}{t:List UInt8}{a:Iv}(h:bxE l 0=0) (hk:k<l.length) (h2:ratE t=0) (ha:(bxI l)[k]'(by rw [bxI_len];exact hk)=a) (h3:ratP t≤a.1∨a.2≤ratP t):splR l (k:Int) t=(none,none,7):=by
 have hg:(bxI l).getD k (0,0)=a:=by rw [List.getD_eq_getElem?_getD,List.getElem?_eq_getElem (by rw [bxI_len];exact hk)];exact ha
 unfold splR;rw [if_neg (not_not_intro h),if_neg (by omega),if_neg (not_not_intro h2),Int.toNat_natCast,hg,if_pos h3]
theorem splR_5 {l:List Sp}{k:Nat}{t:List UInt8}{a:Iv}(h:bxE l 0=0) (hk:k<l.length) (h2:ratE t=0) (ha:(bxI l)[k]'(by rw [bxI_len];exact hk)=a) (h3:¬ (ratP t≤a.1∨a.2≤ratP t)) :
 splR l (k:Int) t=(some (l.set k ((l.getD k ([],[])).1,t)),some (l.set k (t,(l.getD k ([],[])).2)),0):=by
 have hg:(bxI l).getD k (0,0)=a:=by rw [List.getD_eq_getElem?_getD,List.getElem?_eq_getElem (by rw [bxI_len];exact hk)];exact ha
 unfold splR;rw [if_neg (not_not_intro h),if_neg (by omega),if_neg (not_not_intro h2),Int.toNat_natCast,hg,if_neg h3]
abbrev splA (r:Option (List Sp) × Option (List Sp) × Int):AV:=.tup [.c (scC (bxO r.1)),.c (scC (bxO r.2.1)),.c (.d (.int .i64 r.2.2))]
theorem Split_ok (m:Int)(b:Option (List Sp))(i:Int)(t:List UInt8)(hb:(bxL b).length≤1048576):CallsP Tryz.prog (GG m) 13 [.c (scC (bxO b)),.c (.d (.int .i64 i)),.c (.d (.str t))] (splA (splR (bxL b) i t)):=by
 have c1:=boxed_ok m b hb
 have c2:=rat_Parse m t
 by_cases h0:bxE (bxL b) 0=0
 rotate_left
 ·rw [splR_1 h0]
  rw [if_neg h0] at c1
  show CallsP Tryz.prog (GG m) 13 _ (.tup [.c (.d .nilsl),.c (.d .nilsl),.c (.d (.int .i64 (bxE (bxL b) 0)))])
  generalize bxE (bxL b) 0=n at *
  refine CallsP.en Go.Proofs.Tryz.func13 rfl fun _=>AW.q ?_
  refine AW.c0 1 c1 ?_
  refine AW.seqK fun K hK=>AW.q ?_
  refine AW.fy (by simp [h0] <;> omega) (AW.q ?_)
  exact AW.ret (κ:=0) (FinP.t3 rfl 9)
 rw [h0,if_pos rfl] at c1
 have hlp:=fun lv=>lpIv lv (bxI (bxL b))
 rw [bxI_len] at hlp
 by_cases hi:i<0∨((bxL b).length:Int)≤i
 ·rw [splR_2 h0 hi]
  show CallsP Tryz.prog (GG m) 13 _ (.tup [.c (.d .nilsl),.c (.d .nilsl),.c (.d (.int .i64 7))])
  generalize iO (bxI (bxL b))=o at *
  by_cases h1:i<0
  ·refine CallsP.en Go.Proofs.Tryz.func13 rfl fun _=>AW.q ?_
   refine AW.c0 1 c1 ?_
   refine AW.seqK fun K hK=>AW.q ?_
   refine AW.cn (AW.skip (hK _ _ (AW.seqK fun K hK=>AW.f2 hlp h1 ?_)))
   refine AW.fy (by simp [h1] <;> omega) (AW.q ?_)
   exact AW.ret (κ:=0) (FinP.t3 rfl 9)
  ·have h2:((bxL b).length:Int)≤i:=hi.resolve_left h1
   refine CallsP.en Go.Proofs.Tryz.func13 rfl fun _=>AW.q ?_
   refine AW.c0 1 c1 ?_
   refine AW.seqK fun K hK=>AW.q ?_
   refine AW.cn (AW.skip (hK _ _ (AW.seqK fun K hK=>AW.f3 hlp h1 h2 ?_)))
   refine AW.fy (by simp [h1,h2] <;> omega) (AW.q ?_)
   exact AW.ret (κ:=0) (FinP.t3 rfl 9)
 obtain⟨k,rfl⟩:∃ k:Nat,i=k:=⟨i.toNat,by omega⟩
 have hk:k<(bxL b).length:=by omega
 have hk':k<(bxI (bxL b)).length:=by rw [bxI_len];exact hk
 have h1:¬ (k:Int)<0:=by omega
 have h2:¬ ((bxL b).length:Int)≤(k:Int):=by omega
 by_cases he:ratE t=0
 rotate_left
 ·rw [splR_3 h0 hi he]
  show CallsP Tryz.prog (GG m) 13 _ (.tup [.c (.d .nilsl),.c (.d .nilsl),.c (.d (.int .i64 (ratE t)))])
  generalize iO (bxI (bxL b))=o at *
  generalize ratE t=n at *
  generalize ratP t=x at *
  refine CallsP.en Go.Proofs.Tryz.func13 rfl fun _=>AW.q ?_
  refine AW.c0 1 c1 ?_
  refine AW.seqK fun K hK=>AW.q ?_
  refine AW.cn (AW.skip (hK _ _ (AW.seqK fun K hK=>AW.f3 hlp h1 h2 ?_)))
  refine AW.fn (by simp [h1,h2] <;> omega) (AW.skip (hK _ _ (AW.c0 2 c2 ?_)))
  refine AW.seqK fun K hK=>AW.q ?_
  refine AW.fy (by simp [he] <;> omega) (AW.q ?_)
  exact AW.ret (κ:=0) (FinP.t3 rfl 9)
 rw [he] at c2
 have hx:=fun lv=>ixIv lv (bxI (bxL b)) hk'
 have hza:=bxI_z (bxL b) _ (List.getElem_mem hk')
 have hs4:=@splR_4 (bxL b) k t _ h0 hk he rfl
 have hs5:=@splR_5 (bxL b) k t _ h0 hk he rfl
 have hxz:=ratP_sz t
 generalize (bxI (bxL b))[k]=a at *
 have d1:=rat_Cmp (GG m) (ratP t) a.1 (szB hxz) (szB hza.1)
 have d2:=rat_Cmp (GG m) (ratP t) a.2 (szB hxz) (szB hza.2)
 by_cases hc:ratP t≤a.1∨a.2≤ratP t
 ·rw [hs4 hc]
  show CallsP Tryz.prog (GG m) 13 _ (.tup [.c (.d .nilsl),.c (.d .nilsl),.c (.d (.int .i64 7))])
  by_cases e1:ratP t≤a.1
  ·have e1':cmpR (ratP t) a.1≤0:=cmpR_le.2 e1
   generalize cmpR (ratP t) a.1=n1 at *
   generalize iO (bxI (bxL b))=o at *
   refine CallsP.en Go.Proofs.Tryz.func13 rfl fun _=>AW.q ?_
   refine AW.c0 1 c1 ?_
   refine AW.seqK fun K hK=>AW.q ?_
   refine AW.cn (AW.skip (hK _ _ (AW.seqK fun K hK=>AW.f3 hlp h1 h2 ?_)))
   refine AW.fn (by simp [h1,h2] <;> omega) (AW.skip (hK _ _ (AW.c0 2 c2 ?_)))
   refine AW.seqK fun K hK=>AW.q ?_
   refine AW.cn (AW.skip (hK _ _ (AW.seqK fun K hK=>AW.seqK fun K1 hK1=>?_)))
   refine AW.drawP mixed (by kernel_rfl) rfl ?_
   simp [hlp,hx,ivD,nD_C,h1,h2,setSeg]
   refine CallDo.p 10 9 d1 ?_
   simp [e1']
   refine⟨by kernel_rfl,?_⟩
   repeat refine and_o ?_
   apply hK1
   refine AW.fy (by simp [e1'] <;> omega) (AW.q ?_)
   exact AW.ret (κ:=0) (FinP.t3 rfl 9)
  ·have e2:a.2≤ratP t:=hc.resolve_left e1
   have e1':¬ cmpR (ratP t) a.1≤0:=fun h=>e1 (cmpR_le.1 h)
   have e2':0≤cmpR (ratP t) a.2:=cmpR_ge.2 e2
   generalize cmpR (ratP t) a.1=n1 at *
   generalize cmpR (ratP t) a.2=n2 at *
   generalize iO (bxI (bxL b))=o at *
   refine CallsP.en Go.Proofs.Tryz.func13 rfl fun _=>AW.q ?_
   refine AW.c0 1 c1 ?_
   refine AW.seqK fun K hK=>AW.q ?_
   refine AW.cn (AW.skip (hK _ _ (AW.seqK fun K hK=>AW.f3 hlp h1 h2 ?_)))
   refine AW.fn (by simp [h1,h2] <;> omega) (AW.skip (hK _ _ (AW.c0 2 c2 ?_)))
   refine AW.seqK fun K hK=>AW.q ?_
   refine AW.cn (AW.skip (hK _ _ (AW.seqK fun K hK=>AW.seqK fun K1 hK1=>?_)))
   refine AW.drawP mixed (by kernel_rfl) rfl ?_
   simp [hlp,hx,ivD,nD_C,h1,h2,setSeg]
   refine CallDo.p 10 9 d1 ?_
   simp [e1',hx,ivD,nD_C,setSeg]
   refine CallDo.p 10 9 d2 ?_
   simp [e2']
   refine⟨by kernel_rfl,?_⟩
   repeat refine and_o ?_
   apply hK1
   refine AW.fy (by simp [e1',e2'] <;> omega) (AW.q ?_)
   exact AW.ret (κ:=0) (FinP.t3 rfl 9)
 rw [hs5 hc]
 have e1':¬ cmpR (ratP t) a.1≤0:=fun h=>hc (.inl (cmpR_le.1 h))
 have e2':¬ 0≤cmpR (ratP t) a.2:=fun h=>hc (.inr (cmpR_ge.1 h))
 generalize cmpR (ratP t) a.1=n1 at *
 generalize cmpR (ratP t) a.2=n2 at *
 obtain⟨l,rfl⟩:∃ l,b=some l:=by
  cases b with
  | none=>cases hk
  | some l=>exact⟨l,rfl⟩
 have c3:=cloneSp_ok (GG m) l hb
 have hk:k<l.length:=hk
 have hl:l.length≤1048576:=hb
 have s1:=spK_set1 t l k hk
 have s0:=spK_set0 t l k hk
 have hlen:=spK_len l
 show CallsP Tryz.prog (GG m) 13 [.c (.d (.sl (l.map spD))),.c (.d (.int .i64 (k:Int))),.c (.d (.str t))] _
 have c1:CallsP Tryz.prog (GG m) 43 [.c (.d (.sl (l.map spD)))] (.tup [.c (scC (iO (bxI (bxL (some l))))),.c (.d (.int .i64 0))]):=c1
 generalize iO (bxI (bxL (some l)))=o at *
 refine CallsP.ed Go.Proofs.Tryz.func13 rfl fun _=>AW.q ?_
 refine AW.c0 1 c1 ?_
 refine AW.seqK fun K hK=>AW.q ?_
 refine AW.cn (AW.skip (hK _ _ (AW.seqK fun K hK=>AW.f3 hlp h1 h2 ?_)))
 refine AW.fn (by simp [h1,h2] <;> omega) (AW.skip (hK _ _ (AW.c0 2 c2 ?_)))
 refine AW.seqK fun K hK=>AW.q ?_
 refine AW.cn (AW.skip (hK _ _ (AW.seqK fun K hK=>AW.seqK fun K1 hK1=>?_)))
 refine AW.drawP mixed (by kernel_rfl) rfl ?_
 simp [hlp,hx,ivD,nD_C,h1,h2,setSeg]
 refine CallDo.p 10 9 d1 ?_
 simp [e1',hx,ivD,nD_C,setSeg]
 refine CallDo.p 10 9 d2 ?_
 simp [e2']
 refine⟨by kernel_rfl,?_⟩
 repeat refine and_o ?_
 apply hK1
 refine AW.fn (by simp [e1',e2'] <;> omega) (AW.skip (hK _ _ (AW.sr fun K hK=>?_)))
 simp
 refine CallDo.newN 30 9 [21] [.cells true false 37 (spK l)] c3 (by simp) (by simp) (by simp) rfl (by simp) (by simp) (by simp) ?_
 simp [backW,keyMap,spK_ren,fixC]
 refine CallDo.newN 30 9 [22] [.cells true false 37 (spK l)] c3 (by simp) (by simp) (by simp) rfl (by simp) (by simp) (by simp) ?_
 simp [backW,keyMap,spK_ren,fixC]
 repeat refine and_o ?_
 apply hK
 refine AW.f3 hlen s1 s0 ?_
 refine AW.q ?_
 simp only [List.getD_eq_getElem?_getD]
 have hbl:bxL (some l)=l:=rfl
 exact AW.ret (κ:=0) (FinD.tmp3' (κ:=0) (X:=.c (.lsl 21 0 l.length 2)) (Y:=.c (.lsl 22 0 l.length 2)) (Z:=.c (.d (.int .i64 0))) rfl (by simp) (by simp) (by simp) rfl rfl rfl
  (dRes3 (e:=0) (dRes_spK (k:=21) (own:=true) (fz:=false) (T:=37) (by simp [hbl]) (by simp [hbl]) (by simp [hbl];omega)) (dRes_spK (k:=22) (own:=true) (fz:=false) (T:=37) (by simp [hbl]) (by simp [hbl]) (by simp [hbl];omega))))
end Go.Am
