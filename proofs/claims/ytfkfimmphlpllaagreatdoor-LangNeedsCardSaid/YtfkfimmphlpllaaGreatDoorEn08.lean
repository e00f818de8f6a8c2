/- Helpers: an abstract machine for Go functions, and walks of functions of the program. -/
import Derived.Test.YtfkfimmphlpllaaGreatDoorEn07
import Derived.Lib.IndexMore

set_option linter.all false
set_option maxHeartbeats 8000000
set_option maxRecDepth 100000
namespace Go.Am
open Go.Am.Ty Go.Proofs N
variable {x:Rat}
theorem N2 (a b:Bool):aM Tryz.prog .eql 4 (.c (.d (.bool a))) (.c (.d (.bool b)))=some (.c (.d (.bool (a == b))),[],[],True):=by
 cases a <;> cases b <;> kernel_rfl
theorem u9 (G:List (List DV))(neg:Bool)(p q:Option (List Nat))(hp:can 4294967296 (dO p))(hq:can 4294967296 (dO q))(hq0:dO q≠[])(hl:(dO p).length<1000000000000)(hl':(dO q).length<1000000000000) :
 aa Tryz.prog G 225 [.c (.d (.bool neg)),.c (nC p),.c (nC q)] (fF (mkRat (dB neg (val 4294967296 (dO p))) (val 4294967296 (dO q)))):=by
 have:=oW G neg p q hp hq hq0 hl hl';rw [yJ neg hp hq hq0] at this;simp only [kK] at this;exact this
theorem zc (G:List (List DV))(neg:Bool)(a b:Nat)(hb:b≠0)(hl:nl a<1000000000000)(hl':nl b<1000000000000) :
 aa Tryz.prog G 225 [.c (.d (.bool neg)),.c (nC (some (aH 4294967296 a))),.c (nC (some (aH 4294967296 b)))] (fF (mkRat (dB neg a) b)):=by
 have:=u9 G neg (some (aH 4294967296 a)) (some (aH 4294967296 b)) (gb a) (gb b) (kY hb) hl hl';simp only [aW,dZ] at this;exact this
theorem D5 (G:List (List DV))(neg:Bool)(p q:Option (List Nat)):aa Tryz.prog G 198 [oJ neg p q] (oJ (!neg && decide (dO p≠[])) p q):=by
 cases neg with
 | true=>
  show aa Tryz.prog G 198 [oJ true p q] (oJ false p q);refine aa.enc Tryz.func198 rfl (fun lv=>fB lv _ _ _) fun _=>aab ?_;refine aan @Ek ?_;refine aal ?_;refine bO.cell (κ:=0) (T:=224) (t:=2) (k:=1) (off:=0) (own:=true) (fz:=false) (U:=224) (cs:=[.d (.bool false),nC p,nC q]) rfl ?_ ?_ ?_
  ·simp
  ·simp [aj]
  ·rw [List.drop_zero,bQ]
 | false=>
  by_cases hp:dO p=[]
  ·rw [show (!false && decide (dO p≠[]))=false by simp [hp]];refine aa.enc Tryz.func198 rfl (fun lv=>fB lv _ _ _) fun _=>aab ?_;refine aaC @Ek @SJ hp ?_;refine aal ?_;refine bO.cell (κ:=0) (T:=224) (t:=2) (k:=1) (off:=0) (own:=true) (fz:=false) (U:=224) (cs:=[.d (.bool false),nC p,nC q]) rfl ?_ ?_ ?_
   ·simp
   ·simp [aj]
   ·rw [List.drop_zero,bQ]
  ·rw [show (!false && decide (dO p≠[]))=true by simp [hp]];refine aa.enc Tryz.func198 rfl (fun lv=>fB lv _ _ _) fun _=>aab ?_;refine aaa fun K hK=>?_;have hp':=List.length_pos_iff.2 hp;refine aaB @Ek @SJ hp hp' (hK _ _ ?_);refine aal ?_;refine bO.cell (κ:=0) (T:=224) (t:=2) (k:=1) (off:=0) (own:=true) (fz:=false) (U:=224) (cs:=[.d (.bool true),nC p,nC q]) rfl ?_ ?_ ?_
   ·simp
   ·simp [aj]
   ·rw [List.drop_zero,bQ]
theorem Lf (G:List (List DV))(x:Rat):aa Tryz.prog G 198 [fF x] (fF (-x)):=by
 have h:=D5 G (decide (x.num<0)) (cP x.num.natAbs) (dW x.den)
 have e:(!decide (x.num<0) && decide (dO (cP x.num.natAbs)≠[]))=decide ((-x).num<0):=by
  rw [Rat.neg_num,kW]
  by_cases h0:x.num=0
  ·rw [h0];rfl
  ·have h1:(aH 4294967296 x.num.natAbs)≠[]:=kY (by omega);rw [decide_eq_true h1,Bool.and_true]
   by_cases h2:x.num<0
   ·rw [decide_eq_true h2,decide_eq_false (by omega)];rfl
   ·rw [decide_eq_false h2,decide_eq_true (by omega)];rfl
 rw [e] at h;show aa _ _ _ _ (oJ (decide ((-x).num<0)) (cP (-x).num.natAbs) (dW (-x).den));rw [show (-x).num.natAbs=x.num.natAbs by rw [Rat.neg_num,Int.natAbs_neg],Rat.neg_den];exact h
theorem GW (neg:Bool)(a:Nat):mkRat (dB neg a) 1=((dB neg a:Int):Rat):=by
 rw [Rat.mkRat_one]
theorem FG (G:List (List DV))(n:Int)(h1:-9223372036854775808≤n)(h2:n≤9223372036854775807):aa Tryz.prog G 263 [.c (.d (.int .i64 n))] (fF (n:Rat)):=by
 have hof1:=fK G 1 (by decide);have hofn:=fK G n.natAbs (by omega)
 have hl:nl n.natAbs<1000000000000:=by
  have e2:(4294967296:Nat) ^ 2=18446744073709551616:=by decide
  have:=Br (n:=n.natAbs) (m:=2) (by omega);omega
 have hm:=fun neg=>zc G neg n.natAbs 1 (by decide) hl (by rw [pg];decide)
 simp only [kK] at hof1 hofn;simp only [GW] at hm
 by_cases hn:n<0
 ·have e:dB true n.natAbs=n:=by unfold dB;rw [if_pos rfl];omega
  have Bj:=hm true;rw [e] at Bj;have ew:IntKind.u64.wrap (-IntKind.u64.wrap n)=(n.natAbs:Int):=by rw [yK,yK];omega
  refine aa.enc Tryz.func263 rfl (fun lv=>fB lv _ _ _) fun _=>aab ?_;refine aaa fun K hK=>aan hn ?_;refine aah (by simp [hn] <;> omega) (aai fun K1 hK1=>?_);simp [ew];refine ag.p 1 9 hofn ?_;simp;refine ag.p 1 9 hof1 ?_;simp;refine ag.p 1 9 Bj ?_;simp;apply hK1;refine aal ?_;refine bO.cell (κ:=0) (T:=224) (t:=2) (k:=0) (off:=0) (own:=true) (fz:=false) (U:=224) (cs:=[.d (.bool (decide ((n:Rat).num<0))),nC (cP (n:Rat).num.natAbs),nC (dW (n:Rat).den)]) rfl ?_ ?_ ?_
  ·simp
  ·simp [aj]
  ·rw [List.drop_zero,bQ]
 ·have e:dB false n.natAbs=n:=by unfold dB;rw [if_neg (by decide)];omega
  have Bj:=hm false;rw [e] at Bj;have ew:IntKind.u64.wrap n=(n.natAbs:Int):=by rw [yK];omega
  refine aa.enc Tryz.func263 rfl (fun lv=>fB lv _ _ _) fun _=>aab ?_;refine aaa fun K hK=>aan hn ?_;refine aag (by simp [hn] <;> omega) (aac (hK _ _ (aai fun K hK=>?_)));simp [ew];refine ag.p 1 9 hofn ?_;simp;refine ag.p 1 9 hof1 ?_;simp;refine ag.p 1 9 Bj ?_;simp;apply hK;refine aal ?_;refine bO.cell (κ:=0) (T:=224) (t:=2) (k:=0) (off:=0) (own:=true) (fz:=false) (U:=224) (cs:=[.d (.bool (decide ((n:Rat).num<0))),nC (cP (n:Rat).num.natAbs),nC (dW (n:Rat).den)]) rfl ?_ ?_ ?_
  ·simp
  ·simp [aj]
  ·rw [List.drop_zero,bQ]
def zl (neg:Bool)(a:Nat)(neg':Bool)(b q:Nat):Rat:=
 if neg=neg' then mkRat (dB neg (a+b)) q else if a<b then mkRat (dB neg' (b - a)) q else mkRat (dB neg (a - b)) q
theorem qU {a b:Nat}:(dI a b<0)↔a<b:=by unfold dI;(repeat' split) <;> omega
theorem E1 (G:List (List DV))(neg neg':Bool)(p q p' q':Option (List Nat))(h1:(dO p).length≤10000000000)(h2:(dO q).length≤10000000000)(h3:(dO p').length≤10000000000)(h4:(dO q').length≤10000000000)
 (c1:can 4294967296 (dO p)) (c2:can 4294967296 (dO (eO q))) (c3:can 4294967296 (dO p')) (c4:can 4294967296 (dO (eO q'))) (z2:(val 4294967296 (dO (eO q)))≠0) (z4:(val 4294967296 (dO (eO q')))≠0) :
 aa Tryz.prog G 335 [oJ neg p q,oJ neg' p' q'] (fF (zl neg ((val 4294967296 (dO p))*(val 4294967296 (dO (eO q')))) neg' ((val 4294967296 (dO p'))*(val 4294967296 (dO (eO q)))) ((val 4294967296 (dO (eO q)))*(val 4294967296 (dO (eO q')))))):=by
 have b1:=rM h2 (by decide);have b2:=rM h4 (by decide);have m1:=gm G p (eO q') (by omega) (by omega);have m2:=gm G p' (eO q) (by omega) (by omega);have m3:=gm G (eO q) (eO q') (by omega) (by omega);have hQ:(val 4294967296 (dO (eO q)))*(val 4294967296 (dO (eO q')))≠0:=Nat.ne_of_gt (Nat.mul_pos (Nat.pos_of_ne_zero z2) (Nat.pos_of_ne_zero z4));have lv:∀ {o:Option (List Nat)},can 4294967296 (dO o)→nl (val 4294967296 (dO o))=(dO o).length:=fun {o} hc=>by unfold nl;rw [← gw (by decide) hc rfl]
 have l1:nl ((val 4294967296 (dO p))*(val 4294967296 (dO (eO q'))))≤20000000000:=by
  have:=fR (val 4294967296 (dO p)) (val 4294967296 (dO (eO q')));rw [lv c1,lv c4] at this;omega
 have l2:nl ((val 4294967296 (dO p'))*(val 4294967296 (dO (eO q))))≤20000000000:=by
  have:=fR (val 4294967296 (dO p')) (val 4294967296 (dO (eO q)));rw [lv c3,lv c2] at this;omega
 have l3:nl ((val 4294967296 (dO (eO q)))*(val 4294967296 (dO (eO q'))))≤20000000000:=by
  have:=fR (val 4294967296 (dO (eO q))) (val 4294967296 (dO (eO q')));rw [lv c2,lv c4] at this;omega
 generalize (val 4294967296 (dO p))*(val 4294967296 (dO (eO q')))=a at *
 generalize (val 4294967296 (dO p'))*(val 4294967296 (dO (eO q)))=b at *
 generalize (val 4294967296 (dO (eO q)))*(val 4294967296 (dO (eO q')))=Q at *
 have la:(dO (some (aH 4294967296 a))).length≤20000000000:=l1;have lb:(dO (some (aH 4294967296 b))).length≤20000000000:=l2;have k1:=rI G (some (aH 4294967296 a)) (some (aH 4294967296 b)) (by omega) (by omega);have k2:=gp (G:=G) (a:=some (aH 4294967296 a)) (b:=some (aH 4294967296 b)) (gb _) (gb _);have k3:=fun h=>rj G (some (aH 4294967296 a)) (some (aH 4294967296 b)) (by omega) h
 have k4:=fun h=>rj G (some (aH 4294967296 b)) (some (aH 4294967296 a)) (by omega) h
 simp only [aW,dZ] at k1 k2 k3 k4;simp only [kK,ED] at m1 m2 m3 k1 k2 k3 k4;have mk1:=fun neg n (h:nl n≤20000000001)=>zc G neg n Q hQ (by omega) (by omega)
 have hsum:nl (a+b)≤20000000001:=by have:=E4 a b;omega
 have hs1:nl (a - b)≤20000000001:=by have:=kN (Nat.sub_le a b);omega
 have hs2:nl (b - a)≤20000000001:=by have:=kN (Nat.sub_le b a);omega
 refine aa.enc Tryz.func335 rfl (fun lv=>fB lv _ _ _) fun _=>aab ?_;refine aaa fun K hK=>?_;refine aap mixed (by kernel_rfl) rfl ?_;simp;refine ag.p 3 9 (dn _ neg' p' q') ?_;simp;refine ag.p 3 9 m1 ?_;simp;refine ag.p 3 9 (dn _ neg p q) ?_;simp;refine ag.p 3 9 m2 ?_;simp;refine ag.p 3 9 (dn _ neg p q) ?_;simp;refine ag.p 3 9 (dn _ neg' p' q') ?_;simp;refine ag.p 3 9 m3 ?_;simp;refine⟨by kernel_rfl,?_⟩;apply hK;clear hK K;refine aaa fun K hK=>aaf (aan @N2 ?_)
 by_cases hn:neg=neg'
 ·subst hn;have e:zl neg a neg b Q=mkRat (dB neg (a+b)) Q:=by unfold zl;rw [if_pos rfl]
  rw [e];refine aaj (aaa fun K1 hK1=>?_);refine aap mixed (by kernel_rfl) rfl ?_;simp;refine ag.p 3 9 k1 ?_;simp;refine ag.p 3 9 (mk1 neg _ hsum) ?_;simp;refine⟨by kernel_rfl,?_⟩;apply hK1;clear hK1 K1;refine aal ?_;refine bO.cell (κ:=0) (T:=224) (t:=4) (k:=2) (off:=0) (own:=true) (fz:=false) (U:=224) (cs:=[.d (.bool (decide ((mkRat (dB neg (a+b)) Q).num<0))),nC (cP (mkRat (dB neg (a+b)) Q).num.natAbs),nC (dW (mkRat (dB neg (a+b)) Q).den)]) rfl ?_ ?_ ?_
  ·simp
  ·simp [aj]
  ·rw [List.drop_zero,bQ]
 have hn':(neg == neg')=false:=by cases neg <;> cases neg' <;> simp_all
 refine aag (by simp [hn'] <;> omega) (aas 3 k2 ?_)
 by_cases hab:a<b
 ·have e:zl neg a neg' b Q=mkRat (dB neg' (b - a)) Q:=by unfold zl;rw [if_neg hn,if_pos hab]
  rw [e];have hc:=qU.2 hab;refine aah (by simp [hc] <;> omega) (aaa fun K1 hK1=>?_);refine aap mixed (by kernel_rfl) rfl ?_;simp;refine ag.p 3 9 (k4 (by omega)) ?_;simp;refine ag.p 3 9 (mk1 neg' _ hs2) ?_;simp;refine⟨by kernel_rfl,?_⟩;apply hK1;clear hK1 K1;refine aal ?_;refine bO.cell (κ:=0) (T:=224) (t:=4) (k:=2) (off:=0) (own:=true) (fz:=false) (U:=224) (cs:=[.d (.bool (decide ((mkRat (dB neg' (b - a)) Q).num<0))),nC (cP (mkRat (dB neg' (b - a)) Q).num.natAbs),nC (dW (mkRat (dB neg' (b - a)) Q).den)]) rfl ?_ ?_ ?_
  ·simp
  ·simp [aj]
  ·rw [List.drop_zero,bQ]
 ·have e:zl neg a neg' b Q=mkRat (dB neg (a - b)) Q:=by unfold zl;rw [if_neg hn,if_neg hab]
  have hc:¬ dI a b<0:=fun h=>hab (qU.1 h)
  refine aag (by simp [hc] <;> omega) (aac (hK _ _ (aaa fun K hK=>?_)));refine aap mixed (by kernel_rfl) rfl ?_;simp;refine ag.p 3 9 (k3 (by omega)) ?_;simp;refine ag.p 3 9 (mk1 neg _ hs1) ?_;simp;refine⟨by kernel_rfl,?_⟩;apply hK;clear hK K;refine aal ?_;refine bO.cell (κ:=0) (T:=224) (t:=4) (k:=2) (off:=0) (own:=true) (fz:=false) (U:=224) (cs:=[.d (.bool (decide ((mkRat (dB neg (a - b)) Q).num<0))),nC (cP (mkRat (dB neg (a - b)) Q).num.natAbs),nC (dW (mkRat (dB neg (a - b)) Q).den)]) rfl ?_ ?_ ?_
  ·simp
  ·simp [aj]
  ·rw [List.drop_zero,bQ,e]
theorem ig (n:Nat):(dO (cP n)).length=nl n:=by rw [kW];rfl
theorem qp (n:Nat):(dO (dW n)).length≤nl n:=by
 unfold dW;split
 ·exact Nat.zero_le _
 ·exact Nat.le_refl _
theorem Lz (G:List (List DV))(x y:Rat)(hx:jh x 10000000000)(hy:jh y 10000000000):aa Tryz.prog G 335 [fF x,fF y] (fF (x+y)):=by
 have h:=E1 G (decide (x.num<0)) (decide (y.num<0)) (cP x.num.natAbs) (dW x.den) (cP y.num.natAbs) (dW y.den)
  (by rw [ig];exact hx.1) (Nat.le_trans (qp _) hx.2) (by rw [ig];exact hy.1) (Nat.le_trans (qp _) hy.2) (nh _) (Cc _) (nh _) (Cc _) (by rw [sY];exact x.den_nz) (by rw [sY];exact y.den_nz)
 simp only [nw,sY] at h
 have e:zl (decide (x.num<0)) (x.num.natAbs*y.den) (decide (y.num<0)) (y.num.natAbs*x.den) (x.den*y.den)=x+y:=by
  rw [DL];unfold zl;split
  ·rename_i hh;rw [hh,zH]
  ·split
   ·rename_i hh hl;rw [ET hh hl]
   ·rename_i hh hl;rw [Eo hh hl]
 rw [e] at h;exact h
theorem Mt (G:List (List DV))(x y:Rat)(hx:jh x 10000000000)(hy:jh y 10000000000):aa Tryz.prog G 287 [fF x,fF y] (fF (x - y)):=by
 have h1:=Lf G y;have h2:=Lz G x (-y) hx (uy hy);rw [← Rat.sub_eq_add_neg] at h2;refine aa.enc Tryz.func287 rfl (fun lv=>fB lv _ _ _) fun _=>aab ?_;refine aaa fun K hK=>?_;refine aap mixed (by kernel_rfl) rfl ?_;simp;refine ag.p 3 9 h1 ?_;simp;refine ag.p 3 9 h2 ?_;simp;refine⟨by kernel_rfl,?_⟩;apply hK;clear hK K;refine aal ?_;refine bO.cell (κ:=0) (T:=224) (t:=4) (k:=2) (off:=0) (own:=true) (fz:=false) (U:=224) (cs:=[.d (.bool (decide ((x - y).num<0))),nC (cP (x - y).num.natAbs),nC (dW (x - y).den)]) rfl ?_ ?_ ?_
 ·simp
 ·simp [aj]
 ·rw [List.drop_zero,bQ]
theorem Bv (G:List (List DV))(x:Rat)(k:Int)(hx:jh x 10000000000)(h1:-1000000≤k)(h2:k≤1000000):aa Tryz.prog G 332 [fF x,.c (.d (.int .i64 k))] (fF (aP x k)):=by
 have hbot:=dn G (decide (x.num<0)) (cP x.num.natAbs) (dW x.den);rw [An] at hbot;have hw:IntKind.i64.wrap (-k) = -k:=bM (by omega) (by omega)
 by_cases hk:k<0
 ·have e:=gK (x:=x) hk;have ht:((-k).toNat:Int) = -k:=by omega
  have hs:=fW G (some (aH 4294967296 x.den)) (-k).toNat (by have:=hx.2;show nl _≤_;omega) (by omega);simp only [aW,kY x.den_nz,if_false,dZ,kK,ht] at hs
  have hm:=u9 G (decide (x.num<0)) (cP x.num.natAbs) (some (aH 4294967296 (x.den*2 ^ (-k).toNat))) (nh _) (gb _) (kY (qc _ _)) (by rw [ig];have:=hx.1;omega) (by
   have h3:=fR x.den (2 ^ (-k).toNat);have h4:=nT (-k).toNat;have:=hx.2;show nl _<_;omega)
  rw [nw,aW,dZ,← e] at hm;generalize aP x k=r at *
  refine aa.enc Tryz.func332 rfl (fun lv=>fB lv _ _ _) fun _=>aab ?_;refine aaa fun K hK=>aan hk ?_;refine aah (by simp [hk] <;> omega) (aaa fun K1 hK1=>?_);refine aap mixed (by kernel_rfl) rfl ?_;simp [hw];refine ag.p 2 9 hbot ?_;simp [hw];refine ag.p 2 9 hs ?_;simp [hw];refine ag.p 2 9 hm ?_;simp;refine⟨by kernel_rfl,?_⟩;apply hK1;clear hK1 K1;refine aal ?_;refine bO.cell (κ:=0) (T:=224) (t:=4) (k:=1) (off:=0) (own:=true) (fz:=false) (U:=224) (cs:=[.d (.bool (decide (r.num<0))),nC (cP r.num.natAbs),nC (dW r.den)]) rfl ?_ ?_ ?_
  ·simp
  ·simp [aj]
  ·rw [List.drop_zero,bQ]
 ·have e:=gN (x:=x) hk;have ht:(k.toNat:Int)=k:=by omega
  have hs:=fW G (cP x.num.natAbs) k.toNat (by rw [ig];have:=hx.1;omega) (by omega)
  have hs':aa Tryz.prog G 326 [.c (nC (cP x.num.natAbs)),.c (.d (.int .i64 k))] (.c (nC (cP (x.num.natAbs*2 ^ k.toNat)))):=by
   simp only [nw] at hs;simp only [kW,ht,kK] at hs
   by_cases h0:x.num.natAbs=0
   ·have:(aH 4294967296 x.num.natAbs)=[]:=by rw [h0];rfl
    rw [if_pos this] at hs;rw [h0,Nat.zero_mul];rw [h0] at hs;exact hs
   ·rw [if_neg (kY h0)] at hs;unfold cP at hs ⊢;rw [if_neg h0] at hs;rw [if_neg h0,if_neg (Nat.ne_of_gt (Nat.mul_pos (Nat.pos_of_ne_zero h0) (Nat.pow_pos (by decide))))];exact hs
  have hm:=u9 G (decide (x.num<0)) (cP (x.num.natAbs*2 ^ k.toNat)) (some (aH 4294967296 x.den)) (nh _) (gb _) (kY x.den_nz) (by
   rw [ig];have h3:=fR x.num.natAbs (2 ^ k.toNat);have h4:=nT k.toNat;have:=hx.1;omega) (by have:=hx.2;show nl _<_;omega)
  rw [nw,aW,dZ,← e] at hm;generalize aP x k=r at *
  refine aa.enc Tryz.func332 rfl (fun lv=>fB lv _ _ _) fun _=>aab ?_;refine aaa fun K hK=>aan hk ?_;refine aag (by simp [hk] <;> omega) (aac (hK _ _ (aaa fun K hK=>?_)));refine aap mixed (by kernel_rfl) rfl ?_;simp;refine ag.p 2 9 hs' ?_;simp;refine ag.p 2 9 hbot ?_;simp;refine ag.p 2 9 hm ?_;simp;refine⟨by kernel_rfl,?_⟩;apply hK;clear hK K;refine aal ?_;refine bO.cell (κ:=0) (T:=224) (t:=4) (k:=1) (off:=0) (own:=true) (fz:=false) (U:=224) (cs:=[.d (.bool (decide (r.num<0))),nC (cP r.num.natAbs),nC (dW r.den)]) rfl ?_ ?_ ?_
  ·simp
  ·simp [aj]
  ·rw [List.drop_zero,bQ]
theorem CU (lv:Key→LB)(b:Bool)(p q:Option (List Nat))(n:Int):fP lv (.tup [oJ b p q,.c (.d (.int .i64 n))])=some (.tup [oJ b p q,.c (.d (.int .i64 n))],[]):=by
 cases p <;> cases q <;> rfl
@[simp] theorem Li (b:Bool)(p q:Option (List Nat))(n:Int):(AV.tup [.agg [.d (.bool b),nC p,nC q],.c (.d (.int .i64 n))]).pure=true:=by
 cases p <;> cases q <;> rfl
theorem yt (G:List (List DV))(x:Rat)(k:Int)(hx:jh x 10000000000)(h1:-20000≤k)(h2:k≤20000):aa Tryz.prog G 283 [fF x,.c (.d (.int .i64 k))] (.tup [fF (aP x k),.c (.d (.int .i64 0))]):=by
 have h:=Bv G x k hx (by omega) (by omega);generalize aP x k=r at *
 have i1:¬ k < -20000:=by omega
 have i2:¬ 20000<k:=by omega
 refine aa.enc Tryz.func283 rfl (fun lv=>CU lv _ _ _ _) fun _=>aab ?_;refine aaa fun K hK=>aaq i1 i2 ?_;refine aak (aac (hK _ _ (aas 2 h ?_)));refine aal ?_;refine bO.lz (κ:=0) (T:=224) (t:=4) (u:=5) (k:=1) (off:=0) (own:=true) (fz:=false) (U:=224) (cs:=[.d (.bool (decide (r.num<0))),nC (cP r.num.natAbs),nC (dW r.den)]) rfl ?_ ?_ ?_ ?_ rfl rfl
 ·simp
 ·simp [aj]
 ·rw [List.drop_zero,bQ]
 ·simp
theorem Lh (G:List (List DV))(k:Int)(h1:-20000≤k)(h2:k≤20000):aa Tryz.prog G 334 [.c (.d (.int .i64 k))] (.tup [fF (aP 1 k),.c (.d (.int .i64 0))]):=by
 have hi:=FG G 1 (by decide) (by decide);have h:=yt G 1 k ⟨by show nl 1≤_;rw [pg];decide,by show nl 1≤_;rw [pg];decide⟩ h1 h2;change aa _ _ _ _ (fF (1:Rat)) at hi;generalize aP 1 k=r at *
 generalize (1:Rat)=o at *
 refine aa.enc Tryz.func334 rfl (fun lv=>CU lv _ _ _ _) fun _=>aab ?_;refine aai fun K hK=>?_;simp;refine ag.p 1 9 hi ?_;simp;refine ag.p 1 9 h ?_;simp;apply hK;refine aal ?_;refine bO.lz (κ:=0) (T:=224) (t:=2) (u:=3) (k:=0) (off:=0) (own:=true) (fz:=false) (U:=224) (cs:=[.d (.bool (decide (r.num<0))),nC (cP r.num.natAbs),nC (dW r.den)]) rfl ?_ ?_ ?_ ?_ rfl rfl
 ·simp
 ·simp [aj]
 ·rw [List.drop_zero,bQ]
 ·simp
def fH (x:Rat):Int:=
 let k:=(bg x.num.natAbs:Int) - bg x.den
 if x.num.natAbs*2 ^ (max (-k) 0).toNat<x.den*2 ^ (max k 0).toNat then k - 1 else k
theorem wF(hx:x≠0) {L:Nat}(h:jh x L):-(32*(L:Int))≤fH x∧fH x≤32*L:=by
 have h0:x.num.natAbs≠0:=by intro e;exact hx (Rat.num_eq_zero.1 (by omega))
 have h1:=uQ h0;have h2:=uQ x.den_nz;have h3:1≤bg x.num.natAbs:=by unfold bg;rw [if_neg h0];omega
 have h4:1≤bg x.den:=by unfold bg;rw [if_neg x.den_nz];omega
 have:=h.1;have:=h.2;unfold fH;simp only;split <;> omega
theorem Ml (G:List (List DV))(x:Rat)(hx:x≠0)(hs:jh x 10000000):aa Tryz.prog G 333 [fF x] (.c (.d (.int .i64 (fH x)))):=by
 have h0:x.num.natAbs≠0:=by intro e;exact hx (Rat.num_eq_zero.1 (by omega))
 have hbot:=dn G (decide (x.num<0)) (cP x.num.natAbs) (dW x.den);rw [An] at hbot;have l1:=hs.1;have l2:=hs.2;have b1:=uQ h0;have b2:=uQ x.den_nz;have p1:=oQ G (cP x.num.natAbs) (nh _) (by rw [ig];omega);have p2:=oQ G (some (aH 4294967296 x.den)) (gb _) (by show nl _≤_;omega);rw [nw] at p1;rw [aW,dZ] at p2;have ek:∃ k:Int,(bg x.num.natAbs:Int) - bg x.den=k∧-320000000≤k∧k≤320000000:=⟨_,rfl,by omega,by omega⟩
 obtain⟨k,hk,k1,k2⟩:=ek;have ew:IntKind.i64.wrap ((bg x.num.natAbs:Int) - bg x.den)=k:=by rw [hk];exact bM (by omega) (by omega)
 have ew2:IntKind.i64.wrap (-k) = -k:=bM (by omega) (by omega);have mx1:(List.foldl (fun a b:Int=>if a<b then b else a) (-k) [0])=((max (-k) 0).toNat:Int):=by simp only [List.foldl];split <;> omega
 have mx2:(List.foldl (fun a b:Int=>if a<b then b else a) k [0])=((max k 0).toNat:Int):=by simp only [List.foldl];split <;> omega
 have hlog:fH x=if x.num.natAbs*2 ^ (max (-k) 0).toNat<x.den*2 ^ (max k 0).toNat then k - 1 else k:=by unfold fH;simp only [hk]
 have s1:=fW G (cP x.num.natAbs) (max (-k) 0).toNat (by rw [ig];omega) (by omega);have s2:=fW G (some (aH 4294967296 x.den)) (max k 0).toNat (by show nl _≤_;omega) (by omega);rw [kW,if_neg (kY h0),dZ] at s1;rw [aW,if_neg (kY x.den_nz),dZ] at s2;have cm:=gp (G:=G) (a:=some (aH 4294967296 (x.num.natAbs*2 ^ (max (-k) 0).toNat))) (b:=some (aH 4294967296 (x.den*2 ^ (max k 0).toNat))) (gb _) (gb _);simp only [aW,dZ] at cm;generalize x.num.natAbs*2 ^ (max (-k) 0).toNat=a at *
 generalize x.den*2 ^ (max k 0).toNat=b at *
 generalize (max (-k) 0).toNat=u at *
 generalize (max k 0).toNat=v at *
 simp only [kK] at p1 p2 s1 s2 cm;have ew3:IntKind.i64.wrap (k - 1)=k - 1:=bM (by omega) (by omega);refine aa.en Tryz.func333 rfl fun _=>aab ?_;refine aas 1 hbot ?_;refine aai fun K hK=>?_;simp;refine ag.p 1 9 p1 ?_;simp;refine ag.p 1 9 p2 ?_;simp [ew];apply hK;refine aaa fun K hK=>aai fun K1 hK1=>?_;simp [ew2,di,mx1,mx2,-List.foldl_cons,-List.foldl_nil];refine ag.p 1 9 s1 ?_;simp [ew2,di,mx1,mx2,-List.foldl_cons,-List.foldl_nil];refine ag.p 1 9 s2 ?_;simp [ew2,di,mx1,mx2,-List.foldl_cons,-List.foldl_nil];refine ag.p 1 9 cm ?_;simp;apply hK1
 by_cases hab:a<b
 ·have hc:=qU.2 hab;rw [if_pos hab] at hlog;refine aah (by simp [hc] <;> omega) (aat ew3 (hK _ _ ?_));refine aab ?_;exact aae (aq.rt rfl 2 (by simp [hlog]))
 ·have hc:¬ dI a b<0:=fun h=>hab (qU.1 h)
  rw [if_neg hab] at hlog;refine aag (by simp [hc] <;> omega) (aac (hK _ _ (aab ?_)));exact aae (aq.rt rfl 2 (by simp [hlog]))
theorem KV(hx:x≠0):rY (decide (x.num<0)) (cP x.num.natAbs)≠0:=by
 have h0:x.num.natAbs≠0:=by intro e;exact hx (Rat.num_eq_zero.1 (by omega))
 unfold rY;rw [kW,if_neg (kY h0)];split <;> decide
theorem JA(hx:x=0):rY (decide (x.num<0)) (cP x.num.natAbs)=0:=by subst hx;rfl
theorem LN (G:List (List DV))(x:Rat)(hx:x≠0)(hs:jh x 10000000):aa Tryz.prog G 285 [fF x] (.tup [.c (.d (.int .i64 (fH x))),.c (.d (.int .i64 0))]):=by
 have h:=Ml G x hx hs;have hg:=kF G (decide (x.num<0)) (cP x.num.natAbs) (dW x.den);have hne:=KV hx;refine aa.en Tryz.func285 rfl fun _=>aab ?_;refine aaa fun K hK=>aav 1 hg hne ?_;refine aag (by simp [hne] <;> omega) (aac (hK _ _ (aas 1 h ?_)));exact aal (κ:=0) (aq.ug (κ:=0) rfl 9 (by simp) (by simp) rfl rfl (by simp) rfl rfl (by decide))
theorem D6 {y:Rat}:x<y↔dB (decide (x.num<0)) (x.num.natAbs*y.den)<dB (decide (y.num<0)) (y.num.natAbs*x.den):=by
 rw [Rat.lt_iff,← rO,← rO,tj,tj]
theorem FW (x y:Rat):N9 (decide (x.num<0)) (cP x.num.natAbs) (dW x.den) (decide (y.num<0)) (cP y.num.natAbs) (dW y.den)=gU x y:=by
 unfold gU;simp only [D6];unfold N9;simp only [nw,sY];have hx:0<x.den:=x.den_pos;have hy:0<y.den:=y.den_pos
 have sx:rY (decide (x.num<0)) (cP x.num.natAbs)=if x.num.natAbs=0 then 0 else if x.num<0 then -1 else 1:=by
  unfold rY;rw [kW];simp only [dN (by decide:2≤4294967296),decide_eq_true_eq]
 have sy:rY (decide (y.num<0)) (cP y.num.natAbs)=if y.num.natAbs=0 then 0 else if y.num<0 then -1 else 1:=by
  unfold rY;rw [kW];simp only [dN (by decide:2≤4294967296),decide_eq_true_eq]
 rw [sx,sy];have ha:x.num.natAbs*y.den=0↔x.num.natAbs=0:=by rw [Nat.mul_eq_zero];omega
 have hb:y.num.natAbs*x.den=0↔y.num.natAbs=0:=by rw [Nat.mul_eq_zero];omega
 generalize x.num.natAbs*y.den=a at *
 generalize y.num.natAbs*x.den=b at *
 unfold dB dI;simp only [decide_eq_true_eq];generalize x.num=u at *
 generalize y.num=v at *
 (repeat' split) <;> omega
theorem Gk (G:List (List DV))(x y:Rat)(hx:jh x 10000000000)(hy:jh y 10000000000):aa Tryz.prog G 161 [fF x,fF y] (.c (.d (.int .i64 (gU x y)))):=by
 have h:=DT G (decide (x.num<0)) (decide (y.num<0)) (cP x.num.natAbs) (dW x.den) (cP y.num.natAbs) (dW y.den)
  (by rw [ig];have:=hx.1;omega) (Nat.le_trans (qp _) (by have:=hx.2;omega)) (by rw [ig];have:=hy.1;omega) (Nat.le_trans (qp _) (by have:=hy.2;omega))
 rw [FW] at h;exact h
end Go.Am
namespace Go.Am
open Go.Proofs
theorem Ht (m:Int):aa Tryz.prog (GG m) 22 [.c (.d (.str [114,101,115,117,108,116,32,121,10]))]
 (.tup [.agg [.d .nilsl,.d (.int .i64 (.ofNat 0)),.d .nilsl,.d .nilsl,.d (.int .i64 (.ofNat 0)),.d (.int .i64 (.ofNat 0)),.d .nilsl,.d (.int .i64 (.ofNat 0))],.c (.d (.int .i64 (.ofNat 1))),.c (.d (.int .i64 (.ofNat 144)))]):=
 aa.CH (AT m 60) (by kernel_rfl)
end Go.Am
namespace Go.Am
open Go.Am.Ty Go.Proofs N
def jm (c:UInt8):Bool:=decide (48≤c.toNat∧c.toNat≤57)
def Du:List DV:=(List.range 256).map fun c=>.bool (decide (48≤c∧c≤57))
theorem Ac:Du.length=256:=by simp [Du]
theorem KR (c:UInt8):Du.drop c.toNat=.bool (jm c)::Du.drop (c.toNat+1):=by
 have h:c.toNat<Du.length:=by rw [Ac];exact c.toNat_lt
 rw [List.drop_eq_getElem_cons h];congr 1;simp [Du,jm]
theorem tD (G:List (List DV))(c:UInt8):aa Tryz.prog G 344 [.c (.d (.ptr Du)),.c (.d (.int .u8 c.toNat))] (.c (.d (.bool (jm c)))):=by
 have hc:=c.toNat_lt;have hl:=Ac;have ha:=KR c;refine aa.en Tryz.func344 rfl fun _=>aab ?_;refine aai fun K hK=>?_;simp [ak,ha,hl]
 repeat refine ah ?_
 apply hK;exact aae (aq.rt rfl 4 (by simp))
theorem CQ (G:List (List DV))(s:List UInt8):aa Tryz.prog G 308 [.c (.d (.str s)),.c (.d (.ptr Du))] (.c (.d (.str (s.dropWhile jm)))):=by
 refine aa.en Tryz.func308 rfl fun _=>aab ?_;refine aaa fun K hK=>aaf ?_;refine aao (fun (p:List UInt8)=>⟨bh [(0,.c (.d (.str p))),(1,.c (.d (.ptr Du)))],fun _=>.hole⟩) 0 (fun p=>p.dropWhile jm=s.dropWhile jm) (fun p=>p.length) s (Le.mk' _ rfl (by intro k own es h;cases h) (by simp)) rfl ?_;rintro p hp;refine aaa fun K3 hK3=>aab ?_
 cases p with
 | nil=>
  refine aak (aam (hK _ _ (aab ?_)));have hp':s.dropWhile jm=[]:=by rw [← hp];rfl
  exact aae (aq.rt rfl 4 (by simp [hp']))
 | cons c l=>
  refine aaj (aac (hK3 _ _ (aaf (aaa fun K5 hK5=>aai fun K6 hK6=>?_))));simp;refine ag.pure 0 9 (tD _ c) (by simp) (by simp) rfl ?_;simp;apply hK6;clear hK6 K6
  cases hd:jm c with
  | false=>
   refine aah (by simp [hd] <;> omega) (aam (hK _ _ ?_));simp only [List.dropWhile,hd] at hp;refine aab ?_;exact aae (aq.rt rfl 4 (by simp [hp]))
  | true=>
   refine aag (by simp [hd] <;> omega) (aac (hK5 _ _ (aad ?_)));simp;simp only [List.dropWhile,hd] at hp;exact⟨by omega,l,Le.mk' _ rfl (by intro k own es h;cases h) (by simp),hp,by simp⟩
def jl (s:List UInt8):List UInt8:=(s.reverse.dropWhile jm).reverse
theorem zR (G:List (List DV))(s:List UInt8):aa Tryz.prog G 309 [.c (.d (.str s)),.c (.d (.ptr Du))] (.c (.d (.str (jl s)))):=by
 refine aL.ji 0 (by simp) (fun V v h=>(show s.length≤9223372036854775807 by cases h.1 with|str _ hl=>exact hl)) fun hr=>?_;refine aa.en Tryz.func309 rfl fun _=>aab ?_;refine aaa fun K hK=>aaf ?_;refine aao (fun (p:List UInt8)=>⟨bh [(0,.c (.d (.str p))),(1,.c (.d (.ptr Du)))],fun _=>.hole⟩) 0 (fun p=>p.reverse.dropWhile jm=s.reverse.dropWhile jm∧p.length≤s.length) (fun p=>p.length) s (Le.mk' _ rfl (by intro k own es h;cases h) (by simp)) ⟨rfl,Nat.le_refl _⟩ ?_;rintro p ⟨hp,hpl⟩;refine aaa fun K3 hK3=>aab ?_;rcases List.eq_nil_or_concat p with rfl|⟨l,c,rfl⟩
 ·refine aak (aam (hK _ _ (aab ?_)));have hp':jl s=[]:=by unfold jl;rw [← hp];rfl
  exact aae (aq.rt rfl 4 (by simp [hp']))
 ·rw [List.concat_eq_append] at *
  have hn:0<(l++[c]).length:=by simp
  have hlen:(l++[c]).length=l.length+1:=by simp
  have e2:IntKind.i64.wrap (l.length:Int)=(l.length:Int):=bM (by omega) (by omega);have hr1:(l++[c]).reverse=c::l.reverse:=by simp
  rw [hr1] at hp;refine aaj (aac (hK3 _ _ (aaf (aaa fun K5 hK5=>aai fun K6 hK6=>?_))));simp [e2];refine⟨by omega,?_⟩;refine ag.pure 0 9 (tD _ c) (by simp) (by simp) rfl ?_;simp;apply hK6;clear hK6 K6
  cases hd:jm c with
  | false=>
   refine aah (by simp [hd] <;> omega) (aam (hK _ _ ?_));simp only [List.dropWhile,hd] at hp;refine aab ?_;have hp':jl s=l++[c]:=by unfold jl;rw [← hp];simp
   exact aae (aq.rt rfl 4 (by simp [hp']))
  | true=>
   refine aag (by simp [hd] <;> omega) (aac (hK5 _ _ (aad ?_)));simp [e2];simp only [List.dropWhile,hd] at hp;exact⟨by omega,l,Le.mk' _ rfl (by intro k own es h;cases h) (by simp),⟨hp,by omega⟩,by simp⟩
end Go.Am
namespace Go.Am
open Go.Proofs
theorem Ia (m:Int):aa Tryz.prog (GG m) 307 [.c (.d (.str [48,49,50,51,52,53,54,55,56,57]))] (.tup [.agg (Du.map .d),.c (.d (.bool true))]):=
 aa.CH (AT m 60) (by kernel_rfl)
end Go.Am
namespace Go.Am
open Go.Am.Ty Go.Proofs N
variable {s:List UInt8}{c:Ctx}{x:AV}{e:Int}
abbrev Rl:List UInt8:=[48,49,50,51,52,53,54,55,56,57]
def qx (s:List UInt8):List UInt8:=(jl s).dropWhile jm
def BF:List CV:=List.replicate 256 (.d (.bool false))
def rN:List CV:=Du.map .d
theorem Oh (m:Int):aa Tryz.prog (GG m) 307 [.c (.d (.str Rl))] (.tup [.agg rN,.c (.d (.bool true))]):=Ia m
theorem OQ:(AV.tup [.agg rN,.c (.d (.bool true))]).pure=true:=by kernel_rfl
abbrev Un:Key→LB:=aG (fun _=>LB.hole) 0 (.cells true false 342 rN)
theorem Np (s:List UInt8):jt Un [.c (.d (.str s)),.c (.ptr 0 0)]=some ([.c (.d (.str s)),.c (.d (.ptr Du))],[0]):=by kernel_rfl
theorem TE:om Un (.c (.ptr 0 0))=[0]:=by kernel_rfl
theorem UA (s:List UInt8):∀ a∈[AV.c (.d (.str s)),AV.c (.ptr 0 0)],∀ k∈om Un a,k∈[0]:=by
 intro a ha k hk;simp only [List.mem_cons,List.not_mem_nil,or_false] at ha;rcases ha with rfl|rfl
 ·cases hk
 ·rw [TE] at hk;exact hk
theorem Vh:br Tryz.prog 342=some BF:=by kernel_rfl
theorem Vb:cZ Tryz.prog 342 (aG (fun _=>.hole) 0 (.cells true false 342 BF)) (.c (.ptr 0 0)) (.agg rN)=some (.undef,[(0,.cells true false 342 rN)],[],True):=by
 have hl:rN.length=256:=by unfold rN;simp [Ac]
 have hz:BF.length=256:=List.length_replicate
 have hs:aj BF 0 rN=rN:=by
  unfold aj;rw [hl,List.take_zero,List.nil_append,Nat.zero_add,List.drop_eq_nil_of_le (Nat.le_of_eq hz),List.append_nil]
 have hi:((Tryz.prog.info? 342).isSome && rN.length == gx Tryz.prog 342)=true:=by kernel_rfl
 have hu:aG (fun _=>LB.hole) 0 (.cells true false 342 BF) 0=.cells true false 342 (List.replicate 256 (.d (.bool false))):=aA _ _ _;have ht:(0+rN.length≤BF.length)=True:=by rw [hl,hz];exact eq_true (by decide)
 unfold cZ;simp only [hu];show (if ((Tryz.prog.info? 342).isSome && rN.length == gx Tryz.prog 342)=true then some (AV.undef,[(0,LB.cells true false 342 (aj BF 0 rN))],[],0+rN.length≤BF.length) else none)=_;rw [if_pos hi,hs,ht]
theorem ag.flat{f:FuncId}{xs us:List AV}{ks rds:List Key}{lv:Key→LB}{K:AV→List (Key × LB)→List Key→Nat→Prop}(κ:Nat) (ha:jt lv xs=some (us,ks)) (hc:aa c.P c.G f us x) (hx:x.flat=true)
 (hr:∀ a∈xs,∀ k∈om lv a,k∈rds) (hK:K x [] rds κ):ag c f xs lv K:=⟨x,[],rds,κ,bU.flat us ks rds x ha hc hx hr,hK⟩
theorem uT (s:List UInt8):aM Tryz.prog .eql 9 (.c (.d (.str s))) (.c (.d (.str [])))=some (.c (.d (.bool (decide (s=[])))),[],[],True):=by
 cases s with
 | nil=>kernel_rfl
 | cons a l=>exact (show ∀ a l,aM Tryz.prog .eql 9 (.c (.d (.str (a::l)))) (.c (.d (.str [])))=some (.c (.d (.bool false)),[],[],True) from fun a l=>by kernel_rfl) a l
theorem AO (m:Int)(s:List UInt8):aa Tryz.prog (GG m) 261 [.c (.d (.str s)),.c (.d (.str Rl))] (.c (.d (.str (qx s)))):=by
 refine aa.en Tryz.func261 rfl fun _=>aab ?_;refine aaa fun K hK=>aaa fun K1 hK1=>?_
 by_cases hs:s=[]
 ·refine aau @uT hs (hK1 _ _ ?_);refine aaj (aab ?_);exact aae (aq.rt rfl 4 (by simp [hs,qx,jl]))
 refine aau @uT hs (hK1 _ _ ?_);refine aak (aac (hK _ _ (aaa fun K hK=>aab ?_)));refine aak (aac (hK _ _ (aaa fun K hK=>aai fun K1 hK1=>?_)));simp;refine ag.pure 0 9 (Oh m) OQ (by simp) rfl ?_;simp [Vh,Vb,-cZ];apply hK1;clear hK1 K1;refine aab ?_;refine aaj (aai fun K1 hK1=>?_);simp;refine ag.flat 2 (us:=[.c (.d (.str s)),.c (.d (.ptr Du))]) (ks:=[0]) (rds:=[0]) (Np s) (zR _ s) rfl (UA s) ?_;simp;refine ag.flat 2 (us:=[.c (.d (.str (jl s))),.c (.d (.ptr Du))]) (ks:=[0]) (rds:=[0]) (Np _) (CQ _ (jl s)) rfl (UA _) ?_;simp;apply hK1;clear hK1 K1;exact aal (κ:=0) (aq.tmp (κ:=0) rfl 9 (by simp [qx]) rfl (by simp) rfl)
theorem L9 (s t:List UInt8):(s == t)=decide (s=t):=by
 by_cases h:s=t
 ·subst h;simp
 ·rw [decide_eq_false h];exact beq_eq_false_iff_ne.2 h
theorem eqStr (s t:List UInt8):aM Tryz.prog .eql 9 (.c (.d (.str s))) (.c (.d (.str t)))=some (.c (.d (.bool (decide (s=t)))),[],[],True):=by
 rw [← L9];kernel_rfl
theorem tJ (s t:List UInt8):aM Tryz.prog .neq 9 (.c (.d (.str s))) (.c (.d (.str t)))=some (.c (.d (.bool (!decide (s=t)))),[],[],True):=by
 rw [← L9];kernel_rfl
def eB (s:List UInt8):Bool:=!decide (s=[]) && decide (qx s=[]) && (decide (s=[48]) || !decide (s.getD 0 0=48))
theorem JH (m:Int)(s:List UInt8):aa Tryz.prog (GG m) 224 [.c (.d (.str s))] (.c (.d (.bool (eB s)))):=by
 refine aa.en Tryz.func224 rfl fun _=>aab ?_;refine aaa fun K hK=>?_
 cases s with
 | nil=>
  refine aat @tJ (hK _ _ ?_);exact aae (aq.rt rfl 2 (by simp [eB]))
 | cons a l=>
  refine aad ?_;simp [tJ];refine ag.pure 0 9 (AO m (a::l)) (by simp) (by simp) rfl ?_
  by_cases ht:qx (a::l)=[]
  ·by_cases h0:a::l=[48]
   ·have ht':qx [48]=[]:=h0 ▸ ht;simp [eqStr,h0,ht'];apply hK;clear hK K;exact aae (aq.rt rfl 2 (by simp [eB,h0,ht']))
   ·simp [eqStr,ht,h0];apply hK;clear hK K
    have ha:((a.toNat:Int)=48)↔a=48:=by
     constructor
     ·intro h;exact UInt8.toNat_inj.1 (by show a.toNat=48;omega)
     ·intro h;subst h;rfl
    have hr:eB (a::l) = !decide ((a.toNat:Int)=48):=by
     have h1:decide ((a.toNat:Int)=48)=decide (a=48):=by simp only [ha]
     rw [h1];simp [eB,ht,h0]
    exact aae (aq.rt rfl 2 (by simp [hr]))
  ·simp [eqStr,ht];apply hK;clear hK K;exact aae (aq.rt rfl 2 (by simp [eB,ht]))
def qm (s p:List UInt8):Bool:=decide (p.length≤s.length) && decide (s.take p.length=p)
def ku (s p:List UInt8):List UInt8:=if qm s p=true then s.drop p.length else s
theorem zk (G:List (List DV))(s p:List UInt8):aa Tryz.prog G 254 [.c (.d (.str s)),.c (.d (.str p))] (.c (.d (.bool (qm s p)))):=by
 refine aa.en Tryz.func254 rfl fun _=>aab ?_;refine aaa fun K hK=>?_
 by_cases h:p.length≤s.length
 ·have h':(p.length:Int)≤(s.length:Int):=by omega
  refine aaD @eqStr h h' (hK _ _ ?_);exact aae (aq.rt rfl 4 (by simp [qm,h]))
 ·have h':¬ (p.length:Int)≤(s.length:Int):=by omega
  refine aaD @eqStr h h' (hK _ _ ?_);exact aae (aq.rt rfl 4 (by simp [qm,h]))
theorem xp (G:List (List DV))(s p:List UInt8):aa Tryz.prog G 276 [.c (.d (.str s)),.c (.d (.str p))] (.tup [.c (.d (.str (ku s p))),.c (.d (.bool (qm s p)))]):=by
 refine aa.en Tryz.func276 rfl fun _=>aab ?_;refine aaa fun K hK=>aai fun K1 hK1=>?_;simp;refine ag.pure 0 9 (zk _ s p) (by simp) (by simp) rfl ?_;simp;apply hK1;clear hK1 K1
 by_cases h:qm s p=true
 ·refine aag (by simp [h] <;> omega) (aac (hK _ _ (aaa fun K hK=>?_)))
  have hl:p.length≤s.length:=by
   unfold qm at h;simp only [Bool.and_eq_true,decide_eq_true_eq] at h;exact h.1
  refine aat hl (hK _ _ ?_);exact aal (κ:=0) (aq.ug (κ:=0) rfl 5 (by simp [ku,h]) (by simp [h]) rfl rfl rfl rfl rfl (by decide))
 ·refine aah (by simp [h] <;> omega) (aab ?_);exact aal (κ:=0) (aq.ug (κ:=0) rfl 5 (by simp [ku,h]) (by simp [h]) rfl rfl rfl rfl rfl (by decide))
theorem zG (G:List (List DV))(s p:List UInt8):aa Tryz.prog G 222 [.c (.d (.str s)),.c (.d (.str p))] (.tup [.c (.d (.str (ku s p))),.c (.d (.bool (qm s p)))]):=by
 refine aa.en Tryz.func222 rfl fun _=>aab ?_;refine aai fun K hK=>?_;simp;refine ag.pure 0 9 (xp _ s p) rfl (by simp) rfl ?_;simp;apply hK;clear hK K;exact aal (κ:=0) (aq.ug (κ:=0) rfl 6 (by simp) (by simp) rfl rfl rfl rfl rfl (by decide))
theorem aq.m6{fn:Func}{y z:AV}{t u v:Nat}{s:aB}{κ:Nat}(hr:fn.results=#[.tmp t,.tmp u,.tmp v]) (kh:Key) (hx:s.fr t=x) (hy:s.fr u=y) (hz:s.fr v=z) (hp:x.pure=true) (hq:y.pure=true) (hw:z.pure=true) (hh:s.lv kh=.hole)
 (hn:x.cq=true) (hm:y.cq=true) (hl:z.cq=true) (htu:t≠u) (htv:t≠v) (huv:u≠v):aq c fn (.tup [x,y,z]) .ret s κ:=by
 refine⟨[(t,x),(u,y),(v,z)],kh,by simp [hp,hx,hq,hy,hw,hz],hh,?_⟩;rw [hr];have h1:¬ u=t:=fun h=>htu h.symm
 have h2:¬ v=t:=fun h=>htv h.symm
 have h3:¬ v=u:=fun h=>huv h.symm
 simp [dF,kn,mZ,bh,h1,h2,h3,hn,hm,hl]
def jG (s t:List UInt8):Int:=Lib.index s t
def rX (s t:List UInt8):List UInt8:=if 0≤jG s t then s.take (jG s t).toNat else s
def rF (s t:List UInt8):List UInt8:=if 0≤jG s t then s.drop ((jG s t).toNat+t.length) else []
theorem JI (s t:List UInt8)(h:s.length≤9223372036854775807):-9223372036854775808≤Lib.index s t∧Lib.index s t≤9223372036854775807:=by
 have h1:=Lib.index_ge s t
 have h2:Lib.index s t≤s.length:=by
  clear h h1
  induction s with
  | nil=>simp only [Lib.index];split <;> simp
  | cons a s ih=>
   simp only [Lib.index];split
   ·simp;omega
   ·split <;> simp <;> omega
 omega
theorem GZ (G:List (List DV))(s:List UInt8)(c:Nat)(hc:c<256):aa Tryz.prog G 255 [.c (.d (.str s)),.c (.d (.int .u8 (c:Int)))] (.c (.d (.int .i64 (jG s [UInt8.ofNat c])))):=by
 refine aL.ji 0 (by simp) (fun V v h=>(show s.length≤9223372036854775807 by cases h.1 with|str _ hl=>exact hl)) fun hs=>?_;refine aa.De (X:=.c (.d (.int .i64 (jG s [UInt8.ofNat c])))) (lv':=fun _=>.hole) (ks:=[]) ?_ rfl;refine bY.of_same (by rfl) fun F β w vs hS hl hv=>?_;obtain⟨u,v,rfl,hu,hv⟩:=args2 hl hv;have:=Tryz.stringslite_IndexByte ⟨s.toArray⟩ c w;refine⟨.int .i64 (jG s [UInt8.ofNat c]),zQ (JI s _ hs),?_⟩;rw [Vw.iF hu,Vw.eW hv];simpa [jG,← index_one] using this
theorem Ie (c:UInt8):jG [c] [c]=0:=by simp [jG,Lib.index,List.isPrefixOf]
theorem Hv (G:List (List DV))(s:List UInt8)(c:UInt8):aa Tryz.prog G 253 [.c (.d (.str s)),.c (.d (.str [c]))] (.c (.d (.int .i64 (jG s [c])))):=by
 have hb:=GZ G s c.toNat c.toNat_lt;rw [show UInt8.ofNat c.toNat=c from UInt8.ofNat_toNat] at hb;refine aa.en Tryz.func253 rfl fun _=>aab ?_;refine aab ?_;refine aaa fun K hK=>aaf (aaa fun K1 hK1=>?_)
 by_cases hs:[c]=s
 ·have h0:jG s [c]=0:=by rw [← hs];exact Ie c
  refine aau @eqStr hs (hK1 _ _ ?_);refine aaj (aab ?_);exact aae (aq.rt rfl 4 (by simp [h0]))
 ·refine aau @eqStr hs (hK1 _ _ ?_);refine aak (aab ?_);refine aaj (aai fun K1 hK1=>?_);simp;refine ag.pure 0 9 hb (by simp) (by simp) rfl ?_;simp;apply hK1;clear hK1 K1;exact aae (aq.rt rfl 4 (by simp))
theorem Ih (m:Int)(s t:List UInt8)(h:s.length≤9223372036854775807)(hix:aa Tryz.prog (GG m) 253 [.c (.d (.str s)),.c (.d (.str t))] (.c (.d (.int .i64 (jG s t))))):aa Tryz.prog (GG m) 277 [.c (.d (.str s)),.c (.d (.str t))] (.tup [.c (.d (.str (rX s t))),.c (.d (.str (rF s t))),.c (.d (.bool (decide (0≤jG s t))))]):=by
 refine aa.en Tryz.func277 rfl fun _=>aab ?_;refine aaa fun K hK=>aai fun K1 hK1=>?_;simp;refine ag.pure 0 9 hix (by simp) (by simp) rfl ?_;simp;apply hK1;clear hK1 K1;refine aab ?_
 by_cases hi:0≤jG s t
 ·refine aah (by simp [hi] <;> omega) ?_;obtain⟨n,hn⟩:∃ n:Nat,jG s t=n:=⟨(jG s t).toNat,(Int.toNat_of_nonneg hi).symm⟩
  have hr:=Lib.index_room s t (by unfold jG at hi;exact hi);have hr':n+t.length≤s.length:=by unfold jG at hn;rw [hn] at hr;omega
  have hw:IntKind.i64.wrap ((n:Int)+t.length)=((n+t.length:Nat):Int):=by rw [bM (by omega) (by omega)];omega
  have hn1:n≤s.length:=by omega
  refine aaa fun K1 hK1=>?_;refine aaw mixed (by kernel_rfl) rfl rfl ?_;simp [hn,hw,hn1,hr',-Int.natCast_add];apply hK1;clear hK1 K1;exact aal (κ:=0) (aq.m6 (κ:=0) rfl 9 (by simp [rX,hi,hn]) (by simp [rF,hi,hn]) (by simp [hi,hn]) rfl rfl rfl rfl rfl rfl rfl (by decide) (by decide) (by decide))
 ·refine aag (by simp [hi] <;> omega) (aac (hK _ _ (aab ?_)));exact aal (κ:=0) (aq.m6 (κ:=0) rfl 9 (by simp [rX,hi]) (by simp [rF,hi]) (by simp [hi]) rfl rfl rfl rfl rfl rfl rfl (by decide) (by decide) (by decide))
theorem My (m:Int)(s t:List UInt8)(h:s.length≤9223372036854775807)(hix:aa Tryz.prog (GG m) 253 [.c (.d (.str s)),.c (.d (.str t))] (.c (.d (.int .i64 (jG s t))))):aa Tryz.prog (GG m) 223 [.c (.d (.str s)),.c (.d (.str t))] (.tup [.c (.d (.str (rX s t))),.c (.d (.str (rF s t))),.c (.d (.bool (decide (0≤jG s t))))]):=by
 refine aa.en Tryz.func223 rfl fun _=>aab ?_;refine aai fun K hK=>?_;simp;refine ag.pure 0 9 (Ih m s t h hix) rfl (by simp) rfl ?_;simp;apply hK;clear hK K;exact aal (κ:=0) (aq.m6 (κ:=0) rfl 9 (by simp) (by simp) (by simp) rfl rfl rfl rfl rfl rfl rfl (by decide) (by decide) (by decide))
theorem LX (m:Int)(s:List UInt8)(c:UInt8):aa Tryz.prog (GG m) 223 [.c (.d (.str s)),.c (.d (.str [c]))] (.tup [.c (.d (.str (rX s [c]))),.c (.d (.str (rF s [c]))),.c (.d (.bool (decide (0≤jG s [c]))))]):=by
 refine aL.ji 0 (by simp) (fun V v h=>(show s.length≤9223372036854775807 by cases h.1 with|str _ hl=>exact hl)) fun hs=>?_;exact My m s [c] hs (Hv (GG m) s c)
theorem Kt {p:UInt8→Bool}:∀ {l:List UInt8},l.dropWhile p=[]→∀ x∈l,p x=true
 | [],_,x,hx=>by cases hx
 | a::l,h,x,hx=>by
  simp only [List.dropWhile] at h;split at h
  ·rename_i ha
   rcases List.mem_cons.1 hx with rfl|hx
   ·exact ha
   ·exact Kt h x hx
  ·cases h
theorem HT(h:qx s=[]):ua s:=by
 have h1:∀ x∈jl s,jm x=true:=Kt h;have h2:∀ x∈s.reverse.dropWhile jm,jm x=true:=fun x hx=>h1 x (by unfold jl;exact List.mem_reverse.2 hx)
 have h3:∀ x∈s.reverse,jm x=true:=by
  intro x hx;rw [← List.takeWhile_append_dropWhile (p:=jm) (l:=s.reverse),List.mem_append] at hx;rcases hx with hx|hx
  ·have:=List.all_takeWhile (p:=jm) (l:=s.reverse);exact List.all_eq_true.1 this x hx
  ·exact h2 x hx
 intro c hc;have:=h3 c (List.mem_reverse.2 hc);simpa [jm] using this
theorem nF(h:eB s=true):ua s∧s≠[]:=by
 unfold eB at h;simp only [Bool.and_eq_true,Bool.not_eq_true',decide_eq_false_iff_not,decide_eq_true_eq] at h;exact⟨HT h.1.2,h.1.1⟩
abbrev RE:AV:=oJ false none none
def iw (neg:Bool)(top bot:List UInt8)(brk:Bool):Bool:=!eB top || (neg && decide (top=[48])) || (brk && (!eB bot || decide (bot=[48]) || decide (bot=[49])))
abbrev n6 (s:List UInt8):Option (List Nat):=some (aH 4294967296 (aQ s 0))
def eF (neg:Bool)(top bot:List UInt8)(brk:Bool):AV:=
 if iw neg top bot brk=true then .tup [RE,.c (.d (.int .i64 6))]
 else if 2000<max top.length bot.length then .tup [RE,.c (.d (.int .i64 3))]
 else if brk=false then .tup [ju neg (n6 top) (some (aH 4294967296 1)),.c (.d (.int .i64 0))]
 else if val 4294967296 (dO (gO (n6 top) (n6 bot)))=1 then .tup [oJ neg (n6 top) (n6 bot),.c (.d (.int .i64 0))]
 else .tup [RE,.c (.d (.int .i64 6))]
theorem BD (lv:Key→LB)(neg:Bool)(top bot:List UInt8)(brk:Bool):fP lv (eF neg top bot brk)=some (eF neg top bot brk,[]):=by
 have h1:∀ b p q n,fP lv (.tup [oJ b p q,.c (.d (.int .i64 n))])=some (.tup [oJ b p q,.c (.d (.int .i64 n))],[]):=by
  intro b p q n;cases p <;> cases q <;> rfl
 unfold eF ju
 (repeat' split) <;> exact h1 ..
theorem BI (G:List (List DV))(h:eB s=true) (hl:s.length≤2000):aa Tryz.prog G 226 [.c (.d (.str s))] (.c (nC (n6 s))):=by
 obtain⟨h1,h2⟩:=nF h;have:=oY G s h1 (by omega)
 have e:oO (!s.isEmpty) (aQ s 0)=n6 s:=by
  cases s with
  | nil=>exact absurd rfl h2
  | cons a l=>rfl
 rw [e,kK] at this;exact this
theorem Cv (m:Int)(r:List UInt8) :
 aa Tryz.prog (GG m) 159 [.c (.d (.str r))] (eF (qm r [45]) (rX (ku r [45]) [47]) (rF (ku r [45]) [47]) (decide (0≤jG (ku r [45]) [47]))):=by
 refine aL.ji 0 (by simp) (fun V v h=>(show r.length≤9223372036854775807 by cases h.1 with|str _ hl=>exact hl)) fun hr=>?_
 have hcl:(ku r [45]).length≤9223372036854775807:=by
  unfold ku;split
  ·rw [List.length_drop];omega
  ·exact hr
 have hcp:=zG (GG m) r [45];have hct:=LX m (ku r [45]) 47
 have hta:(rX (ku r [45]) [47]).length≤9223372036854775807:=by
  unfold rX;split
  ·rw [List.length_take];omega
  ·omega
 have htb:(rF (ku r [45]) [47]).length≤9223372036854775807:=by
  unfold rF;split
  ·rw [List.length_drop];omega
  ·simp
 generalize qm r [45]=neg at *
 generalize ku r [45]=s at *
 generalize rX s [47]=top at *
 generalize rF s [47]=bot at *
 generalize decide (0≤jG s [47])=brk at *
 refine aa.enc Tryz.func159 rfl (fun lv=>BD lv _ _ _ _) fun _=>aab ?_;refine aai fun K hK=>?_;simp;refine ag.pure 1 9 hcp rfl (by simp) (by simp) ?_;simp;apply hK;clear hK K;refine aai fun K hK=>?_;simp;refine ag.pure 1 9 hct rfl (by simp) (by simp) ?_;simp;apply hK;clear hK K;refine aaa fun K hK=>aaf (aaa fun K1 hK1=>?_)
 have row1:=JH m top;have row2:=JH m bot
 have hbad:∀ (fr:Nat→AV) (κ:Nat),fr 2=.c (.ptr 0 0)→fr 22=.c (.d (.bool true))→iw neg top bot brk=true →
  K1 ⟨fr,aG (fun _=>.hole) 0 (.cells true false 224 [.d (.bool false),.d .nilsl,.d .nilsl])⟩ κ:=by
  intro fr κ z2 z22 hb;apply hK1;refine aah (by simp [z22] <;> omega) (aaq z2 @Gb ?_);refine aal ?_;simp only [eF,if_pos hb];refine bO.lz (κ:=0) (T:=224) (t:=2) (u:=3) (k:=0) (off:=0) (own:=true) (fz:=false) (U:=224) (cs:=[.d (.bool false),.d .nilsl,.d .nilsl]) rfl ?_ ?_ ?_ ?_ rfl rfl
  ·simp [z2]
  ·simp [aj]
  ·rw [List.drop_zero,bQ];rfl
  ·simp
 have hgood:∀ (fr:Nat→AV) (κ:Nat),fr 2=.c (.ptr 0 0)→fr 5=.c (.d (.bool neg))→fr 6=.c (.d (.str top))→fr 7=.c (.d (.str bot))→fr 8=.c (.d (.bool brk))→fr 22=.c (.d (.bool false)) →
  eB top=true→(brk=true→eB bot=true)→iw neg top bot brk=false →
  K1 ⟨fr,aG (fun _=>.hole) 0 (.cells true false 224 [.d (.bool false),.d .nilsl,.d .nilsl])⟩ κ:=by
  intro fr κ z2 z5 z6 z7 z8 z22 g1 g2 hb;apply hK1;refine aag (by simp [z22] <;> omega) (aaa fun K2 hK2=>?_)
  have hmx:∀ (a b:Nat),(List.foldl (fun a b:Int=>if a<b then b else a) (a:Int) [(b:Int)])=((max a b:Nat):Int):=by
   intro a b;simp only [List.foldl];split <;> omega
  refine aad ?_;simp [z6,z7,di,hmx,-List.foldl_cons,-List.foldl_nil];apply hK2;clear hK2 K2;have hbf:¬ iw neg top bot brk=true:=by rw [hb];decide
  by_cases hl:2000<max top.length bot.length
  ·have hl':(2000:Int)<((max top.length bot.length:Nat):Int):=by omega
   refine aah (by simp [hl'] <;> omega) (aaq z2 @Gb ?_);refine aal ?_;simp only [eF,if_neg hbf,if_pos hl];refine bO.lz (κ:=0) (T:=224) (t:=2) (u:=3) (k:=0) (off:=0) (own:=true) (fz:=false) (U:=224) (cs:=[.d (.bool false),.d .nilsl,.d .nilsl]) rfl ?_ ?_ ?_ ?_ rfl rfl
   ·simp [z2]
   ·simp [aj]
   ·rw [List.drop_zero,bQ];rfl
   ·simp
  have hl':¬ (2000:Int)<((max top.length bot.length:Nat):Int):=by omega
  refine aag (by simp [hl'] <;> omega) (aac (hK _ _ ?_));have ht2:top.length≤2000:=by omega
  have hb2:bot.length≤2000:=by omega
  have rd1:=BI (GG m) g1 ht2;have hof:=fK (GG m) 1 (by decide);have c1:can 4294967296 (dO (n6 top)):=bq (by decide) _;have c2:can 4294967296 (dO (some (aH 4294967296 1))):=bq (by decide) _
  have dlen:∀ (u:List UInt8),ua u→u.length≤2000→(dO (n6 u)).length<1000000000000:=by
   intro u hu hlu;have h1:=mm hu;have h2:(10:Nat) ^ u.length≤4294967296 ^ u.length:=Nat.pow_le_pow_left (by decide) _;have:=cF (B:=4294967296) (n:=aQ u 0) (m:=u.length) (by decide) (by omega);simp only [aW];omega
  have l1:=dlen top (nF g1).1 ht2;have l2:(dO (some (aH 4294967296 1))).length<1000000000000:=Nat.lt_of_le_of_lt (cF (m:=1) (by decide) (by decide)) (by decide);refine aaa fun K3 hK3=>aan z8 ?_
  cases hk:brk with
  | false=>
   rw [hk] at hbf;have hmade:=oW (GG m) neg (n6 top) (some (aH 4294967296 1)) c1 c2 (by intro h;exact absurd ((dN (by decide)).1 h) (by decide)) l1 l2;simp only [kK] at hmade hof;refine aaj (aai fun K4 hK4=>?_);simp [z5,z6];refine ag.pure κ 9 rd1 (by simp) (by simp) (by simp) ?_;simp;refine ag.pure κ 9 hof (by simp) (by simp) (by simp) ?_;simp
   by_cases hz:dO (n6 top)=[]
   ·simp only [ju,if_pos hz] at hmade;refine ag.pure κ 9 hmade (by simp) (by simp) (by simp) ?_;simp [z2];apply hK4;clear hK4 K4;refine aal ?_;simp only [eF,if_neg hbf,if_neg hl,reduceIte,ju,if_pos hz];refine bO.lz (κ:=0) (T:=224) (t:=2) (u:=3) (k:=0) (off:=0) (own:=true) (fz:=false) (U:=224) (cs:=[.d (.bool false),nC none,nC none]) rfl ?_ ?_ ?_ ?_ rfl rfl
    ·simp [z2]
    ·simp [aj]
    ·rw [List.drop_zero,bQ]
    ·simp
   ·simp only [ju,if_neg hz] at hmade;refine ag.pure κ 9 hmade (by simp) (by simp) (by simp) ?_;simp [z2];apply hK4;clear hK4 K4;refine aal ?_;simp only [eF,if_neg hbf,if_neg hl,reduceIte,ju,if_neg hz];refine bO.lz (κ:=0) (T:=224) (t:=2) (u:=3) (k:=0) (off:=0) (own:=true) (fz:=false) (U:=224) (cs:=[.d (.bool neg),nC (mP (n6 top) (some (aH 4294967296 1))),nC (mQ (n6 top) (some (aH 4294967296 1)))]) rfl ?_ ?_ ?_ ?_ rfl rfl
    ·simp [z2]
    ·simp [aj]
    ·rw [List.drop_zero,bQ]
    ·simp
  | true=>
   rw [hk] at hbf;have g3:=g2 hk;have rd2:=BI (GG m) g3 hb2;have c3:can 4294967296 (dO (n6 bot)):=bq (by decide) _;have l3:=dlen bot (nF g3).1 hb2;have hgcd:=qI (GG m) (n6 top) (n6 bot) c1 c3 l1 l3;have his:=jv (GG m) (gO (n6 top) (n6 bot)) (by unfold gO;rw [vI c1 c3];exact bq (by decide) _);change aa _ _ 229 _ (nK .u32 (gO (n6 top) (n6 bot))) at hgcd;simp only [kK] at hgcd his;refine aak (aac (hK3 _ _ (aai fun K4 hK4=>?_)));simp [z6,z7];refine ag.pure κ 9 rd1 (by simp) (by simp) (by simp) ?_;simp [z7];refine ag.pure κ 9 rd2 (by simp) (by simp) (by simp) ?_;simp;apply hK4;clear hK4 K4;refine aaa fun K4 hK4=>aai fun K5 hK5=>?_;simp;refine ag.pure κ 9 hgcd (by simp) (by simp) (by simp) ?_;simp;refine ag.pure κ 9 his (by simp) (by simp) (by simp) ?_;simp;apply hK5;clear hK5 K5
   by_cases h1:val 4294967296 (dO (gO (n6 top) (n6 bot)))=1
   ·refine aag (by simp [h1] <;> omega) (aac (hK4 _ _ (aaC z2 z5 @Ek ?_)));refine aal ?_;have hp:eF neg top bot brk=.tup [oJ neg (n6 top) (n6 bot),.c (.d (.int .i64 0))]:=by rw [hk];unfold eF;rw [if_neg hbf,if_neg hl,if_neg (by decide),if_pos h1]
    rw [hp];refine bO.lz (κ:=0) (T:=224) (t:=2) (u:=3) (k:=0) (off:=0) (own:=true) (fz:=false) (U:=224) (cs:=[.d (.bool neg),nC (n6 top),nC (n6 bot)]) rfl ?_ ?_ ?_ ?_ rfl rfl
    ·simp [z2]
    ·simp [aj]
    ·rw [List.drop_zero,bQ]
    ·simp
   ·refine aah (by simp [h1] <;> omega) (aaq z2 @Gb ?_);refine aal ?_;have hp:eF neg top bot brk=.tup [RE,.c (.d (.int .i64 6))]:=by rw [hk];unfold eF;rw [if_neg hbf,if_neg hl,if_neg (by decide),if_neg h1]
    rw [hp];refine bO.lz (κ:=0) (T:=224) (t:=2) (u:=3) (k:=0) (off:=0) (own:=true) (fz:=false) (U:=224) (cs:=[.d (.bool false),.d .nilsl,.d .nilsl]) rfl ?_ ?_ ?_ ?_ rfl rfl
    ·simp [z2]
    ·simp [aj]
    ·rw [List.drop_zero,bQ];rfl
    ·simp
 refine aad ?_;simp;refine ag.pure 1 9 row1 (by simp) (by simp) (by simp) ?_
 cases g1:eB top with
 | false=>
  simp [g1];exact hbad _ _ (by simp) (by simp) (by simp [iw,g1])
 | true=>
  cases hn:neg with
  | true=>
   by_cases h48:top=[48]
   ·have e48:decide (top=[48])=true:=decide_eq_true h48;simp [eqStr,g1,hn,e48];exact hbad _ _ (by simp) (by simp) (by simp [iw,hn,h48])
   ·cases hk:brk with
    | false=>
     simp [eqStr,g1,hn,h48,hk];exact hgood _ _ (by simp) (by simp [hn]) (by simp) (by simp) (by simp [hk]) (by simp) g1 (fun h=>by rw [hk] at h;cases h) (by simp [iw,g1,hn,h48,hk])
    | true=>
     simp [eqStr,g1,hn,h48,hk];refine ag.pure 1 9 row2 (by simp) (by simp) (by simp) ?_
     cases g2:eB bot with
     | false=>
      simp [g2];exact hbad _ _ (by simp) (by simp) (by simp [iw,g2,hk])
     | true=>
      by_cases b48:bot=[48]
      ·have e:decide (bot=[48])=true:=decide_eq_true b48;simp [eqStr,g2,e];exact hbad _ _ (by simp) (by simp) (by simp [iw,e,hk])
      ·by_cases b49:bot=[49]
       ·have e:decide (bot=[49])=true:=decide_eq_true b49;simp [eqStr,g2,b48,e];exact hbad _ _ (by simp) (by simp) (by simp [iw,e,hk])
       ·simp [eqStr,g2,b48,b49];exact hgood _ _ (by simp) (by simp [hn]) (by simp) (by simp) (by simp [hk]) (by simp) g1 (fun _=>g2) (by simp [iw,g1,hn,h48,hk,g2,b48,b49])
  | false=>
   cases hk:brk with
   | false=>
    simp [eqStr,g1,hn,hk];exact hgood _ _ (by simp) (by simp [hn]) (by simp) (by simp) (by simp [hk]) (by simp) g1 (fun h=>by rw [hk] at h;cases h) (by simp [iw,g1,hn,hk])
   | true=>
    simp [eqStr,g1,hn,hk];refine ag.pure 1 9 row2 (by simp) (by simp) (by simp) ?_
    cases g2:eB bot with
    | false=>
     simp [g2];exact hbad _ _ (by simp) (by simp) (by simp [iw,g2,hk])
    | true=>
     by_cases b48:bot=[48]
     ·have e:decide (bot=[48])=true:=decide_eq_true b48;simp [eqStr,g2,e];exact hbad _ _ (by simp) (by simp) (by simp [iw,e,hk])
     ·by_cases b49:bot=[49]
      ·have e:decide (bot=[49])=true:=decide_eq_true b49;simp [eqStr,g2,b48,e];exact hbad _ _ (by simp) (by simp) (by simp [iw,e,hk])
      ·simp [eqStr,g2,b48,b49];exact hgood _ _ (by simp) (by simp [hn]) (by simp) (by simp) (by simp [hk]) (by simp) g1 (fun _=>g2) (by simp [iw,g1,hn,hk,g2,b48,b49])
def dg (neg:Bool)(top bot:List UInt8)(brk:Bool):Int:=
 if iw neg top bot brk=true then 6
 else if 2000<max top.length bot.length then 3
 else if brk=false then 0
 else if val 4294967296 (dO (gO (n6 top) (n6 bot)))=1 then 0 else 6
theorem CA (neg:Bool)(top bot:List UInt8)(brk:Bool):∃ b p q,eF neg top bot brk=.tup [oJ b p q,.c (.d (.int .i64 (dg neg top bot brk)))]:=by
 unfold eF dg ju
 (repeat' split) <;> exact⟨_,_,_,rfl⟩
theorem ya (m:Int)(r:List UInt8) :
 aa Tryz.prog (GG m) 163 [.c (.d (.str r))] (.c (.d (.int .i64 (dg (qm r [45]) (rX (ku r [45]) [47]) (rF (ku r [45]) [47]) (decide (0≤jG (ku r [45]) [47])))))):=by
 have hp:=Cv m r;obtain⟨b,p,q,e⟩:=CA (qm r [45]) (rX (ku r [45]) [47]) (rF (ku r [45]) [47]) (decide (0≤jG (ku r [45]) [47]));rw [e] at hp;generalize dg (qm r [45]) (rX (ku r [45]) [47]) (rF (ku r [45]) [47]) (decide (0≤jG (ku r [45]) [47]))=n at *
 have hpu:(AV.tup [oJ b p q,.c (.d (.int .i64 n))]).pure=true:=by cases p <;> cases q <;> rfl
 refine aa.en Tryz.func163 rfl fun _=>aab ?_;refine aai fun K hK=>?_;simp;refine ag.pure 0 9 hp hpu (by simp) rfl ?_;simp;apply hK;clear hK K;refine aab ?_;exact aal (κ:=0) (aq.tmp (κ:=0) rfl 9 (by simp) rfl (by simp) rfl)
def ff (e p:Int):Int:=if e<2∨11<e∨p<2∨113<p∨e+p<5 then 2 else 0
theorem kf (G:List (List DV))(e p:Int):aa Tryz.prog G 158 [.agg [.d (.int .i64 e),.d (.int .i64 p)]] (.c (.d (.int .i64 (ff e p)))):=by
 refine aa.en Tryz.func158 rfl fun _=>aab ?_;refine aaa fun K hK=>aaa fun K1 hK1=>?_
 have bad:∀ (fr:Nat→AV) (κ:Nat) (lv:Key→LB),lv 9=.hole→fr 28=.c (.d (.bool true))→ff e p=2→K1 ⟨fr,lv⟩ κ:=by
  intro fr κ lv h9 z hf;apply hK1;refine aah (by simp [z] <;> omega) (aab ?_);exact aal (κ:=0) (aq.tmp (κ:=0) rfl 9 (by simp [hf]) rfl (by simp [h9]) rfl)
 by_cases h1:e<2
 ·refine aad ?_;simp [h1];exact bad _ _ _ (by simp) (by simp) (by unfold ff;rw [if_pos (by omega)])
 by_cases h2:11<e
 ·refine aad ?_;simp [h1,h2];exact bad _ _ _ (by simp) (by simp) (by unfold ff;rw [if_pos (by omega)])
 by_cases h3:p<2
 ·refine aad ?_;simp [h1,h2,h3];exact bad _ _ _ (by simp) (by simp) (by unfold ff;rw [if_pos (by omega)])
 by_cases h4:113<p
 ·refine aad ?_;simp [h1,h2,h3,h4];exact bad _ _ _ (by simp) (by simp) (by unfold ff;rw [if_pos (by omega)])
 have hw:IntKind.i64.wrap (e+p)=e+p:=bM (by omega) (by omega)
 by_cases h5:e+p<5
 ·refine aad ?_;simp [h1,h2,h3,h4,hw,h5];exact bad _ _ _ (by simp) (by simp) (by unfold ff;rw [if_pos (by omega)])
 refine aad ?_;simp [h1,h2,h3,h4,hw,h5];apply hK1;refine aak (aac (hK _ _ (aab ?_)));have hf:ff e p=0:=by unfold ff;rw [if_neg (by omega)]
 exact aal (κ:=0) (aq.tmp (κ:=0) rfl 9 (by simp [hf]) rfl (by simp) rfl)
@[simp] theorem QM (cs:List CV):(AV.agg cs).pure=cs.all CV.pure:=rfl
@[simp] theorem Sv (x:DV):(CV.d x).pure=true:=rfl
@[simp] theorem PF (o:Option (List (List DV))):(hO o).pure=true:=by cases o <;> rfl
@[simp] theorem Q1 (l:List AV):(AV.tup l).pure=l.all AV.kg:=rfl
@[simp] theorem RW (x:CV):(AV.c x).kg=x.pure:=rfl
@[simp] theorem Px (cs:List CV):(AV.agg cs).kg=cs.all CV.pure:=rfl
def bw (e:Int):Int:=(2:Int) ^ (e - 1).toNat - 1
theorem sA(h1:2≤e) (h2:e≤11):1≤bw e∧bw e≤1023∧aM Tryz.prog .shl 3 (.c (.d (.int .i64 1))) (.c (.d (.int .i64 (e - 1))))=some (.c (.d (.int .i64 (bw e+1))),[],[],True):=by
 have h:e=2∨e=3∨e=4∨e=5∨e=6∨e=7∨e=8∨e=9∨e=10∨e=11:=by omega
 rcases h with rfl|rfl|rfl|rfl|rfl|rfl|rfl|rfl|rfl|rfl <;> refine⟨by decide,by decide,?_⟩ <;> rw [I3] <;> congr 1 <;> congr 1 <;> first|rfl|decide|(congr 1;congr 1;decide)
abbrev fA (e p:Int):AV:=.agg [.d (.int .i64 e),.d (.int .i64 p)]
abbrev Pk (e p m b:Int):AV:=.agg [.d (.int .i64 e),.d (.int .i64 p),.d (.int .i64 m),.d (.int .i64 b)]
theorem Rn:gJ Tryz.prog 282 [] []=some (Pk 0 0 0 0,[],[],True):=by kernel_rfl
theorem S9 (a b c d:CV):gJ Tryz.prog 282 [0,1,2] [.agg [a,b],.c c,.c d]=some (.agg [a,b,c,d],[],[],True):=by kernel_rfl
theorem Bd (a b c d:CV):eK Tryz.prog 282 [a,b,c,d]=some (.agg [a,b,c,d]):=by kernel_rfl
theorem iZ {p:Int}(h:ff e p=0):2≤e∧e≤11∧2≤p∧p≤113∧5≤e+p:=by
 unfold ff at h;split at h
 ·cases h
 ·omega
theorem VA (T:TypeId)(h:(eI Tryz.prog T).isSome=true)(lv:Key→LB):fc Tryz.prog T lv (.c (.d .nilsl))=some (.c (.d (.int .i64 0)),[],[],True):=dJ (o:=none) h
theorem LU (G:List (List DV))(e p:Int)(hf:ff e p=0):aa Tryz.prog G 230 [fA e p,.c (.d (.int .i64 0)),.c (.d .nilsl)] (.tup [Pk e p 0 (bw e),.c (.d (.int .i64 0))]):=by
 obtain⟨f1,f2,f3,f4,f5⟩:=iZ hf;obtain⟨g1,g2,hsh⟩:=sA f1 f2;have hc:=kf G e p;rw [hf] at hc;have w1:IntKind.i64.wrap (e - 1)=e - 1:=bM (by omega) (by omega);have w2:IntKind.i64.wrap (bw e+1 - 1)=bw e:=by rw [bM (by omega) (by omega)];omega
 have w2':IntKind.i64.wrap (bw e)=bw e:=bM (by omega) (by omega);have lpn:=VA 325 (by simp);generalize bw e=b at *
 refine aa.enc Tryz.func230 rfl (fun lv=>rfl) fun _=>aab ?_;refine aaa fun K hK=>aas 2 hc ?_;refine aak (aac (hK _ _ (aaa fun K hK=>?_)));refine aap mixed (by kernel_rfl) rfl ?_;simp [w1,hsh,w2,w2',S9,-I3];refine⟨by kernel_rfl,?_⟩;apply hK;clear hK K;refine aaa fun K hK=>aan lpn ?_;refine aaf ?_
 refine aao (fun (_:Unit)=>⟨bh [(6,.c (.ptr 1 0)),(8,.c (.ptr 2 0)),(32,.c (.d .nilsl)),(33,.c (.d (.int .i64 0))),(34,.c (.d (.int .i64 0)))],
  aG (aG (aG (fun _=>.hole) 0 (.cells true false 81 [.d (.int .i64 e),.d (.int .i64 p)])) 1 (.cells true false 282 [.d (.int .i64 0),.d (.int .i64 0),.d (.int .i64 0),.d (.int .i64 0)])) 2 (.cells true false 282 [.d (.int .i64 e),.d (.int .i64 p),.d (.int .i64 0),.d (.int .i64 b)])⟩) 3
  (fun _=>True) (fun _=>0) () (Le.mk' _ rfl (by repeat (first|exact az|refine bf ?_ _ _ _ _ _|(refine aD ?_ _)|(refine noMap_blS ?_ _ _ _)|(refine noMap_upd_nils ?_ _)|simp)) (by simp)) trivial ?_
 rintro⟨⟩ _;refine aab ?_;refine aaa fun K3 hK3=>aak (aam (hK _ _ (aaq @Bd @aj.eq_1 ?_)))
 refine aal ?_;refine bO.lz (κ:=0) (T:=282) (t:=6) (u:=7) (k:=1) (off:=0) (own:=true) (fz:=false) (U:=282) (cs:=[.d (.int .i64 e),.d (.int .i64 p),.d (.int .i64 0),.d (.int .i64 b)]) rfl ?_ ?_ ?_ ?_ rfl rfl
 ·simp
 ·simp [aj]
 ·rw [List.drop_zero,Bd]
 ·simp
theorem JF (G:List (List DV))(e p:Int)(hf:ff e p≠0):aa Tryz.prog G 230 [fA e p,.c (.d (.int .i64 0)),.c (.d .nilsl)] (.tup [Pk 0 0 0 0,.c (.d (.int .i64 2))]):=by
 have hc:=kf G e p;refine aa.enc Tryz.func230 rfl (fun lv=>rfl) fun _=>aab ?_;refine aaa fun K hK=>aav 2 hc hf ?_;refine aah (by simp [hf] <;> omega) (aan Rn ?_);refine aal ?_;refine bO.lz (κ:=0) (T:=282) (t:=6) (u:=7) (k:=1) (off:=0) (own:=true) (fz:=false) (U:=282) (cs:=[.d (.int .i64 0),.d (.int .i64 0),.d (.int .i64 0),.d (.int .i64 0)]) rfl ?_ ?_ ?_ ?_ rfl rfl
 ·simp
 ·simp [aj]
 ·rw [List.drop_zero,Bd]
 ·simp
theorem Hw (G:List (List DV))(k:Int)(h1:-20000≤k)(h2:k≤20000):aa Tryz.prog G 286 [.c (.d (.int .i64 k))] (fF (aP 1 k)):=by
 have h:=Lh G k h1 h2;generalize aP 1 k=r at *
 refine aa.enc Tryz.func286 rfl (fun lv=>fB lv _ _ _) fun _=>aab ?_;refine aas 1 h ?_;refine aaq @bQ @aj.eq_1 ?_;refine aal ?_;refine bO.cell (κ:=0) (T:=224) (t:=2) (k:=0) (off:=0) (own:=true) (fz:=false) (U:=224) (cs:=[.d (.bool (decide (r.num<0))),nC (cP r.num.natAbs),nC (dW r.den)]) rfl ?_ ?_ ?_
 ·simp
 ·simp [aj]
 ·rw [List.drop_zero,bQ]
theorem tS (G:List (List DV))(x:Rat)(k:Int)(hx:jh x 10000000000)(h1:-20000≤k)(h2:k≤20000):aa Tryz.prog G 232 [fF x,.c (.d (.int .i64 k))] (fF (aP x k)):=by
 have h:=yt G x k hx h1 h2;generalize aP x k=r at *
 refine aa.enc Tryz.func232 rfl (fun lv=>fB lv _ _ _) fun _=>aab ?_;refine aas 2 h ?_;refine aaq @bQ @aj.eq_1 ?_;refine aal ?_;refine bO.cell (κ:=0) (T:=224) (t:=4) (k:=1) (off:=0) (own:=true) (fz:=false) (U:=224) (cs:=[.d (.bool (decide (r.num<0))),nC (cP r.num.natAbs),nC (dW r.den)]) rfl ?_ ?_ ?_
 ·simp
 ·simp [aj]
 ·rw [List.drop_zero,bQ]
theorem GM (G:List (List DV))(x:Rat)(hx:x≠0)(hs:jh x 10000000):aa Tryz.prog G 234 [fF x] (.c (.d (.int .i64 (fH x)))):=by
 have h:=LN G x hx hs;refine aa.en Tryz.func234 rfl fun _=>aab ?_;refine aas 1 h ?_;refine aab ?_;exact aae (aq.rt rfl 2 (by simp))
theorem Al (G:List (List DV))(e p m b:Int)(h1:0≤b)(h2:b≤100000):aa Tryz.prog G 284 [Pk e p m b] (.c (.d (.int .i64 (1 - b)))):=by
 have w:IntKind.i64.wrap (1 - b)=1 - b:=bM (by omega) (by omega);refine aa.en Tryz.func284 rfl fun _=>aab ?_;refine aan w ?_;exact aae (aq.rt rfl 2 (by simp))
def jf (p b l:Int):Int:=max l (1 - b) - p+1
theorem D0 (G:List (List DV))(e p m b l:Int)(h1:0≤b)(h2:b≤100000)(h3:0≤p)(h4:p≤100000)(h5:-1000000≤l)(h6:l≤1000000):aa Tryz.prog G 233 [Pk e p m b,.c (.d (.int .i64 l))] (.c (.d (.int .i64 (jf p b l)))):=by
 have h:=Al G e p m b h1 h2;have mx:(List.foldl (fun a b:Int=>if a<b then b else a) l [1 - b])=max l (1 - b):=by simp only [List.foldl];split <;> omega
 have w1:IntKind.i64.wrap (max l (1 - b) - p)=max l (1 - b) - p:=bM (by omega) (by omega);have w2:IntKind.i64.wrap (max l (1 - b) - p+1)=jf p b l:=by unfold jf;exact bM (by omega) (by omega)
 refine aa.en Tryz.func233 rfl fun _=>aab ?_;refine aaa fun K hK=>?_;refine aap mixed (by kernel_rfl) rfl ?_;simp;refine ag.p 1 9 h ?_;simp [di,mx,w1,w2,-List.foldl_cons,-List.foldl_nil];refine⟨by kernel_rfl,?_⟩;apply hK;clear hK K;exact aae (aq.rt rfl 4 (by simp))
def eH (p b:Int):Rat:=aP (aP 1 p - 1) (b - p+1)
theorem jc (L:Nat)(h:1≤L):jh 1 L:=⟨by show nl 1≤_;rw [pg];exact h,by show nl 1≤_;rw [pg];exact h⟩
theorem p6 (p:Int)(h1:0≤p)(h2:p≤10000):jh (aP 1 p - 1) 1000:=by
 rw [Rat.sub_eq_add_neg];have h:=iJ (jc 1 (Nat.le_refl _)) p;have:=L1 (bW h (show 1+p.natAbs / 32+1≤400 by omega)) (uy (jc 400 (by omega)));exact bW this (by omega)
theorem yf (p b:Int)(h1:0≤p)(h2:p≤10000)(h3:0≤b)(h4:b≤5000):jh (eH p b) 2000:=by
 refine bW (iJ (p6 p h1 h2) _) (by omega)
theorem vG (G:List (List DV))(e p m b:Int)(h1:0≤b)(h2:b≤5000)(h3:0≤p)(h4:p≤10000):aa Tryz.prog G 237 [Pk e p m b] (fF (eH p b)):=by
 have k1:=Hw G p (by omega) (by omega);have k2:aa Tryz.prog G 263 [.c (.d (.int .i64 1))] (fF (1:Rat)):=FG G 1 (by decide) (by decide);have k3:=Mt G (aP 1 p) 1 (bW (iJ (jc 1 (Nat.le_refl _)) p) (by omega)) (jc _ (by omega));have k4:=tS G (aP 1 p - 1) (b - p+1) (bW (p6 p h3 h4) (by omega)) (by omega) (by omega);rw [show aP (aP 1 p - 1) (b - p+1)=eH p b from rfl] at k4;have w1:IntKind.i64.wrap (b - p)=b - p:=bM (by omega) (by omega);have w2:IntKind.i64.wrap (b - p+1)=b - p+1:=bM (by omega) (by omega);generalize eH p b=r at *
 generalize aP 1 p - 1=r2 at *
 generalize aP 1 p=r1 at *
 generalize (1:Rat)=r0 at *
 refine aa.enc Tryz.func237 rfl (fun lv=>fB lv _ _ _) fun _=>aab ?_;refine aaa fun K hK=>?_;refine aap mixed (by kernel_rfl) rfl ?_;simp;refine ag.p 2 9 k1 ?_;simp;refine ag.p 2 9 k2 ?_;simp;refine ag.p 2 9 k3 ?_;simp [w1,w2];refine ag.p 2 9 k4 ?_;simp;refine⟨by kernel_rfl,?_⟩;apply hK;clear hK K;refine aal ?_;refine bO.cell (κ:=0) (T:=224) (t:=2) (k:=1) (off:=0) (own:=true) (fz:=false) (U:=224) (cs:=[.d (.bool (decide (r.num<0))),nC (cP r.num.natAbs),nC (dW r.den)]) rfl ?_ ?_ ?_
 ·simp
 ·simp [aj]
 ·rw [List.drop_zero,bQ]
def gE (x:Rat):Rat:=if x<0 then -x else x
theorem Og (x:Rat):fF (gE x)=oJ false (cP x.num.natAbs) (dW x.den):=by
 unfold gE;split
 ·rename_i h
  have:x.num<0:=by
   have:=(Rat.lt_iff x 0).1 h;simpa using this
  show oJ (decide ((-x).num<0)) (cP (-x).num.natAbs) (dW (-x).den)=_;rw [Rat.neg_num,Rat.neg_den,Int.natAbs_neg,decide_eq_false (by omega)]
 ·rename_i h
  have:¬ x.num<0:=fun hn=>h ((Rat.lt_iff x 0).2 (by simpa using hn))
  show oJ (decide (x.num<0)) _ _=_;rw [decide_eq_false this]
theorem Mn (G:List (List DV))(x:Rat):aa Tryz.prog G 236 [fF x] (fF (gE x)):=by
 rw [Og];exact DU _ _ _ _
theorem uH {x:Rat}{L:Nat}(h:jh x L):jh (gE x) L:=by
 unfold gE;split
 ·exact uy h
 ·exact h
theorem GR (G:List (List DV))(x:Rat):aa Tryz.prog G 235 [fF x] (.c (.d (.bool (decide (x.den=1))))):=by
 have h:=zW G (decide (x.num<0)) (cP x.num.natAbs) (dW x.den);have e:(dW x.den).isNone=decide (x.den=1):=by unfold dW;split <;> simp_all
 rw [e] at h;exact h
def hasB (e p:Int)(x:Rat):Bool:=
 decide (ff e p=0) && (decide (x=0) || (decide ((aP x (-(jf p (bw e) (fH x)))).den=1) && decide (gU (gE x) (eH p (bw e))≤0)))
theorem qS (G:List (List DV))(e p:Int)(x:Rat)(hs:jh x 300):aa Tryz.prog G 160 [fA e p,fF x] (.c (.d (.bool (hasB e p x)))):=by
 by_cases hf:ff e p=0
 rotate_left
 ·have hw:=JF G e p hf;have hb:hasB e p x=false:=by unfold hasB;rw [decide_eq_false hf];rfl
  refine aa.en Tryz.func160 rfl fun _=>aab ?_;refine aas 2 hw ?_;refine aaa fun K hK=>aaf (aab ?_)
  refine aaj (aab ?_);exact aae (aq.rt rfl 4 (by simp [hb]))
 obtain⟨f1,f2,f3,f4,f5⟩:=iZ hf;obtain⟨g1,g2,_⟩:=sA f1 f2;have hw:=LU G e p hf;have hg:=kF G (decide (x.num<0)) (cP x.num.natAbs) (dW x.den)
 by_cases hx:x=0
 ·have hb:hasB e p x=true:=by unfold hasB;rw [decide_eq_true hf,decide_eq_true hx];rfl
  have hz:=JA hx;refine aa.en Tryz.func160 rfl fun _=>aab ?_;refine aas 2 hw ?_;refine aaa fun K hK=>aaf (aab ?_)
  refine aak (aav 3 hg hz ?_);refine aah (by simp [hz] <;> omega) (aab ?_);exact aae (aq.rt rfl 4 (by simp [hb]))
 have hne:=KV hx;have hl:=GM G x hx (bW hs (by omega));obtain⟨l1,l2⟩:=wF hx hs;have hst:=D0 G e p 0 (bw e) (fH x) (by omega) (by omega) (by omega) (by omega) (by omega) (by omega);have s1:-20000≤-(jf p (bw e) (fH x)):=by unfold jf;omega
 have s2:-(jf p (bw e) (fH x))≤20000:=by unfold jf;omega
 have hsh:=tS G x (-(jf p (bw e) (fH x))) (bW hs (by omega)) s1 s2;have hin:=GR G (aP x (-(jf p (bw e) (fH x))));have hab:=Mn G x;have hgr:=vG G e p 0 (bw e) (by omega) (by omega) (by omega) (by omega);have hcm:=Gk G (gE x) (eH p (bw e)) (bW (uH hs) (by omega)) (bW (yf p (bw e) (by omega) (by omega) (by omega) (by omega)) (by omega))
 have hb:hasB e p x=(decide ((aP x (-(jf p (bw e) (fH x)))).den=1) && decide (gU (gE x) (eH p (bw e))≤0)):=by
  unfold hasB;rw [decide_eq_true hf,decide_eq_false hx];rfl
 have w:IntKind.i64.wrap (-(jf p (bw e) (fH x))) = -(jf p (bw e) (fH x)):=bM (by omega) (by omega);generalize gU (gE x) (eH p (bw e))=cm at *
 generalize eH p (bw e)=gr at *
 generalize gE x=ab at *
 generalize aP x (-(jf p (bw e) (fH x)))=sh at *
 generalize jf p (bw e) (fH x)=st at *
 generalize fH x=lo at *
 generalize bw e=b at *
 by_cases hi:sh.den=1
 ·have hb2:hasB e p x=decide (cm≤0):=by rw [hb,decide_eq_true hi];rfl
  refine aa.en Tryz.func160 rfl fun _=>aab ?_;refine aas 2 hw ?_;refine aaa fun K hK=>aaf (aab ?_)
  refine aak (aav 3 hg hne ?_);refine aag (by simp [hne] <;> omega) (aac (hK _ _ (aaa fun K hK=>?_)));refine aap mixed (by kernel_rfl) rfl ?_;simp [aj];refine ag.p 3 9 hl ?_;simp;refine ag.p 3 9 hst ?_;simp [w];refine ag.p 3 9 hsh ?_;simp;refine ag.p 3 9 hin ?_;simp [hi];refine ag.p 3 9 hab ?_;simp;refine ag.p 3 9 hgr ?_;simp;refine ag.p 3 9 hcm ?_;simp;refine⟨by kernel_rfl,?_⟩;apply hK;clear hK K;exact aae (aq.rt rfl 4 (by simp [hb2]))
 ·have hb2:hasB e p x=false:=by rw [hb,decide_eq_false hi];rfl
  refine aa.en Tryz.func160 rfl fun _=>aab ?_;refine aas 2 hw ?_;refine aaa fun K hK=>aaf (aab ?_)
  refine aak (aav 3 hg hne ?_);refine aag (by simp [hne] <;> omega) (aac (hK _ _ (aaa fun K hK=>?_)));refine aap mixed (by kernel_rfl) rfl ?_;simp [aj];refine ag.p 3 9 hl ?_;simp;refine ag.p 3 9 hst ?_;simp [w];refine ag.p 3 9 hsh ?_;simp;refine ag.p 3 9 hin ?_;simp [hi];refine⟨by kernel_rfl,?_⟩;apply hK;clear hK K;exact aae (aq.rt rfl 4 (by simp [hb2]))
theorem uV(h:eB s=true) (h0:s≠[48]) (h1:s≠[49]):2≤aQ s 0:=by
 obtain⟨hD,hne⟩:=nF h;unfold eB at h;simp only [Bool.and_eq_true,Bool.or_eq_true,Bool.not_eq_true',decide_eq_true_eq,decide_eq_false_iff_not] at h
 have h4:s.getD 0 0≠48:=by
  rcases h.2 with h3|h3
  ·exact absurd h3 h0
  ·exact h3
 cases s with
 | nil=>exact absurd rfl hne
 | cons c l=>
  have hc:=hD c (by simp);have hc48:c≠48:=h4;have hcn:c.toNat≠48:=fun e=>hc48 (UInt8.toNat_inj.1 (by rw [e];rfl))
  have e:aQ (c::l) 0=(c.toNat - 48)*10 ^ l.length+aQ l 0:=by
   show aQ l (10*0+(c.toNat - 48))=_;rw [eP,Nat.mul_zero,Nat.zero_add]
  rw [e]
  cases l with
  | nil=>
   have hc49:c.toNat≠49:=fun e=>h1 (by rw [UInt8.toNat_inj.1 (show c.toNat=(49:UInt8).toNat by rw [e];rfl)])
   show 2≤(c.toNat - 48)*10 ^ 0+0;omega
  | cons d l=>
   have h10:10≤10 ^ (d::l).length:=by
    rw [List.length_cons,Nat.pow_succ];have:=Nat.pow_pos (a:=10) (n:=l.length) (by decide);omega
   have:1*10≤(c.toNat - 48)*10 ^ (d::l).length:=Nat.mul_le_mul (by omega) h10;omega
def nI (neg:Bool)(top bot:List UInt8)(brk:Bool):Rat:=if dg neg top bot brk=0 then mkRat (dB neg (aQ top 0)) (if brk=true then aQ bot 0 else 1) else 0
theorem JO (s:List UInt8):(val 4294967296 (dO (n6 s)))=aQ s 0:=by show val 4294967296 (aH 4294967296 (aQ s 0))=_;rw [dZ]
theorem A7 (s:List UInt8):can 4294967296 (dO (n6 s)):=gb _
theorem Qf (s t:List UInt8):(val 4294967296 (dO (gO (n6 s) (n6 t))))=Nat.gcd (aQ s 0) (aQ t 0):=by
 unfold gO;rw [vI (A7 s) (A7 t),dZ,JO,JO]
theorem EC {neg:Bool}{top bot:List UInt8}{brk:Bool}(h:iw neg top bot brk=false):eB top=true∧(brk=true→eB bot=true∧bot≠[48]∧bot≠[49]):=by
 unfold iw at h;simp only [Bool.or_eq_false_iff,Bool.not_eq_false',Bool.and_eq_false_iff,decide_eq_false_iff_not] at h;obtain⟨⟨h1,_⟩,h3⟩:=h;refine⟨h1,fun hb=>?_⟩;rcases h3 with h3|h3
 ·rw [hb] at h3;cases h3
 ·exact⟨h3.1.1,h3.1.2,h3.2⟩
theorem DW (neg:Bool)(top bot:List UInt8)(brk:Bool):eF neg top bot brk=.tup [fF (nI neg top bot brk),.c (.d (.int .i64 (dg neg top bot brk)))]:=by
 by_cases h1:iw neg top bot brk=true
 ·have e:dg neg top bot brk=6:=by unfold dg;rw [if_pos h1]
  have e2:nI neg top bot brk=0:=by unfold nI;rw [e,if_neg (by decide)]
  rw [e,e2];unfold eF;rw [if_pos h1];rfl
 by_cases h2:2000<max top.length bot.length
 ·have e:dg neg top bot brk=3:=by unfold dg;rw [if_neg h1,if_pos h2]
  have e2:nI neg top bot brk=0:=by unfold nI;rw [e,if_neg (by decide)]
  rw [e,e2];unfold eF;rw [if_neg h1,if_pos h2];rfl
 obtain⟨g1,g2⟩:=EC (by simpa using h1)
 by_cases h3:brk=false
 ·have e:dg neg top bot brk=0:=by unfold dg;rw [if_neg h1,if_neg h2,if_pos h3]
  have e2:nI neg top bot brk=mkRat (dB neg (aQ top 0)) 1:=by unfold nI;rw [e,if_pos rfl,h3];rfl
  rw [e,e2];unfold eF;rw [if_neg h1,if_neg h2,if_pos h3];rw [yJ neg (A7 top) (q:=some (aH 4294967296 1)) (gb 1) (kY (by decide)),JO,aW,dZ]
 have hb:brk=true:=by simpa using h3
 obtain⟨r1,r2,r3⟩:=g2 hb;have hge:=uV r1 r2 r3
 by_cases h4:(val 4294967296 (dO (gO (n6 top) (n6 bot))))=1
 ·have e:dg neg top bot brk=0:=by unfold dg;rw [if_neg h1,if_neg h2,if_neg h3,if_pos h4]
  have e2:nI neg top bot brk=mkRat (dB neg (aQ top 0)) (aQ bot 0):=by unfold nI;rw [e,if_pos rfl,hb];rfl
  rw [e,e2];unfold eF;rw [if_neg h1,if_neg h2,if_neg h3,if_pos h4];rw [Qf] at h4;have ha:aQ top 0≠0:=by intro h0;rw [h0,Nat.gcd_zero_left] at h4;omega
  obtain⟨n1,n2⟩:=iu neg (a:=aQ top 0) (b:=aQ bot 0) (by omega);rw [h4,Nat.div_one] at n1 n2;show AV.tup [oJ neg (some (aH 4294967296 (aQ top 0))) (some (aH 4294967296 (aQ bot 0))),_]=AV.tup [oJ (decide ((mkRat (dB neg (aQ top 0)) (aQ bot 0)).num<0)) (cP (mkRat (dB neg (aQ top 0)) (aQ bot 0)).num.natAbs) (dW (mkRat (dB neg (aQ top 0)) (aQ bot 0)).den),_];rw [n1,n2,qi,Fu neg ha];unfold cP dW;rw [if_neg ha,if_neg (by omega)]
 ·have e:dg neg top bot brk=6:=by unfold dg;rw [if_neg h1,if_neg h2,if_neg h3,if_neg h4]
  have e2:nI neg top bot brk=0:=by unfold nI;rw [e,if_neg (by decide)]
  rw [e,e2];unfold eF;rw [if_neg h1,if_neg h2,if_neg h3,if_neg h4];rfl
theorem Kp (L:Nat)(h:1≤L):jh 0 L:=⟨by show nl 0≤_;exact Nat.zero_le _,by show nl 1≤_;rw [pg];exact h⟩
theorem qE(h:ua s) (hl:s.length≤2000):nl (aQ s 0)≤300:=by
 have:=N5 (mm h);omega
theorem L0 (neg:Bool)(top bot:List UInt8)(brk:Bool):jh (nI neg top bot brk) 300:=by
 unfold nI;split
 ·rename_i h
  have h1:¬ iw neg top bot brk=true:=by
   intro hb;unfold dg at h;rw [if_pos hb] at h;cases h
  have h2:¬ 2000<max top.length bot.length:=by
   intro hb;unfold dg at h;rw [if_neg h1,if_pos hb] at h;cases h
  obtain⟨g1,g2⟩:=EC (by simpa using h1);split
  ·rename_i hb
   obtain⟨r1,r2,r3⟩:=g2 hb;have hge:=uV r1 r2 r3;exact nJ _ (by omega) (qE (nF g1).1 (by omega)) (qE (nF r1).1 (by omega))
  ·exact nJ _ (by decide) (qE (nF g1).1 (by omega)) (by rw [pg];decide)
 ·exact Kp _ (by decide)
def er (r:List UInt8):Int:=dg (qm r [45]) (rX (ku r [45]) [47]) (rF (ku r [45]) [47]) (decide (0≤jG (ku r [45]) [47]))
def eX (r:List UInt8):Rat:=nI (qm r [45]) (rX (ku r [45]) [47]) (rF (ku r [45]) [47]) (decide (0≤jG (ku r [45]) [47]))
theorem uC (r:List UInt8):jh (eX r) 300:=L0 ..
theorem yp (m:Int)(r:List UInt8):aa Tryz.prog (GG m) 159 [.c (.d (.str r))] (.tup [fF (eX r),.c (.d (.int .i64 (er r)))]):=by
 have h:=Cv m r;rw [DW] at h;exact h
theorem HC (m:Int)(r:List UInt8):aa Tryz.prog (GG m) 163 [.c (.d (.str r))] (.c (.d (.int .i64 (er r)))):=ya m r
theorem iS (G:List (List DV))(n m:Int):aa Tryz.prog G 87 [.c (.d (.int .i64 n)),.c (.d (.int .i64 m))] (.c (.d (.bool (decide (0≤n∧n<m))))):=by
 refine aa.en Tryz.func87 rfl fun _=>aab ?_;refine aaa fun K hK=>?_
 by_cases h:0≤n
 ·refine aat h (hK _ _ ?_);exact aae (aq.rt rfl 4 (by simp [h]))
 ·refine aat h (hK _ _ ?_);exact aae (aq.rt rfl 4 (by simp [h]))
theorem Cj (G:List (List DV))(n:Int):aa Tryz.prog G 96 [.c (.d (.int .i64 n))] (.c (.d (.bool (decide (1≤n∧n≤15))))):=by
 refine aa.en Tryz.func96 rfl fun _=>aab ?_;refine aaa fun K hK=>?_
 by_cases h:1≤n
 ·refine aat h (hK _ _ ?_);exact aae (aq.rt rfl 2 (by simp [h]))
 ·refine aat h (hK _ _ ?_);exact aae (aq.rt rfl 2 (by simp [h]))
def kj (p:PD)(i:Int):Int:=if i<p.head then 0 else if i<p.tail then 1 else 2
theorem qg (G:List (List DV))(p:PD)(i:Int):aa Tryz.prog G 88 [p.A,.c (.d (.int .i64 i))] (.c (.d (.int .i64 (kj p i)))):=by
 refine aa.en Tryz.func88 rfl fun _=>aab ?_;refine aaa fun K hK=>aaf (aab ?_)
 by_cases h:i<p.head
 ·refine aah (by simp [h] <;> omega) (aab ?_);exact aae (aq.rt rfl 4 (by simp [kj,h]))
 ·refine aag (by simp [h] <;> omega) (aab ?_)
  by_cases h2:i<p.tail
  ·refine aah (by simp [h2] <;> omega) (aab ?_);exact aae (aq.rt rfl 4 (by simp [kj,h,h2]))
  ·refine aag (by simp [h2] <;> omega) (aac (hK _ _ (aab ?_)));exact aae (aq.rt rfl 4 (by simp [kj,h,h2]))
@[simp] theorem PD.U5 (p:PD):(AV.agg [hO p.f,.d (.int .i64 p.mode),hO p.ins,hO p.nodes,.d (.int .i64 p.head),.d (.int .i64 p.tail),hO p.states,.d (.int .i64 p.res)]).pure=true:=by
 obtain⟨f,a,i,n,b,c,s,d⟩:=p
 cases f <;> cases i <;> cases n <;> cases s <;> rfl
def dw (p:PD)(i k:Int):Bool:=decide (0≤k∧k<i) && (decide (kj p k=0) || decide (kj p k=kj p i))
theorem MT (G:List (List DV))(p:PD)(i k:Int):aa Tryz.prog G 164 [p.A,.c (.d (.int .i64 i)),.c (.d (.int .i64 k))] (.c (.d (.bool (dw p i k)))):=by
 refine aa.en Tryz.func164 rfl fun _=>aab ?_;refine aaa fun K hK=>aaa fun K1 hK1=>?_
 by_cases h1:k<0
 ·have h1':¬ 0≤k:=by omega
  refine aat h1 (hK1 _ _ ?_);refine aaj (aab ?_);exact aae (aq.rt rfl 6 (by simp [dw,h1']))
 have h0:0≤k:=by omega
 by_cases h2:i≤k
 ·have h2':¬ k<i:=by omega
  refine aau h1 h2 (hK1 _ _ ?_);refine aaj (aab ?_);exact aae (aq.rt rfl 6 (by simp [dw,h2']))
 have h2':k<i:=by omega
 refine aau h1 h2 (hK1 _ _ ?_);refine aak (aac (hK _ _ (aai fun K hK=>?_)));simp;refine ag.pure 1 9 (qg _ p k) (by simp) (by simp) rfl ?_;simp;apply hK;clear hK K;refine aaa fun K hK=>?_
 by_cases h3:kj p k=0
 ·refine aat h3 (hK _ _ ?_);exact aae (aq.rt rfl 6 (by simp [dw,h0,h2',h3]))
 ·refine aad ?_;simp [h3];refine ag.pure 1 9 (qg _ p i) (by simp) (by simp) rfl ?_;simp;apply hK;clear hK K;exact aae (aq.rt rfl 6 (by simp [dw,h0,h2',h3]))
def dR (p:PD):Int:=
 if 6<(sO p.f).length∨6<(sO p.ins).length∨64<(sO p.nodes).length∨4<(sO p.states).length then 3
 else if (sO p.f).length=0∨(sO p.nodes).length=0∨p.mode<0∨4<p.mode then 2
 else if p.head<0∨p.tail<p.head∨((sO p.nodes).length:Int)<p.tail then 2
 else if (sO p.states).length=0∧p.head≠(sO p.nodes).length then 2 else 0
theorem Dw (G:List (List DV))(p:PD):aa Tryz.prog G 82 [p.A] (.c (.d (.int .i64 (dR p)))):=by
 have lp0:∀ (lv:Key→LB) (o:Option (List (List DV))),fc Tryz.prog 22 lv (D8 o)=some (.c (.d (.int .i64 (sO o).length)),[],[],True):=fun lv o=>dJ (by simp)
 have lp2:∀ (lv:Key→LB) (o:Option (List (List DV))),fc Tryz.prog 23 lv (D8 o)=some (.c (.d (.int .i64 (sO o).length)),[],[],True):=fun lv o=>dJ (by simp)
 have lp3:∀ (lv:Key→LB) (o:Option (List (List DV))),fc Tryz.prog 24 lv (D8 o)=some (.c (.d (.int .i64 (sO o).length)),[],[],True):=fun lv o=>dJ (by simp)
 have lp6:∀ (lv:Key→LB) (o:Option (List (List DV))),fc Tryz.prog 25 lv (D8 o)=some (.c (.d (.int .i64 (sO o).length)),[],[],True):=fun lv o=>dJ (by simp)
 refine aa.en Tryz.func82 rfl fun _=>aab ?_;refine aan lp3 ?_;refine aaa fun K hK=>aaf (aaa fun K1 hK1=>?_)
 have toK1:∀ (fr:Nat→AV) (κ:Nat) (b:Bool),fr 1=.c (.ptr 0 0)→fr 3=.c (.d (.int .i64 (sO p.nodes).length))→fr 8=.c (.d (.bool b)) →
  (b=decide (6<(sO p.f).length∨6<(sO p.ins).length∨64<(sO p.nodes).length∨4<(sO p.states).length)) →
  K1 ⟨fr,aG (fun _=>.hole) 0 (.cells true false 154 p.cs)⟩ κ:=by
  intro fr κ b z1 z3 z8 hb;apply hK1
  cases b with
  | true=>
   have h:=of_decide_eq_true hb.symm;refine aah (by simp [z8] <;> omega) (aab ?_);exact aal (κ:=0) (aq.tmp (κ:=0) rfl 9 (by simp [dR,if_pos h]) rfl (by simp) rfl)
  | false=>
   have h:=of_decide_eq_false hb.symm;refine aag (by simp [z8] <;> omega) (aaa fun K2 hK2=>?_)
   have toK2:∀ (fr:Nat→AV) (κ:Nat) (b:Bool),fr 1=.c (.ptr 0 0)→fr 3=.c (.d (.int .i64 (sO p.nodes).length))→fr 26=.c (.d (.bool b)) →
    (b=decide ((sO p.f).length=0∨(sO p.nodes).length=0∨p.mode<0∨4<p.mode)) →
    K2 ⟨fr,aG (fun _=>.hole) 0 (.cells true false 154 p.cs)⟩ κ:=by
    intro fr κ b y1 y3 y26 hb2;apply hK2
    cases b with
    | true=>
     have h2:=of_decide_eq_true hb2.symm;refine aah (by simp [y26] <;> omega) (aab ?_);have hg:dR p=2:=by unfold dR;rw [if_neg h,if_pos h2]
     exact aal (κ:=0) (aq.tmp (κ:=0) rfl 9 (by simp [hg]) rfl (by simp) rfl)
    | false=>
     have h2:=of_decide_eq_false hb2.symm;refine aag (by simp [y26] <;> omega) (aaa fun K3 hK3=>?_)
     have toK3:∀ (fr:Nat→AV) (κ:Nat) (b:Bool),fr 1=.c (.ptr 0 0)→fr 3=.c (.d (.int .i64 (sO p.nodes).length))→fr 42=.c (.d (.bool b)) →
      (b=decide (p.head<0∨p.tail<p.head∨((sO p.nodes).length:Int)<p.tail)) →
      K3 ⟨fr,aG (fun _=>.hole) 0 (.cells true false 154 p.cs)⟩ κ:=by
      intro fr κ b x1 x3 x42 hb3;apply hK3
      cases b with
      | true=>
       have h3:=of_decide_eq_true hb3.symm;refine aah (by simp [x42] <;> omega) (aab ?_);have hg:dR p=2:=by unfold dR;rw [if_neg h,if_neg h2,if_pos h3]
       exact aal (κ:=0) (aq.tmp (κ:=0) rfl 9 (by simp [hg]) rfl (by simp) rfl)
      | false=>
       have h3:=of_decide_eq_false hb3.symm;refine aag (by simp [x42] <;> omega) (aaa fun K4 hK4=>?_)
       have fin0:dR p=0→∀ (fr:Nat→AV) (κ:Nat) (lv:Key→LB),lv 9=.hole→K ⟨fr,lv⟩ κ:=by
        intro hg fr κ lv h9;apply hK;refine aab ?_;exact aal (κ:=0) (aq.tmp (κ:=0) rfl 9 (by simp [hg]) rfl (by simp [h9]) rfl)
       by_cases e1:sO p.states=[]
       ·by_cases e2:p.head=((sO p.nodes).length:Int)
        ·have hg:dR p=0:=by unfold dR;rw [if_neg h,if_neg h2,if_neg h3,if_neg (fun hh=>hh.2 e2)]
         refine aad ?_;simp [x1,x3,lp6,e1,e2];apply hK4;clear hK4 K4;refine aak (aac ?_);simp;exact fin0 hg _ _ _ (by simp)
        ·have hg:dR p=2:=by unfold dR;rw [if_neg h,if_neg h2,if_neg h3,if_pos ⟨by rw [e1];rfl,e2⟩]
         refine aad ?_;simp [x1,x3,lp6,e1,e2];apply hK4;clear hK4 K4;refine aaj (aab ?_);exact aal (κ:=0) (aq.tmp (κ:=0) rfl 9 (by simp [hg]) rfl (by simp) rfl)
       ·have hg:dR p=0:=by unfold dR;rw [if_neg h,if_neg h2,if_neg h3,if_neg (fun hh=>e1 (List.length_eq_zero_iff.1 hh.1))]
        refine aaB x1 x3 lp6 e1 (hK4 _ _ ?_);refine aak (aac ?_);simp;exact fin0 hg _ _ _ (by simp)
     refine aan y1 ?_
     by_cases f1:p.head<0
     ·refine aah (by simp [f1] <;> omega) (aac ?_);simp;exact toK3 _ _ true (by simp [y1]) (by simp [y3]) (by simp [f1]) (by simp [f1])
     refine aag (by simp [f1] <;> omega) (aan y1 ?_)
     by_cases f2:p.tail<p.head
     ·refine aah (by simp [f2] <;> omega) (aac ?_);simp;exact toK3 _ _ true (by simp [y1]) (by simp [y3]) (by simp [f2]) (by simp [f2])
     refine aag (by simp [f2] <;> omega) (aad ?_);simp [y1,y3];exact toK3 _ _ (decide (((sO p.nodes).length:Int)<p.tail)) (by simp [y1]) (by simp [y3]) (by simp) (by simp [f1,f2])
   refine aaq z1 lp0 ?_
   by_cases c1:(sO p.f).length=0
   ·have c1l:sO p.f=[]:=List.length_eq_zero_iff.1 c1;refine aah (by simp [c1l] <;> omega) (aac ?_);simp;exact toK2 _ _ true (by simp [z1]) (by simp [z3]) (by simp [c1l]) (by simp [c1l])
   have c1l:¬ sO p.f=[]:=fun e=>c1 (by rw [e];rfl)
   refine aag (by simp [c1l] <;> omega) (aan z3 ?_)
   by_cases c2:(sO p.nodes).length=0
   ·have c2l:sO p.nodes=[]:=List.length_eq_zero_iff.1 c2;refine aah (by simp [c2l] <;> omega) (aac ?_);simp;exact toK2 _ _ true (by simp [z1]) (by simp [z3]) (by simp [c2l]) (by simp [c2l])
   have c2l:¬ sO p.nodes=[]:=fun e=>c2 (by rw [e];rfl)
   refine aag (by simp [c2l] <;> omega) (aan z1 ?_)
   by_cases c3:p.mode<0
   ·refine aah (by simp [c3] <;> omega) (aac ?_);simp;exact toK2 _ _ true (by simp [z1]) (by simp [z3]) (by simp [c3]) (by simp [c3])
   refine aag (by simp [c3] <;> omega) (aad ?_);simp [z1];exact toK2 _ _ (decide (4<p.mode)) (by simp [z1]) (by simp [z3]) (by simp) (by simp [c1l,c2l,c3])
 refine aan lp0 ?_
 by_cases d1:6<(sO p.f).length
 ·have d1':(6:Int)<((sO p.f).length:Int):=by omega
  refine aah (by simp [d1'] <;> omega) (aac ?_);simp;exact toK1 _ _ true (by simp) (by simp) (by simp [d1']) (by simp [d1])
 have d1':¬ (6:Int)<((sO p.f).length:Int):=by omega
 refine aag (by simp [d1'] <;> omega) (aan lp2 ?_)
 by_cases d2:6<(sO p.ins).length
 ·have d2':(6:Int)<((sO p.ins).length:Int):=by omega
  refine aah (by simp [d2'] <;> omega) (aac ?_);simp;exact toK1 _ _ true (by simp) (by simp) (by simp [d2']) (by simp [d2])
 have d2':¬ (6:Int)<((sO p.ins).length:Int):=by omega
 refine aag (by simp [d2'] <;> omega) (aab ?_)
 by_cases d3:64<(sO p.nodes).length
 ·have d3':(64:Int)<((sO p.nodes).length:Int):=by omega
  refine aah (by simp [d3'] <;> omega) (aac ?_);simp;exact toK1 _ _ true (by simp) (by simp) (by simp [d3']) (by simp [d3])
 have d3':¬ (64:Int)<((sO p.nodes).length:Int):=by omega
 refine aag (by simp [d3'] <;> omega) (aad ?_);simp [lp6];have d4:((4:Int)<((sO p.states).length:Int))↔4<(sO p.states).length:=by omega
 exact toK1 _ _ (decide (4<(sO p.states).length)) (by simp) (by simp) (by simp [d4]) (by simp [d1,d2,d3])
end Go.Am
namespace Go.Am
variable {fn:Func}{x X:AV}{c:Ctx}{t κ k off sz:Nat}{s:aB}{ks:List Key}{T U:TypeId}{own fz:Bool}{P:Program}{G es:List (List DV)}{f:FuncId}{code:Code}{args:List AV}{cs:List CV}{lv:Key→LB}
def nZ (c:Ctx)(fn:Func)(x:AV):Ex→aB→Nat→Prop
 | .normal,s,_|.ret,s,_=>∃ X ks,dF c.P s fn.results.toList=some X∧fP s.lv X=some (x,ks)
 | _,_,_=>False
theorem aa.NO(hf:P.funcs[f]?=some fn) (hb:fn.body=some code) (hl:args.length≤fn.ntmps)
 (h:∀ c:Ctx,c.P=P→c.G=G→c.n=fn.ntmps→c.kB=(fun _=>.hole)→AW c none code ⟨fun t=>args.getD t .undef,fun _=>.hole⟩ 0 (nZ c fn x)):aa P G f args x:=by
 intro F β w vs hS hvl hv;have hlv:bF [] []=fun _=>LB.hole:=fV
 rw [hlv] at hS hv;refine calls_of_wp hf hb ?_
 let c:Ctx:={ cO P G w F β (fun _=>.hole) with n:=fn.ntmps }
 have hS':cz c F β (fun _=>.hole) w:=hS
 let a:Act:={ tmps:=vs++Array.replicate (fn.ntmps - vs.size) undef,defers:=[] }
 have hst:aC c F β ⟨fun t=>args.getD t .undef,fun _=>.hole⟩ a w:=by
  refine hS'.with ?_ rfl (fun t=>?_)
  ·show (vs++Array.replicate (fn.ntmps - vs.size) undef).size=fn.ntmps;simp;omega
  ·show (Vw.mk F β (fun _=>.hole) w).av ((vs++Array.replicate (fn.ntmps - vs.size) undef).getD t undef) (args.getD t .undef)
   by_cases ht:t<args.length
   ·have h1:args.getD t .undef=args[t]:=cC ht
    have h2:(vs++Array.replicate (fn.ntmps - vs.size) undef).getD t undef=vs[t]'(by omega):=by
     rw [Array.getD_eq_getD_getElem?,Array.getElem?_append_left (by omega),Array.getElem?_eq_getElem (by omega)];rfl
    rw [h1,h2];exact hv t ht (by omega)
   ·have h1:args.getD t .undef=.undef:=cL ht
    have h2:(vs++Array.replicate (fn.ntmps - vs.size) undef).getD t undef=undef:=by
     rw [Array.getD_eq_getD_getElem?,Array.getElem?_append_right (by omega),Array.getElem?_replicate];split <;> rfl
    rw [h1,h2];rfl
 have hw:=(wpIn_wide (n:=0)).1 (h c rfl rfl rfl rfl F β a w hst);refine wp_mono hw fun e a' w' hp=>?_;obtain⟨e',s',κ',F',β',hq,hX0,he⟩:=hp
 have fin:(∃ X ks,dF c.P s' fn.results.toList=some X∧fP s'.lv X=some (x,ks))→a'.defers=[]∧∃ v,(results fn a'.tmps).run P w'=.ok v w'∧ID P G [] F β w (.ret x [] []) (.returned v) w':=by
  rintro⟨X,ks,h0,hd⟩;obtain⟨v,h4,hav⟩:=ny hX0 h0;have hX:cz (cO P G w F β (fun _=>.hole)) F' β' s'.lv w':=hX0.s9;have hFz:∀ b,F' b→(F' b∨∃ k∈ks,b=β' k):=fun b hb=>.inl hb
  refine⟨hX0.defers,v,h4,v,fun b=>F' b∨∃ k∈ks,b=β' k,β',rfl,?_,?_⟩
  ·rw [hlv];refine⟨fun k=>trivial,fun k k' h=>(by cases h),fun _=>trivial,rfl,rfl,fun b hb=>?_,fun b hb=>.inl (hX.F0 b hb),fun b hb hW=>hX.old b hb (by rintro⟨k,hk,_⟩;cases hk),hX.ge,fun g cs hg=>Rd.mono (ga hFz (fun _ _=>rfl)) (hX.nq g cs hg),fun k hk=>absurd rfl hk,hX.DF,hX.Bi⟩;rcases hb with hb|⟨k,hk,rfl⟩
   ·exact hX.lf b hb
   ·obtain⟨own,fz,T,cs',e⟩:=yW hd k hk;have hlt:β' k<w'.heap.size:=aC.rV hX e
    cases fz with
    | false=>
     refine⟨hlt,?_⟩;rcases hX.eE (k:=k) (by show (s'.lv k).live=true;rw [e];rfl) with h1|⟨j,hj,_⟩
     ·exact .inr h1
     ·cases hj
    | true=>
     have hb:=hX.bH k;unfold Vw.bH at hb;simp only [e] at hb;obtain⟨arr,b1,b2,b3,b4,b5⟩:=hb;simp only [if_true] at b4;exact hX.lf _ b4
  ·rw [hlv];exact cz.fP (s:=⟨fun _=>.junk,s'.lv⟩) hX hFz hd (fun k hk=>.inr ⟨k,hk,rfl⟩) hav
 cases e' with
 | normal=>cases he;exact fin hq
 | ret=>cases he;exact fin hq
 | exit id=>exact hq.elim
 | goto l=>exact hq.elim
 | panic d=>exact hq.elim
theorem aa.ed(hf:P.funcs[f]?=some fn) (hb:fn.body=some code)
 (h:∀ z:Ev,AW ⟨P,G,z.w,z.F,z.W,fn.ntmps,fun _=>.hole,z.b⟩ none code ⟨fun t=>args.getD t .undef,fun _=>.hole⟩ 0 (nZ ⟨P,G,z.w,z.F,z.W,fn.ntmps,fun _=>.hole,z.b⟩ fn x)) (hl:Nat.ble args.length fn.ntmps=true:=by kernel_rfl):aa P G f args x:=
 aa.NO hf hb (Nat.le_of_ble_eq_true hl) fun⟨_,_,w,F,W,_,q,b⟩ h1 h2 h3 h4=>by cases h1;cases h2;cases h3;cases h4;exact h ⟨w,F,W,fun _=>.hole,b⟩
theorem qY {lv:Key→LB}{n:Nat}:∀ (l:List DV),fS (dx lv n) (l.map CV.d)=some (l,[])
 | []=>rfl
 | x::l=>by
  have ih:=qY (lv:=lv) (n:=n) l;simp only [List.map_cons,fS] at ih ⊢;rw [ih]
  cases n <;> rfl
theorem vB {α:Type}{sz:Nat}:∀ (es:List (List α)),(∀ e∈es,e.length=sz)→chunk sz es.length es.flatten=es
 | [],_=>rfl
 | e::es,h=>by
  have he:e.length=sz:=h e (by simp);have ih:=vB es fun x hx=>h x (by simp [hx])
  have hlen:es.flatten.length=es.length*sz:=by
   rw [List.length_flatten]
   have:∀ l:List (List α),(∀ e∈l,e.length=sz)→(l.map List.length).sum=l.length*sz:=by
    intro l
    induction l with
    | nil=>intro _;simp
    | cons a l ih=>intro h;simp [ih fun x hx=>h x (by simp [hx]),h a (by simp),Nat.succ_mul];omega
   exact this es fun x hx=>h x (by simp [hx])
  unfold chunk at ih ⊢;rw [List.length_cons,List.range_succ_eq_map,List.map_cons,List.map_map];congr 1
  ·simp [List.take_left' he]
  ·conv=>rhs;rw [← ih]
   apply List.map_congr_left;intro i _;simp only [Function.comp,List.flatten_cons];have:(i+1)*sz=e.length+i*sz:=by rw [he,Nat.succ_mul];omega
   rw [Nat.succ_eq_add_one,this,List.drop_append,List.drop_eq_nil_of_le (by omega),Nat.add_sub_cancel_left,List.nil_append]
theorem nZ.tmp(hr:fn.results=#[.tmp t]) (hx:s.fr t=X) (hd:fP s.lv X=some (x,ks)):nZ c fn x .ret s κ:=
 ⟨X,ks,by rw [hr];simp [dF,kn,mZ,hx],hd⟩
theorem nZ.cell(hr:fn.results=#[.cell t T]) (ht:s.fr t=.c (.ptr k off)) (hk:s.lv k=.cells own fz U cs)
 (hx:eK c.P T (cs.drop off)=some X) (hd:fP s.lv X=some (x,ks)):nZ c fn x .ret s κ:=
 ⟨X,ks,by rw [hr];simp [dF,kn,mZ,ht,hk,hx],hd⟩
theorem nZ.lz{y:AV}{u:Nat}(hr:fn.results=#[.cell t T,.tmp u]) (ht:s.fr t=.c (.ptr k off)) (hk:s.lv k=.cells own fz U cs)
 (hx:eK c.P T (cs.drop off)=some X) (hy:s.fr u=y) (hn:X.cq=true) (hm:y.cq=true) (hd:fP s.lv (.tup [X,y])=some (x,ks)):nZ c fn x .ret s κ:=
 ⟨.tup [X,y],ks,by rw [hr];simp [dF,kn,mZ,ht,hk,hx,hy,hn,hm],hd⟩
theorem Mh{k:Key}(h:lv k=.cells own fz T (es.flatten.map CV.d)) (hs:∀ e∈es,e.length=sz) (hl:es.length≤9223372036854775807) :
 fP lv (.c (.aV k 0 es.length sz))=some (.c (.d (.sl es)),[k]):=by
 have hlen:es.flatten.length=es.length*sz:=by
  rw [List.length_flatten]
  have:∀ l:List (List DV),(∀ e∈l,e.length=sz)→(l.map List.length).sum=l.length*sz:=by
   intro l
   induction l with
   | nil=>intro _;simp
   | cons a l ih=>intro h;simp [ih fun x hx=>h x (by simp [hx]),h a (by simp),Nat.succ_mul];omega
  exact this es hs
 have ht:(es.flatten.map CV.d).take (es.length*sz)=es.flatten.map CV.d:=List.take_of_length_le (by rw [List.length_map,hlen];exact Nat.le_refl _);simp only [fP,fI,dx,h,List.length_map,hlen,Nat.zero_add,Nat.le_refl,hl,and_self,if_true,List.drop_zero,ht,qY,Option.map_some,vB es hs]
theorem LP(h:∀ e∈es,e.length=sz):gV lv sz (.c (.d (.sl es)))=some (es.length,es.flatten.map CV.d):=by
 have h1:es.all (fun e=>e.length == sz)=true:=by rw [List.all_eq_true];intro e he;simp [h e he]
 simp [gV,h1]
end Go.Am
namespace Go.Am
open Go.Am.Ty Go.Proofs N
variable {T:TypeId}{i n:Nat}{P:Program}{op:Int}
structure Nd where
 op:Int
 a:Int
 b:Int
 c:Int
 d:Int
 f:Int
 v:List UInt8
 deriving DecidableEq,Inhabited
structure In where
 f:Int
 lo:List UInt8
 hi:List UInt8
 deriving DecidableEq,Inhabited
@[simp] def Nd.e (n:Nd):List DV:=[.int .i64 n.op,.int .i64 n.a,.int .i64 n.b,.int .i64 n.c,.int .i64 n.d,.int .i64 n.f,.str n.v]
@[simp] def In.e (n:In):List DV:=[.int .i64 n.f,.str n.lo,.str n.hi]
@[simp] def PZ (n:Int × Int):List DV:=[.int .i64 n.1,.int .i64 n.2]
abbrev Nd.A (n:Nd):AV:=.agg [.d (.int .i64 n.op),.d (.int .i64 n.a),.d (.int .i64 n.b),.d (.int .i64 n.c),.d (.int .i64 n.d),.d (.int .i64 n.f),.d (.str n.v)]
def Rh:List DV→Nd
 | [.int _ o,.int _ a,.int _ b,.int _ c,.int _ d,.int _ f,.str v]=>⟨o,a,b,c,d,f,v⟩
 | _=>default
def Qu:List DV→In
 | [.int _ f,.str a,.str b]=>⟨f,a,b⟩
 | _=>default
def Oy:List DV→Int × Int
 | [.int _ a,.int _ b]=>(a,b)
 | _=>(0,0)
theorem Ot {e:List DV}(h:S4 e):e=(Rh e).e:=by obtain⟨a1,a2,a3,a4,a5,a6,s,rfl⟩:=h;rfl
theorem NU {e:List DV}(h:TP e):e=(Qu e).e:=by obtain⟨a,s,t,rfl⟩:=h;rfl
theorem Kb {e:List DV}(h:R3 e):e=PZ (Oy e):=by obtain⟨a,b,rfl⟩:=h;rfl
def PD.nf (p:PD):Nat:=(sO p.f).length
def PD.ni (p:PD):Nat:=(sO p.ins).length
def PD.nn (p:PD):Nat:=(sO p.nodes).length
def PD.ns (p:PD):Nat:=(sO p.states).length
def PD.fm (p:PD)(i:Nat):Int × Int:=Oy ((sO p.f).getD i [])
def PD.GY (p:PD)(i:Nat):In:=Qu ((sO p.ins).getD i [])
def PD.nd (p:PD)(i:Nat):Nd:=Rh ((sO p.nodes).getD i [])
def PD.st (p:PD)(i:Nat):Int × Int:=Oy ((sO p.states).getD i [])
section
variable {p:PD}(hp:p.ok) (lv:Key→LB) (k:Int) (h0:0≤k)
theorem R4{lv:Key→LB}{o:Option (List (List DV))}{k:Int}{sz:Nat}{e:List DV}(h:(eI P T).map (·.2)=some sz) (h0:0≤k) (hi:k<(sO o).length) (he:(sO o).getD k.toNat []=e) (hs:e.length=sz) :
 ak P T lv (D8 o) (.c (.d (.int .i64 k)))=some (.c (.d (.ptr e)),[],[],True):=by
 obtain⟨i,rfl⟩:∃ i:Nat,k=i:=⟨k.toNat,by omega⟩
 have hi':i<(sO o).length:=by omega
 have e1:(sO o)[i]=e:=by rw [← he,Int.toNat_natCast,List.getD_eq_getElem?_getD,List.getElem?_eq_getElem hi'];rfl
 rw [wN h hi' (by rw [e1];exact hs),e1]
theorem gD {l:List (List DV)}{q:List DV→Prop}(h:∀ e∈l,q e)(hi:i<l.length):q (l.getD i []):=by
 rw [List.getD_eq_getElem?_getD,List.getElem?_eq_getElem hi];exact h _ (List.getElem_mem hi)
include hp h0
theorem R5 (hi:k<p.nf):ak Tryz.prog 22 lv (.c (hO p.f)) (.c (.d (.int .i64 k)))=some (.c (.d (.ptr (PZ (p.fm k.toNat)))),[],[],True):=
 R4 (by simp) h0 hi (Kb (gD hp.f (by unfold PD.nf at hi;omega))) rfl
theorem RA (hi:k<p.ni):ak Tryz.prog 23 lv (.c (hO p.ins)) (.c (.d (.int .i64 k)))=some (.c (.d (.ptr (p.GY k.toNat).e)),[],[],True):=
 R4 (by simp) h0 hi (NU (gD hp.ins (by unfold PD.ni at hi;omega))) rfl
theorem PW (hi:k<p.nn):ak Tryz.prog 24 lv (.c (hO p.nodes)) (.c (.d (.int .i64 k)))=some (.c (.d (.ptr (p.nd k.toNat).e)),[],[],True):=
 R4 (by simp) h0 hi (Ot (gD hp.nodes (by unfold PD.nn at hi;omega))) rfl
theorem TD (hi:k<p.ns):ak Tryz.prog 25 lv (.c (hO p.states)) (.c (.d (.int .i64 k)))=some (.c (.d (.ptr (PZ (p.st k.toNat)))),[],[],True):=
 R4 (by simp) h0 hi (Kb (gD hp.states (by unfold PD.ns at hi;omega))) rfl
end
theorem tC (p:PD)(lv:Key→LB):fc Tryz.prog 22 lv (.c (hO p.f))=some (.c (.d (.int .i64 p.nf)),[],[],True):=dJ (by simp)
theorem wZ (p:PD)(lv:Key→LB):fc Tryz.prog 23 lv (.c (hO p.ins))=some (.c (.d (.int .i64 p.ni)),[],[],True):=dJ (by simp)
theorem gW (p:PD)(lv:Key→LB):fc Tryz.prog 24 lv (.c (hO p.nodes))=some (.c (.d (.int .i64 p.nn)),[],[],True):=dJ (by simp)
theorem uq (p:PD)(lv:Key→LB):fc Tryz.prog 25 lv (.c (hO p.states))=some (.c (.d (.int .i64 p.ns)),[],[],True):=dJ (by simp)
def j9 (op:Int):Nat:=if op≤3 then 0 else if op≤7 then 1 else if op≤13 then 2 else if op=14 then 3 else 4
def iG (op:Int):Nat:=if op=1∨op=2 then 1 else j9 op
def BO:List DV:=[.int .i64 0,.int .i64 0,.int .i64 0,.int .i64 1,.int .i64 0,.int .i64 1,.int .i64 0,.int .i64 0,.int .i64 1,.int .i64 1,.int .i64 1,.int .i64 1,.int .i64 1,.int .i64 1,.int .i64 1,.int .i64 1,.int .i64 2,.int .i64 2,.int .i64 2,.int .i64 2,.int .i64 2,.int .i64 2,.int .i64 2,.int .i64 2,.int .i64 2,.int .i64 2,.int .i64 2,.int .i64 2,.int .i64 3,.int .i64 3,.int .i64 4,.int .i64 4]
theorem Tj (m:Int):(GG m)[1]?=some BO:=rfl
theorem SQ(h1:1≤op) (h2:op≤15):op=1∨op=2∨op=3∨op=4∨op=5∨op=6∨op=7∨op=8∨op=9∨op=10∨op=11∨op=12∨op=13∨op=14∨op=15:=by omega
theorem U1(h1:1≤op) (h2:op≤15):∃ rest,∀ lv:Key→LB,ak Tryz.prog 169 lv (.c (.d (.ptr BO))) (.c (.d (.int .i64 op)))=some (.c (.d (.ptr (.int .i64 (j9 op)::.int .i64 (iG op)::rest))),[],[],True):=by
 have ha:rZ Tryz.prog 169=some (16,168,2):=by kernel_rfl
 have key:∀ (op:Int) (rest:List DV),0≤op→op<16→BO.drop (op.toNat*2)=.int .i64 (j9 op)::.int .i64 (iG op)::rest→op.toNat*2≤BO.length→∃ rest,∀ lv:Key→LB,ak Tryz.prog 169 lv (.c (.d (.ptr BO))) (.c (.d (.int .i64 op)))=some (.c (.d (.ptr (.int .i64 (j9 op)::.int .i64 (iG op)::rest))),[],[],True):=by
  intro op rest g1 g2 g3 g4;refine⟨rest,fun lv=>?_⟩;unfold ak;rw [ha];show some (AV.c (.d (.ptr (BO.drop (op.toNat*2)))),([]:List (Key × LB)),([]:List Key),(0≤op∧op<((16:Nat):Int)∧op.toNat*2≤BO.length))=_;rw [g3,eq_true (show 0≤op∧op<((16:Nat):Int)∧op.toNat*2≤BO.length from ⟨g1,by omega,g4⟩)]
 rcases SQ h1 h2 with rfl|rfl|rfl|rfl|rfl|rfl|rfl|rfl|rfl|rfl|rfl|rfl|rfl|rfl|rfl <;> exact key _ _ (by decide) (by decide) rfl (by decide)
def Nd.l4 (n:Nd):List Int:=[n.a,n.b,n.c,n.d]
def aZ (n:Nd):List Int:=if 1≤n.op∧n.op≤15 then n.l4.take (j9 n.op) else []
def iH (n:Nd):Option (List Int):=if 1≤n.op∧n.op≤15 then some (n.l4.take (j9 n.op)) else none
def lI (n:Nd):Bool:=(n.l4.drop (iG n.op)).all (fun x=>decide (x=0)) && (decide (n.v=[]) || decide (n.op=3))
def zD (l:List Int):List (List DV):=l.map fun x=>[DV.int .i64 x]
def zC:Option (List Int)→CV
 | none=>.d .nilsl
 | some l=>.d (.sl (zD l))
def zL (o:Option (List Int)):List Int:=o.getD []
theorem E5 (o:Option (List Int)):zC o=hO (o.map zD):=by cases o <;> rfl
@[simp] theorem Aj (o:Option (List Int)):(AV.c (zC o)).pure=true:=by cases o <;> rfl
@[simp] theorem vK (o:Option (List Int)):(AV.c (zC o)).bV=true:=by cases o <;> rfl
@[simp] theorem J6 (o:Option (List Int))(g:Key→Key):(zC o).b6 g=zC o:=by cases o <;> rfl
@[simp] theorem So (o:Option (List (List DV)))(g:Key→Key):(hO o).b6 g=hO o:=by cases o <;> rfl
@[simp] theorem Tq (o:Option (List Nat))(g:Key→Key):(nC o).b6 g=nC o:=by cases o <;> rfl
def zK (l:List Int):List CV:=l.map fun x=>CV.d (.int .i64 x)
@[simp] theorem Ir (l:List Int):(zK l).length=l.length:=by simp [zK]
theorem zY(ha:cV P T=some false) {l:List Int}(h:i<l.length):eK P T ((zK l).drop i)=some (.c (.d (.int .i64 l[i]))):=by
 have:(zK l).drop i=CV.d (.int .i64 l[i])::(zK l).drop (i+1):=by
  rw [List.drop_eq_getElem_cons (by simpa using h)];simp [zK]
 rw [this];simp [ha]
theorem zv (l:List Int):zK l=(l.map fun x=>DV.int .i64 x).map CV.d:=by simp [zK]
theorem KQ {lv:Key→LB}(l:List Int):fS (dx lv n) (zK l)=some (l.map fun x=>DV.int .i64 x,[]):=by rw [zv];exact qY _
theorem P9(h:(eI Tryz.prog T).isSome=true) (lv:Key→LB) (o:Option (List Int)):fc Tryz.prog T lv (.c (zC o))=some (.c (.d (.int .i64 (zL o).length)),[],[],True):=by
 rw [E5];rw [dJ h]
 cases o <;> simp [sO,zL,zD]
theorem Sq(h:(eI Tryz.prog T).map (·.2)=some 1) (lv:Key→LB) (o:Option (List Int))(hi:i<(zL o).length):ak Tryz.prog T lv (.c (zC o)) (.c (.d (.int .i64 (i:Int))))=some (.c (.d (.ptr [.int .i64 (zL o)[i]])),[],[],True):=by
 cases o with
 | none=>cases hi
 | some l=>
  rw [E5];have hi0:i<l.length:=hi;have hi':i<(sO (Option.map zD (some l))).length:=by show i<(zD l).length;unfold zD;rw [List.length_map];exact hi0
  have e:(sO (Option.map zD (some l)))[i]=[.int .i64 (zL (some l))[i]]:=by simp [sO,zD,zL]
  rw [wN h hi' (by rw [e];rfl),e];rfl
def tq (p:PD)(x:In):Int:=
 if ¬ (0≤x.f∧x.f<p.nf) then 7
 else if er x.lo≠0 then er x.lo
 else if er x.hi≠0 then er x.hi
 else if hasB (p.fm x.f.toNat).1 (p.fm x.f.toNat).2 (eX x.lo)=false then 7
 else if hasB (p.fm x.f.toNat).1 (p.fm x.f.toNat).2 (eX x.hi)=false then 7
 else if 0<gU (eX x.lo) (eX x.hi) then 7 else 0
def jz (p:PD)(i:Int)(n:Nd):Int:=
 if ¬ (1≤n.op∧n.op≤15) then 2
 else if lI n=false then 2
 else if ¬ (0≤n.f∧n.f<p.nf) then 7
 else if n.op=1∧¬ (0≤n.a∧n.a<p.ni) then 7
 else if n.op=1∧(p.GY n.a.toNat).f≠n.f then 143
 else if n.op=2∧(i<p.head∨¬ (0≤n.a∧n.a<p.ns)) then 7
 else if n.op=3 then er n.v
 else if (aZ n).all (dw p i) then 0 else 7
def hJ (i f:Int)(n:Nd):Bool:=decide (n.op=2) && decide (n.a=i) && !decide (n.f=f)
def uj (p:PD)(i:Int)(s:Int × Int):Int:=
 if ¬ (0≤s.1∧s.1<p.head) then 7
 else if ¬ (0≤s.2∧s.2<p.tail) then 7
 else if (p.nd s.2.toNat).f≠(p.nd s.1.toNat).f then 143
 else if (List.range p.nn).any (fun j=>hJ i (p.nd s.1.toNat).f (p.nd j)) then 143 else 0
def iV (e:Nat→Int)(n:Nat):Option Nat:=(List.range n).find? fun i=>decide (e i≠0)
theorem tr {e:Nat→Int}(h:∀ j,j<n→e j=0):iV e n=none:=by
 unfold iV;rw [List.find?_eq_none];intro x hx;simp [h x (List.mem_range.1 hx)]
theorem tU {e:Nat→Int}(hi:i<n) (h:e i≠0) (h0:∀ j,j<i→e j=0):iV e n=some i:=by
 unfold iV;rw [List.find?_range_eq_some];exact⟨by simpa using h,List.mem_range.2 hi,fun j hj=>by simp [h0 j hj]⟩
def iE (p:PD):Nat→Nat
 | 0=>p.nf
 | 1=>p.ni
 | 2=>p.nn
 | _=>p.ns
def cg (p:PD):Nat→Nat→Int
 | 0,i=>ff (p.fm i).1 (p.fm i).2
 | 1,i=>tq p (p.GY i)
 | 2,i=>jz p i (p.nd i)
 | _,i=>uj p i (p.st i)
def c8 (p:PD):Nat→Nat→Int × Int × Int
 | 0,_=>if 0≤p.res∧p.res<p.nn∧kj p p.res≠1 then (0,0,0) else (5,0,7)
 | n+1,k=>match iV (cg p k) (iE p k) with
  | some i=>(k+1,i,cg p k i)
  | none=>c8 p n (k+1)
def fJ (p:PD):Int × Int × Int:=if dR p≠0 then (0,0,dR p) else c8 p 4 0
end Go.Am
namespace Go.Am
open Go.Am.Ty Go.Proofs N
variable {lv:Key→LB}{k:Key}{p:PD}{T:TypeId}{l:List Int}{a:AV}{own fz:Bool}
theorem EA (G:List (List DV))(o:Option (List (List DV)))(h:∀ e∈sO o,e.length=1)(hl:(sO o).length≤1000000):aa Tryz.prog G 97 [.c (hO o)] (.c (hO o)):=by
 have e1:aM Tryz.prog .eql 30 (.c (.d .nilsl)) (.c (.d .nilsl))=some (.c (.d (.bool true)),[],[],True):=by kernel_rfl
 have e2:∀ es,aM Tryz.prog .eql 30 (.c (.d (.sl es))) (.c (.d .nilsl))=some (.c (.d (.bool false)),[],[],True):=fun es=>by kernel_rfl
 cases o with
 | none=>
  show aa Tryz.prog G 97 [.c (.d .nilsl)] (.c (.d .nilsl));refine aa.ed Tryz.func97 rfl fun _=>aab ?_;refine aaa fun K hK=>aan e1 ?_;refine aaj (aab ?_);exact aal (κ:=0) (nZ.tmp (κ:=0) (X:=.c (.d .nilsl)) (ks:=[]) rfl (by simp) rfl)
 | some es=>
  have h:∀ e∈es,e.length=1:=h;have hl:es.length≤1000000:=hl;show aa Tryz.prog G 97 [.c (.d (.sl es))] (.c (.d (.sl es)));have hsrc:∀ lv,gV lv 1 (.c (.d (.sl es)))=some (es.length,es.flatten.map CV.d):=fun lv=>LP h
  refine aa.ed Tryz.func97 rfl fun _=>aab ?_;refine aaa fun K hK=>aan e2 ?_;refine aak (aac (hK _ _ (aai fun K hK=>?_)));simp [hsrc,kA,js,keyOf]
  repeat refine ah ?_
  apply hK;refine aal (κ:=0) (nZ.tmp (κ:=0) (X:=.c (.aV 1 0 es.length 1)) (ks:=[1]) rfl (by simp) ?_);exact Mh (own:=true) (fz:=false) (T:=3) (by simp) h (by omega)
theorem HZ (T:TypeId)(s t:List UInt8):aM Tryz.prog .eql T (.c (.d (.str s))) (.c (.d (.str t)))=some (.c (.d (.bool (decide (s=t)))),[],[],True):=by
 rw [← L9];rfl
theorem SW (a b c d:CV):gJ Tryz.prog 85 [0,1,2,3] [.c a,.c b,.c c,.c d]=some (.agg [a,b,c,d],[],[],True):=by kernel_rfl
theorem Ho:rZ Tryz.prog 85=some (4,3,1):=by kernel_rfl
theorem ag.Tc {c:Ctx}{f:FuncId}{K:AV→List (Key × LB)→List Key→Nat→Prop}(κ' kh κb:Key){x:AV}(n:Nat) (hn:n≤l.length) (hl:l.length≤100) (hk:lv κb=.cells true false T (zK l))
 (hc:aa c.P c.G f [.c (zC (some (l.take n)))] x) (hx:x.pure=true) (hh:lv kh=.hole) (hkh:kh≠κb) (hK:K x [(κb,.cells true true T (zK l))] [kh] κ'):ag c f [.c (.aV κb 0 n 1)] lv K:=by
 refine ag.TM κ' kh κb T (zK l) [kh] hc hx hk hh hkh rfl (fun i p q=>?_) (fun a ha j hj=>?_) (by simp) hK
 ·have hi:i=0:=by simp at p;omega
  subst hi;right;have h1:(zK l).take n=zK (l.take n):=by simp [zK,List.map_take]
  have hln:(l.take n).length=n:=by rw [List.length_take];omega
  simp only [List.getElem_cons_zero,fI,dx,aA,Ir,Nat.mul_one,Nat.zero_add,List.drop_zero,h1,KQ,Option.map_some];rw [if_pos ⟨hn,by omega⟩];have h2:=lO ((l.take n).map fun (x:Int)=>DV.int .i64 x);rw [List.length_map,hln] at h2;simp only [Option.map_some,h2];simp [zC,zD];rfl
 ·simp only [List.mem_singleton] at ha;subst ha;simp only [om,ld,List.mem_cons,aA] at hj;rcases hj with rfl|hj
  ·exact .inr rfl
  ·simp only [List.mem_flatMap] at hj;obtain⟨y,hy,hj⟩:=hj;simp only [zK,List.mem_map] at hy;obtain⟨z,_,rfl⟩:=hy
   cases hj
theorem GD (G:List (List DV))(o:Option (List Int))(hl:(zL o).length≤1000000):aa Tryz.prog G 97 [.c (zC o)] (.c (zC o)):=by
 rw [E5];refine EA G _ ?_ ?_
 ·cases o with
  | none=>intro e he;cases he
  | some l=>intro e he;simp only [sO,Option.map_some,Option.getD_some,zD,List.mem_map] at he;obtain⟨x,_,rfl⟩:=he;rfl
 ·cases o with
  | none=>simp [sO]
  | some l=>simpa [sO,zD,zL] using hl
theorem rz (op:Int):j9 op≤4:=by unfold j9;(repeat' split) <;> omega
theorem BJ (op:Int):iG op≤4:=by have:=rz op;unfold iG;split <;> omega
theorem Nd.jX (n:Nd):n.l4.length=4:=rfl
theorem oG (n:Nd):zL (iH n)=aZ n:=by unfold iH aZ;split <;> rfl
theorem FQ (m:Int)(n:Nd):aa Tryz.prog (GG m) 35 [n.A] (.c (zC (iH n))):=by
 have hkn:=Cj (GG m) n.op
 by_cases hk:1≤n.op∧n.op≤15
 ·obtain⟨rest,hix⟩:=U1 hk.1 hk.2;have hcl:=GD (GG m) (some (n.l4.take (j9 n.op))) (by simp only [zL,Option.getD_some,List.length_take,Nd.jX];omega);have hko:iH n=some (n.l4.take (j9 n.op)):=by unfold iH;rw [if_pos hk]
  have hle:=rz n.op;rw [hko];have hd:decide (1≤n.op∧n.op≤15)=true:=decide_eq_true hk;rw [hd] at hkn;generalize j9 n.op=kk at *
  refine aa.en Tryz.func35 rfl fun _=>aab ?_;refine aaa fun K hK=>aas 1 hkn ?_;refine aak (aac (hK _ _ (aaq @SW @aj.eq_1 ?_)));refine aaa fun K hK=>?_;refine AW.ux ?_;refine mR.run 5 rfl ?_;simp [Tj,hix];refine mR.gA (x:=.c (.aV 1 0 kk 1)) (us:=[]) (rds:=[1]) 2 rfl rfl ?_ ?_
  ·simp [Am.gA,Op.operands,uf,pQ,Ho];omega
  refine mR.run 2 rfl ?_;simp [];refine ag.Tc (l:=n.l4) (T:=85) 2 9 1 kk hle (by simp [Nd.jX]) rfl hcl (by simp) (by simp) (by decide) ?_;simp;refine mR.done ?_;apply hK;clear hK K;exact aae (aq.rt rfl 2 (by simp))
 ·have hko:iH n=none:=by unfold iH;rw [if_neg hk]
  have hd:decide (1≤n.op∧n.op≤15)=false:=decide_eq_false hk;rw [hd] at hkn;rw [hko];refine aa.en Tryz.func35 rfl fun _=>aab ?_;refine aaa fun K hK=>aas 1 hkn ?_;refine aaj (aab ?_);exact aae (aq.rt rfl 2 (by simp [zC]))
theorem Mv (m:Int)(n:Nd)(h1:1≤n.op)(h2:n.op≤15):aa Tryz.prog (GG m) 162 [n.A] (.c (.d (.bool (lI n)))):=by
 obtain⟨rest,hix⟩:=U1 h1 h2;have hle:=BJ n.op;have hib:lI n=((n.l4.drop (iG n.op)).all (fun x=>decide (x=0)) && (decide (n.v=[]) || decide (n.op=3))):=rfl;have hzk:[CV.d (.int .i64 n.a),.d (.int .i64 n.b),.d (.int .i64 n.c),.d (.int .i64 n.d)]=zK n.l4:=rfl;have fin:(n.l4.drop (iG n.op)).all (fun x=>decide (x=0))=true→lI n=(decide (n.v=[]) || decide (n.op=3)):=by intro h;rw [hib,h];rfl
 have lp0:∀ lv,fc Tryz.prog 30 lv (.c (.d (.sl [])))=some (.c (.d (.int .i64 0)),[],[],True):=fun lv=>P9 (T:=30) (by simp) lv (some [])
 refine aa.en Tryz.func162 rfl fun _=>aab ?_;refine aaq @SW @aj.eq_1 ?_;refine aaa fun K hK=>?_
 have tail:∀ (fr:Nat→AV) (κ:Nat) (lv:Key→LB),fr 1=.c (.ptr 0 0)→lv 0=.cells true false 55 [.d (.int .i64 n.op),.d (.int .i64 n.a),.d (.int .i64 n.b),.d (.int .i64 n.c),.d (.int .i64 n.d),.d (.int .i64 n.f),.d (.str n.v)]→lv 9=.hole →
  (n.l4.drop (iG n.op)).all (fun x=>decide (x=0))=true→K ⟨fr,lv⟩ κ:=by
  intro fr κ lv z1 hl0 h9 hall;have hf:=fin hall;apply hK
  by_cases hv:n.v=[]
  ·refine aaE z1 hl0 @HZ hv ?_;exact aal (κ:=0) (aq.tmp (κ:=0) rfl 9 (by simp [hf,hv]) rfl (by simp [h9]) rfl)
  ·refine aaE z1 hl0 @HZ hv ?_;exact aal (κ:=0) (aq.tmp (κ:=0) rfl 9 (by simp [hf,hv]) rfl (by simp [h9]) rfl)
 refine aaa fun K1 hK1=>?_
 by_cases hu:iG n.op=4
 ·refine AW.ux ?_;refine mR.run 5 rfl ?_;simp [Tj,hix];refine mR.DE (κ:=1) (off:=0) (n:=4) (e:=3) (sz:=1) (l:=4) (own:=true) (fz:=false) (T':=85) 2 rfl rfl rfl (by simp) (by simp;rfl) Ho (by simp [hu]) (by simp) (by decide) (by decide) ?_;refine mR.run 2 rfl ?_;simp [lp0];refine mR.done ?_;apply hK1;clear hK1 K1;refine aaf ?_
  refine aao (fun (_:Unit)=>⟨bh [(1,.c (.ptr 0 0)),(20,.c (.d (.sl []))),(21,.c (.d (.int .i64 0))),(22,.c (.d (.int .i64 0)))],
   aG (aG (fun _=>.hole) 0 (.cells true false 55 [.d (.int .i64 n.op),.d (.int .i64 n.a),.d (.int .i64 n.b),.d (.int .i64 n.c),.d (.int .i64 n.d),.d (.int .i64 n.f),.d (.str n.v)])) 1 (.cells true false 85 (zK n.l4))⟩) 2
   (fun _=>True) (fun _=>0) () (Le.mk' _ rfl (by repeat (first|exact az|refine bf ?_ _ _ _ _ _|(refine aD ?_ _)|(refine noMap_blS ?_ _ _ _)|(refine noMap_upd_nils ?_ _)|simp)) (by simp)) trivial ?_
  rintro⟨⟩ _;refine aab ?_;refine aaa fun K3 hK3=>aak (aam ?_)
  simp;exact tail _ _ _ (by simp) (by simp) (by simp) (by rw [hu];rfl)
 have hu4:iG n.op<4:=by omega
 have hdrop:∀ i,i<4 - iG n.op→iG n.op+i<n.l4.length:=by intro i hi;rw [Nd.jX];omega
 generalize hue:iG n.op=u at *
 refine AW.ux ?_;refine mR.run 5 rfl ?_;simp [Tj,hix];refine mR.gA (x:=.c (.aV 1 u (4 - u) 1)) (us:=[]) (rds:=[1]) 2 rfl rfl ?_ ?_
 ·simp [Am.gA,Op.operands,uf,pQ,Ho];omega
 have e4:((4 - u:Nat):Int)≤9223372036854775807:=by omega
 refine mR.run 2 rfl ?_;simp [e4];refine mR.done ?_;apply hK1;clear hK1 K1;refine aaf ?_
 refine aao (fun (i:Nat)=>⟨bh [(1,.c (.ptr 0 0)),(20,.c (.aV 1 u (4 - u) 1)),(21,.c (.d (.int .i64 (4 - u:Nat)))),(22,.c (.d (.int .i64 i)))],
  aG (aG (fun _=>.hole) 0 (.cells true false 55 [.d (.int .i64 n.op),.d (.int .i64 n.a),.d (.int .i64 n.b),.d (.int .i64 n.c),.d (.int .i64 n.d),.d (.int .i64 n.f),.d (.str n.v)])) 1 (.cells true false 85 (zK n.l4))⟩) 2
  (fun i=>i≤4 - u∧∀ j (hj:j<i) (h:u+j<n.l4.length),n.l4[u+j]=0) (fun i=>4 - u - i) 0 (Le.mk' _ rfl (by repeat (first|exact az|refine bf ?_ _ _ _ _ _|(refine aD ?_ _)|(refine noMap_blS ?_ _ _ _)|(refine noMap_upd_nils ?_ _)|simp)) (by simp)) ⟨by omega,fun j hj=>absurd hj (Nat.not_lt_zero j)⟩ ?_
 rintro i ⟨hi,hall⟩
 try simp only at hi hall
 refine aab ?_;refine aaa fun K2 hK2=>?_
 by_cases hlt:i<4 - u
 ·have hlt':(i:Int)<((4 - u:Nat):Int):=by omega
  refine aah (by simp [hlt'] <;> omega) (aac (hK2 _ _ (aaa fun K3 hK3=>aaf (aaa fun K4 hK4=>?_))));have hx:=zY (P:=Tryz.prog) (T:=3) (by simp) (hdrop i hlt);refine aau hlt' hx (hK4 _ _ ?_);refine aab ?_
  by_cases h0:n.l4[u+i]'(hdrop i hlt)=0
  ·refine aag (by simp [h0] <;> omega) (aac (hK3 _ _ ?_));have f12:=bM (n:=(i:Int)+1) (by omega) (by omega);refine aad ?_;simp [f12];refine⟨i+1,Le.mk' _ (by simp) (by repeat (first|exact az|refine bf ?_ _ _ _ _ _|(refine aD ?_ _)|(refine noMap_blS ?_ _ _ _)|(refine noMap_upd_nils ?_ _)|simp)) (by simp),⟨by omega,fun j hj h=>?_⟩,by omega⟩
   by_cases hji:j=i
   ·subst hji;exact h0
   ·exact hall j (by omega) h
  ·refine aah (by simp [h0] <;> omega) (aab ?_)
   have hb:lI n=false:=by
    rw [hib]
    have:(n.l4.drop u).all (fun x=>decide (x=0))=false:=by
     rw [List.all_eq_false];refine⟨n.l4[u+i]'(hdrop i hlt),?_,by simpa using h0⟩;rw [List.mem_iff_getElem];exact⟨i,by rw [List.length_drop,Nd.jX];omega,by simp⟩
    rw [this];rfl
   exact aae (aq.rt rfl 2 (by simp [hb]))
 ·have hlt':¬ (i:Int)<((4 - u:Nat):Int):=by omega
  refine aag (by simp [hlt'] <;> omega) (aam ?_);simp;refine tail _ _ _ (by simp) (by simp) (by simp) ?_;rw [List.all_eq_true];intro x hx;obtain⟨j,hj,rfl⟩:=List.mem_iff_getElem.1 hx;rw [List.length_drop,Nd.jX] at hj;have:=hall j (by omega) (by rw [Nd.jX];omega);simpa using this
theorem HI (G:List (List DV))(p:PD)(hp:p.ok)(i:Nat)(hi:i<p.nf):aa Tryz.prog G 83 [p.A,.c (.d (.int .i64 i))] (.c (.d (.int .i64 (cg p 0 i)))):=by
 have hx:=fun lv=>R5 hp lv (i:Int) (by omega) (by omega)
 have hc:=kf G (p.fm i).1 (p.fm i).2;simp only [Int.toNat_natCast] at hx;refine aa.en Tryz.func83 rfl fun _=>aab ?_;refine aav 1 hc hx ?_;exact aae (aq.rt rfl 4 (by simp [cg]))
theorem lH (n:Nd):(aZ n).length≤4:=by
 have:=rz n.op;unfold aZ;split
 ·rw [List.length_take,Nd.jX];omega
 ·exact Nat.zero_le _
theorem HU (p:PD)(lv:Key→LB)(hp:p.ok)(i:Nat)(hi:i<p.nn):ak Tryz.prog 24 lv (.c (hO p.nodes)) (.c (.d (.int .i64 (i:Int))))=some (.c (.d (.ptr (p.nd i).e)),[],[],True):=by
 have:=PW hp lv (i:Int) (by omega) (by omega)
 rwa [Int.toNat_natCast] at this
theorem MW (m:Int)(p:PD)(hp:p.ok)(i:Nat)(hi:i<p.nn)(hn2:p.nn≤1000):aa Tryz.prog (GG m) 85 [p.A,.c (.d (.int .i64 i))] (.c (.d (.int .i64 (cg p 2 i)))):=by
 have hx:=fun lv=>HU p lv hp i hi
 have hE:cg p 2 i=jz p i (p.nd i):=rfl;rw [hE];obtain⟨n,hn⟩:∃ n,p.nd i=n:=⟨_,rfl⟩
 simp only [hn] at hx ⊢;have hkn:=Cj (GG m) n.op;have hwf:=iS (GG m) n.f p.nf;have hwa:=iS (GG m) n.a p.ni;have hws:=iS (GG m) n.a p.ns;have lvN:List CV:=[.d (.int .i64 n.op),.d (.int .i64 n.a),.d (.int .i64 n.b),.d (.int .i64 n.c),.d (.int .i64 n.d),.d (.int .i64 n.f),.d (.str n.v)]
 refine aa.en Tryz.func85 rfl fun _=>aab ?_;refine aaq hx @aj.eq_1 ?_;refine aaa fun K hK=>aaf (aaa fun K1 hK1=>?_)
 by_cases h1:1≤n.op∧n.op≤15
 rotate_left
 ·have hd:decide (1≤n.op∧n.op≤15)=false:=decide_eq_false h1;have hr:jz p i n=2:=by unfold jz;rw [if_pos h1]
  rw [hd] at hkn;refine AW.m0 2 hkn (hK1 _ _ ?_);refine aaj (aab ?_);exact aae (aq.rt rfl 4 (by simp [hr]))
 have hid:=Mv m n h1.1 h1.2;have hd:decide (1≤n.op∧n.op≤15)=true:=decide_eq_true h1;rw [hd] at hkn
 cases hib:lI n with
 | false=>
  have hr:jz p i n=2:=by unfold jz;rw [if_neg (not_not_intro h1),if_pos hib]
  rw [hib] at hid;refine aad ?_;simp;refine ag.p 2 9 hkn ?_;simp;refine ag.p 2 9 hid ?_;simp;apply hK1;clear hK1 K1;refine aaj (aab ?_);exact aae (aq.rt rfl 4 (by simp [hr]))
 | true=>
 rw [hib] at hid;have ib:¬ lI n=false:=by rw [hib];decide
 refine aad ?_;simp;refine ag.p 2 9 hkn ?_;simp;refine ag.p 2 9 hid ?_;simp;apply hK1;clear hK1 K1;refine aak (aaa fun K1 hK1=>?_)
 by_cases h2:0≤n.f∧n.f<p.nf
 rotate_left
 ·have hd2:decide (0≤n.f∧n.f<(p.nf:Int))=false:=decide_eq_false h2;have hr:jz p i n=7:=by unfold jz;rw [if_neg (not_not_intro h1),if_neg ib,if_pos h2]
  rw [hd2] at hwf;refine aay 2 hwf @tC (hK1 _ _ ?_);refine aaj (aab ?_);exact aae (aq.rt rfl 4 (by simp [hr]))
 have hd2:decide (0≤n.f∧n.f<(p.nf:Int))=true:=decide_eq_true h2;rw [hd2] at hwf;refine aay 2 hwf @tC (hK1 _ _ ?_);refine aak ?_
 have r2:jz p i n=if n.op=1∧¬ (0≤n.a∧n.a<p.ni) then 7 else if n.op=1∧(p.GY n.a.toNat).f≠n.f then 143 else if n.op=2∧((i:Int)<p.head∨¬ (0≤n.a∧n.a<p.ns)) then 7 else if n.op=3 then er n.v else if (aZ n).all (dw p i) then 0 else 7:=by
  unfold jz;rw [if_neg (not_not_intro h1),if_neg ib,if_neg (not_not_intro h2)]
 have tail:∀ (fr:Nat→AV) (κ:Nat),fr 1=.c (.d (.int .i64 i))→fr 2=.c (.ptr 0 0)→fr 5=.c (.ptr 1 0)→(jz p i n=if (aZ n).all (dw p i) then 0 else 7) →
  K ⟨fr,aG (aG (fun _=>.hole) 0 (.cells true false 154 p.cs)) 1 (.cells true false 55 [.d (.int .i64 n.op),.d (.int .i64 n.a),.d (.int .i64 n.b),.d (.int .i64 n.c),.d (.int .i64 n.d),.d (.int .i64 n.f),.d (.str n.v)])⟩ κ:=by
  intro fr κ z1 z2 z5 hr;have hks:=FQ m n;have hkl:=lH n;have lpk:∀ lv,fc Tryz.prog 30 lv (.c (zC (iH n)))=some (.c (.d (.int .i64 (aZ n).length)),[],[],True):=fun lv=>by rw [P9 (by simp),oG]
  have ixk:∀ lv (j:Nat) (hj:j<(aZ n).length),ak Tryz.prog 30 lv (.c (zC (iH n))) (.c (.d (.int .i64 (j:Int))))=some (.c (.d (.ptr [.int .i64 (aZ n)[j]])),[],[],True):=fun lv j hj=>by
   rw [Sq (by simp) lv _ (by rw [oG];exact hj)];simp only [oG]
  generalize iH n=ko at *
  generalize aZ n=kl at *
  apply hK;refine aaa fun K3 hK3=>AW.c2 2 hks z5 lpk ?_;refine aaf ?_
  refine aao (fun (j:Nat)=>⟨bh [(1,.c (.d (.int .i64 i))),(2,.c (.ptr 0 0)),(93,.c (zC ko)),(94,.c (.d (.int .i64 kl.length))),(95,.c (.d (.int .i64 j)))],
   aG (aG (fun _=>.hole) 0 (.cells true false 154 p.cs)) 1 (.cells true false 55 [.d (.int .i64 n.op),.d (.int .i64 n.a),.d (.int .i64 n.b),.d (.int .i64 n.c),.d (.int .i64 n.d),.d (.int .i64 n.f),.d (.str n.v)])⟩) 2
   (fun j=>j≤kl.length∧∀ q (hq:q<j) (h:q<kl.length),dw p i kl[q]=true) (fun j=>kl.length - j) 0 (Le.mk' _ (by simp) (by repeat (first|exact az|refine bf ?_ _ _ _ _ _|(refine aD ?_ _)|(refine noMap_blS ?_ _ _ _)|(refine noMap_upd_nils ?_ _)|simp)) (by simp [z1,z2])) ⟨Nat.zero_le _,fun q hq=>absurd hq (Nat.not_lt_zero q)⟩ ?_
  rintro j ⟨hj,hall⟩
  try simp only at hj hall
  refine aab ?_;refine aaa fun K6 hK6=>?_
  by_cases hlt:j<kl.length
  ·have hlt':(j:Int)<(kl.length:Int):=by omega
   refine aah (by simp [hlt'] <;> omega) (aac (hK6 _ _ (aaa fun K7 hK7=>aaf (aaa fun K8 hK8=>?_))));have hxk:=fun lv=>ixk lv j hlt
   refine aat hxk (hK8 _ _ ?_);refine aaa fun K8 hK8=>?_;have hse:=MT (GG m) p i kl[j];refine AW.m0 2 hse (hK8 _ _ ?_)
   cases hs:dw p i kl[j] with
   | true=>
    refine aak (aac (hK7 _ _ ?_));have f12:=bM (n:=(j:Int)+1) (by omega) (by omega);refine aad ?_;simp [f12];refine⟨j+1,Le.mk' _ (by simp) (by repeat (first|exact az|refine bf ?_ _ _ _ _ _|(refine aD ?_ _)|(refine noMap_blS ?_ _ _ _)|(refine noMap_upd_nils ?_ _)|simp)) (by simp),⟨by omega,fun q hq h=>?_⟩,by omega⟩
    by_cases hji:q=j
    ·subst hji;exact hs
    ·exact hall q (by omega) h
   | false=>
    refine aaj (aab ?_)
    have hb:jz p i n=7:=by
     rw [hr,if_neg];rw [Bool.not_eq_true,List.all_eq_false];exact⟨kl[j],List.getElem_mem hlt,by rw [hs];decide⟩
    exact aae (aq.rt rfl 4 (by simp [hb]))
  ·have hlt':¬ (j:Int)<(kl.length:Int):=by omega
   refine aag (by simp [hlt'] <;> omega) (aam (hK3 _ _ ?_))
   have hb:jz p i n=0:=by
    rw [hr,if_pos];rw [List.all_eq_true];intro x hx;obtain⟨q,hq,rfl⟩:=List.mem_iff_getElem.1 hx;exact hall q (by omega) hq
   refine aab ?_;exact aae (aq.rt rfl 4 (by simp [hb]))
 by_cases h3:n.op=1
 ·have n2:¬ n.op=2:=by omega
  have n3:¬ n.op=3:=by omega
  have t3:(n.op=1)=True:=eq_true h3
  by_cases h4:0≤n.a∧n.a<p.ni
  rotate_left
  ·have hd4:decide (0≤n.a∧n.a<(p.ni:Int))=false:=decide_eq_false h4;have hr:jz p i n=7:=by rw [r2,if_pos ⟨h3,h4⟩]
   rw [hd4] at hwa;refine AW.c2 2 hwa t3 @wZ ?_;refine aaj (aab ?_);exact aae (aq.rt rfl 4 (by simp [hr]))
  have hd4:decide (0≤n.a∧n.a<(p.ni:Int))=true:=decide_eq_true h4;rw [hd4] at hwa;have hxi:=fun lv=>RA hp lv n.a h4.1 h4.2
  refine AW.c2 2 hwa t3 @wZ ?_;refine aak (aaa fun K1 hK1=>?_)
  by_cases h5:(p.GY n.a.toNat).f=n.f
  ·have hr:jz p i n=if (aZ n).all (dw p i) then 0 else 7:=by
    rw [r2,if_neg (fun h=>h.2 h4),if_neg (fun h=>h.2 h5),if_neg (fun h=>n2 h.1),if_neg n3]
   refine AW.US mixed t3 hxi h5 (hK1 _ _ ?_);refine aak (aan n2 ?_);refine aak (aan n3 ?_);refine aak (aac ?_);simp;exact tail _ _ (by simp) (by simp) (by simp) hr
  ·have hr:jz p i n=143:=by rw [r2,if_neg (fun h=>h.2 h4),if_pos ⟨h3,h5⟩]
   refine AW.US mixed t3 hxi h5 (hK1 _ _ ?_);refine aaj (aab ?_);exact aae (aq.rt rfl 4 (by simp [hr]))
 refine aan h3 ?_;refine aak (AW.e1 mixed h3 ?_);refine aak ?_
 have r3:jz p i n=if n.op=2∧((i:Int)<p.head∨¬ (0≤n.a∧n.a<p.ns)) then 7 else if n.op=3 then er n.v else if (aZ n).all (dw p i) then 0 else 7:=by
  rw [r2,if_neg (fun h=>h3 h.1),if_neg (fun h=>h3 h.1)]
 refine aaa fun K1 hK1=>?_
 by_cases h6:n.op=2
 ·have n3:¬ n.op=3:=by omega
  have t6:(n.op=2)=True:=eq_true h6
  by_cases h7:(i:Int)<p.head
  ·have hr:jz p i n=7:=by rw [r3,if_pos ⟨h6,.inl h7⟩]
   refine aau t6 h7 (hK1 _ _ ?_);refine aaj (aab ?_);exact aae (aq.rt rfl 4 (by simp [hr]))
  by_cases h8:0≤n.a∧n.a<p.ns
  ·have hd8:decide (0≤n.a∧n.a<(p.ns:Int))=true:=decide_eq_true h8;rw [hd8] at hws
   have hr:jz p i n=if (aZ n).all (dw p i) then 0 else 7:=by
    rw [r3,if_neg (fun h=>h.2.elim h7 (fun h=>h h8)),if_neg n3]
   refine aad ?_;simp [t6,h7,uq];refine ag.p 2 9 hws ?_;simp [t6,h7];apply hK1;clear hK1 K1;refine aak (aan n3 ?_);refine aak (aac ?_);simp;exact tail _ _ (by simp) (by simp) (by simp) hr
  ·have hd8:decide (0≤n.a∧n.a<(p.ns:Int))=false:=decide_eq_false h8;rw [hd8] at hws;have hr:jz p i n=7:=by rw [r3,if_pos ⟨h6,.inr h8⟩]
   refine aad ?_;simp [t6,h7,uq];refine ag.p 2 9 hws ?_;simp [t6,h7];apply hK1;clear hK1 K1;refine aaj (aab ?_);exact aae (aq.rt rfl 4 (by simp [hr]))
 refine aat h6 (hK1 _ _ ?_);refine aak (aaa fun K1 hK1=>?_)
 have r4:jz p i n=if n.op=3 then er n.v else if (aZ n).all (dw p i) then 0 else 7:=by
  rw [r3,if_neg (fun h=>h6 h.1)]
 by_cases h9:n.op=3
 ·have hr:jz p i n=er n.v:=by rw [r4,if_pos h9]
  have hck:=HC m n.v;rw [← hr] at hck;refine aat h9 (hK1 _ _ ?_);refine aaj (aas 2 hck ?_);exact aae (aq.rt rfl 4 (by simp))
 ·have hr:jz p i n=if (aZ n).all (dw p i) then 0 else 7:=by rw [r4,if_neg h9]
  refine aat h9 (hK1 _ _ ?_);refine aak (aac ?_);simp;exact tail _ _ (by simp) (by simp) (by simp) hr
@[simp] def Rm (x:Rat):List CV:=[.d (.bool (decide (x.num<0))),nC (cP x.num.natAbs),nC (dW x.den)]
theorem m8:rZ Tryz.prog 225=some (2,224,3):=by kernel_rfl
theorem Tm (lv:Key→LB)(κ:Key)(h:lv κ=.hole)(a b:CV):au Tryz.prog 59 2 [0,1] lv κ [.c a,.c b]=some (.c (.aV κ 0 2 1),[(κ,.cells true false 53 [a,b])],[],True):=by
 unfold au;rw [h];kernel_rfl
theorem Ig (m:Int)(p:PD)(hp:p.ok)(i:Nat)(hi:i<p.ni):aa Tryz.prog (GG m) 84 [p.A,.c (.d (.int .i64 i))] (.c (.d (.int .i64 (cg p 1 i)))):=by
 have hx:=fun lv=>RA hp lv (i:Int) (by omega) (by omega)
 simp only [Int.toNat_natCast] at hx;have hE:cg p 1 i=tq p (p.GY i):=rfl;rw [hE];generalize p.GY i=x at *
 have hwf:=iS (GG m) x.f p.nf;have hP1:=yp m x.lo;have hP2:=yp m x.hi;have q1:IntKind.i64.wrap 1=1:=by decide
 have q2:IntKind.i64.wrap 2=2:=by decide
 have z1:=uC x.lo;have z2:=uC x.hi;refine aa.Nc Tryz.func84 rfl fun _=>aab ?_;refine aaq hx @aj.eq_1 ?_;refine aaa fun K hK=>aaa fun K1 hK1=>?_
 by_cases h1:0≤x.f∧x.f<p.nf
 rotate_left
 ·have hd:decide (0≤x.f∧x.f<(p.nf:Int))=false:=decide_eq_false h1;have hr:tq p x=7:=by unfold tq;rw [if_pos h1]
  rw [hd] at hwf;refine aay 2 hwf @tC (hK1 _ _ ?_);refine aaj (aab ?_);exact aae (aq.rt (t:=4) rfl 9 (by simp [hr]))
 have hd:decide (0≤x.f∧x.f<(p.nf:Int))=true:=decide_eq_true h1;rw [hd] at hwf
 have r1:tq p x=if er x.lo≠0 then er x.lo else if er x.hi≠0 then er x.hi else if hasB (p.fm x.f.toNat).1 (p.fm x.f.toNat).2 (eX x.lo)=false then 7
  else if hasB (p.fm x.f.toNat).1 (p.fm x.f.toNat).2 (eX x.hi)=false then 7 else if 0<gU (eX x.lo) (eX x.hi) then 7 else 0:=by
  unfold tq;rw [if_neg (not_not_intro h1)]
 refine aay 2 hwf @tC (hK1 _ _ ?_);refine aak (aac (hK _ _ (aab ?_)));refine aaa fun K hK=>aaa fun K1 hK1=>?_;have hbs:∀ (lv:Key→LB) (h:lv 3=.hole),au Tryz.prog 59 2 [0,1] lv 3 [.c (.d (.str x.lo)),.c (.d (.str x.hi))]=some (.c (.aV 3 0 2 1),[(3,.cells true false 53 [.d (.str x.lo),.d (.str x.hi)])],[],True):=fun lv h=>Tm lv 3 h _ _
 refine aad ?_;simp [hbs,-au];apply hK1;clear hK1 K1;refine aaf ?_
 refine aao (fun (k:Nat)=>⟨bh [(2,.c (.ptr 0 0)),(5,.c (.ptr 1 0)),(6,.c (.ptr 2 0)),(30,.c (.aV 3 0 2 1)),(31,.c (.d (.int .i64 2))),(32,.c (.d (.int .i64 k)))],
  aG (aG (aG (aG (fun _=>.hole) 0 (.cells true false 154 p.cs)) 1 (.cells true false 67 [.d (.int .i64 x.f),.d (.str x.lo),.d (.str x.hi)])) 2 (.cells true false 225 (Rm (if 0<k then eX x.lo else 0)++Rm (if 1<k then eX x.hi else 0)))) 3 (.cells true false 53 [.d (.str x.lo),.d (.str x.hi)])⟩) 4
  (fun k=>k≤2∧(0<k→er x.lo=0)∧(1<k→er x.hi=0)) (fun k=>2 - k) 0 (Le.mk' _ (by simp [nC,cP,dW]) (by repeat (first|exact az|refine bf ?_ _ _ _ _ _|(refine aD ?_ _)|(refine noMap_blS ?_ _ _ _)|(refine noMap_upd_nils ?_ _)|simp)) (by simp)) ⟨by omega,fun h=>absurd h (by omega),fun h=>absurd h (by omega)⟩ ?_
 rintro k ⟨hk,k1,k2⟩
 try simp only at hk k1 k2
 refine aab ?_;refine aaa fun K2 hK2=>?_;have hkc:k=0∨k=1∨k=2:=by omega
 rcases hkc with rfl|rfl|rfl
 ·refine aaj (aac (hK2 _ _ (aaa fun K3 hK3=>aaf (aab ?_))));refine aav 4 hP1 @aj.eq_1 ?_;refine aaa fun K4 hK4=>aab ?_
  by_cases he:er x.lo=0
  ·refine aag (by simp [he] <;> omega) (aac (hK4 _ _ (aaD m8 @bQ @aj.eq_1 (hK3 _ _ ?_))));refine aad ?_;simp [q1];exact⟨1,(Le.drop [4]  9 _ rfl (by intro k hk;simp at hk;subst hk;simp [aG]) (by intro k hk;simp at hk;simp only [aG];(repeat (any_goals split)) <;> simp_all) (by simp [aG]) (by repeat (first|exact az|refine bf ?_ _ _ _ _ _|(refine aD ?_ _)|(refine noMap_blS ?_ _ _ _)|(refine noMap_upd_nils ?_ _)|simp)) (by repeat (first|exact jI|refine lC ?_ (by simp [yZ]))) (by simp [yZ])),⟨by omega,fun _=>he,fun h=>absurd h (by omega)⟩,by omega⟩
  ·have hr:tq p x=er x.lo:=by rw [r1,if_pos he]
   refine aah (by simp [he] <;> omega) (aab ?_);exact aae (aq.rt (t:=4) rfl 9 (by simp [hr]))
 ·refine aaj (aac (hK2 _ _ (aaa fun K3 hK3=>aaf (aab ?_))));refine aav 4 hP2 @aj.eq_1 ?_;refine aaa fun K4 hK4=>aab ?_
  by_cases he:er x.hi=0
  ·refine aag (by simp [he] <;> omega) (aac (hK4 _ _ (aaD m8 @bQ @aj.eq_1 (hK3 _ _ ?_))));refine aad ?_;simp [q2];exact⟨2,(Le.drop [4]  9 _ rfl (by intro k hk;simp at hk;subst hk;simp [aG]) (by intro k hk;simp at hk;simp only [aG];(repeat (any_goals split)) <;> simp_all) (by simp [aG]) (by repeat (first|exact az|refine bf ?_ _ _ _ _ _|(refine aD ?_ _)|(refine noMap_blS ?_ _ _ _)|(refine noMap_upd_nils ?_ _)|simp)) (by repeat (first|exact jI|refine lC ?_ (by simp [yZ]))) (by simp [yZ])),⟨by omega,fun _=>k1 (by omega),fun _=>he⟩,by omega⟩
  ·have hr:tq p x=er x.hi:=by rw [r1,if_neg (not_not_intro (k1 (by omega))),if_pos he]
   refine aah (by simp [he] <;> omega) (aab ?_);exact aae (aq.rt (t:=4) rfl 9 (by simp [hr]))
 ·have r2:tq p x=if hasB (p.fm x.f.toNat).1 (p.fm x.f.toNat).2 (eX x.lo)=false then 7
   else if hasB (p.fm x.f.toNat).1 (p.fm x.f.toNat).2 (eX x.hi)=false then 7 else if 0<gU (eX x.lo) (eX x.hi) then 7 else 0:=by
   rw [r1,if_neg (not_not_intro (k1 (by omega))),if_neg (not_not_intro (k2 (by omega)))]
  refine aak (aam (hK _ _ ?_));have hxf:=fun lv=>R5 hp lv x.f h1.1 h1.2
  generalize p.fm x.f.toNat=fe at *
  have hb1:=qS (GG m) fe.1 fe.2 (eX x.lo) z1;have hb2:=qS (GG m) fe.1 fe.2 (eX x.hi) z2;have hcm:=Gk (GG m) (eX x.lo) (eX x.hi) (bW z1 (by omega)) (bW z2 (by omega));generalize eX x.lo=a at *
  generalize eX x.hi=b at *
  refine aaq hxf @aj.eq_1 ?_;refine aaa fun K3 hK3=>aaa fun K4 hK4=>?_
  cases g1:hasB fe.1 fe.2 a with
  | false=>
   have hr:tq p x=7:=by rw [r2,if_pos g1]
   rw [g1] at hb1;refine aay 5 hb1 m8 (hK4 _ _ ?_);refine aaj (aab ?_);exact aae (aq.rt (t:=4) rfl 9 (by simp [hr]))
  | true=>
  rw [g1] at hb1
  cases g2:hasB fe.1 fe.2 b with
  | false=>
   have hr:tq p x=7:=by rw [r2,g1,if_neg (by decide),if_pos g2]
   rw [g2] at hb2;refine aad ?_;simp [m8];refine ag.p 5 9 hb1 ?_;simp [m8];refine ag.p 5 9 hb2 ?_;simp;apply hK4;clear hK4 K4;refine aaj (aab ?_);exact aae (aq.rt (t:=4) rfl 9 (by simp [hr]))
  | true=>
  rw [g2] at hb2
  by_cases g3:0<gU a b
  ·have hr:tq p x=7:=by rw [r2,g1,if_neg (by decide),g2,if_neg (by decide),if_pos g3]
   refine aad ?_;simp [m8];refine ag.p 5 9 hb1 ?_;simp [m8];refine ag.p 5 9 hb2 ?_;simp [m8];refine ag.p 5 9 hcm ?_;simp;apply hK4;clear hK4 K4;refine aah (by simp [g3] <;> omega) (aab ?_);exact aae (aq.rt (t:=4) rfl 9 (by simp [hr]))
  ·have hr:tq p x=0:=by rw [r2,g1,if_neg (by decide),g2,if_neg (by decide),if_neg g3]
   refine aad ?_;simp [m8];refine ag.p 5 9 hb1 ?_;simp [m8];refine ag.p 5 9 hb2 ?_;simp [m8];refine ag.p 5 9 hcm ?_;simp;apply hK4;clear hK4 K4;refine aag (by simp [g3] <;> omega) (aac (hK3 _ _ (aab ?_)));exact aae (aq.rt (t:=4) rfl 9 (by simp [hr]))
@[simp] theorem OM{k0 k1:Key}{b0 b1:LB}(h0:lv k0=b0) (h1:lv k1=b1):bk lv [(k0,b0),(k1,b1)]=lv:=by
 subst h0;subst h1;funext k;simp only [bk,List.foldl,aG];split
 ·rename_i h;rw [h]
 ·split
  ·rename_i h;rw [h]
  ·rfl
abbrev cI (i:Int):List CV:=[.d (.int .i64 i)]
abbrev bI (i:Int):LB:=.cells false false 3 (cI i)
theorem IA (G:List (List DV))(n:Nd)(i f:Int):aL Tryz.prog G 165 [n.A,.c (.ptr 0 0),.c (.ptr 1 0)] [bI i,bI f] (.ret (.c (.d (.bool (hJ i f n)))) [bI i,bI f] []):=by
 refine aL.S7 Tryz.func165 rfl (by simp) (by simp) (fun r hr=>⟨_,List.mem_singleton.1 hr⟩) fun _=>aab ?_;refine aaa fun K hK=>?_
 by_cases h1:n.op=2
 ·by_cases h2:n.a=i
  ·by_cases h3:n.f=f
   ·refine aaD h1 h2 h3 (hK _ _ ?_);exact aal (κ:=0) (wO.tmp (κ:=0) rfl 9 (by simp [hJ,h1,h2,h3]) rfl (by simp) (by simp) (by simp) rfl)
   ·refine aaD h1 h2 h3 (hK _ _ ?_);exact aal (κ:=0) (wO.tmp (κ:=0) rfl 9 (by simp [hJ,h1,h2,h3]) rfl (by simp) (by simp) (by simp) rfl)
  ·refine aau h1 h2 (hK _ _ ?_);exact aal (κ:=0) (wO.tmp (κ:=0) rfl 9 (by simp [hJ,h1,h2]) rfl (by simp) (by simp) (by simp) rfl)
 ·refine aat h1 (hK _ _ ?_);exact aal (κ:=0) (wO.tmp (κ:=0) rfl 9 (by simp [hJ,h1]) rfl (by simp) (by simp) (by simp) rfl)
def B7 (i f:Int)(p:PD):Int:=match (List.range p.nn).find? (fun j=>hJ i f (p.nd j)) with
 | some j=>j
 | none=>-1
theorem H8 (i f:Int)(p:PD):decide (0≤B7 i f p)=(List.range p.nn).any (fun j=>hJ i f (p.nd j)):=by
 unfold B7
 cases h:(List.range p.nn).find? (fun j=>hJ i f (p.nd j)) with
 | none=>
  rw [List.find?_eq_none] at h
  have:(List.range p.nn).any (fun j=>hJ i f (p.nd j))=false:=by
   rw [List.any_eq_false];exact h
  rw [this];rfl
 | some j=>
  have h1:=List.find?_some h;have h2:=List.mem_of_find?_eq_some h;have:(List.range p.nn).any (fun j=>hJ i f (p.nd j))=true:=List.any_eq_true.2 ⟨j,h2,h1⟩;rw [this];exact decide_eq_true (Int.natCast_nonneg j)
abbrev Uo:AV:=.c (.func (.func 165) [] [.ptr 0 0,.ptr 1 0])
theorem KA(n:Nd) {i f:Int}(h0:lv 0=bI i) (h1:lv 1=bI f)(ha:a∈[n.A,.c (.ptr 0 0),.c (.ptr 1 0)]) (hk:k∈om lv a):k∈[9,0,1]:=by
 simp only [List.mem_cons,List.not_mem_nil,or_false] at ha;rcases ha with rfl|rfl|rfl
 ·rw [nY rfl] at hk;cases hk
 ·simp [om,ld,h0] at hk;simp [hk]
 ·simp [om,ld,h1] at hk;simp [hk]
theorem Jo(p:PD){fn:Fn}{fs cs:List Ref}{R:List Key}(ha:a∈[AV.c (hO p.nodes),.c (.func fn fs cs)]) (hk:k∈om lv a):k∈R:=by
 simp only [List.mem_cons,List.not_mem_nil,or_false] at ha;rcases ha with rfl|rfl
 ·rw [nY (by simp)] at hk;cases hk
 ·cases hk
theorem Mm (G:List (List DV))(p:PD)(hp:p.ok)(hn:p.nn≤1000)(i f:Int):aL Tryz.prog G 241 [.c (hO p.nodes),Uo] [bI i,bI f] (.ret (.c (.d (.int .i64 (B7 i f p)))) [bI i,bI f] []):=by
 have ho:=fun j=>IA G (p.nd j) i f
 refine aL.S7 Tryz.func241 rfl (by simp) (by simp) (fun r hr=>⟨_,List.mem_singleton.1 hr⟩) fun _=>aab ?_;refine aaa fun K hK=>aan @gW ?_;refine aaf ?_
 refine aao (fun (j:Nat)=>⟨bh [(0,.c (hO p.nodes)),(1,Uo),(7,.c (.d (.int .i64 p.nn))),(8,.c (.d (.int .i64 j)))],aG (aG (fun _=>.hole) 0 (bI i)) 1 (bI f)⟩) 1000
  (fun j=>j≤p.nn∧∀ q,q<j→hJ i f (p.nd q)=false) (fun j=>p.nn - j) 0 (Le.mk' _ (by simp) (by repeat (first|exact az|refine bf ?_ _ _ _ _ _|(refine aD ?_ _)|(refine noMap_blS ?_ _ _ _)|(refine noMap_upd_nils ?_ _)|simp)) (by simp)) ⟨by omega,fun q hq=>absurd hq (Nat.not_lt_zero q)⟩ ?_
 rintro j ⟨hj,hall⟩
 try simp only at hj hall
 refine aab ?_;refine aaa fun K2 hK2=>?_
 by_cases hlt:j<p.nn
 ·have hlt':(j:Int)<(p.nn:Int):=by omega
  refine aah (by simp [hlt'] <;> omega) (aac (hK2 _ _ (aaa fun K3 hK3=>aaf (aab ?_))));refine aaa fun K4 hK4=>?_;have hx:=fun lv=>HU p lv hp j hlt
  refine aad ?_;simp [hx,HL,yy,qR];refine ag.JM (T0:=3) (T1:=3) (cs0:=cI i) (cs1:=cI f) 1000 9 0 1 false [9,0,1] (ho j) rfl rfl rfl (by simp) (by simp) (by decide) rfl rfl ?_ ?_ (by simp) ?_
  ·intro a b c;have:a=0∨a=1∨a=2:=by simp at b;omega
   rcases this with rfl|rfl|rfl <;> exact⟨rfl,rfl⟩
  ·intro a ha k hk;exact KA (p.nd j) (i:=i) (f:=f) (by simp) (by simp) ha hk
  simp;apply hK4;clear hK4 K4
  cases hs:hJ i f (p.nd j) with
  | true=>
   refine aaj (aab ?_)
   have hr:B7 i f p=j:=by
    unfold B7
    have:(List.range p.nn).find? (fun j=>hJ i f (p.nd j))=some j:=by
     rw [List.find?_range_eq_some];exact⟨hs,List.mem_range.2 hlt,fun q hq=>by rw [hall q hq];rfl⟩
    rw [this]
   exact aal (κ:=0) (wO.tmp (κ:=0) rfl 9 (by simp [hr]) rfl (by simp) (by simp) (by simp) rfl)
  | false=>
   refine aak (aac (hK3 _ _ ?_));have f12:=bM (n:=(j:Int)+1) (by omega) (by omega);refine aad ?_;simp [f12];refine⟨j+1,Le.mk' _ (by simp) (by repeat (first|exact az|refine bf ?_ _ _ _ _ _|(refine aD ?_ _)|(refine noMap_blS ?_ _ _ _)|(refine noMap_upd_nils ?_ _)|simp)) (by simp),⟨by omega,fun q hq=>?_⟩,by omega⟩
   by_cases hji:q=j
   ·subst hji;exact hs
   ·exact hall q (by omega)
 ·have hlt':¬ (j:Int)<(p.nn:Int):=by omega
  refine aag (by simp [hlt'] <;> omega) (aam (hK _ _ (aab ?_)))
  have hr:B7 i f p = -1:=by
   unfold B7
   have:(List.range p.nn).find? (fun j=>hJ i f (p.nd j))=none:=by
    rw [List.find?_eq_none];intro q hq;rw [hall q (by have:=List.mem_range.1 hq;omega)];decide
   rw [this]
  exact aal (κ:=0) (wO.tmp (κ:=0) rfl 9 (by simp [hr]) rfl (by simp) (by simp) (by simp) rfl)
theorem H6 (G:List (List DV))(p:PD)(hp:p.ok)(hn:p.nn≤1000)(i f:Int):aL Tryz.prog G 166 [.c (hO p.nodes),Uo] [bI i,bI f] (.ret (.c (.d (.bool ((List.range p.nn).any fun j=>hJ i f (p.nd j))))) [bI i,bI f] []):=by
 have hx:=Mm G p hp hn i f;rw [← H8];generalize B7 i f p=r at *
 refine aL.S7 Tryz.func166 rfl (by simp) (by simp) (fun r hr=>⟨_,List.mem_singleton.1 hr⟩) fun _=>aab ?_;refine aai fun K hK=>?_;simp;refine ag.JM (T0:=3) (T1:=3) (cs0:=cI i) (cs1:=cI f) 1000 9 0 1 false [9] hx rfl rfl rfl (by simp) (by simp) (by decide) rfl rfl ?_ ?_ (by simp) ?_
 ·intro a b c;have:a=0∨a=1:=by simp at b;omega
  rcases this with rfl|rfl
  ·exact⟨by simp,by simp⟩
  ·exact⟨rfl,rfl⟩
 ·intro a ha k hk;exact Jo p ha hk
 simp;apply hK;clear hK K;exact aal (κ:=0) (wO.tmp (κ:=0) rfl 9 (by simp) rfl (by simp) (by simp) (by simp) rfl)
theorem ij(h:dR p=0):0≤p.head∧p.head≤p.tail∧p.tail≤p.nn∧p.nf≤6∧p.ni≤6∧p.nn≤64∧p.ns≤4:=by
 unfold dR at h;unfold PD.nf PD.ni PD.nn PD.ns
 (repeat' split at h) <;> first|omega|cases h
theorem Io (m:Int)(p:PD)(hp:p.ok)(hg:dR p=0)(i:Nat)(hi:i<p.ns):aa Tryz.prog (GG m) 86 [p.A,.c (.d (.int .i64 i))] (.c (.d (.int .i64 (cg p 3 i)))):=by
 obtain⟨g1,g2,g3,_,_,g4,_⟩:=ij hg;have hx:=fun lv=>TD hp lv (i:Int) (by omega) (by omega)
 simp only [Int.toNat_natCast] at hx;have hE:cg p 3 i=uj p i (p.st i):=rfl;rw [hE];generalize p.st i=s at *
 have hw1:=iS (GG m) s.1 p.head;have hw2:=iS (GG m) s.2 p.tail;refine aa.en Tryz.func86 rfl fun _=>aab ?_;refine aaq hx @aj.eq_1 ?_;refine aaa fun K hK=>aaa fun K1 hK1=>?_
 by_cases h1:0≤s.1∧s.1<p.head
 rotate_left
 ·have hd:decide (0≤s.1∧s.1<p.head)=false:=decide_eq_false h1;have hr:uj p i s=7:=by unfold uj;rw [if_pos h1]
  rw [hd] at hw1;refine AW.m0 3 hw1 (hK1 _ _ ?_);refine aaj (aab ?_);exact aae (aq.rt rfl 4 (by simp [hr]))
 have hd:decide (0≤s.1∧s.1<p.head)=true:=decide_eq_true h1;rw [hd] at hw1
 by_cases h2:0≤s.2∧s.2<p.tail
 rotate_left
 ·have hd2:decide (0≤s.2∧s.2<p.tail)=false:=decide_eq_false h2;have hr:uj p i s=7:=by unfold uj;rw [if_neg (not_not_intro h1),if_pos h2]
  rw [hd2] at hw2;refine aad ?_;simp;refine ag.p 3 9 hw1 ?_;simp;refine ag.p 3 9 hw2 ?_;simp;apply hK1;clear hK1 K1;refine aaj (aab ?_);exact aae (aq.rt rfl 4 (by simp [hr]))
 have hd2:decide (0≤s.2∧s.2<p.tail)=true:=decide_eq_true h2;rw [hd2] at hw2;refine aad ?_;simp;refine ag.p 3 9 hw1 ?_;simp;refine ag.p 3 9 hw2 ?_;simp;apply hK1;clear hK1 K1;refine aak (aac (hK _ _ (aaa fun K hK=>?_)));have x1:=fun lv=>PW hp lv s.1 h1.1 (by omega)
 have x2:=fun lv=>PW hp lv s.2 h2.1 (by omega)
 have hr:uj p i s=if (p.nd s.2.toNat).f≠(p.nd s.1.toNat).f then 143 else if (List.range p.nn).any (fun j=>hJ i (p.nd s.1.toNat).f (p.nd j)) then 143 else 0:=by
  unfold uj;rw [if_neg (not_not_intro h1),if_neg (not_not_intro h2)]
 generalize p.nd s.1.toNat=n1 at *
 generalize p.nd s.2.toNat=n2 at *
 refine aau x1 @aj.eq_1 (hK _ _ ?_);refine aai fun K hK=>?_;simp [Hq,qH,vF,xm,gY];apply hK;refine aaa fun K hK=>aaa fun K1 hK1=>?_
 by_cases h3:n2.f=n1.f
 ·have hc:=H6 (GG m) p hp (by omega) i n1.f;refine aap mixed (by kernel_rfl) rfl ?_;simp [x2,h3];refine ag.JM (T0:=3) (T1:=3) (cs0:=cI i) (cs1:=cI n1.f) 4 9 1 3 true [9] hc rfl rfl rfl (by simp) (by simp) (by decide) rfl rfl ?_ ?_ (by simp) ?_
  ·intro a b c;have:a=0∨a=1:=by simp at b;omega
   rcases this with rfl|rfl
   ·exact⟨by simp,by simp⟩
   ·exact⟨rfl,rfl⟩
  ·intro a ha k hk;exact Jo p ha hk
  simp;refine⟨by kernel_rfl,?_⟩;apply hK1;clear hK1 K1
  cases hs:(List.range p.nn).any (fun j=>hJ i n1.f (p.nd j)) with
  | true=>
   have hr2:uj p i s=143:=by rw [hr,if_neg (not_not_intro h3),if_pos hs]
   refine aaj (aab ?_);exact aae (aq.rt rfl 4 (by simp [hr2]))
  | false=>
   have hr2:uj p i s=0:=by rw [hr,if_neg (not_not_intro h3),hs,if_neg (by decide)]
   refine aak (aac (hK _ _ (aab ?_)));exact aae (aq.rt rfl 4 (by simp [hr2]))
 ·have hr2:uj p i s=143:=by rw [hr,if_pos h3]
  refine AW.Vx mixed x2 h3 (hK1 _ _ ?_);refine aaj (aab ?_);exact aae (aq.rt rfl 4 (by simp [hr2]))
def sD:Option (List (List DV))→DV
 | none=>.nilsl
 | some es=>.sl es
theorem Ny (o:Option (List (List DV))):hO o=.d (sD o):=by cases o <;> rfl
def PD.DP (p:PD):List DV:=[sD p.f,.int .i64 p.mode,sD p.ins,sD p.nodes,.int .i64 p.head,.int .i64 p.tail,sD p.states,.int .i64 p.res]
theorem IE (p:PD):p.DP.map CV.d=p.cs:=by simp [PD.DP,Ny]
theorem Kv (p:PD):Jy (.agg p.DP)=p.A:=by show AV.agg (p.DP.map CV.d)=_;rw [IE]
theorem Il (p:PD):oU p.cs=some p.DP:=by
 obtain⟨f,a,i,n,b,c,s,d⟩:=p
 cases f <;> cases i <;> cases n <;> cases s <;> rfl
theorem JK (p:PD)(f:FuncId):Hq (.func f) [.agg [hO p.f,.d (.int .i64 p.mode),hO p.ins,hO p.nodes,.d (.int .i64 p.head),.d (.int .i64 p.tail),hO p.states,.d (.int .i64 p.res)]] []=some (.c (.d (.func (.func f) [.agg p.DP] [])),[],[],True):=by
 have h:=Il p;simp only [PD.cs] at h;simp only [Hq,qH,vF,h,xm,gY];rfl
theorem S1 (a b:CV):gJ Tryz.prog 157 [0,1] [.c a,.c b]=some (.agg [a,b],[],[],True):=by kernel_rfl
theorem Q7 (lv:Key→LB)(κ:Key)(h:lv κ=.hole)(a b c d e f g i:CV):au Tryz.prog 158 4 [0,1,2,3] lv κ [.agg [a,b],.agg [c,d],.agg [e,f],.agg [g,i]]=some (.c (.aV κ 0 4 2),[(κ,.cells true false 157 [a,b,c,d,e,f,g,i])],[],True):=by
 unfold au;rw [h];kernel_rfl
theorem Q4 (p:PD):gJ Tryz.prog 154 [0] [.agg [hO p.f,.d (.int .i64 p.mode),hO p.ins,hO p.nodes,.d (.int .i64 p.head),.d (.int .i64 p.tail),hO p.states,.d (.int .i64 p.res)]]=some (.agg [hO p.f,.d (.int .i64 p.mode),hO p.ins,hO p.nodes,.d (.int .i64 p.head),.d (.int .i64 p.tail),hO p.states,.d (.int .i64 p.res)],[],[],True):=
 (show ∀ a b c d e f g h:CV,gJ Tryz.prog 154 [0] [.agg [a,b,c,d,e,f,g,h]]=some (.agg [a,b,c,d,e,f,g,h],[],[],True) from fun a b c d e f g h=>by kernel_rfl) _ _ _ _ _ _ _ _
def OK (p:PD):List CV:=[.d (.int .i64 p.nf),.d (.func (.func 83) [.agg p.DP] []),.d (.int .i64 p.ni),.d (.func (.func 84) [.agg p.DP] []),.d (.int .i64 p.nn),.d (.func (.func 85) [.agg p.DP] []),.d (.int .i64 p.ns),.d (.func (.func 86) [.agg p.DP] [])]
@[simp] theorem RC (p:PD)(g:Key→Key):(OK p).map (CV.b6 g)=OK p:=rfl
theorem Jg (p:PD)(k:Nat)(hk:k<4):eK Tryz.prog 157 ((OK p).drop (k*2))=some (.agg [.d (.int .i64 (iE p k)),.d (.func (.func (83+k)) [.agg p.DP] [])]):=by
 have h:k=0∨k=1∨k=2∨k=3:=by omega
 rcases h with rfl|rfl|rfl|rfl <;> simp [OK,iE]
theorem LR (m:Int)(p:PD)(hp:p.ok)(hg:dR p=0)(k:Nat)(hk:k<4)(i:Nat)(hi:i<iE p k):aa Tryz.prog (GG m) (83+k) [p.A,.c (.d (.int .i64 i))] (.c (.d (.int .i64 (cg p k i)))):=by
 have h:k=0∨k=1∨k=2∨k=3:=by omega
 have hr:=ij hg;rcases h with rfl|rfl|rfl|rfl
 ·exact HI _ p hp i hi
 ·exact Ig m p hp i hi
 ·exact MW m p hp i hi (by omega)
 ·exact Io m p hp hg i hi
theorem Lq (k:Nat)(hk:k<4):aI Tryz.prog (83+k)=true:=by
 have h:k=0∨k=1∨k=2∨k=3:=by omega
 rcases h with rfl|rfl|rfl|rfl <;> simp
theorem MY(hg:dR p=0) (k:Nat) (hk:k<4):iE p k≤64:=by
 have h:k=0∨k=1∨k=2∨k=3:=by omega
 have hr:=ij hg;rcases h with rfl|rfl|rfl|rfl <;> simp only [iE] <;> omega
theorem IN (m:Int)(p:PD)(hp:p.ok):aa Tryz.prog (GG m) 31 [p.A] (.tup [.c (.d (.int .i64 (fJ p).1)),.c (.d (.int .i64 (fJ p).2.1)),.c (.d (.int .i64 (fJ p).2.2))]):=by
 have hge:=Dw (GG m) p;have hbl:∀ lv (h:lv 2=.hole) (a b c d e f g i:CV),au Tryz.prog 158 4 [0,1,2,3] lv 2 [.agg [a,b],.agg [c,d],.agg [e,f],.agg [g,i]]=some (.c (.aV 2 0 4 2),[(2,.cells true false 157 [a,b,c,d,e,f,g,i])],[],True):=fun lv h=>Q7 lv 2 h
 by_cases hg:dR p=0
 rotate_left
 ·have hr:fJ p=(0,0,dR p):=by unfold fJ;rw [if_pos hg]
  rw [hr];refine aa.en Tryz.func31 rfl fun _=>aab ?_;refine aaq @Q4 @aj.eq_1 ?_;refine aaa fun K hK=>aas 2 hge ?_;refine aab ?_;refine aah (by simp [hg] <;> omega) (aab ?_);exact aal (κ:=0) (aq.m6 (κ:=0) rfl 9 (by simp) (by simp) (by simp) rfl rfl rfl rfl rfl rfl rfl (by decide) (by decide) (by decide))
 have hr:fJ p=c8 p 4 0:=by unfold fJ;rw [if_neg (not_not_intro hg)]
 rw [hr];rw [hg] at hge;have hwi:=iS (GG m) p.res p.nn;have hse:=qg (GG m) p p.res;refine aa.Nc Tryz.func31 rfl fun _=>aab ?_;refine aaq @Q4 @aj.eq_1 ?_;refine aaa fun K hK=>aas 2 hge ?_;refine aab ?_;refine aak (aac (hK _ _ (aai fun K hK=>?_)));simp [tC,wZ,gW,uq,JK,S1,hbl,-au];apply hK;refine aaa fun K hK=>aab ?_;refine aaf ?_
 refine aao (fun (k:Nat)=>⟨bh [(1,.c (.ptr 0 0)),(5,.c (.ptr 1 0)),(44,.c (.aV 2 0 4 2)),(45,.c (.d (.int .i64 4))),(46,.c (.d (.int .i64 k)))],
  aG (aG (aG (fun _=>.hole) 0 (.cells true false 27 p.cs)) 1 (.cells true false 154 p.cs)) 2 (.cells true false 157 (OK p))⟩) 3
  (fun k=>k≤4∧c8 p (4 - k) k=c8 p 4 0) (fun k=>4 - k) 0 (Le.mk' _ (by simp [OK]) (by repeat (first|exact az|refine bf ?_ _ _ _ _ _|(refine aD ?_ _)|(refine noMap_blS ?_ _ _ _)|(refine noMap_upd_nils ?_ _)|simp)) (by simp)) ⟨by omega,rfl⟩ ?_
 rintro k ⟨hk,hpv⟩
 try simp only at hk hpv
 refine aab ?_;refine aaa fun K2 hK2=>?_
 by_cases hlt:k<4
 ·have hlt':(k:Int)<4:=by omega
  have hld:=Jg p k hlt;have hle:=MY hg k hlt;have hfn:=Lq k hlt;have hca:=LR m p hp hg k hlt
  have hstep:∀ i,i<iE p k→cg p k i≠0→(∀ j,j<i→cg p k j=0)→c8 p 4 0=((k:Int)+1,(i:Int),cg p k i):=by
   intro i hi h0 h1;rw [← hpv,show 4 - k=(4 - (k+1))+1 by omega];show (match iV (cg p k) (iE p k) with|some i=>((k:Int)+1,(i:Int),cg p k i)|none=>c8 p (4 - (k+1)) (k+1))=_;rw [tU hi h0 h1]
  have hnext:(∀ j,j<iE p k→cg p k j=0)→c8 p (4 - (k+1)) (k+1)=c8 p 4 0:=by
   intro h1;rw [← hpv,show 4 - k=(4 - (k+1))+1 by omega];show _=(match iV (cg p k) (iE p k) with|some i=>((k:Int)+1,(i:Int),cg p k i)|none=>c8 p (4 - (k+1)) (k+1))
   rw [tr h1]
  generalize iE p k=N at *
  generalize cg p k=E at *
  refine aah (by simp [hlt'] <;> omega) (aac (hK2 _ _ (aaa fun K3 hK3=>aaf (aai fun K4 hK4=>?_))));simp [hlt',hld,aj,-G6];apply hK4;refine aab ?_;refine aaf ?_
  refine aao (fun (i:Nat)=>⟨bh [(1,.c (.ptr 0 0)),(5,.c (.ptr 1 0)),(8,.c (.d (.int .i64 k))),(9,.c (.ptr 3 0)),(44,.c (.aV 2 0 4 2)),(45,.c (.d (.int .i64 4))),(46,.c (.d (.int .i64 k))),(52,.c (.d (.int .i64 N))),(53,.c (.d (.int .i64 i)))],
   aG (aG (aG (aG (fun _=>.hole) 0 (.cells true false 27 p.cs)) 1 (.cells true false 154 p.cs)) 2 (.cells true false 157 (OK p))) 3 (.cells true false 157 [.d (.int .i64 N),.d (.func (.func (83+k)) [.agg p.DP] [])])⟩) 4
   (fun i=>i≤N∧∀ j,j<i→E j=0) (fun i=>N - i) 0 (Le.mk' _ (by simp [aj]) (by repeat (first|exact az|refine bf ?_ _ _ _ _ _|(refine aD ?_ _)|(refine noMap_blS ?_ _ _ _)|(refine noMap_upd_nils ?_ _)|simp)) (by simp)) ⟨by omega,fun j hj=>absurd hj (Nat.not_lt_zero j)⟩ ?_
  rintro i ⟨hi,hall⟩
  try simp only at hi hall
  refine aab ?_;refine aaa fun K6 hK6=>?_
  by_cases hlt2:i<N
  ·have hlt2':(i:Int)<(N:Int):=by omega
   have hc:=hca i hlt2;refine aah (by simp [hlt2'] <;> omega) (aac (hK6 _ _ (aaa fun K7 hK7=>aaf (aab ?_))));refine AW.c4 4 hc @HG @yy @Kv hfn ?_;refine aab ?_
   by_cases h0:E i=0
   ·refine aag (by simp [h0] <;> omega) (aac (hK7 _ _ ?_));have f12:=bM (n:=(i:Int)+1) (by omega) (by omega);refine aad ?_;simp [f12];refine⟨i+1,Le.mk' _ (by simp) (by repeat (first|exact az|refine bf ?_ _ _ _ _ _|(refine aD ?_ _)|(refine noMap_blS ?_ _ _ _)|(refine noMap_upd_nils ?_ _)|simp)) (by simp),⟨by omega,fun j hj=>?_⟩,by omega⟩
    by_cases hji:j=i
    ·subst hji;exact h0
    ·exact hall j (by omega)
   ·have hres:=hstep i hlt2 h0 hall;have f12:=bM (n:=(k:Int)+1) (by omega) (by omega);refine aah (by simp [h0] <;> omega) (aan f12 ?_);exact aal (κ:=0) (aq.m6 (κ:=0) rfl 9 (by simp [hres]) (by simp [hres]) (by simp [hres]) rfl rfl rfl (by simp) rfl rfl rfl (by decide) (by decide) (by decide))
  ·have hlt2':¬ (i:Int)<(N:Int):=by omega
   refine aag (by simp [hlt2'] <;> omega) (aam (hK3 _ _ ?_));have f12:=bM (n:=(k:Int)+1) (by omega) (by omega);refine aad ?_;simp [f12];exact⟨k+1,(Le.drop [3]  9 _ rfl (by intro k hk;simp at hk;subst hk;simp [aG]) (by intro k hk;simp at hk;simp only [aG];(repeat (any_goals split)) <;> simp_all) (by simp [aG]) (by repeat (first|exact az|refine bf ?_ _ _ _ _ _|(refine aD ?_ _)|(refine noMap_blS ?_ _ _ _)|(refine noMap_upd_nils ?_ _)|simp)) (by repeat (first|exact jI|refine lC ?_ (by simp [yZ]))) (by simp [yZ])),⟨by omega,hnext fun j hj=>hall j (by omega)⟩,by omega⟩
 ·have hlt':¬ (k:Int)<4:=by omega
  have hk4:k=4:=by omega
  subst hk4;have hfin:c8 p 4 0=if 0≤p.res∧p.res<p.nn∧kj p p.res≠1 then (0,0,0) else (5,0,7):=by rw [← hpv];rfl
  refine aag (by simp [hlt'] <;> omega) (aam (hK _ _ (aaa fun K hK=>aaa fun K1 hK1=>?_)))
  by_cases h1:0≤p.res∧p.res<p.nn
  rotate_left
  ·have hd:decide (0≤p.res∧p.res<(p.nn:Int))=false:=decide_eq_false h1;have hres:c8 p 4 0=(5,0,7):=by rw [hfin,if_neg (fun h=>h1 ⟨h.1,h.2.1⟩)]
   rw [hd] at hwi;refine aay 3 hwi @gW (hK1 _ _ ?_);refine aaj (aab ?_);exact aal (κ:=0) (aq.m6 (κ:=0) rfl 9 (by simp [hres]) (by simp [hres]) (by simp [hres]) rfl rfl rfl (by simp) rfl rfl rfl (by decide) (by decide) (by decide))
  have hd:decide (0≤p.res∧p.res<(p.nn:Int))=true:=decide_eq_true h1;rw [hd] at hwi
  by_cases h2:kj p p.res=1
  ·have hres:c8 p 4 0=(5,0,7):=by rw [hfin,if_neg (fun h=>h.2.2 h2)]
   rw [h2] at hse;refine aad ?_;simp [gW];refine ag.p 3 9 hwi ?_;simp;refine ag.p 3 9 hse ?_;simp;apply hK1;clear hK1 K1;refine aaj (aab ?_);exact aal (κ:=0) (aq.m6 (κ:=0) rfl 9 (by simp [hres]) (by simp [hres]) (by simp [hres]) rfl rfl rfl (by simp) rfl rfl rfl (by decide) (by decide) (by decide))
  ·have hres:c8 p 4 0=(0,0,0):=by rw [hfin,if_pos ⟨h1.1,h1.2,h2⟩]
   refine aad ?_;simp [gW];refine ag.p 3 9 hwi ?_;simp;refine ag.p 3 9 hse ?_;simp [h2];apply hK1;clear hK1 K1;refine aag (by simp [h2] <;> omega) (aac (hK _ _ (aab ?_)));exact aal (κ:=0) (aq.m6 (κ:=0) rfl 9 (by simp [hres]) (by simp [hres]) (by simp [hres]) rfl rfl rfl (by simp) rfl rfl rfl (by decide) (by decide) (by decide))
theorem Jp (m:Int)(p:PD)(hp:p.ok):aa Tryz.prog (GG m) 45 [p.A] (.c (.d (.int .i64 (fJ p).2.2))):=by
 have h:=IN m p hp;generalize fJ p=v at *
 refine aa.en Tryz.func45 rfl fun _=>aab ?_;refine aas 1 h ?_;refine aab ?_;exact aae (aq.rt rfl 2 (by simp))
theorem Fm (own fz:Bool)(T:TypeId)(l:List DV)(g:Key→Key):(LB.cells own fz T (l.map CV.d)).like (.cells own fz T (l.map CV.d)) g:=LB.p7.2 ⟨rfl,rfl,by rw [List.map_map];rfl,id⟩
theorem Bz (T:TypeId)(p:PD)(g:Key→Key):(LB.cells true false T p.cs).like (.cells true false T p.cs) g:=by
 rw [← IE];exact Fm ..
theorem JB (l:List Int)(g:Key→Key):(LB.cells true false 3 (zK l)).like (.cells true false 3 (zK l)) g:=by
 rw [zv];exact Fm ..
theorem IQ(h:lv k=.hole):aG lv k .hole=lv:=by
 funext j;unfold aG;split
 ·rename_i e;rw [e,h]
 ·rfl
def zB (l:List Int):LB:=if l=[] then .hole else .cells true false 3 (zK l)
def Nu (k:Key)(l:List Int):AV:=if l=[] then .c (.d .nilsl) else .c (.aV k 0 l.length 1)
theorem Um (lv:Key→LB)(κ:Key)(h:lv κ=.hole)(a:CV):au Tryz.prog 30 1 [0] lv κ [.c a]=some (.c (.aV κ 0 1 1),[(κ,.cells true false 3 [a])],[],True):=by
 unfold au;rw [h];kernel_rfl
theorem Iw{l:List DV}(h:lv k=.cells own fz T (l.map CV.d)) (hl:l.length≤1000):fI lv (.c (.aV k 0 l.length 1))=some (.c (.d (.sl (l.map fun x=>[x]))),[k]):=by
 have h1:((l.map CV.d).drop 0).take (l.length*1)=l.map CV.d:=by rw [List.drop_zero,Nat.mul_one];exact List.take_of_length_le (by simp)
 have h2:0+l.length*1≤(l.map CV.d).length∧l.length≤9223372036854775807:=⟨by simp,by omega⟩
 show (dx lv 8 (.aV k 0 l.length 1)).map _=_;simp only [dx,h];rw [if_pos h2,h1,qY];simp only [Option.map_some,lO]
theorem MX(h:lv k=.cells own fz T (zK l)) (hl:l.length≤1000):fI lv (.c (.aV k 0 l.length 1))=some (.c (zC (some l)),[k]):=by
 have:=Iw (l:=l.map fun x=>DV.int .i64 x) (by rw [← zv];exact h) (by simpa using hl);rw [List.length_map,List.map_map] at this;exact this
theorem SL (p:PD)(lv:Key→LB)(hp:p.ok)(i:Nat)(hi:i<p.ni):ak Tryz.prog 23 lv (.c (hO p.ins)) (.c (.d (.int .i64 (i:Int))))=some (.c (.d (.ptr (p.GY i).e)),[],[],True):=by
 have:=RA hp lv (i:Int) (by omega) (by omega)
 rwa [Int.toNat_natCast] at this
theorem FJ (l:List Int)(x:Int):zB (l++[x])=.cells true false 3 (zK l++[.d (.int .i64 x)]):=by
 unfold zB;rw [if_neg (by simp)];simp [zK]
theorem FP (k:Key)(l:List Int)(x:Int):Nu k (l++[x])=.c (.aV k 0 (l.length+1) 1):=by
 unfold Nu;rw [if_neg (by simp)];simp
theorem ML(h:(fJ p).2.2=0):dR p=0:=by
 unfold fJ at h
 by_cases hg:dR p=0
 ·exact hg
 ·rw [if_pos hg] at h;exact absurd h hg
theorem Dg {p:PD}:∀ (n k:Nat),(c8 p n k).2.2=0→(∀ j,k≤j→j<k+n→∀ i,i<iE p j→cg p j i=0)∧(0≤p.res∧p.res<p.nn∧kj p p.res≠1)
 | 0,k,h=>by
  refine⟨fun j h1 h2=>by omega,?_⟩
  by_cases hc:0≤p.res∧p.res<p.nn∧kj p p.res≠1
  ·exact hc
  ·have e:c8 p 0 k=(5,0,7):=if_neg hc;rw [e] at h;cases h
 | n+1,k,h=>by
  have e:c8 p (n+1) k=match iV (cg p k) (iE p k) with|some i=>((k:Int)+1,(i:Int),cg p k i)|none=>c8 p n (k+1):=rfl
  rw [e] at h
  cases hf:iV (cg p k) (iE p k) with
  | some i=>
   rw [hf] at h;unfold iV at hf;have:=List.find?_some hf;exact absurd h (by simpa using this)
  | none=>
   rw [hf] at h;obtain⟨h1,h2⟩:=Dg n (k+1) h;refine⟨fun j g1 g2 i hi=>?_,h2⟩
   by_cases hj:j=k
   ·subst hj;unfold iV at hf;rw [List.find?_eq_none] at hf;have:=hf i (List.mem_range.2 hi);simpa using this
   ·exact h1 j (by omega) (by omega) i hi
structure PD.good (p:PD):Prop where
 ok:p.ok
 gen:dR p=0
 Vu:∀ i,i<p.nf→ff (p.fm i).1 (p.fm i).2=0
 ins:∀ i,i<p.ni→tq p (p.GY i)=0
 nodes:∀ i,i<p.nn→jz p i (p.nd i)=0
 states:∀ i,i<p.ns→uj p i (p.st i)=0
 res:0≤p.res∧p.res<p.nn∧kj p p.res≠1
theorem wV(hp:p.ok) (h:(fJ p).2.2=0):p.good:=by
 have hg:=ML h;have e:fJ p=c8 p 4 0:=by unfold fJ;rw [if_neg (not_not_intro hg)]
 rw [e] at h;obtain⟨h1,h2⟩:=Dg 4 0 h;exact⟨hp,hg,h1 0 (by omega) (by omega),h1 1 (by omega) (by omega),h1 2 (by omega) (by omega),h1 3 (by omega) (by omega),h2⟩
theorem AN(hg:p.good) {i:Nat}(hi:i<p.nn):(1≤(p.nd i).op∧(p.nd i).op≤15)∧((p.nd i).op=2→0≤(p.nd i).a∧(p.nd i).a<p.ns)∧∀ x∈aZ (p.nd i),0≤x∧x<i:=by
 have h:=hg.nodes i hi;unfold jz at h
 by_cases c1:1≤(p.nd i).op∧(p.nd i).op≤15
 rotate_left
 ·rw [if_pos c1] at h;cases h
 rw [if_neg (not_not_intro c1)] at h;refine⟨c1,fun h2=>?_,?_⟩
 ·(repeat' split at h) <;> first|omega|cases h
 ·by_cases h3:(p.nd i).op=3
  ·intro x hx;unfold aZ at hx;rw [if_pos c1,h3] at hx
   cases hx
  ·rw [if_neg h3] at h
   have hk:(aZ (p.nd i)).all (dw p i)=true:=by
    cases hkk:(aZ (p.nd i)).all (dw p i) with
    | true=>rfl
    | false=>rw [hkk] at h;(repeat' split at h) <;> first|contradiction|(cases h;done)|(exfalso;simp_all)
   intro x hx;have:=List.all_eq_true.1 hk x hx;unfold dw at this;simp at this;omega
end Go.Am
namespace Go.Am
variable {p:PD}{k i:Nat}{l:List Bool}
def dM (l:List Bool)(k:Nat):Prop:=l.getD k false=true
theorem dM.lt(h:dM l k):k<l.length:=by
 unfold dM at h
 by_cases hk:k<l.length
 ·exact hk
 ·rw [List.getD_eq_getElem?_getD,List.getElem?_eq_none (by omega)] at h;cases h
theorem iK{j:Nat}:dM (l.set j true) k↔dM l k∨(k=j∧k<l.length):=by
 unfold dM;rw [List.getD_eq_getElem?_getD,List.getD_eq_getElem?_getD,List.getElem?_set]
 by_cases h:j=k
 ·subst h
  by_cases h2:j<l.length
  ·simp [h2]
  ·simp [h2]
 ·rw [if_neg h];constructor
  ·exact .inl
  ·rintro (h1|⟨h1,-⟩)
   ·exact h1
   ·exact absurd h1.symm h
theorem I1 {m:List Bool}(hl:l.length=m.length) (h:∀ k,dM l k↔dM m k):l=m:=by
 refine List.ext_getElem hl fun k h1 h2=>?_;have h3:=h k;unfold dM at h3;rw [List.getD_eq_getElem?_getD,List.getD_eq_getElem?_getD,List.getElem?_eq_getElem h1,List.getElem?_eq_getElem h2] at h3;simp only [Option.getD_some] at h3;exact Bool.eq_iff_iff.2 h3
theorem iR {n:Nat}:¬ dM (List.replicate n false) k:=by
 unfold dM;rw [List.getD_eq_getElem?_getD,List.getElem?_replicate];split <;> simp
def kX (l:List Bool)(ks:List Nat):List Bool:=ks.foldl (fun l k=>l.set k true) l
theorem vg:∀ (ks:List Nat) (l:List Bool),(kX l ks).length=l.length
 | [],_=>rfl
 | k::ks,l=>by rw [kX,List.foldl_cons];exact (vg ks _).trans List.length_set
theorem rB:∀ (ks:List Nat) {l:List Bool}{k:Nat},dM (kX l ks) k↔dM l k∨(k∈ks∧k<l.length)
 | [],l,k=>by simp [kX]
 | j::ks,l,k=>by
  have h:=rB ks (l:=l.set j true) (k:=k);rw [iK,List.length_set] at h;show dM (kX (l.set j true) ks) k↔_;rw [h,List.mem_cons];constructor
  ·rintro ((h|⟨h,h2⟩)|⟨h,h2⟩)
   ·exact .inl h
   ·exact .inr ⟨.inl h,h2⟩
   ·exact .inr ⟨.inr h,h2⟩
  ·rintro (h|⟨h|h,h2⟩)
   ·exact .inl (.inl h)
   ·exact .inl (.inr ⟨h,h2⟩)
   ·exact .inr ⟨h,h2⟩
theorem n9:∀ {l m:List Bool},l.length=m.length→(∀ k,dM l k→dM m k)→l.count true≤m.count true
 | [],[],_,_=>Nat.le_refl _
 | a::l,b::m,hl,h=>by
  have h0:=h 0;have h1:=n9 (l:=l) (m:=m) (by simpa using hl) fun k hk=>by simpa [dM] using h (k+1) (by simpa [dM] using hk)
  simp only [dM,List.getD_cons_zero] at h0;rw [List.count_cons,List.count_cons]
  cases a <;> cases b <;> simp at h0 ⊢ <;> omega
theorem uD:∀ {l m:List Bool},l.length=m.length→(∀ k,dM l k→dM m k)→∀ j,dM m j→¬ dM l j→l.count true<m.count true
 | [],[],_,_,j,hj,_=>by simp [dM] at hj
 | a::l,b::m,hl,h,0,hj,hn=>by
  have h1:=n9 (l:=l) (m:=m) (by simpa using hl) fun k hk=>by simpa [dM] using h (k+1) (by simpa [dM] using hk)
  simp only [dM,List.getD_cons_zero] at hj hn;rw [List.count_cons,List.count_cons]
  cases a <;> cases b <;> simp at hj hn ⊢ <;> omega
 | a::l,b::m,hl,h,j+1,hj,hn=>by
  have h0:=h 0;have h1:=uD (l:=l) (m:=m) (by simpa using hl) (fun k hk=>by simpa [dM] using h (k+1) (by simpa [dM] using hk)) j (by simpa [dM] using hj) (by simpa [dM] using hn);simp only [dM,List.getD_cons_zero] at h0;rw [List.count_cons,List.count_cons]
  cases a <;> cases b <;> simp at h0 ⊢ <;> omega
abbrev NS:=List Bool × List Bool
variable {s t u:NS}
def Fl (p:PD)(i:Nat):List Nat:=(aZ (p.nd i)).map Int.toNat++if (p.nd i).op=2 then [(p.st (p.nd i).a.toNat).1.toNat,(p.st (p.nd i).a.toNat).2.toNat] else []
def CC (p:PD)(i:Nat)(s:NS):NS:=(kX s.1 (Fl p i),if (p.nd i).op=2 then s.2.set (p.nd i).a.toNat true else s.2)
def fq (p:PD)(i:Nat)(s:NS):NS:=if s.1.getD i false=true then CC p i s else s
def je (p:PD):Nat→NS→NS
 | 0,s=>s
 | i+1,s=>je p i (fq p i s)
def gR (p:PD):Nat→NS→NS
 | 0,s=>s
 | r+1,s=>je p p.nn (gR p r s)
def j6 (p:PD):NS:=((List.replicate p.nn false).set p.res.toNat true,List.replicate p.ns false)
def wD (p:PD):NS:=gR p (p.ns+2) (j6 p)
def cN (p:PD):Nat→Nat→NS→NS
 | 0,_,s=>s
 | n+1,i,s=>if s.1.getD i false=true then s else
  let u:=((aZ (p.nd i)).map Int.toNat).foldl (fun s k=>cN p n k s) (s.1.set i true,s.2)
  if (p.nd i).op=2 then cN p n (p.st (p.nd i).a.toNat).2.toNat (cN p n (p.st (p.nd i).a.toNat).1.toNat (u.1,u.2.set (p.nd i).a.toNat true)) else u
def qG (p:PD):NS:=cN p p.nn p.res.toNat (List.replicate p.nn false,List.replicate p.ns false)
structure PD.nv (p:PD):Prop where
 res:p.res.toNat<p.nn
 TF:∀ i,i<p.nn→∀ k∈(aZ (p.nd i)).map Int.toNat,k<i
 st:∀ i,i<p.nn→(p.nd i).op=2→(p.nd i).a.toNat<p.ns∧(p.st (p.nd i).a.toNat).1.toNat<i∧(p.st (p.nd i).a.toNat).2.toNat<p.nn
def HK (p:PD)(s:NS)(x:Nat):Prop:=(∀ k∈Fl p x,dM s.1 k)∧((p.nd x).op=2→dM s.2 (p.nd x).a.toNat)
def jn (p:PD)(s:NS):Prop:=s.1.length=p.nn∧s.2.length=p.ns
def NB (p:PD)(X:Nat→Prop):Prop:=∀ i,i<p.nn→X i→∀ k∈Fl p i,X k
structure F7 (p:PD) (s t:NS):Prop where
 len:jn p t
 m1:∀ k,dM s.1 k→dM t.1 k
 m2:∀ k,dM s.2 k→dM t.2 k
 b:∀ a,dM t.2 a→dM s.2 a∨∃ x,x<p.nn∧dM t.1 x∧(p.nd x).op=2∧a=(p.nd x).a.toNat
theorem F7.refl(h:jn p s):F7 p s s:=⟨h,fun _ h=>h,fun _ h=>h,fun _ h=>.inl h⟩
theorem F7.trans(h:F7 p s t) (g:F7 p t u):F7 p s u:=
 ⟨g.len,fun k hk=>g.m1 k (h.m1 k hk),fun k hk=>g.m2 k (h.m2 k hk),fun a ha=>(g.b a ha).elim (fun ha=>(h.b a ha).imp id fun⟨x,h1,h2,h3⟩=>⟨x,h1,g.m1 x h2,h3⟩) .inr⟩
theorem HK.mono{x:Nat}(h:F7 p s t) (c:HK p s x):HK p t x:=⟨fun k hk=>h.m1 k (c.1 k hk),fun ho=>h.m2 _ (c.2 ho)⟩
structure LA (p:PD) (s:NS):Prop where
 len:jn p s
 res:dM s.1 p.res.toNat
 cl:∀ i,i<p.nn→dM s.1 i→HK p s i
 m1:∀ X:Nat→Prop,X p.res.toNat→NB p X→∀ i,dM s.1 i→X i
 m2:∀ a,dM s.2 a→∃ x,x<p.nn∧dM s.1 x∧(p.nd x).op=2∧a=(p.nd x).a.toNat
theorem LA.eq(h:LA p s) (g:LA p t):s=t:=by
 have key:∀ {s t:NS},LA p s→LA p t→∀ k,dM s.1 k→dM t.1 k:=fun h g=>h.m1 _ g.res fun i hi hx k hk=>(g.cl i hi hx).1 k hk
 have key2:∀ {s t:NS},LA p s→LA p t→∀ k,dM s.2 k→dM t.2 k:=fun h g k hk=>by
  obtain⟨x,h1,h2,h3,rfl⟩:=h.m2 k hk;exact (g.cl x h1 (key h g x h2)).2 h3
 exact Prod.ext (I1 (h.len.1.trans g.len.1.symm) fun k=>⟨key h g k,key g h k⟩) (I1 (h.len.2.trans g.len.2.symm) fun k=>⟨key2 h g k,key2 g h k⟩)
theorem N7(hv:p.nv)(hi:i<p.nn)(hk:k∈Fl p i):k<p.nn:=by
 unfold Fl at hk;rcases List.mem_append.1 hk with h|h
 ·have:=hv.TF i hi k h;omega
 ·split at h
  ·rename_i ho
   have:=hv.st i hi ho;simp only [List.mem_cons,List.not_mem_nil,or_false] at h;omega
  ·cases h
theorem uW(hv:p.nv)(hi:i<p.nn)(hl:jn p s) (h:dM s.1 i):F7 p s (CC p i s)∧HK p (CC p i s) i:=by
 have e1:∀ k,dM (CC p i s).1 k↔dM s.1 k∨(k∈Fl p i∧k<s.1.length):=fun k=>rB _
 refine⟨⟨⟨(vg _ _).trans hl.1,?_⟩,fun k hk=>(e1 k).2 (.inl hk),fun k hk=>?_,fun a ha=>?_⟩,fun k hk=>(e1 k).2 (.inr ⟨hk,by rw [hl.1];exact N7 hv hi hk⟩),fun ho=>?_⟩
 ·show (if _ then _ else _:List Bool).length=_;split
  ·rw [List.length_set];exact hl.2
  ·exact hl.2
 ·show dM (if _ then _ else _) k;split
  ·exact iK.2 (.inl hk)
  ·exact hk
 ·change dM (if _ then _ else _) a at ha;split at ha
  ·rename_i ho
   rcases iK.1 ha with h1|⟨h1,-⟩
   ·exact .inl h1
   ·exact .inr ⟨i,hi,(e1 i).2 (.inl h),ho,h1⟩
  ·exact .inl ha
 ·show dM (if _ then _ else _) _;rw [if_pos ho];exact iK.2 (.inr ⟨rfl,by rw [hl.2];exact (hv.st i hi ho).1⟩)
theorem jP(hv:p.nv)(hi:i<p.nn)(hl:jn p s):F7 p s (fq p i s):=by
 unfold fq;split
 ·rename_i h;exact (uW hv hi hl h).1
 ·exact .refl hl
theorem vj {p:PD}(hv:p.nv):∀ (i:Nat),i≤p.nn→∀ {s:NS},jn p s→F7 p s (je p i s)
 | 0,_,_,hl=>.refl hl
 | i+1,hi,s,hl=>(jP hv hi hl).trans (vj hv i (by omega) (jP hv hi hl).len)
theorem r9 {p:PD}{X:Nat→Prop}(hX:NB p X):∀ (i:Nat),i≤p.nn→∀ {s:NS},(∀ k,dM s.1 k→X k)→∀ k,dM (je p i s).1 k→X k
 | 0,_,_,h=>h
 | i+1,hi,s,h=>r9 hX i (by omega) (s:=fq p i s) fun k hk=>by
  unfold fq at hk;split at hk
  ·rename_i hin
   rcases (rB _).1 hk with h1|⟨h1,-⟩
   ·exact h k h1
   ·exact hX i hi (h i hin) k h1
  ·exact h k hk
def Pu (p:PD)(s:NS):Prop:=∀ a,dM s.2 a→dM s.1 (p.st a).2.toNat
theorem yA(hv:p.nv)(hi:i<p.nn)(hl:jn p s) (hA:Pu p s):Pu p (fq p i s):=by
 have hm:=jP hv hi hl;intro a ha
 by_cases h0:dM s.2 a
 ·exact hm.m1 _ (hA a h0)
 ·unfold fq at ha ⊢;split at ha
  ·rename_i hin
   rw [if_pos hin];change dM (if _ then _ else _) a at ha;split at ha
   ·rename_i ho
    rcases iK.1 ha with h1|⟨h1,-⟩
    ·exact absurd h1 h0
    ·refine (rB _).2 (.inr ⟨?_,by rw [hl.1,h1];exact (hv.st i hi ho).2.2⟩);unfold Fl;rw [if_pos ho,h1];simp
   ·exact absurd ha h0
  ·exact absurd ha h0
theorem F5 {p:PD}(hv:p.nv):∀ (i:Nat),i≤p.nn→∀ {s:NS},jn p s→Pu p s→Pu p (je p i s)
 | 0,_,_,_,h=>h
 | i+1,hi,_,hl,h=>F5 hv i (by omega) (jP hv hi hl).len (yA hv hi hl h)
theorem BN {p:PD}(hv:p.nv):∀ (i:Nat),i≤p.nn→∀ {s:NS},jn p s→Pu p s→(∀ a,dM (je p i s).2 a→dM s.2 a)→(∀ x,i≤x→x<p.nn→dM s.1 x→HK p s x) →
 ∀ x,x<p.nn→dM (je p i s).1 x→HK p (je p i s) x
 | 0,_,_,_,_,_,h=>fun x=>h x (Nat.zero_le _)
 | i+1,hi,s,hl,hA,hS,h=>by
  have hm:=jP hv hi hl;have hm2:=vj hv i (by omega) hm.len;refine BN hv i (by omega) hm.len (yA hv hi hl hA) (fun a ha=>hm.m2 a (hS a ha)) fun x hx hxn hin=>?_
  by_cases hxi:x=i
  ·subst hxi
   by_cases h0:dM s.1 x
   ·have e:fq p x s=CC p x s:=if_pos h0;rw [e];exact (uW hv hxn hl h0).2
   ·have e:fq p x s=s:=if_neg h0;rw [e] at hin;exact absurd hin h0
  ·have hin0:dM s.1 x:=by
    by_cases h0:dM s.1 i
    ·have e:fq p i s=CC p i s:=if_pos h0;rw [e] at hin;rcases (rB _).1 hin with h1|⟨h1,-⟩
     ·exact h1
     ·unfold Fl at h1;rcases List.mem_append.1 h1 with h2|h2
      ·have:=hv.TF i hi x h2;omega
      ·split at h2
       ·rename_i ho
        have h3:=hv.st i hi ho;simp only [List.mem_cons,List.not_mem_nil,or_false] at h2;rcases h2 with h2|h2
        ·omega
        ·rw [h2];refine hA _ (hS _ (hm2.m2 _ ?_));rw [e];exact (uW hv hi hl h0).2.2 ho
       ·cases h2
    ·have e:fq p i s=s:=if_neg h0;rw [e] at hin;exact hin
   exact (h x (by omega) hxn hin0).mono hm
theorem wA {p:PD}(hv:p.nv):∀ r,F7 p (j6 p) (gR p r (j6 p))∧Pu p (gR p r (j6 p))∧(∀ X:Nat→Prop,X p.res.toNat→NB p X→∀ i,dM (gR p r (j6 p)).1 i→X i) ∧
 ((∀ i,i<p.nn→dM (gR p r (j6 p)).1 i→HK p (gR p r (j6 p)) i)∨r≤(gR p r (j6 p)).2.count true)
 | 0=>by
  have hl:jn p (j6 p):=⟨by unfold j6;simp,by unfold j6;simp⟩
  refine⟨.refl hl,fun a ha=>absurd ha iR,fun X hX _ i hi=>?_,.inr (Nat.zero_le _)⟩;rcases iK.1 hi with h1|⟨h1,-⟩
  ·exact absurd h1 iR
  ·rw [h1];exact hX
 | r+1=>by
  obtain⟨h1,h2,h3,h4⟩:=wA hv r;have hm:=vj hv p.nn (Nat.le_refl _) h1.len;refine⟨h1.trans hm,F5 hv _ (Nat.le_refl _) h1.len h2,fun X hX hc=>r9 hc _ (Nat.le_refl _) (h3 X hX hc),?_⟩;show (∀ i,i<p.nn→dM (je p p.nn (gR p r (j6 p))).1 i→_)∨r+1≤(je p p.nn (gR p r (j6 p))).2.count true;rcases h4 with h4|h4
  ·refine .inl fun i hi hin=>(h4 i hi ?_).mono hm
   exact r9 (X:=fun k=>dM (gR p r (j6 p)).1 k) (fun i hi hx k hk=>(h4 i hi hx).1 k hk) _ (Nat.le_refl _) (fun k hk=>hk) i hin
  ·by_cases hS:∀ a,dM (je p p.nn (gR p r (j6 p))).2 a→dM (gR p r (j6 p)).2 a
   ·exact .inl (BN hv _ (Nat.le_refl _) h1.len h2 hS fun x hx hxn=>absurd hx (by omega))
   ·refine .inr ?_;rw [Classical.not_forall] at hS;obtain⟨a,ha⟩:=hS;rw [Classical.not_imp] at ha;have:=uD (h1.len.2.trans hm.len.2.symm) hm.m2 a ha.1 ha.2;omega
theorem F9(hv:p.nv):LA p (wD p):=by
 obtain⟨h1,h2,h3,h4⟩:=wA hv (p.ns+2);refine⟨h1.len,h1.m1 _ ?_,?_,h3,fun a ha=>(h1.b a ha).elim (fun h=>absurd h iR) id⟩
 ·exact iK.2 (.inr ⟨rfl,by rw [List.length_replicate];exact hv.res⟩)
 ·rcases h4 with h4|h4
  ·exact h4
  ·have:=List.count_le_length (a:=true) (l:=(gR p (p.ns+2) (j6 p)).2);rw [h1.len.2] at this;omega
structure Mk (p:PD) (s t:NS):Prop extends mos:F7 p s t where
 c:∀ x,x<p.nn→dM t.1 x→dM s.1 x∨HK p t x
theorem Mk.refl(h:jn p s):Mk p s s:=⟨.refl h,fun _ _ h=>.inl h⟩
theorem Mk.trans(h:Mk p s t) (g:Mk p t u):Mk p s u:=
 ⟨h.mos.trans g.mos,fun x hx hi=>(g.c x hx hi).elim (fun hi=>(h.c x hx hi).imp id (HK.mono g.mos)) .inr⟩
def Min (p:PD)(s t:NS):Prop:=∀ X:Nat→Prop,NB p X→(∀ k,dM s.1 k→X k)→∀ k,dM t.1 k→X k
def xh (l:List Bool):Nat:=l.length - l.count true
theorem Ko {p:PD}{n:Nat}(ih:∀ i s,i<p.nn→jn p s→xh s.1≤n→Mk p s (cN p n i s)∧dM (cN p n i s).1 i∧∀ X:Nat→Prop,NB p X→X i→(∀ k,dM s.1 k→X k)→∀ k,dM (cN p n i s).1 k→X k) :
 ∀ (l:List Nat) (s:NS),(∀ k∈l,k<p.nn)→jn p s→xh s.1≤n →
  Mk p s (l.foldl (fun s k=>cN p n k s) s)∧(∀ k∈l,dM (l.foldl (fun s k=>cN p n k s) s).1 k)∧∀ X:Nat→Prop,NB p X→(∀ k∈l,X k)→(∀ k,dM s.1 k→X k)→∀ k,dM (l.foldl (fun s k=>cN p n k s) s).1 k→X k
 | [],s,_,hl,_=>⟨.refl hl,fun _ h=>(by cases h),fun _ _ _ h=>h⟩
 | j::l,s,hk,hl,hf=>by
  obtain⟨h1,h2,h3⟩:=ih j s (hk j (by simp)) hl hf
  have hf2:xh (cN p n j s).1≤n:=by
   have:=n9 (hl.1.trans h1.len.1.symm) h1.m1;unfold xh at hf ⊢;rw [h1.len.1];rw [hl.1] at hf;omega
  obtain⟨g1,g2,g3⟩:=Ko ih l _ (fun k hx=>hk k (by simp [hx])) h1.len hf2;refine⟨h1.trans g1,fun k hx=>?_,fun X hX hall hs=>g3 X hX (fun k hx=>hall k (by simp [hx])) (h3 X hX (hall j (by simp)) hs)⟩;rcases List.mem_cons.1 hx with rfl|hx
  ·exact g1.m1 _ h2
  ·exact g2 k hx
theorem qD {p:PD}(hv:p.nv):∀ (n i:Nat) (s:NS),i<p.nn→jn p s→xh s.1≤n→Mk p s (cN p n i s)∧dM (cN p n i s).1 i∧∀ X:Nat→Prop,NB p X→X i→(∀ k,dM s.1 k→X k)→∀ k,dM (cN p n i s).1 k→X k
 | 0,i,s,hi,hl,hf=>by
  have hin:dM s.1 i:=by
   have h1:s.1.count true=s.1.length:=by have:=List.count_le_length (a:=true) (l:=s.1);unfold xh at hf;omega
   have h2:=List.count_eq_length.1 h1;unfold dM;rw [List.getD_eq_getElem?_getD,List.getElem?_eq_getElem (by rw [hl.1];exact hi)];exact (h2 _ (List.getElem_mem _)).symm
  exact⟨.refl hl,hin,fun _ _ _ h=>h⟩
 | n+1,i,s,hi,hl,hf=>by
  unfold cN
  by_cases hin:s.1.getD i false=true
  ·rw [if_pos hin];exact⟨.refl hl,hin,fun _ _ _ h=>h⟩
  rw [if_neg hin];have ih:=qD hv n;obtain⟨s1,hs1⟩:∃ s1:NS,s1=(s.1.set i true,s.2):=⟨_,rfl⟩
  have hl1:jn p s1:=by rw [hs1];exact⟨by rw [List.length_set];exact hl.1,hl.2⟩
  have i1:∀ k,dM s1.1 k↔dM s.1 k∨k=i:=fun k=>by
   rw [hs1];refine iK.trans ⟨fun h=>h.imp id (·.1),fun h=>h.imp id fun h=>⟨h,by rw [h,hl.1];exact hi⟩⟩
  have m01:F7 p s s1:=⟨hl1,fun k hk=>(i1 k).2 (.inl hk),fun k hk=>by rw [hs1];exact hk,fun a ha=>by rw [hs1] at ha;exact .inl ha⟩
  have hf1:xh s1.1≤n:=by
   have h1:=uD (hl.1.trans hl1.1.symm) m01.m1 i ((i1 i).2 (.inr rfl)) hin;have h2:=List.count_le_length (a:=true) (l:=s1.1);unfold xh at hf ⊢;rw [hl1.1] at h2 ⊢;rw [hl.1] at hf;omega
  rw [← hs1];have hkl:∀ k∈(aZ (p.nd i)).map Int.toNat,k<p.nn:=fun k hk=>Nat.lt_trans (hv.TF i hi k hk) hi
  obtain⟨h1,h2,h3⟩:=Ko ih _ s1 hkl hl1 hf1;obtain⟨u,hu⟩:∃ u,((aZ (p.nd i)).map Int.toNat).foldl (fun s k=>cN p n k s) s1=u:=⟨_,rfl⟩
  rw [hu] at h1 h2 h3;simp only [hu]
  have fl:∀ {t:NS},F7 p s1 t→xh t.1≤n:=fun {t} ht=>by
   have:=n9 (hl1.1.trans ht.len.1.symm) ht.m1;unfold xh at hf1 ⊢;rw [ht.len.1];rw [hl1.1] at hf1;omega
  have fin:∀ {t:NS},Mk p s1 t→HK p t i→Mk p s t∧dM t.1 i:=fun {t} ht hc=>by
   refine⟨⟨m01.trans ht.mos,fun x hx hxi=>?_⟩,ht.m1 _ ((i1 i).2 (.inr rfl))⟩;rcases ht.c x hx hxi with h|h
   ·rcases (i1 x).1 h with h|rfl
    ·exact .inl h
    ·exact .inr hc
   ·exact .inr h
  by_cases ho:(p.nd i).op=2
  ·rw [if_pos ho];obtain⟨b1,b2,b3⟩:=hv.st i hi ho;obtain⟨v,hvv⟩:∃ v:NS,v=(u.1,u.2.set (p.nd i).a.toNat true):=⟨_,rfl⟩
   rw [← hvv];have lv:jn p v:=by rw [hvv];exact⟨h1.len.1,by rw [List.length_set];exact h1.len.2⟩
   have iv:dM u.1 i:=h1.m1 _ ((i1 i).2 (.inr rfl))
   have muv:Mk p u v:=by
    rw [hvv];refine⟨⟨by rw [hvv] at lv;exact lv,fun _ h=>h,fun k hk=>iK.2 (.inl hk),fun a ha=>?_⟩,fun x _ h=>.inl h⟩;rcases iK.1 ha with h|⟨h,-⟩
    ·exact .inl h
    ·exact .inr ⟨i,hi,iv,ho,h⟩
   have mv:=h1.trans muv;obtain⟨c1,c2,c3⟩:=ih _ v (Nat.lt_trans b2 hi) lv (fl mv.mos);generalize cN p n (p.st (p.nd i).a.toNat).1.toNat v=w at *
   have mw:=mv.trans c1;obtain⟨d1,d2,d3⟩:=ih _ w b3 c1.len (fl mw.mos);generalize cN p n (p.st (p.nd i).a.toNat).2.toNat w=t at *
   have mt:=mw.trans d1
   have hc:HK p t i:=by
    refine⟨fun k hk=>?_,fun _=>d1.m2 _ (c1.m2 _ ?_)⟩
    ·unfold Fl at hk;rcases List.mem_append.1 hk with h|h
     ·exact d1.m1 _ (c1.m1 _ (muv.m1 _ (h2 k h)))
     ·rw [if_pos ho] at h;simp only [List.mem_cons,List.not_mem_nil,or_false] at h;rcases h with rfl|rfl
      ·exact d1.m1 _ c2
      ·exact d2
    ·rw [hvv];exact iK.2 (.inr ⟨rfl,by rw [h1.len.2];exact b1⟩)
   obtain⟨f1,f2⟩:=fin mt hc;refine⟨f1,f2,fun X hX hi' hs=>?_⟩;have hsu:∀ k∈Fl p i,X k:=hX i hi hi';have hsu2:∀ k∈[(p.st (p.nd i).a.toNat).1.toNat,(p.st (p.nd i).a.toNat).2.toNat],X k:=fun k hk=>hsu k (by unfold Fl;rw [if_pos ho];exact List.mem_append.2 (.inr hk))
   refine d3 X hX (hsu2 _ (by simp)) (c3 X hX (hsu2 _ (by simp)) ?_);rw [hvv];refine h3 X hX (fun k hk=>hsu k (List.mem_append.2 (.inl hk))) fun k hk=>?_;rcases (i1 k).1 hk with h|rfl
   ·exact hs k h
   ·exact hi'
  ·rw [if_neg ho]
   have hc:HK p u i:=by
    refine⟨fun k hk=>?_,fun h=>absurd h ho⟩;unfold Fl at hk;rw [if_neg ho,List.append_nil] at hk;exact h2 k hk
   obtain⟨f1,f2⟩:=fin h1 hc;refine⟨f1,f2,fun X hX hi' hs=>h3 X hX (fun k hk=>hX i hi hi' k (List.mem_append.2 (.inl hk))) fun k hk=>?_⟩;rcases (i1 k).1 hk with h|rfl
   ·exact hs k h
   ·exact hi'
theorem JP(hv:p.nv):LA p (qG p):=by
 have hl:jn p (List.replicate p.nn false,List.replicate p.ns false):=⟨by simp,by simp⟩
 obtain⟨h1,h2,h3⟩:=qD hv p.nn p.res.toNat _ hv.res hl (by unfold xh;simp);exact⟨h1.len,h2,fun i hi hin=>(h1.c i hi hin).elim (fun h=>absurd h iR) id,fun X hX hc=>h3 X hc hX fun k hk=>absurd hk iR,fun a ha=>(h1.b a ha).elim (fun h=>absurd h iR) id⟩
theorem Me(hv:p.nv):qG p=wD p:=(JP hv).eq (F9 hv)
theorem uz(hg:p.good):p.nv:=by
 have hst:∀ a,a<p.ns→(0≤(p.st a).1∧(p.st a).1<p.head)∧(0≤(p.st a).2∧(p.st a).2<p.tail):=fun a ha=>by
  have h:=hg.states a ha;unfold uj at h
  by_cases c1:0≤(p.st a).1∧(p.st a).1<p.head
  ·rw [if_neg (not_not_intro c1)] at h
   by_cases c2:0≤(p.st a).2∧(p.st a).2<p.tail
   ·exact⟨c1,c2⟩
   ·rw [if_pos c2] at h;cases h
  ·rw [if_pos c1] at h;cases h
 refine⟨by have:=hg.res;omega,fun i hi k hk=>?_,fun i hi ho=>?_⟩
 ·obtain⟨x,hx,rfl⟩:=List.mem_map.1 hk;have:=(AN hg hi).2.2 x hx;omega
 ·have ha:=(AN hg hi).2.1 ho;have hs:=hst (p.nd i).a.toNat (by omega)
  have hh:p.head≤i:=by
   have h:=hg.nodes i hi;unfold jz at h;rw [ho] at h
   by_cases c:(i:Int)<p.head
   ·exfalso;have n1:¬ ((2:Int)=1):=by decide
    simp only [n1,false_and,if_false,true_and,c,true_or,if_true] at h
    (repeat' split at h) <;> cases h
   ·omega
  have ht:=ij hg.gen;omega
end Go.Am
namespace Go.Am
open Go.Am.Ty Go.Proofs N
variable {lv:Key→LB}{T:TypeId}{p:PD}{i B:Nat}{l:List Bool}{c:Ctx}{s s0:NS}{P:Program}{own fz:Bool}{fn:Func}{fr:Nat→AV}
def bD (l:List Bool):List (List DV):=l.map fun x=>[DV.bool x]
def bC:Option (List Bool)→CV
 | none=>.d .nilsl
 | some l=>.d (.sl (bD l))
def bL (o:Option (List Bool)):List Bool:=o.getD []
theorem I0 (o:Option (List Bool)):bC o=hO (o.map bD):=by cases o <;> rfl
@[simp] theorem A2 (o:Option (List Bool)):(AV.c (bC o)).pure=true:=by cases o <;> rfl
@[simp] theorem vZ (o:Option (List Bool)):(AV.c (bC o)).bV=true:=by cases o <;> rfl
@[simp] theorem Tk (o:Option (List Bool))(g:Key→Key):(bC o).b6 g=bC o:=by cases o <;> rfl
def bK (l:List Bool):List CV:=l.map fun x=>CV.d (.bool x)
@[simp] theorem TN (l:List Bool):(bK l).length=l.length:=by simp [bK]
theorem Ay(ha:cV P T=some false)(h:i<l.length):eK P T ((bK l).drop i)=some (.c (.d (.bool l[i]))):=by
 have:(bK l).drop i=CV.d (.bool l[i])::(bK l).drop (i+1):=by
  rw [List.drop_eq_getElem_cons (by simpa using h)];simp [bK]
 rw [this];simp [ha]
theorem D3 (l:List Bool):bK l=(l.map fun x=>DV.bool x).map CV.d:=by simp [bK]
theorem AE (n:Nat):bK (List.replicate n false)=List.replicate n (CV.d (.bool false)):=by unfold bK;rw [List.map_replicate]
theorem pR (l:List Bool)(i:Nat)(x:Bool)(h:i<l.length):aj (bK l) i [CV.d (.bool x)]=bK (l.set i x):=by
 unfold aj bK;rw [List.map_set,List.set_eq_take_append_cons_drop,if_pos (by simpa using h)];simp
theorem zw (l:List Bool)(g:Key→Key):(LB.cells true false 4 (bK l)).like (.cells true false 4 (bK l)) g:=by
 rw [D3];exact Fm ..
theorem FZ{k:Key}(h:lv k=.cells own fz T (bK l)) (hl:l.length≤1000):fI lv (.c (.aV k 0 l.length 1))=some (.c (bC (some l)),[k]):=by
 have:=Iw (l:=l.map fun x=>DV.bool x) (by rw [← D3];exact h) (by simpa using hl);rw [List.length_map,List.map_map] at this;exact this
theorem Vm(h:(eI Tryz.prog T).isSome=true) (lv:Key→LB) (o:Option (List Bool)):fc Tryz.prog T lv (.c (bC o))=some (.c (.d (.int .i64 (bL o).length)),[],[],True):=by
 rw [I0];rw [dJ h]
 cases o <;> simp [sO,bL,bD]
theorem Vz(h:(eI Tryz.prog T).map (·.2)=some 1) (lv:Key→LB) (o:Option (List Bool))(hi:i<(bL o).length):ak Tryz.prog T lv (.c (bC o)) (.c (.d (.int .i64 (i:Int))))=some (.c (.d (.ptr [.bool (bL o)[i]])),[],[],True):=by
 cases o with
 | none=>cases hi
 | some l=>
  rw [I0];have hi0:i<l.length:=hi;have hi':i<(sO (Option.map bD (some l))).length:=by show i<(bD l).length;unfold bD;rw [List.length_map];exact hi0
  have e:(sO (Option.map bD (some l)))[i]=[.bool (bL (some l))[i]]:=by simp [sO,bD,bL]
  rw [wN h hi' (by rw [e];rfl),e];rfl
theorem On (a:Bool):aM Tryz.prog .neq 4 (.c (.d (.bool a))) (.c (.d (.bool a)))=some (.c (.d (.bool false)),[],[],True):=by
 cases a <;> kernel_rfl
theorem BS (G:List (List DV))(o:Option (List Bool))(hl:(bL o).length≤1000):aa Tryz.prog G 30 [.c (bC o),.c (bC o)] (.c (.d (.bool true))):=by
 have la:=fun lv=>Vm (T:=44) (by simp) lv o
 have xa:=fun lv (i:Nat) hi=>Vz (T:=44) (by simp) lv o (i:=i) hi
 have fa:=vZ o;have pa:=A2 o;generalize bL o=l at *
 generalize bC o=za at *
 refine aa.en Tryz.func30 rfl fun _=>aab ?_;refine aaa fun K hK=>aan la ?_;refine aak (aac (hK _ _ (aaa fun K hK=>aab ?_)));refine aaf ?_;refine aao (fun (i:Nat)=>⟨bh [(0,.c za),(1,.c za),(5,.c (.d (.int .i64 (i:Int))))],fun _=>.hole⟩) 0 (fun i=>i≤l.length) (fun i=>l.length - i) 0 (Le.mk' _ rfl az (by simp [fa])) (Nat.zero_le _) ?_;rintro i hi
 try simp only at hi
 refine aaa fun K3 hK3=>aan la ?_
 by_cases hlt:i<l.length
 ·have hlt':(i:Int)<(l.length:Int):=by omega
  have f12:=bM (n:=(i:Int)+1) (by omega) (by omega);have xa1:=fun lv=>xa lv i hlt
  refine aah (by simp [hlt'] <;> omega) (aac (hK3 _ _ (aaa fun K5 hK5=>aaf (AW.d2 mixed xa1 @On ?_))));refine aak (aac (hK5 _ _ (aad ?_)));simp [f12];exact⟨i+1,Le.mk' _ rfl az (by simp [fa]),by omega,by omega⟩
 ·have hlt':¬ (i:Int)<(l.length:Int):=by omega
  refine aag (by simp [hlt'] <;> omega) (aam (hK _ _ (aab ?_)));exact aae (aq.rt rfl 4 (by simp))
theorem CL(h:i<l.length):l.getD i false=l[i]:=by
 rw [List.getD_eq_getElem?_getD,List.getElem?_eq_getElem h];rfl
theorem FU(hg:p.good)(hi:i<p.ns):0≤(p.st i).1∧(p.st i).1<p.nn∧0≤(p.st i).2∧(p.st i).2<p.nn:=by
 have h:=hg.states i hi;have hr:=ij hg.gen;unfold uj at h
 by_cases c1:0≤(p.st i).1∧(p.st i).1<p.head
 ·rw [if_neg (not_not_intro c1)] at h
  by_cases c2:0≤(p.st i).2∧(p.st i).2<p.tail
  ·omega
  ·rw [if_pos c2] at h;cases h
 ·rw [if_pos c1] at h;cases h
theorem M9(hp:p.ok) (lv:Key→LB) (i:Nat) (hi:i<p.ns):ak Tryz.prog 25 lv (.c (hO p.states)) (.c (.d (.int .i64 (i:Int))))=some (.c (.d (.ptr (PZ (p.st i)))),[],[],True):=by
 have:=TD hp lv (i:Int) (by omega) (by omega)
 rwa [Int.toNat_natCast] at this
abbrev mC (p:PD)(k1 k2:Key)(a b:Nat):List CV:=[hO p.f,.d (.int .i64 p.mode),hO p.ins,hO p.nodes,.d (.int .i64 p.head),.d (.int .i64 p.tail),hO p.states,.d (.int .i64 p.res),.aV k1 0 a 1,.aV k2 0 b 1]
def mS (p:PD)(s:NS):List LB:=[.cells false false 84 (mC p 1 2 s.1.length s.2.length),.cells false false 4 (bK s.1),.cells false false 4 (bK s.2)]
theorem pP (l:List Bool)(g:Key→Key):(bK l).map (CV.b6 g)=bK l:=by unfold bK;rw [List.map_map];rfl
theorem zI (a b c:LB):bF [a,b,c] []=aG (aG (aG (fun _=>.hole) 0 a) 1 b) 2 c:=by
 have h:=yR [a,b] c (by simp);rw [show [a,b]++[c]=[a,b,c] from rfl] at h;rw [h];have h:=yR [a] b (by simp);rw [show [a]++[b]=[a,b] from rfl] at h;rw [h,wk];rfl
theorem Ql (lv:Key→LB)(n:Nat)(l:List Bool):(bK l).flatMap (ld lv n)=[]:=by
 unfold bK;rw [List.flatMap_map,List.flatMap_eq_nil_iff];intro x _;cases n <;> rfl
theorem Mo (lv:Key→LB)(n:Nat)(o:Option (List (List DV))):ld lv n (hO o)=[]:=by cases o <;> cases n <;> rfl
theorem Jc (lv:Key→LB)(n:Nat)(x:DV):ld lv n (.d x)=[]:=by cases n <;> rfl
@[simp] theorem O0{a b c:Key × LB}:bk lv [a,b,c]=aG (aG (aG lv a.1 a.2) b.1 b.2) c.1 c.2:=rfl
theorem ag.mk{K:AV→List (Key × LB)→List Key→Nat→Prop}(κ' kh k0 k1 k2:Key) (own:Bool){t:NS}{i:Int}(hc:aL c.P c.G 106 [.c (.ptr 0 0),.c (.d (.int .i64 i))] (mS p s) (.ret (.tup []) (mS p t) []))
 (hK:K (.tup []) [(k0,.cells own false 84 (mC p k1 k2 t.1.length t.2.length)),(k1,.cells own false 4 (bK t.1)),(k2,.cells own false 4 (bK t.2))] [k0,k1,k2,kh] κ')
 (h0:lv k0=.cells own false 84 (mC p k1 k2 s.1.length s.2.length):=by simp) (h1:lv k1=.cells own false 4 (bK s.1):=by simp) (h2:lv k2=.cells own false 4 (bK s.2):=by simp) (hh:lv kh=.hole:=by simp) (hd:[k0,k1,k2,kh].Nodup:=by decide) :
 ag c 106 [.c (.ptr k0 0),.c (.d (.int .i64 i))] lv K:=by
 have hd1:([k0,k1,k2]:List Key).Nodup:=by simp only [List.nodup_cons,List.mem_cons,List.not_mem_nil,or_false,not_or,List.nodup_nil,and_true,not_false_eq_true] at hd ⊢;simp [hd.1,hd.2]
 have hd2:kh ∉ ([k0,k1,k2]:List Key):=by simp only [List.nodup_cons,List.mem_cons,List.not_mem_nil,or_false,not_or] at hd ⊢;exact⟨fun h=>hd.1.2.2 h.symm,fun h=>hd.2.1.2 h.symm,fun h=>hd.2.2.1 h.symm⟩
 have g0:aJ [k0,k1,k2] [] kh 0=k0:=rfl;have g1:aJ [k0,k1,k2] [] kh 1=k1:=rfl;have g2:aJ [k0,k1,k2] [] kh 2=k2:=rfl;refine ag.Rq κ' kh own [k0,k1,k2] [] _ _ _ [k0,k1,k2,kh] hc (by simpa using hd1) (by simpa using hd2) rfl rfl rfl (by simp [mS]) ?_ (by simp) hh ?_ ?_ ?_ rfl ?_ ?_ (by simp) ?_
 ·intro j q1 q2;have hj:j=0∨j=1∨j=2:=by simp at q1;omega
  rcases hj with rfl|rfl|rfl
  ·refine⟨own,_,h0,?_,fun h=>by cases h⟩;simp [g1,g2]
  ·exact⟨own,_,h1,(pP _ _).symm,fun h=>by cases h⟩
  ·exact⟨own,_,h2,(pP _ _).symm,fun h=>by cases h⟩
 ·simp [mS,LB.pass]
 ·simp [mS]
 ·intro ho k hk;subst ho;simp only [List.mem_cons,List.not_mem_nil,or_false] at hk;rcases hk with rfl|rfl|rfl
  ·rw [h0];rfl
  ·rw [h1];rfl
  ·rw [h2];rfl
 ·intro j q1 q2;have hj:j=0∨j=1:=by simp at q1;omega
  rcases hj with rfl|rfl
  ·exact⟨rfl,by simp [g0]⟩
  ·exact⟨rfl,rfl⟩
 ·intro x hx k hk;simp only [List.mem_cons,List.not_mem_nil,or_false] at hx;rcases hx with rfl|rfl
  ·simp [om,ld,h0,h1,h2,Mo,Jc,Ql] at hk;rcases hk with rfl|rfl|rfl <;> simp
  ·simp [om,Jc] at hk
 ·have e:cH (aJ [k0,k1,k2] [] kh) own [k0,k1,k2] (mS p t)++cH (aJ [k0,k1,k2] [] kh) own [] []=[(k0,.cells own false 84 (mC p k1 k2 t.1.length t.2.length)),(k1,.cells own false 4 (bK t.1)),(k2,.cells own false 4 (bK t.2))]:=by
   simp [cH,mS,LB.fix,pP,g1,g2]
  rw [e];exact hK
abbrev Pc (p:PD)(s:NS):Key→LB:=aG (aG (aG (fun _=>.hole) 0 (.cells false false 84 (mC p 1 2 s.1.length s.2.length))) 1 (.cells false false 4 (bK s.1))) 2 (.cells false false 4 (bK s.2))
abbrev mM (p:PD)(s:NS):List (Key × Key × LB):=[(0,0,.cells false false 84 (mC p 1 2 s.1.length s.2.length)),(1,1,.cells false false 4 (bK s.1)),(2,2,.cells false false 4 (bK s.2))]
theorem Iv (p:PD)(s:NS){g:Key→Key}(h1:g 1=1) (h2:g 2=2) (a b:Nat):(mC p 1 2 a b).map (CV.b6 g)=mC p 1 2 a b:=by simp [h1,h2]
theorem OG(hr:fn.results=#[]){κ:Nat}(hl0:c.kB=Pc p s0) (h0:lv 0=.cells false false 84 (mC p 1 2 s.1.length s.2.length)) (h1:lv 1=.cells false false 4 (bK s.1)) (h2:lv 2=.cells false false 4 (bK s.2)) (h9:lv 9=.hole) :
 OW c fn (.tup []) (mS p s) [] .normal ⟨fr,lv⟩ κ:=by
 refine⟨mM p s,9,zI _ _ _,by simp,by simp,h9,?_,?_,rfl,by rw [hr];rfl⟩
 ·intro k hk;rw [hl0] at hk
  by_cases q0:k=0
  ·subst q0;exact .inr rfl
  by_cases q1:k=1
  ·subst q1;exact .inr rfl
  by_cases q2:k=2
  ·subst q2;exact .inr rfl
  exact absurd (by unfold Pc aG;rw [if_neg q2,if_neg q1,if_neg q0]) hk
 ·intro e he;simp only [List.mem_cons,List.not_mem_nil,or_false] at he;rcases he with rfl|rfl|rfl
  ·show (lv 0).like _ _;rw [h0];exact⟨false,_,rfl,(Iv p s rfl rfl _ _).symm,id⟩
  ·show (lv 1).like _ _;rw [h1];exact⟨false,_,rfl,(pP _ _).symm,id⟩
  ·show (lv 2).like _ _;rw [h2];exact⟨false,_,rfl,(pP _ _).symm,id⟩
abbrev bX (n:Nd):LB:=.cells true false 55 [.d (.int .i64 n.op),.d (.int .i64 n.a),.d (.int .i64 n.b),.d (.int .i64 n.c),.d (.int .i64 n.d),.d (.int .i64 n.f),.d (.str n.v)]
theorem Nj{n:Nd}(hl0:c.kB=Pc p s0) (l:List (Nat × AV)) (h0:lv 0=.cells false false 84 (mC p 1 2 s.1.length s.2.length)) (h1:lv 1=.cells false false 4 (bK s.1)) (h2:lv 2=.cells false false 4 (bK s.2)) (h3:lv 10=bX n) (h9:lv 9=.hole)
 (hl:∀ x∈l,x.2.bV=true∧fr x.1=x.2.b6 (cK (mM p s++[(10,10,bX n)]) 9)):Le c ⟨fr,lv⟩ ⟨bh l,aG (Pc p s) 10 (bX n)⟩:=by
 refine⟨_,dh.keys (s:=⟨fr,lv⟩) (mM p s++[(10,10,bX n)]) 9 l rfl ?_ (by simp) (by simp) h9 ?_ hl⟩
 ·intro k hk;rw [hl0] at hk
  by_cases q0:k=0
  ·subst q0;exact .inr rfl
  by_cases q1:k=1
  ·subst q1;exact .inr rfl
  by_cases q2:k=2
  ·subst q2;exact .inr rfl
  exact absurd (by unfold Pc aG;rw [if_neg q2,if_neg q1,if_neg q0]) hk
 ·intro e he;simp only [List.cons_append,List.nil_append,List.mem_cons,List.not_mem_nil,or_false] at he;rcases he with rfl|rfl|rfl|rfl
  ·show (lv 0).like _ _;rw [h0];exact⟨false,_,rfl,(Iv p s rfl rfl _ _).symm,id⟩
  ·show (lv 1).like _ _;rw [h1];exact⟨false,_,rfl,(pP _ _).symm,id⟩
  ·show (lv 2).like _ _;rw [h2];exact⟨false,_,rfl,(pP _ _).symm,id⟩
  ·show (lv 10).like _ _;rw [h3];exact⟨true,_,rfl,rfl,id⟩
theorem aL.UY{G:List (List DV)}{f:FuncId}{code:Code}{args:List AV}{σ σ' ν:List LB}{x:AV}{kB:Key→LB}(hf:P.funcs[f]?=some fn) (hb:fn.body=some code) (hσ:bF σ []=kB)
 (h:∀ z:Ev,AW ⟨P,G,z.w,z.F,z.W,fn.ntmps,kB,z.b⟩ none code ⟨fun t=>args.getD t .undef,kB⟩ 1000 (OW ⟨P,G,z.w,z.F,z.W,fn.ntmps,kB,z.b⟩ fn x σ' ν)) (hl:Nat.ble args.length fn.ntmps=true:=by kernel_rfl):aL P G f args σ (.ret x σ' ν):=
 aL.Oo hf hb (Nat.le_of_ble_eq_true hl) fun⟨_,_,w,F,W,_,q,b⟩ h1 h2 h3 h4=>by subst hσ;cases h1;cases h2;cases h3;cases h4;exact h ⟨w,F,W,fun _=>.hole,b⟩
theorem Gm (m:Int)(p:PD)(i:Nat)(s:NS)(hs:jn p s)(hn:p.nn≤1000)(hi:i<p.nn)(hin:s.1.getD i false=true):aL Tryz.prog (GG m) 106 [.c (.ptr 0 0),.c (.d (.int .i64 i))] (mS p s) (.ret (.tup []) (mS p s) []):=by
 obtain⟨M,S⟩:=s;have hM:M.length=p.nn:=hs.1;have hiM:i<M.length:=by omega
 have hi2:(i:Int)<(M.length:Int):=by omega
 have hld:=Ay (P:=Tryz.prog) (T:=4) (by simp) hiM;rw [show M[i]=true from (List.getD_eq_getElem?_getD .. ▸ (by rw [List.getElem?_eq_getElem hiM];rfl:(M[i]?).getD false=M[i])) ▸ hin] at hld;refine aL.UY Tryz.func106 rfl (zI _ _ _) fun _=>aaa fun K hK=>aaq hi2 hld ?_;refine aaj ?_;exact aae (OG (κ:=0) (s0:=(M,S)) rfl rfl (by simp) (by simp) (by simp) (by simp))
theorem Hg (m:Int)(p:PD)(hp:p.ok)(hg:p.good):∀ (n i:Nat) (s:NS),i<p.nn→jn p s→xh s.1≤n→aL Tryz.prog (GG m) 106 [.c (.ptr 0 0),.c (.d (.int .i64 i))] (mS p s) (.ret (.tup []) (mS p (cN p n i s)) []):=by
 obtain⟨-,-,-,-,-,hnn,hns⟩:=ij hg.gen;have hv:=uz hg;intro n
 induction n with
 | zero=>
  intro i s hi hl hf;exact Gm m p i s hl (by omega) hi (qD hv 0 i s hi hl hf).2.1
 | succ n ih=>
 intro i s hi hl hf
 by_cases hin:s.1.getD i false=true
 ·have e:cN p (n+1) i s=s:=if_pos hin;rw [e];exact Gm m p i s hl (by omega) hi hin
 have hmk:=qD hv;obtain⟨M,S⟩:=s;have hM:M.length=p.nn:=hl.1;have hS:S.length=p.ns:=hl.2;have hiM:i<M.length:=by omega
 have hi2:(i:Int)<(M.length:Int):=by omega
 have hld:=Ay (P:=Tryz.prog) (T:=4) (by simp) hiM;have hst:=pR M i true hiM
 have hfl:M[i]=false:=by
  have:=CL hiM
  cases hb:M[i] with
  | false=>rfl
  | true=>exact absurd (by rw [this,hb]) hin
 rw [hfl] at hld;obtain⟨s1,hs1⟩:∃ s1:NS,(M.set i true,S)=s1:=⟨_,rfl⟩
 have hl1:jn p s1:=by rw [← hs1];exact⟨by rw [List.length_set];exact hM,hS⟩
 have hf1:xh s1.1≤n:=by
  have h1:=uD (l:=M) (m:=M.set i true) (by simp) (fun k hk=>iK.2 (.inl hk)) i (iK.2 (.inr ⟨rfl,hiM⟩)) hin;have h2:=List.count_le_length (a:=true) (l:=M.set i true);rw [← hs1];unfold xh at hf ⊢;simp only [List.length_set] at h2 hf ⊢;omega
 obtain⟨-,ha,hkr⟩:=AN hg hi;have hxn:=fun lv=>HU p lv hp i hi
 have hdef:cN p (n+1) i (M,S)=(let u:=((aZ (p.nd i)).map Int.toNat).foldl (fun s k=>cN p n k s) s1
  if (p.nd i).op=2 then cN p n (p.st (p.nd i).a.toNat).2.toNat (cN p n (p.st (p.nd i).a.toNat).1.toNat (u.1,u.2.set (p.nd i).a.toNat true)) else u):=by rw [← hs1];exact if_neg hin
 obtain⟨R,hR⟩:∃ R,cN p (n+1) i (M,S)=R:=⟨_,rfl⟩
 rw [hR];rw [hdef] at hR;clear hdef;obtain⟨nd,hnd⟩:∃ nd,p.nd i=nd:=⟨_,rfl⟩
 rw [hnd] at ha hkr;simp only [hnd] at hxn hR;have hML:=Ko (p:=p) (n:=n) (fun k s hk hl hf=>hmk n k s hk hl hf);have hkd:=FQ m nd;have hkp:(AV.c (zC (iH nd))).pure=true:=Aj _;have hkf:(AV.c (zC (iH nd))).bV=true:=vK _;have hkn:∀ g,(zC (iH nd)).b6 g=zC (iH nd):=fun g=>J6 _ g
 have lpk:=fun lv=>P9 (T:=30) (by simp) lv (iH nd)
 have ixk:∀ lv (q:Nat) (hq:q<(aZ nd).length),ak Tryz.prog 30 lv (.c (zC (iH nd))) (.c (.d (.int .i64 (q:Int))))=some (.c (.d (.ptr [.int .i64 (aZ nd)[q]])),[],[],True):=by
  intro lv q hq;have:=Sq (T:=30) (by simp) lv (iH nd) (i:=q) (by rw [oG];exact hq);simp only [oG] at this;exact this
 rw [oG] at lpk;have hkl:=lH nd
 have hrn:∀ k∈(aZ nd).map Int.toNat,k<p.nn:=fun k hk=>by
  obtain⟨x,hx,rfl⟩:=List.mem_map.1 hk;have:=hkr x hx;omega
 generalize zC (iH nd)=kz at *
 generalize aZ nd=kl at *
 have hfin:∀ q,q≤kl.length→jn p (((kl.map Int.toNat).take q).foldl (fun s k=>cN p n k s) s1)∧xh (((kl.map Int.toNat).take q).foldl (fun s k=>cN p n k s) s1).1≤n:=fun q hq=>by
  obtain⟨h1,-,-⟩:=hML ((kl.map Int.toNat).take q) s1 (fun k hk=>hrn k (List.mem_of_mem_take hk)) hl1 hf1;refine⟨h1.len,?_⟩;have:=n9 (hl1.1.trans h1.len.1.symm) h1.m1;unfold xh at hf1 ⊢;rw [h1.len.1];rw [hl1.1] at hf1;omega
 refine aL.UY Tryz.func106 rfl (zI _ _ _) fun _=>aaa fun K hK=>aaq hi2 hld ?_;refine aak (aac (hK _ _ (aaq hi2 hst ?_)));refine aax 10 ?_;refine aaq hxn @aj.eq_1 ?_;refine aaa fun K hK=>aai fun K1 hK1=>?_;simp;refine ag.pure 11 9 hkd hkp (by simp) (by first|rfl|simp) ?_;simp [lpk];apply hK1;clear hK1 K1;refine aaf ?_
 refine aao (fun (q:Nat)=>⟨bh [(0,.c (.ptr 0 0)),(1,.c (.d (.int .i64 i))),(4,.c (.ptr 10 0)),(29,.c kz),(30,.c (.d (.int .i64 kl.length))),(31,.c (.d (.int .i64 q)))],aG (Pc p (((kl.map Int.toNat).take q).foldl (fun s k=>cN p n k s) s1)) 10 (bX nd)⟩) 11
  (fun q=>q≤kl.length) (fun q=>kl.length - q) 0 (Nj (s0:=(M,S)) rfl _ (by simp [← hs1,hM,hS]) (by simp [← hs1]) (by simp [← hs1]) (by simp) (by simp) (by simp [cK,hkf,hkn])) (Nat.zero_le _) ?_
 rintro q hq
 try simp only at hq
 obtain⟨hl3,hf3⟩:=hfin q hq
 have hsn:∀ h:q<kl.length,((kl.map Int.toNat).take (q+1)).foldl (fun s k=>cN p n k s) s1=cN p n (kl[q]).toNat (((kl.map Int.toNat).take q).foldl (fun s k=>cN p n k s) s1):=fun h=>by
  rw [List.take_add_one,List.getElem?_eq_getElem (by simpa using h),List.foldl_append];simp
 obtain⟨u,hu⟩:∃ u,((kl.map Int.toNat).take q).foldl (fun s k=>cN p n k s) s1=u:=⟨_,rfl⟩
 rw [hu] at hl3 hf3;simp only [hu] at hsn ⊢;refine aab ?_;refine aaa fun K2 hK2=>?_
 by_cases hqt:q<kl.length
 ·have hqt':(q:Int)<(kl.length:Int):=by omega
  have hxk:=fun lv=>ixk lv q hqt
  have hk2:=hkr _ (List.getElem_mem hqt);have hsn:=hsn hqt;have f14:=bM (n:=(q:Int)+1) (by omega) (by omega);generalize kl[q]=x at *
  obtain⟨k,rfl⟩:∃ k:Nat,x=k:=⟨x.toNat,by omega⟩
  rw [Int.toNat_natCast] at hsn;have hc:=ih k u (by omega) hl3 hf3;have hl4:=(hmk n k u (by omega) hl3 hf3).1.len;rw [← hsn] at hc hl4;obtain⟨t,ht⟩:∃ t,((kl.map Int.toNat).take (q+1)).foldl (fun s k=>cN p n k s) s1=t:=⟨_,rfl⟩
  rw [ht] at hc hl4;refine aah (by simp [hqt'] <;> omega) (aac (hK2 _ _ (aaa fun K3 hK3=>aaf (aan hxk ?_))));refine aad ?_;simp;refine ag.mk 11 9 0 1 2 false hc ?_;simp;apply hK3;refine aad ?_;simp [f14];refine⟨q+1,?_,by omega,by omega⟩;rw [ht];exact Nj (s0:=(M,S)) rfl _ (by simp [hl3.1,hl3.2,hl4.1,hl4.2]) (by simp) (by simp) (by simp) (by simp) (by simp [cK,hkf,hkn])
 have hqt':¬ (q:Int)<(kl.length:Int):=by omega
 have hqe:q=kl.length:=by omega
 subst hqe;have hu':(kl.map Int.toNat).foldl (fun s k=>cN p n k s) s1=u:=by rw [← hu,List.take_of_length_le (by simp)]
 rw [hu'] at hR;refine aag (by simp [hqt'] <;> omega) (aam (hK _ _ (aaa fun K hK=>?_)))
 by_cases ho:nd.op=2
 ·have ho':(nd.op=2)=True:=eq_true ho;obtain⟨a0,a1⟩:=ha ho;obtain⟨b1,b2,b3⟩:=hv.st i hi (by rw [hnd];exact ho);rw [hnd] at b1 b2 b3;obtain⟨c1,c2,c3,c4⟩:=FU hg b1;have hia:(nd.a.toNat:Int)=nd.a:=by omega
  have hxs:=fun lv=>M9 hp lv nd.a.toNat b1
  simp only [hia] at hxs;rw [if_pos ho] at hR;generalize p.st nd.a.toNat=st at *
  obtain⟨si,sn⟩:=st;simp only at b2 b3 c1 c2 c3 c4 hR;obtain⟨x,rfl⟩:∃ x:Nat,si=x:=⟨si.toNat,by omega⟩
  obtain⟨y,rfl⟩:∃ y:Nat,sn=y:=⟨sn.toNat,by omega⟩
  simp only [Int.toNat_natCast] at b2 b3 hR;have hS2:u.2.length=p.ns:=hl3.2;have ha2:nd.a<(u.2.length:Int):=by omega
  have hst2:=pR u.2 nd.a.toNat true (by omega);obtain⟨v,hvv⟩:∃ v:NS,(u.1,u.2.set nd.a.toNat true)=v:=⟨_,rfl⟩
  have hlv:jn p v:=by rw [← hvv];exact⟨hl3.1,by rw [List.length_set];exact hl3.2⟩
  have hfv:xh v.1≤n:=by rw [← hvv];exact hf3
  have hc1:=ih x v (by omega) hlv hfv;have Bj:=(hmk n x v (by omega) hlv hfv).1
  have hfw:xh (cN p n x v).1≤n:=by
   have:=n9 (hlv.1.trans Bj.len.1.symm) Bj.m1;unfold xh at hfv ⊢;rw [Bj.len.1];rw [hlv.1] at hfv;omega
  have hc2:=ih y _ (by omega) Bj.len hfw;have hm2:=(hmk n y _ (by omega) Bj.len hfw).1.len;have Bj:=Bj.len;rw [hvv] at hR;generalize cN p n x v=w at *
  generalize cN p n y w=t at *
  subst hR;have v1:v.1=u.1:=by rw [← hvv]
  have v2:v.2=u.2.set nd.a.toNat true:=by rw [← hvv]
  refine aat ho' (hK _ _ ?_);refine aaj (AW.d3 mixed a0 ha2 hst2 ?_);refine aaa fun K hK=>?_;refine aap mixed (by kernel_rfl) rfl ?_;simp [hxs];refine ag.mk 11 9 0 1 2 false hc1 ?_ (by simp [v1,v2]) (by simp [v1]) (by simp [v2]);simp;refine⟨by kernel_rfl,?_⟩;apply hK;clear hK K;refine aap mixed (by kernel_rfl) rfl ?_;simp [hxs];refine ag.mk 11 9 0 1 2 false hc2 ?_ (by simp [Bj.1,Bj.2,hl3.1,hl3.2,hlv.1,hlv.2]);simp;refine⟨by kernel_rfl,?_⟩;exact (OG (κ:=0) (s0:=(M,S)) rfl rfl (by simp [Bj.1,Bj.2,hm2.1,hm2.2]) (by simp) (by simp) (by simp))
 ·rw [if_neg ho] at hR;subst hR;refine aat ho (hK _ _ ?_);refine aak ?_;exact aac (OG (s0:=(M,S)) rfl rfl (by simp) (by simp) (by simp) (by simp))
theorem MU{l:List Nat}(h:ok B l) (ht:l=[]∨B ^ (l.length - 1)≤val B l):can B l:=by
 refine⟨h,fun x hx=>?_⟩;rcases List.eq_nil_or_concat l with rfl|⟨xs,y,rfl⟩
 ·cases hx
 ·rw [List.concat_eq_append] at *
  simp only [List.getLast?_append,List.getLast?_singleton,Option.some_or,Option.some.injEq] at hx;subst hx;intro h0;subst h0;rcases ht with e|ht
  ·simp at e
  ·rw [ez] at ht;simp only [List.length_append,List.length_singleton,Nat.add_sub_cancel,Nat.mul_zero,Nat.add_zero] at ht;have:=eN (ct.1 h).1;omega
theorem E8{l:List Nat}(h:can B l) (h0:l≠[]):B ^ (l.length - 1)≤val B l:=by
 rcases List.eq_nil_or_concat l with rfl|⟨xs,y,rfl⟩
 ·exact absurd rfl h0
 ·rw [List.concat_eq_append] at *
  have hy:y≠0:=h.2 y (by simp);rw [ez];simp only [List.length_append,List.length_singleton,Nat.add_sub_cancel];have:B ^ xs.length*1≤B ^ xs.length*y:=Nat.mul_le_mul_left _ (by omega);omega
def rC:Option (List Nat)→CV
 | none=>.d .nilsl
 | some l=>.d (.sl (dK .i64 l))
theorem fC (o:Option (List Nat)):nK .i64 o=.c (rC o):=by cases o <;> rfl
@[simp] theorem eS (lv:Key→LB)(s:Int)(p q:Option (List Nat)):fP lv (.agg [.d (.int .i64 s),rC p,rC q])=some (.agg [.d (.int .i64 s),rC p,rC q],[]):=by
 cases p <;> cases q <;> rfl
@[simp] theorem Sd (o:Option (List Nat)):(rC o).pure=true:=by cases o <;> rfl
@[simp] theorem Rr (o:Option (List Nat)):(AV.c (rC o)).bV=true:=by cases o <;> rfl
@[simp] theorem QE (o:Option (List Nat)):(AV.c (rC o)).pure=true:=by cases o <;> rfl
@[simp] theorem Ug (o:Option (List Nat))(g:Key→Key):(rC o).b6 g=rC o:=by cases o <;> rfl
abbrev rA (s:Int)(p q:Option (List Nat)):AV:=.agg [.d (.int .i64 s),rC p,rC q]
@[simp] theorem Sx (s:Int)(p q:Option (List Nat)):(AV.agg [.d (.int .i64 s),rC p,rC q]).pure=true:=by cases p <;> cases q <;> rfl
theorem Qo:gJ Tryz.prog 215 [] []=some (.agg [.d (.int .i64 0),.d .nilsl,.d .nilsl],[],[],True):=by kernel_rfl
theorem bR (b p q:CV):gJ Tryz.prog 215 [0,1,2] [.c b,.c p,.c q]=some (.agg [b,p,q],[],[],True):=by kernel_rfl
theorem iD (b p q:CV):eK Tryz.prog 215 [b,p,q]=some (.agg [b,p,q]):=by kernel_rfl
theorem Ck (lv:Key→LB)(κ:Key)(h:lv κ=.hole)(a:CV):au Tryz.prog 213 1 [0] lv κ [.c a]=some (.c (.aV κ 0 1 1),[(κ,.cells true false 2 [a])],[],True):=by
 unfold au;rw [h];kernel_rfl
theorem sZ (x k:Nat):(x:Int).tmod (k:Int)=((x % k:Nat):Int):=by rw [Int.tmod_eq_emod_of_nonneg (by omega)];omega
theorem mF (x k:Nat):(x:Int).tdiv (k:Int)=((x / k:Nat):Int):=by rw [Int.tdiv_eq_ediv_of_nonneg (by omega)];omega
theorem FK{κ:Key}{k:IntKind}{l:List Nat}(h:lv κ=.cells own fz T (wK k l)) (hl:l.length≤9223372036854775807):fP lv (.c (.aV κ 0 l.length 1))=some (nK k (some l),[κ]):=Ao h hl
theorem BZ (G:List (List DV)):aa Tryz.prog G 221 [] (nK .i64 (some [1])):=by
 refine aa.ed Tryz.func221 rfl fun _=>aab ?_;refine aai fun K hK=>?_;simp [Ck,-au];apply hK;refine aal (κ:=0) (nZ.tmp (κ:=0) (X:=.c (.aV 0 0 1 1)) (ks:=[0]) rfl (by simp) ?_);exact FK (own:=true) (fz:=false) (T:=2) (l:=[1]) (by simp [wK]) (by simp)
def IS (s:Int)(q:Option (List Nat)):Option (List Nat):=if s=0 then some [1] else q
theorem Cz (G:List (List DV))(s:Int)(p q:Option (List Nat)):aa Tryz.prog G 249 [rA s p q] (.c (rC (IS s q))):=by
 have h1:=BZ G;rw [fC] at h1;refine aa.en Tryz.func249 rfl fun _=>aab ?_;refine aaa fun K hK=>aab ?_
 by_cases hs:s=0
 ·refine aah (by simp [hs] <;> omega) (aas 1 h1 ?_);exact aae (aq.rt (t:=2) rfl 9 (by simp [IS,hs]))
 ·refine aag (by simp [hs] <;> omega) (aac (hK _ _ (aab ?_)));exact aae (aq.rt (t:=2) rfl 9 (by simp [IS,hs]))
theorem iP (G:List (List DV))(l:List Nat)(hl:l.length≤1000000000000):aa Tryz.prog G 289 [nK .i64 (some l)] (nK .i64 (some (cW l))):=by
 have dKl:∀ (l:List Nat),∀ e∈dK .i64 l,e.length=1:=by
  intro l e he;obtain⟨x,_,rfl⟩:=List.mem_map.1 he;rfl
 refine aa.en Tryz.func289 rfl fun _=>aab ?_;refine aaa fun K hK=>aaf ?_;refine aao (fun l'=>⟨bh [(0,nK .i64 (some l'))],fun _=>.hole⟩) 0 (fun l'=>l'.length≤l.length∧N.cW l'=N.cW l) (fun l'=>l'.length) l (Le.slots _ (by simp) (by simp)) (by simp) ?_;rintro l' ⟨h0,h1⟩
 have fin:∀ (fr:Nat→AV) (κ:Nat),fr 0=nK .i64 (some (N.cW l))→K ⟨fr,fun _=>.hole⟩ κ:=by
  intro fr κ h;apply hK;clear hK K;refine aab ?_;exact aal (aq.tmp rfl 0 (by simp [h]) rfl rfl (by simp))
 refine aaa fun K2 hK2=>aaa fun K3 hK3=>?_;refine aar rfl ?_;rcases List.eq_nil_or_concat l' with rfl|⟨xs,x,rfl⟩
 ·simp;apply hK3;refine aak (aam ?_);simp;apply fin;simp [← h1]
 ·rw [List.concat_eq_append] at *
  have h3:xs.length+1≤1000000000000:=by simp at h0;omega
  have h4:IntKind.i64.wrap ((xs.length:Int))=xs.length:=bM (by omega) (by omega);have h2:(0:Int)<(xs.length:Int)+1:=by omega
  by_cases hx:x=0
  ·subst hx;simp [nK,dK,fc,kq,zF,Is,h2,h4]
   repeat refine ah ?_
   apply hK3;clear hK3 K3;refine aaj (aac (hK2 _ _ (aaf (aad ?_))));simp [nK,dK,fc,kq,zF,h2,h4];refine⟨⟨by omega,fun e he=>?_⟩,?_⟩
   ·rcases he with ⟨y,_,rfl⟩|rfl <;> rfl
   refine⟨xs,Le.slots [(0,nK .i64 (some xs))] (by simp [nK,dK]) (by simp),⟨by simp at h0;omega,by rw [← h1,gT]⟩,by omega⟩
  ·have hx':¬ ((x:Int)=0):=by omega
   simp [nK,dK,fc,kq,zF,Is,h2,h4,hx']
   repeat refine ah ?_
   apply hK3;clear hK3 K3;refine aag (by simp [hx] <;> omega) (aam ?_);simp;apply fin;simp [nK,dK,← h1,iN hx]
theorem me (G:List (List DV)){a b:Option (List Nat)}(ha:can 1000000000 (dO a)) (hb:can 1000000000 (dO b)):aa Tryz.prog G 247 [nK .i64 a,nK .i64 b] (.c (.d (.int .i64 (dI (val 1000000000 (dO a)) (val 1000000000 (dO b)))))):=by
 refine aL.ji 0 (by simp) (fun V v h=>gQ h) fun hra=>?_;refine aL.ji 1 (by simp) (fun V v h=>gQ h) fun hrb=>?_;refine aa.en Tryz.func247 rfl fun _=>aab ?_;refine aaa fun K hK=>aab ?_
 by_cases hl:(dO a).length=(dO b).length
 ·refine aag (by simp [hl] <;> omega) (aac (hK _ _ (aaa fun K hK=>aai fun K1 hK1=>?_)));simp;have e1:=bM (n:=((dO a).length:Int) - 1) (by omega) (by omega);simp only [e1];apply hK1;clear hK1 K1;refine aaf ?_;refine aao (fun (k:Nat)=>⟨bh [(0,nK .i64 a),(1,nK .i64 b),(5,.c (.d (.int .i64 ((k:Int) - 1))))],fun _=>.hole⟩) 0 (fun k=>k≤(dO a).length∧(dO a).drop k=(dO b).drop k) (fun k=>k) (dO a).length (Le.mk' _ rfl az (by simp)) ⟨Nat.le_refl _,by rw [List.drop_length,hl,List.drop_length]⟩ ?_;rintro k ⟨h1,h2⟩;refine aaa fun K3 hK3=>aab ?_
  cases k with
  | zero=>
   refine aak (aam (hK _ _ (aab ?_)));simp only [List.drop_zero] at h2;exact aae (aq.rt rfl 0 (by simp [mu (congrArg (val 1000000000) h2)]))
  | succ k=>
   have h3:k<(dO b).length:=by omega
   have h4:k<(dO a).length:=by omega
   have e2:((k+1:Nat):Int) - 1=k:=by omega
   simp only [e2];refine aaj (aac (hK3 _ _ (aaa fun K5 hK5=>aaf (aaa fun K6 hK6=>aaa fun K7 hK7=>?_))));refine aaw mixed (by kernel_rfl) rfl rfl ?_;simp [h3,h4];apply hK7;clear hK7 K7
   by_cases hlt:(dO a)[k]<(dO b)[k]
   ·refine aah (by simp [hlt] <;> omega) (aaa fun K7 hK7=>aaA (hK7 _ _ ?_));have:=oc ha.1 h4 h3 h2 hlt;exact aae (aq.rt rfl 0 (by simp [jb this]))
   ·refine aag (by simp [hlt] <;> omega) (aac (hK6 _ _ (aaa fun K7 hK7=>?_)));refine aaw mixed (by kernel_rfl) rfl rfl ?_;simp [h3,h4];apply hK7;clear hK7 K7
    by_cases hgt:(dO b)[k]<(dO a)[k]
    ·refine aah (by simp [hgt] <;> omega) (aaa fun K7 hK7=>aaA (hK7 _ _ ?_));have:=oc hb.1 h3 h4 h2.symm hgt;exact aae (aq.rt rfl 0 (by simp [jB this]))
    ·refine aag (by simp [hgt] <;> omega) (aac (hK5 _ _ (aad ?_)));simp;have e3:=bM (n:=(k:Int) - 1) (by omega) (by omega);simp [e3];have he:(dO a)[k]=(dO b)[k]:=by omega
     refine⟨k,Le.mk' _ (by simp) (by simp) (by simp [e3]),⟨by omega,?_⟩,by omega⟩;rw [List.drop_eq_getElem_cons h4,List.drop_eq_getElem_cons h3,he,h2]
 ·refine aah (by simp [hl] <;> omega) (aaa fun K2 hK2=>aab ?_)
  by_cases hlt:(dO a).length<(dO b).length
  ·refine aah (by simp [hlt] <;> omega) (aab ?_);exact aae (aq.rt rfl 0 (by simp [jb (ke (by omega) ha hb hlt)]))
  ·refine aag (by simp [hlt] <;> omega) (aac (hK2 _ _ (aab ?_)));exact aae (aq.rt rfl 0 (by simp [jB (ke (by omega) hb ha (by omega))]))
theorem J9 (G:List (List DV))(a:Option (List Nat)):aa Tryz.prog G 321 [nK .i64 a] (.c (.d (.bool (decide (val 1000000000 (dO a) % 2=1))))):=by
 refine aa.en Tryz.func321 rfl fun _=>aab ?_;refine aaa fun K hK=>?_
 cases hd:dO a with
 | nil=>
  have h1:(dO a).length=0:=by rw [hd];rfl
  refine aat h1 (hK _ _ ?_);exact aae (aq.rt rfl 0 (by simp [hd]))
 | cons x l=>
  have h1:0<(dO a).length:=by rw [hd];simp
  have h1':(0:Int)<((dO a).length:Int):=by omega
  have h2:(dO a)[0]=x:=by simp [hd]
  have h4:=fO (P:=Tryz.prog) (T:=213) (lv:=fun _=>.hole) (k:=.i64) (k':=.i64) (o:=a) (i:=0) (by simp) h1;simp only [Int.natCast_zero,h2] at h4;have h5:(x:Int).tmod 2=((x % 2:Nat):Int):=sZ x 2;have h6:val 1000000000 (dO a) % 2=x % 2:=by rw [hd,bJ];omega
  refine aaB h1 h1' h4 h5 (hK _ _ ?_);rw [h6];have h7:(x:Int) % 2=1↔x % 2=1:=by omega
  exact aae (aq.rt rfl 0 (by simp [h7]))
theorem A5 (k:IntKind)(l:List Nat)(x:Nat):wK k l++[CV.d (.int k (x:Int))]=wK k (l++[x]):=by simp [wK]
theorem NZ (k:IntKind)(l:List Nat)(g:Key→Key):(wK k l).map (CV.b6 g)=wK k l:=by unfold wK;rw [List.map_map];rfl
theorem jN (k:IntKind)(T:TypeId)(l:List Nat)(g:Key→Key):(LB.cells true false T (wK k l)).like (.cells true false T (wK k l)) g:=LB.p7.2 ⟨rfl,rfl,(NZ k l g).symm,id⟩
theorem KI (G:List (List DV))(a b:Option (List Nat))(ha:can 1000000000 (dO a))(hb:can 1000000000 (dO b))(hal:(dO a).length≤1000000)(hbl:(dO b).length≤1000000) :
 aa Tryz.prog G 324 [nK .i64 a,nK .i64 b] (nK .i64 (some (aH 1000000000 (val 1000000000 (dO a)+val 1000000000 (dO b))))):=by
 have hbs:∀ (lv:Key→LB) (h:lv 1=.hole) (a:CV),au Tryz.prog 213 1 [0] lv 1 [.c a]=some (.c (.aV 1 0 1 1),[(1,.cells true false 2 [a])],[],True):=fun lv h a=>Ck lv 1 h a
 obtain⟨M,hM⟩:∃ M,M=max (dO a).length (dO b).length:=⟨_,rfl⟩
 have hmx:(if ((dO a).length:Int)<((dO b).length:Int) then ((dO b).length:Int) else ((dO a).length:Int))=(M:Int):=by split <;> omega
 have hmx':(if (dO a).length<(dO b).length then ((dO b).length:Int) else ((dO a).length:Int))=(M:Int):=by split <;> omega
 have hM6:M≤1000000:=by omega
 have e0:=bM (n:=(M:Int)+1) (by omega) (by omega);refine aa.ed Tryz.func324 rfl fun _=>aab ?_;refine aai fun K hK=>?_;simp [di,hmx,hmx',e0]
 repeat (refine And.intro (by omega) ?_)
 apply hK;clear hK K;refine aab ?_;refine aaa fun K hK=>aab ?_;refine aaf ?_
 refine aao (fun (p:List Nat × Nat)=>⟨bh [(0,nK .i64 a),(1,nK .i64 b),(5,.c (.aV 0 0 p.1.length 1)),(6,.c (.d (.int .i64 p.2))),(7,.c (.d (.int .i64 p.1.length)))],
  aG (fun _=>.hole) 0 (.cells true false 2 (wK .i64 p.1))⟩) 1
  (fun p=>ok 1000000000 p.1∧p.2≤1∧val 1000000000 p.1+1000000000 ^ p.1.length*p.2=val 1000000000 ((dO a).take p.1.length)+val 1000000000 ((dO b).take p.1.length)∧(p.1.length≤M∨(p.1.length=M+1∧p.2=0∧1000000000 ^ M≤val 1000000000 (dO a)+val 1000000000 (dO b))))
  (fun p=>M+2 - p.1.length) ([],0) (Le.mk' _ (by simp [wK]) (by simp) (by simp)) (by simp [cx]) ?_
 rintro⟨pre,c⟩ ⟨h1,h2,h3,h4⟩;simp only at h1 h2 h3 h4;have w7:=bM (n:=(pre.length:Int)+1) (by omega) (by omega);refine aaa fun K3 hK3=>aaa fun K4 hK4=>?_
 have body:(pre.length<(dO a).length∨pre.length<(dO b).length∨0<c)→∀ (fr:Nat→AV) (κ:Nat),fr 0=nK .i64 a→fr 1=nK .i64 b→fr 5=.c (.aV 0 0 pre.length 1)→fr 6=.c (.d (.int .i64 c))→fr 7=.c (.d (.int .i64 pre.length)) →
  K3 ⟨fr,aG (fun _=>.hole) 0 (.cells true false 2 (wK .i64 pre))⟩ κ:=by
  intro hgo fr κ z0 z1 z5 z6 z7;apply hK3;refine aaa fun K5 hK5=>aaf (aaa fun K6 hK6=>?_)
  have g2:∀ (x:Nat) (fr:Nat→AV) (κ:Nat),x<1000000000→val 1000000000 ((dO a).take (pre.length+1))=val 1000000000 ((dO a).take pre.length)+1000000000 ^ pre.length*x→fr 0=nK .i64 a→fr 1=nK .i64 b→fr 5=.c (.aV 0 0 pre.length 1)→fr 6=.c (.d (.int .i64 ((c+x:Nat):Int)))→fr 7=.c (.d (.int .i64 pre.length)) →
   K6 ⟨fr,aG (fun _=>.hole) 0 (.cells true false 2 (wK .i64 pre))⟩ κ:=by
   intro x fr κ hx hxv z0 z1 z5 z6 z7;apply hK6;refine aaa fun K8 hK8=>?_
   have g3:∀ (y:Nat) (fr:Nat→AV) (κ:Nat),y<1000000000→val 1000000000 ((dO b).take (pre.length+1))=val 1000000000 ((dO b).take pre.length)+1000000000 ^ pre.length*y→fr 0=nK .i64 a→fr 1=nK .i64 b→fr 5=.c (.aV 0 0 pre.length 1)→fr 6=.c (.d (.int .i64 ((c+x+y:Nat):Int)))→fr 7=.c (.d (.int .i64 pre.length)) →
    K8 ⟨fr,aG (fun _=>.hole) 0 (.cells true false 2 (wK .i64 pre))⟩ κ:=by
    intro y fr κ hy hyv z0 z1 z5 z6 z7;apply hK8;refine aax 1 ?_;have e1:(((c+x+y:Nat):Int)).tmod 1000000000=(((c+x+y) % 1000000000:Nat):Int):=sZ _ _;have e2:(((c+x+y:Nat):Int)).tdiv 1000000000=(((c+x+y) / 1000000000:Nat):Int):=mF _ _;have e3:=bM (n:=(((c+x+y) / 1000000000:Nat):Int)) (by omega) (by omega);generalize hm:c+x+y=m at *
    have hlen:pre.length+1≤9223372036854775807∧(pre.length+1)*8≤140737488355328:=by omega
    refine aai fun K9 hK9=>?_;simp [z5,z6,hbs,gV,keyOf,e1,A5,-au,-Int.natCast_emod,-Int.natCast_ediv,-Int.natCast_add]
    repeat (refine And.intro (by omega) ?_)
    apply hK9;clear hK9 K9;refine aad ?_;simp [z6,e2,e3,-Int.natCast_emod,-Int.natCast_ediv];apply hK5;refine aad ?_;simp [z7,w7]
    have hM2:pre.length≤M:=by
     rcases h4 with h4|⟨h4,h5,_⟩
     ·exact h4
     ·omega
    refine⟨pre++[m % 1000000000],m / 1000000000,Le.keys [(0,2,.cells true false 2 (wK .i64 (pre++[m % 1000000000])))] 19 _ rfl rfl (by simp) (by simp) (by simp) ?_ ?_,⟨ct.2 ⟨h1,bA.2 ⟨by omega,cx _⟩⟩,by omega,?_,?_⟩,by simp;omega⟩
    ·intro e he;simp only [List.mem_cons,List.not_mem_nil,or_false] at he;subst he;simpa using jN .i64 2 (pre++[m % 1000000000]) _
    ·simp [cK,z0,z1]
    ·have:=mg 1000000000 pre m;rw [List.length_append,List.length_singleton,this,hxv,hyv,← hm,Nat.mul_add,Nat.mul_add];omega
    ·simp only [List.length_append,List.length_singleton]
     by_cases hlt:pre.length<M
     ·exact .inl (by omega)
     ·right;have hx0:pre.length=M:=by omega
      have c1:c=1:=by omega
      have ea:val 1000000000 ((dO a).take pre.length)=val 1000000000 (dO a):=aO (by omega);have eb:val 1000000000 ((dO b).take pre.length)=val 1000000000 (dO b):=aO (by omega);have ea2:val 1000000000 ((dO a).take (pre.length+1))=val 1000000000 (dO a):=aO (by omega);have eb2:val 1000000000 ((dO b).take (pre.length+1))=val 1000000000 (dO b):=aO (by omega);have hp:0<1000000000 ^ pre.length:=Nat.pow_pos (by decide);rw [ea,ea2] at hxv;rw [eb,eb2] at hyv
      have hx00:x=0:=by
       rcases Nat.eq_zero_or_pos x with h|h
       ·exact h
       ·have:=Nat.mul_pos hp h;omega
      have hy00:y=0:=by
       rcases Nat.eq_zero_or_pos y with h|h
       ·exact h
       ·have:=Nat.mul_pos hp h;omega
      rw [ea,eb,c1,Nat.mul_one] at h3;refine⟨by omega,by omega,?_⟩;rw [← hx0];omega
   refine aaq z1 z7 ?_
   by_cases hlb:pre.length<(dO b).length
   ·have hy:(dO b)[pre.length]<1000000000:=hb.1 _ (List.getElem_mem hlb);have hyv:=bt (B:=1000000000) hlb;have e5:IntKind.i64.wrap (((c+x:Nat):Int)+((dO b)[pre.length]:Nat))=((c+x+(dO b)[pre.length]:Nat):Int):=by rw [bM (by omega) (by omega)];omega
    refine aah (by simp [hlb] <;> omega) (aad ?_);simp [z1,z6,z7,hlb,e5,-Int.natCast_add];exact g3 _ _ _ hy hyv (by simp [z0]) (by simp [z1]) (by simp [z5]) (by simp) (by simp [z7])
   ·refine aag (by simp [hlb] <;> omega) (aac ?_);simp;exact g3 0 _ _ (by omega) (by rw [aO (by omega),aO (by omega)];rfl) (by simp [z0]) (by simp [z1]) (by simp [z5]) (by simp [z6]) (by simp [z7])
  refine aaq z0 z7 ?_
  by_cases hla:pre.length<(dO a).length
  ·have hx:(dO a)[pre.length]<1000000000:=ha.1 _ (List.getElem_mem hla);have hxv:=bt (B:=1000000000) hla;have e5:IntKind.i64.wrap ((c:Int)+((dO a)[pre.length]:Nat))=((c+(dO a)[pre.length]:Nat):Int):=by rw [bM (by omega) (by omega)];omega
   refine aah (by simp [hla] <;> omega) (aad ?_);simp [z0,z6,z7,hla,e5,-Int.natCast_add];exact g2 _ _ _ hx hxv (by simp [z0]) (by simp [z1]) (by simp [z5]) (by simp) (by simp [z7])
  ·refine aag (by simp [hla] <;> omega) (aac ?_);simp;exact g2 0 _ _ (by omega) (by rw [aO (by omega),aO (by omega)];rfl) (by simp [z0]) (by simp [z1]) (by simp [z5]) (by simp [z6]) (by simp [z7])
 by_cases c1:pre.length<(dO a).length
 ·refine aat c1 (hK4 _ _ ?_);refine aah (by simp [c1] <;> omega) (aac ?_);simp;exact body (.inl c1) _ _ (by simp) (by simp) (by simp) (by simp) (by simp)
 by_cases c2:pre.length<(dO b).length
 ·refine aau c1 c2 (hK4 _ _ ?_);refine aah (by simp [c2] <;> omega) (aac ?_);simp;exact body (.inr (.inl c2)) _ _ (by simp) (by simp) (by simp) (by simp) (by simp)
 by_cases c3:0<c
 ·have c3':(0:Int)<(c:Int):=by omega
  refine aaB c1 c2 c3 c3' (hK4 _ _ ?_);refine aaj (aac ?_);simp;exact body (.inr (.inr c3)) _ _ (by simp) (by simp) (by simp) (by simp) (by simp)
 obtain rfl:c=0:=by omega
 refine aau c1 c2 (hK4 _ _ ?_);refine aak (aam (hK _ _ (aab ?_)));rw [Nat.mul_zero,Nat.add_zero,aO (by omega),aO (by omega)] at h3
 have hc:can 1000000000 pre:=by
  refine MU h1 ?_;rcases h4 with h4|⟨h4,_,h5⟩
  ·by_cases hM0:M=0
   ·exact .inl (List.eq_nil_of_length_eq_zero (by omega))
   ·right;have hpm:pre.length=M:=by omega
    rw [h3,hpm]
    by_cases hq:(dO a).length=M
    ·have:=E8 ha (fun e=>hM0 (by rw [← hq,e];rfl));rw [hq] at this;omega
    ·have hq2:(dO b).length=M:=by omega
     have:=E8 hb (fun e=>hM0 (by rw [← hq2,e];rfl));rw [hq2] at this;omega
  ·right;rw [h3,h4];exact h5
 have hout:=gw (by decide:2≤1000000000) hc h3;refine aal (κ:=0) (nZ.tmp (κ:=0) (X:=.c (.aV 0 0 pre.length 1)) (ks:=[0]) rfl (by simp) ?_);rw [← hout];exact FK (own:=true) (fz:=false) (T:=2) (l:=pre) (by simp) (by omega)
theorem mK (G:List (List DV))(a b:Option (List Nat))(oka:ok 1000000000 (dO a))(okb:ok 1000000000 (dO b))(hal:(dO a).length≤1000000)(hbl:(dO b).length≤1000000)(hv:val 1000000000 (dO b)≤val 1000000000 (dO a)) :
 aa Tryz.prog G 323 [nK .i64 a,nK .i64 b] (nK .i64 (some (aH 1000000000 (val 1000000000 (dO a) - val 1000000000 (dO b))))):=by
 have hbs:∀ (lv:Key→LB) (h:lv 1=.hole) (a:CV),au Tryz.prog 213 1 [0] lv 1 [.c a]=some (.c (.aV 1 0 1 1),[(1,.cells true false 2 [a])],[],True):=fun lv h a=>Ck lv 1 h a
 refine aa.Nc Tryz.func323 rfl fun _=>aab ?_;refine aai fun K hK=>?_;simp
 repeat (refine And.intro (by omega) ?_)
 apply hK;clear hK K;refine aab ?_;refine aaa fun K hK=>aab ?_;refine aaf ?_
 refine aao (fun (p:List Nat × Nat)=>⟨bh [(0,nK .i64 a),(1,nK .i64 b),(5,.c (.aV 0 0 p.1.length 1)),(6,.c (.d (.int .i64 p.2))),(7,.c (.d (.int .i64 p.1.length)))],
  aG (fun _=>.hole) 0 (.cells true false 2 (wK .i64 p.1))⟩) 1
  (fun p=>ok 1000000000 p.1∧p.1.length≤(dO a).length∧p.2≤1∧val 1000000000 p.1+val 1000000000 ((dO b).take p.1.length)=val 1000000000 ((dO a).take p.1.length)+1000000000 ^ p.1.length*p.2)
  (fun p=>(dO a).length - p.1.length) ([],0) (Le.mk' _ (by simp [wK]) (by simp) (by simp)) (by simp [cx]) ?_
 rintro⟨pre,c⟩ ⟨h2,h1,h3,h4⟩;simp only at h1 h2 h3 h4;have w7:=bM (n:=(pre.length:Int)+1) (by omega) (by omega);refine aaa fun K3 hK3=>aab ?_
 by_cases hlt:pre.length<(dO a).length
 ·have hx:(dO a)[pre.length]<1000000000:=oka _ (List.getElem_mem hlt);have hxv:=bt (B:=1000000000) hlt;obtain⟨x,hxe⟩:∃ x,(dO a)[pre.length]=x:=⟨_,rfl⟩
  rw [hxe] at hx hxv;have w1:=bM (n:=(x:Int) - c) (by omega) (by omega);refine aah (by simp [hlt] <;> omega) (aac (hK3 _ _ (aaa fun K5 hK5=>aaf (aaC hlt hxe w1 ?_))));refine aaa fun K6 hK6=>?_
  have g3:∀ (y:Nat) (fr:Nat→AV) (κ:Nat),y<1000000000→val 1000000000 ((dO b).take (pre.length+1))=val 1000000000 ((dO b).take pre.length)+1000000000 ^ pre.length*y→fr 0=nK .i64 a→fr 1=nK .i64 b→fr 5=.c (.aV 0 0 pre.length 1)→fr 8=.c (.d (.int .i64 ((x:Int) - c - y)))→fr 7=.c (.d (.int .i64 pre.length)) →
   K6 ⟨fr,aG (fun _=>.hole) 0 (.cells true false 2 (wK .i64 pre))⟩ κ:=by
   intro y fr κ hy hyv z0 z1 z5 z8 z7;apply hK6;refine aax 1 ?_;refine aab ?_;refine aaa fun K7 hK7=>?_
   have g4:∀ (v bb:Nat) (fr:Nat→AV) (κ:Nat),v<1000000000→bb≤1→v+c+y=x+1000000000*bb→fr 0=nK .i64 a→fr 1=nK .i64 b→fr 5=.c (.aV 0 0 pre.length 1)→fr 6=.c (.d (.int .i64 (bb:Int)))→fr 8=.c (.d (.int .i64 (v:Int)))→fr 7=.c (.d (.int .i64 pre.length)) →
    K7 ⟨fr,aG (fun _=>.hole) 0 (.cells true false 2 (wK .i64 pre))⟩ κ:=by
    intro v bb fr κ hv0 hb0 hs z0 z1 z5 z6 z8 z7;apply hK7;refine aax 1 ?_;refine aad ?_;simp [z5,z8,hbs,gV,keyOf,A5,-au]
    repeat (refine And.intro (by omega) ?_)
    apply hK5;refine aad ?_;simp [z7,w7];refine⟨pre++[v],bb,Le.keys [(0,2,.cells true false 2 (wK .i64 (pre++[v])))] 19 _ rfl rfl (by simp) (by simp) (by simp) ?_ ?_,⟨ct.2 ⟨h2,bA.2 ⟨hv0,cx _⟩⟩,by simp;omega,hb0,?_⟩,by simp;omega⟩
    ·intro e he;simp only [List.mem_cons,List.not_mem_nil,or_false] at he;subst he;simpa using jN .i64 2 (pre++[v]) _
    ·simp [cK,z0,z1,z6]
    ·rw [List.length_append,List.length_singleton,ez,hxv,hyv,Nat.pow_succ];have g6:1000000000 ^ pre.length*(v+c+y)=1000000000 ^ pre.length*(x+1000000000*bb):=by rw [hs]
     rw [Nat.mul_add,Nat.mul_add,Nat.mul_add,← Nat.mul_assoc] at g6;omega
   refine aan z8 ?_
   by_cases hn:(x:Int) - c - y<0
   ·have w2:IntKind.i64.wrap ((x:Int) - c - y+1000000000)=((x+1000000000 - c - y:Nat):Int):=by rw [bM (by omega) (by omega)];omega
    refine aah (by simp [hn] <;> omega) (aaq z8 w2 ?_);refine aad ?_;simp;exact g4 (x+1000000000 - c - y) 1 _ _ (by omega) (by omega) (by omega) (by simp [z0]) (by simp [z1]) (by simp [z5]) (by simp) (by simp) (by simp [z7])
   ·have w2:(x:Int) - c - y=((x - c - y:Nat):Int):=by omega
    refine aag (by simp [hn] <;> omega) (aac ?_);simp;exact g4 (x - c - y) 0 _ _ (by omega) (by omega) (by omega) (by simp [z0]) (by simp [z1]) (by simp [z5]) (by simp) (by simp [z8,w2]) (by simp [z7])
  refine aab ?_
  by_cases hlb:pre.length<(dO b).length
  ·have hy:(dO b)[pre.length]<1000000000:=okb _ (List.getElem_mem hlb);have hyv:=bt (B:=1000000000) hlb;have w2:=bM (n:=(x:Int) - c - ((dO b)[pre.length]:Nat)) (by omega) (by omega);refine aah (by simp [hlb] <;> omega) (aad ?_);simp [hlb,w2];exact g3 _ _ _ hy hyv (by simp) (by simp) (by simp) (by simp) (by simp)
  ·refine aag (by simp [hlb] <;> omega) (aac ?_);simp;exact g3 0 _ _ (by omega) (by rw [aO (by omega),aO (by omega)];rfl) (by simp) (by simp) (by simp) (by simp) (by simp)
 ·refine aag (by simp [hlt] <;> omega) (aam ?_);simp;have e2:pre.length=(dO a).length:=by omega
  apply hK;refine aai fun K hK=>?_;simp
  have hlb:val 1000000000 ((dO b).take pre.length)=val 1000000000 (dO b):=by
   by_cases hb:(dO b).length≤pre.length
   ·exact aO hb
   ·have g1:=b7 (B:=1000000000) (dO b) pre.length (by omega);have g2:=eN oka;rw [← e2] at g2
    have g3:val 1000000000 ((dO b).drop pre.length)=0:=by
     apply Classical.byContradiction;intro hne;have:1000000000 ^ pre.length*1≤1000000000 ^ pre.length*val 1000000000 ((dO b).drop pre.length):=Nat.mul_le_mul_left _ (by omega);omega
    rw [g3] at g1;omega
  have hva:val 1000000000 ((dO a).take pre.length)=val 1000000000 (dO a):=aO (by omega)
  have hc:c=0:=by
   apply Classical.byContradiction;intro hne;have:c=1:=by omega
   subst this;have:=eN h2;rw [hlb,hva] at h4;omega
  subst hc
  have hout:cW pre=aH 1000000000 (val 1000000000 (dO a) - val 1000000000 (dO b)):=by
   refine dD (by decide) h2 ?_;rw [hlb,hva] at h4;omega
  refine fU.oK (k:=.i64) (l:=pre) 0 1 0 (by simp;rfl) (by omega) (iP _ _ (by omega)) (by simp) (by simp) (by simp) ?_;simp;apply hK;clear hK K;exact aae (aq.rt rfl 1 (by simp [hout]))
theorem qF (G:List (List DV))(a b:Option (List Nat))(oka:ok 1000000000 (dO a))(okb:ok 1000000000 (dO b))(ha:(dO a).length≤1000000)(hb:(dO b).length≤1000000) :
 aa Tryz.prog G 248 [nK .i64 a,nK .i64 b] (nK .i64 (some (aH 1000000000 (val 1000000000 (dO a)*val 1000000000 (dO b))))):=by
 refine aa.en Tryz.func248 rfl fun _=>aab ?_;refine aaa fun K hK=>?_;have e0:IntKind.i64.wrap (((dO a).length:Int)+(dO b).length)=(((dO a).length+(dO b).length:Nat):Int):=by rw [bM (by omega) (by omega)];omega
 refine aad ?_;simp [e0,-Int.natCast_add]
 repeat refine ah ?_
 apply hK;clear hK K;refine aaa fun K hK=>aab ?_;refine aaf ?_
 refine aao (fun (p:Nat × List Nat)=>⟨bh [(0,nK .i64 a),(1,nK .i64 b),(5,.c (.aV 0 0 ((dO a).length+(dO b).length) 1)),(6,.c (.d (.int .i64 p.1)))],
  aG (fun _=>.hole) 0 (.cells true false 2 (wK .i64 (p.2++List.replicate ((dO a).length - p.1) 0)))⟩) 1
  (fun p=>p.1≤(dO a).length∧p.2.length=p.1+(dO b).length∧ok 1000000000 p.2∧val 1000000000 p.2=val 1000000000 ((dO a).take p.1)*val 1000000000 (dO b))
  (fun p=>(dO a).length - p.1) (0,List.replicate (dO b).length 0) (Le.mk' _ (by simp [fL,Nat.add_comm]) (by simp) (by simp)) ⟨by simp,by simp,ri (by omega) _,by simp [oF]⟩ ?_
 rintro⟨i,lo⟩ ⟨h1,h2,h3,h4⟩;simp only at h1 h2 h3 h4;refine aaa fun K3 hK3=>aab ?_
 by_cases hlt:i<(dO a).length
 ·refine aah (by simp [hlt] <;> omega) (aac (hK3 _ _ (aaa fun K3 hK3=>aaf ?_)));have hx:(dO a)[i]<1000000000:=oka _ (List.getElem_mem hlt);obtain⟨x,hxe⟩:∃ x,(dO a)[i]=x:=⟨_,rfl⟩
  rw [hxe] at hx;refine aab ?_;refine aaa fun K4 hK4=>aab ?_;refine aaf ?_
  refine aao (fun (p:Nat × List Nat × Nat)=>⟨bh [(0,nK .i64 a),(1,nK .i64 b),(5,.c (.aV 0 0 ((dO a).length+(dO b).length) 1)),(6,.c (.d (.int .i64 i))),(7,.c (.d (.int .i64 p.2.2))),(8,.c (.d (.int .i64 p.1)))],
   aG (fun _=>.hole) 0 (.cells true false 2 (wK .i64 (p.2.1++List.replicate ((dO a).length - i) 0)))⟩) 2
   (fun p=>p.1≤(dO b).length∧p.2.1.length=i+(dO b).length∧ok 1000000000 p.2.1∧p.2.2<1000000000∧val 1000000000 p.2.1+1000000000 ^ (i+p.1)*p.2.2=val 1000000000 ((dO a).take i)*val 1000000000 (dO b)+1000000000 ^ i*(x*val 1000000000 ((dO b).take p.1)))
   (fun p=>(dO b).length - p.1) (0,lo,0) (Le.mk' _ (by simp) (by simp) (by simp)) ⟨by simp,h2,h3,by simp,by simp [h4]⟩ ?_
  rintro⟨j,lo2,c⟩ ⟨g1,g2,g3,g4,g5⟩;simp only at g1 g2 g3 g4 g5;refine aaa fun K6 hK6=>aab ?_
  by_cases hlj:j<(dO b).length
  ·refine aah (by simp [hlj] <;> omega) (aac (hK6 _ _ (aaa fun K8 hK8=>aaf (aaa fun K9 hK9=>?_))));have hy:(dO b)[j]<1000000000:=okb _ (List.getElem_mem hlj);have hij:i+j<lo2.length:=by omega
   have hij2:i+j<(lo2++List.replicate ((dO a).length - i) 0).length:=by simp;omega
   have hij3:i+j<lo2.length+((dO a).length - i):=by omega
   have ho:lo2[i+j]<1000000000:=g3 _ (List.getElem_mem hij);have ho2:(lo2++List.replicate ((dO a).length - i) 0)[i+j]=lo2[i+j]:=List.getElem_append_left hij;have hb2:val 1000000000 ((dO b).take (j+1))=val 1000000000 ((dO b).take j)+1000000000 ^ j*(dO b)[j]:=bt hlj;have hset:=uU (B:=1000000000) hij;generalize hye:(dO b)[j]=y at hy hb2;generalize hoe:lo2[i+j]=o at ho ho2 hset;have hxy:x*y≤999999999*999999999:=Nat.mul_le_mul (by omega) (by omega);have e1:IntKind.i64.wrap ((i:Int)+j)=((i+j:Nat):Int):=by rw [bM (by omega) (by omega)];omega
   have e4:IntKind.i64.wrap ((x:Int)*y)=((x*y:Nat):Int):=by
    rw [← Int.natCast_mul];generalize x*y=p at hxy;exact bM (by omega) (by omega)
   have e5:IntKind.i64.wrap ((c:Int)+o)=((c+o:Nat):Int):=by rw [bM (by omega) (by omega)];omega
   have e6:IntKind.i64.wrap (((c+o:Nat):Int)+((x*y:Nat):Int))=((c+(x*y+o):Nat):Int):=by
    generalize x*y=p at hxy;rw [bM (by omega) (by omega)];omega
   refine aaw mixed (by kernel_rfl) rfl rfl ?_;simp [e1,e4,e5,e6,hij3,ho2,hxe,hye,hlt,hlj,-Int.natCast_add,-Int.natCast_mul]
   repeat refine ah ?_
   apply hK9;clear hK9 K9;have hbd:c+(x*y+o)<1000000000000000000:=by generalize x*y=p at hxy;omega
   generalize hm:c+(x*y+o)=m at hbd;have f1:((m:Nat):Int).tmod 1000000000=((m % 1000000000:Nat):Int):=sZ _ _
   have f2:aj (wK .i64 (lo2++List.replicate ((dO a).length - i) 0)) (i+j) [CV.d (.int .i64 ((m % 1000000000:Nat):Int))]=wK .i64 (lo2.set (i+j) (m % 1000000000)++List.replicate ((dO a).length - i) 0):=by
    rw [fj _ hij2,List.set_append_left _ _ hij]
   have f3:((m:Nat):Int).tdiv 1000000000=((m / 1000000000:Nat):Int):=mF _ _;have f3':=bM (n:=((m / 1000000000:Nat):Int)) (by omega) (by omega);have f4:(i+j:Int)<(dO a).length+(dO b).length:=by omega
   refine aai fun K9 hK9=>?_;simp [e1,f1,f2,hij3,-Int.natCast_add,-Int.natCast_emod]
   repeat refine ah ?_
   apply hK9;clear hK9 K9;refine aad ?_;simp [f3,f3',-Int.natCast_ediv];apply hK8;have f5:=bM (n:=(j:Int)+1) (by omega) (by omega);refine aad ?_;simp [f5];refine⟨j+1,lo2.set (i+j) (m % 1000000000),m / 1000000000,Le.mk' _ (by simp) (by simp) (by simp),⟨by omega,by simp [g2],EE g3 _ (Nat.mod_lt _ (by omega)),?_,?_⟩,by omega⟩
   ·have hm2:m<1000000000*1000000000:=by generalize x*y=p at hxy hm;omega
    omega
   ·rw [hb2,← hm,← Nat.add_assoc i j 1];exact Ch g5 (by rw [hm];exact hset _)
  ·refine aag (by simp [hlj] <;> omega) (aam (hK4 _ _ ?_));have ej:j=(dO b).length:=by omega
   subst ej;rw [aO (Nat.le_refl _)] at g5;have e1:IntKind.i64.wrap ((i:Int)+(dO b).length)=((i+(dO b).length:Nat):Int):=by rw [bM (by omega) (by omega)];omega
   have hz:(dO a).length - i=((dO a).length - i - 1)+1:=by omega
   have f2:aj (wK .i64 (lo2++List.replicate ((dO a).length - i) 0)) (i+(dO b).length) [CV.d (.int .i64 (c:Int))]=wK .i64 (lo2++[c]++List.replicate ((dO a).length - i - 1) 0):=by
    rw [fj _ (by simp;omega),hz,← g2,jD];simp
   have f6:i+(dO b).length<lo2.length+((dO a).length - i):=by omega
   refine aad ?_;simp [e1,f2,f6,-Int.natCast_add]
   repeat refine ah ?_
   apply hK3;have f5:=bM (n:=(i:Int)+1) (by omega) (by omega);refine aad ?_;simp [f5];have f7:(dO a).length - (i+1)=(dO a).length - i - 1:=by omega
   refine⟨i+1,lo2++[c],Le.mk' _ (by simp [f7]) (by simp) (by simp),⟨by omega,by simp;omega,ct.2 ⟨g3,bA.2 ⟨g4,cx _⟩⟩,?_⟩,by omega⟩;rw [ez,g2,g5,bt hlt,hxe,Nat.add_mul,Nat.mul_assoc]
 ·refine aag (by simp [hlt] <;> omega) (aam (hK _ _ ?_));have e2:i=(dO a).length:=by omega
  subst e2;refine aai fun K hK=>?_;simp;rw [← h2]
  have hout:cW lo=aH 1000000000 (val 1000000000 (dO a)*val 1000000000 (dO b)):=by
   refine dD (by decide) h3 ?_;rw [h4,aO (Nat.le_refl _)]
  refine fU.oK (k:=.i64) (l:=lo) 0 1 0 (by simp;rfl) (by omega) (iP _ _ (by omega)) (by simp) (by simp) (by simp) ?_;simp;apply hK;clear hK K;exact aae (aq.rt rfl 1 (by simp [hout]))
theorem GK (G:List (List DV))(a:Option (List Nat))(oka:ok 1000000000 (dO a))(ha:(dO a).length≤1000000) :
 aa Tryz.prog G 322 [nK .i64 a] (nK .i64 (some (aH 1000000000 (val 1000000000 (dO a) / 2)))):=by
 refine aa.en Tryz.func322 rfl fun _=>aab ?_;refine aai fun K hK=>?_;simp
 repeat (refine And.intro (by omega) ?_)
 apply hK;clear hK K;refine aab ?_;have w0:=bM (n:=((dO a).length:Int) - 1) (by omega) (by omega);refine aaa fun K hK=>aan w0 ?_;refine aaf ?_
 refine aao (fun (p:Nat × List Nat × Nat)=>⟨bh [(0,nK .i64 a),(3,.c (.aV 0 0 (dO a).length 1)),(4,.c (.d (.int .i64 p.2.2))),(5,.c (.d (.int .i64 ((p.1:Int) - 1))))],
  aG (fun _=>.hole) 0 (.cells true false 2 (wK .i64 (List.replicate p.1 0++p.2.1)))⟩) 1
  (fun p=>p.1+p.2.1.length=(dO a).length∧ok 1000000000 p.2.1∧p.2.2≤1∧2*val 1000000000 p.2.1+p.2.2=val 1000000000 ((dO a).drop p.1))
  (fun p=>p.1) ((dO a).length,[],0) (Le.mk' _ (by simp [fL]) (by simp) (by simp)) ⟨by simp,cx _,by simp,by simp⟩ ?_
 rintro⟨k,qs,c⟩ ⟨h1,h2,h3,h4⟩;simp only at h1 h2 h3 h4;refine aaa fun K3 hK3=>aab ?_
 cases k with
 | zero=>
  refine aak (aam (hK _ _ (aaa fun K hK=>?_)));have hl:qs.length=(dO a).length:=by omega
  refine aad ?_;simp;rw [← hl]
  have hout:cW qs=aH 1000000000 (val 1000000000 (dO a) / 2):=by
   refine dD (by decide) h2 ?_;rw [List.drop_zero] at h4;omega
  refine fU.oK (k:=.i64) (l:=qs) 0 1 0 (by simp;rfl) (by omega) (iP _ _ (by omega)) (by simp) (by simp) (by simp) ?_;simp;apply hK;clear hK K;exact aae (aq.rt rfl 1 (by simp [hout]))
 | succ k=>
  have hk:k<(dO a).length:=by omega
  have e2:((k+1:Nat):Int) - 1=k:=by omega
  simp only [e2];have hx:(dO a)[k]<1000000000:=oka _ (List.getElem_mem hk);have hxv:=cG (B:=1000000000) hk;obtain⟨x,hxe⟩:∃ x,(dO a)[k]=x:=⟨_,rfl⟩
  rw [hxe] at hx hxv;obtain⟨m,hm⟩:∃ m,1000000000*c+x=m:=⟨_,rfl⟩
  have w1:IntKind.i64.wrap ((c:Int)*1000000000)=(m:Int) - x:=by rw [bM (by omega) (by omega)];omega
  have w2:IntKind.i64.wrap ((m:Int) - x+x)=(m:Int):=by rw [bM (by omega) (by omega)];omega
  refine aaj (aac (hK3 _ _ (aaa fun K5 hK5=>aaf (aai fun K6 hK6=>?_))));simp [hk,hxe,w1,w2,-Int.sub_add_cancel,-Int.natCast_add,-Int.natCast_mul];apply hK6;clear w1 w2;have f3:((m:Nat):Int).tdiv 2=((m / 2:Nat):Int):=mF _ 2;have f3':=bM (n:=((m / 2:Nat):Int)) (by omega) (by omega);have f4:((m:Nat):Int).tmod 2=((m % 2:Nat):Int):=sZ _ 2
  have f5:aj (wK .i64 (List.replicate (k+1) 0++qs)) k [CV.d (.int .i64 ((m / 2:Nat):Int))]=wK .i64 (List.replicate k 0++((m / 2)::qs)):=by
   rw [fj _ (by simp;omega),oH]
  have hk2:(k:Int)<((dO a).length:Int):=by omega
  have hk3:k<k+1+qs.length:=by omega
  refine aai fun K6 hK6=>?_;simp [f3,f3',f5,hk,hk2,hk3,-Int.natCast_ediv]
  repeat (refine And.intro (by omega) ?_)
  apply hK6;clear hK6 K6;refine aad ?_;simp [f4,-Int.natCast_emod];apply hK5;have w3:=bM (n:=(k:Int) - 1) (by omega) (by omega);refine aad ?_;simp [w3];refine⟨k,(m / 2)::qs,m % 2,Le.mk' _ (by simp) (by simp) (by simp),⟨by simp;omega,bA.2 ⟨by omega,h2⟩,by omega,?_⟩,by omega⟩;rw [hxv,bJ];omega
end Go.Am
