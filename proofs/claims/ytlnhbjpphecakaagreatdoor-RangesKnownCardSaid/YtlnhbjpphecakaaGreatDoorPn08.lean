/- Helpers: an abstract machine for Go functions, and walks of functions of the program. -/
import Derived.Test.YtlnhbjpphecakaaGreatDoorPn07
import Derived.Lib.IndexMore
import Derived.RangeFuncLeaves

set_option linter.all false
set_option maxHeartbeats 8000000
set_option maxRecDepth 100000
namespace Go.Am
open Go.Am.Ty Go.Proofs N
theorem sgI_xor (a b:Bool)(m n:Nat):sgI (a != b) (m*n)=sgI a m*sgI b n:=by
 unfold sgI;cases a <;> cases b <;> simp [Int.neg_mul,Int.mul_neg]
theorem mul_mk (x y:Rat):x*y=mkRat (sgI (decide (x.num<0) != decide (y.num<0)) (x.num.natAbs*y.num.natAbs)) (x.den*y.den):=by
 rw [Rat.mul_def',sgI_xor,rat_sg,rat_sg]
theorem num_ne {x:Rat}(h:x≠0):x.num.natAbs≠0:=by intro e;exact h (Rat.num_eq_zero.1 (by omega))
theorem div_mk {x y:Rat}(hy:y≠0):x / y=mkRat (sgI (decide (x.num<0) != decide (y.num<0)) (x.num.natAbs*y.den)) (x.den*y.num.natAbs):=by
 have hn:=num_ne hy
 have e:mkRat (sgI (decide (x.num<0) != decide (y.num<0)) (x.num.natAbs*y.den)) (x.den*y.num.natAbs)*y=x:=by
  conv=>lhs;rhs;rw [← Rat.mkRat_self y]
  conv=>rhs;rw [← Rat.mkRat_self x]
  rw [Rat.mkRat_mul_mkRat,Rat.mkRat_eq_iff (Nat.ne_of_gt (Nat.mul_pos (Nat.mul_pos x.den_pos (Nat.pos_of_ne_zero hn)) y.den_pos)) x.den_nz,sgI_xor,rat_sg]
  have h1:sgI (decide (y.num<0)) y.den*y.num=(y.den:Int)*y.num.natAbs:=by
   unfold sgI
   by_cases h:y.num<0
   ·rw [decide_eq_true h,if_pos rfl,show (y.num.natAbs:Int) = -y.num by omega,Int.neg_mul,Int.mul_neg]
   ·rw [decide_eq_false h,if_neg (by decide),show (y.num.natAbs:Int)=y.num by omega]
  rw [Int.mul_assoc x.num,h1,Int.natCast_mul,Int.natCast_mul,Int.mul_assoc,Int.mul_comm _ (x.den:Int),Int.mul_comm (y.den:Int),Int.mul_assoc (x.den:Int)]
 rw [← Rat.mul_div_cancel (a:=mkRat _ _) hy,e]
theorem szR_mul {x y:Rat}{L:Nat}(hx:szR x L) (hy:szR y L):szR (x*y) (2*L):=by
 have e1:=nl_mul x.num.natAbs y.num.natAbs
 have e2:=nl_mul x.den y.den
 obtain⟨a1,a2⟩:=hx
 obtain⟨b1,b2⟩:=hy
 rw [mul_mk]
 exact szR_mk _ (Nat.ne_of_gt (Nat.mul_pos x.den_pos y.den_pos)) (by omega) (by omega)
def wholeR (x:Rat)(away:Bool):Rat:=((sgI (decide (x.num<0)) (x.num.natAbs / x.den+if away=true∧x.num.natAbs % x.den≠0 then 1 else 0):Int):Rat)
theorem szR_whole {x:Rat}{L:Nat}(h:szR x L) (away:Bool):szR (wholeR x away) (L+1):=by
 unfold wholeR
 refine szR_int _ _ ?_ (by omega)
 rw [sgI_abs]
 have h1:=h.1
 refine Nat.le_trans (nl_mono (n:=x.num.natAbs+1) ?_) ?_
 ·have:=Nat.div_le_self x.num.natAbs x.den
  split <;> omega
 ·have:=nl_add x.num.natAbs 1
  have h2:=nl_one
  have h3:1≤L:=Nat.le_trans (nl_pos x.den_nz) h.2
  omega
def rngI (bits:Int):Int:=min (max bits 1) 4000
def gridR (x:Rat)(bits:Int)(away:Bool):Rat:=if x=0 then x else shiftR (wholeR (shiftR x (-(logR x - rngI bits+1))) away) (logR x - rngI bits+1)
def downR (x:Rat)(bits:Int):Rat:=gridR x bits (decide (x.num<0))
def upR (x:Rat)(bits:Int):Rat:=gridR x bits (!decide (x.num<0))
theorem FinC.num {c:Ctx}{fn:Func}{t k:Nat}{s:LSt}{κ:Nat}{r:Rat}(hr:c.P=Tryz.prog∧fn.results=#[.cell t 30]) (ht:s.fr t=.c (.ptr k 0))
 (hk:s.lv k=.cells true false 30 [.d (.bool (decide (r.num<0))),nC (natO r.num.natAbs),nC (denO r.den)]):FinC c fn (ratV r) .ret s κ:=
 FinC.cell hr.2 ht hk (by rw [hr.1,List.drop_zero,loadNum])
theorem FinC.num2 {c:Ctx}{fn:Func}{t k u:Nat}{s:LSt}{κ:Nat}{r:Rat}{y:CV}(hr:c.P=Tryz.prog∧fn.results=#[.cell t 30,.tmp u]) (ht:s.fr t=.c (.ptr k 0))
 (hk:s.lv k=.cells true false 30 [.d (.bool (decide (r.num<0))),nC (natO r.num.natAbs),nC (denO r.den)]) (hy:s.fr u=.c y):FinC c fn (.tup [ratV r,.c y]) .ret s κ:=
 FinC.cell2 hr.2 ht hk (by rw [hr.1,List.drop_zero,loadNum]) hy rfl rfl
theorem neqBool (a b:Bool):stepBin Tryz.prog .neq 4 (.c (.d (.bool a))) (.c (.d (.bool b)))=some (.c (.d (.bool (a != b))),[],[],True):=by
 cases a <;> cases b <;> kernel_rfl
theorem rat_Mul (G:List (List DV))(x y:Rat)(hx:szR x 10000000000)(hy:szR y 10000000000):CallsP Tryz.prog G 75 [ratV x,ratV y] (ratV (x*y)):=by
 have hbx:=num_bottom_ok G (decide (x.num<0)) (natO x.num.natAbs) (denO x.den)
 have hby:=num_bottom_ok G (decide (y.num<0)) (natO y.num.natAbs) (denO y.den)
 have m1:=exact_mul_ok G (natO x.num.natAbs) (natO y.num.natAbs) (by rw [natO_len];have:=hx.1;omega) (by rw [natO_len];have:=hy.1;omega)
 have m2:=exact_mul_ok G (some (dig 4294967296 x.den)) (some (dig 4294967296 y.den)) (by show nl _≤_;have:=hx.2;omega) (by show nl _≤_;have:=hy.2;omega)
 rw [denO_b] at hbx hby
 simp only [natO_v,dO_some,val_dig,nK_nC] at m1 m2
 have e1:=nl_mul x.num.natAbs y.num.natAbs
 have e2:=nl_mul x.den y.den
 have mk:=rat_made' G (decide (x.num<0) != decide (y.num<0)) (x.num.natAbs*y.num.natAbs) (x.den*y.den) (Nat.ne_of_gt (Nat.mul_pos x.den_pos y.den_pos)) (by have:=hx.1;have:=hy.1;omega) (by have:=hx.2;have:=hy.2;omega)
 rw [← mul_mk] at mk
 generalize x*y=r at *
 refine CallsP.enc Go.Proofs.Tryz.func75 rfl (fun lv=>nC_dArg lv _ _ _) fun _=>AW.q ?_
 refine AW.seqK fun K hK=>?_
 refine AW.drawP mixed (by kernel_rfl) rfl ?_
 simp [neqBool]
 refine CallDo.p 3 9 m1 ?_
 simp [neqBool]
 refine CallDo.p 3 9 hbx ?_
 simp [neqBool]
 refine CallDo.p 3 9 hby ?_
 simp [neqBool]
 refine CallDo.p 3 9 m2 ?_
 simp [neqBool]
 refine CallDo.p 3 9 mk ?_
 simp
 refine⟨by kernel_rfl,?_⟩
 repeat refine and_o ?_
 apply hK
 exact AW.ret (FinC.num (κ:=0) (t:=4) (k:=2) ⟨rfl,rfl⟩ (by simp) (by simp [setSeg]))
theorem rat_Quo (G:List (List DV))(x y:Rat)(hx:szR x 10000000000)(hy:szR y 10000000000):CallsP Tryz.prog G 125 [ratV x,ratV y] (.tup [ratV (x / y),.c (.d (.int .i64 (if y=0 then 8 else 0)))]):=by
 have hg:=num_Sign_ok G (decide (y.num<0)) (natO y.num.natAbs) (denO y.den)
 by_cases h0:y=0
 ·have e:x / y=0:=by rw [h0,Rat.div_def,Rat.inv_zero,Rat.mul_zero]
  rw [sgA_zero h0] at hg
  rw [e,if_pos h0]
  have bz:buildA Tryz.prog 30 [] []=some (ratV 0,[],[],True):=bNum0
  generalize (0:Rat)=z at *
  refine CallsP.enc Go.Proofs.Tryz.func125 rfl (fun lv=>dRes_num lv _ _ _ _) fun _=>AW.q ?_
  refine AW.seqK fun K hK=>AW.seqK fun K1 hK1=>AW.rP ?_
  simp
  refine CallDo.p 3 9 hg ?_
  simp
  repeat refine and_o ?_
  apply hK1
  refine AW.cy (AW.seqK fun K1 hK1=>AW.rP ?_)
  simp [bz]
  repeat refine and_o ?_
  apply hK1
  exact AW.ret (FinC.num2 (κ:=0) (t:=4) (k:=2) (u:=5) ⟨rfl,rfl⟩ (by simp) (by simp [setSeg]) (by simp))
 have hne:=sgA_ne h0
 have hbx:=num_bottom_ok G (decide (x.num<0)) (natO x.num.natAbs) (denO x.den)
 have hby:=num_bottom_ok G (decide (y.num<0)) (natO y.num.natAbs) (denO y.den)
 have m1:=exact_mul_ok G (natO x.num.natAbs) (some (dig 4294967296 y.den)) (by rw [natO_len];have:=hx.1;omega) (by show nl _≤_;have:=hy.2;omega)
 have m2:=exact_mul_ok G (some (dig 4294967296 x.den)) (natO y.num.natAbs) (by show nl _≤_;have:=hx.2;omega) (by rw [natO_len];have:=hy.1;omega)
 rw [denO_b] at hbx hby
 simp only [natO_v,dO_some,val_dig,nK_nC] at m1 m2
 have e1:=nl_mul x.num.natAbs y.den
 have e2:=nl_mul x.den y.num.natAbs
 have mk:=rat_made' G (decide (x.num<0) != decide (y.num<0)) (x.num.natAbs*y.den) (x.den*y.num.natAbs) (Nat.ne_of_gt (Nat.mul_pos x.den_pos (Nat.pos_of_ne_zero (num_ne h0)))) (by have:=hx.1;have:=hy.2;omega) (by have:=hx.2;have:=hy.1;omega)
 rw [← div_mk h0] at mk
 rw [if_neg h0]
 generalize x / y=r at *
 refine CallsP.enc Go.Proofs.Tryz.func125 rfl (fun lv=>dRes_num lv _ _ _ _) fun _=>AW.q ?_
 refine AW.seqK fun K hK=>AW.c1 3 hg hne ?_
 refine AW.fn (by simp [hne] <;> omega) (AW.skip (hK _ _ (AW.seqK fun K hK=>?_)))
 refine AW.drawP mixed (by kernel_rfl) rfl ?_
 simp [neqBool]
 refine CallDo.p 3 9 hby ?_
 simp [neqBool]
 refine CallDo.p 3 9 m1 ?_
 simp [neqBool]
 refine CallDo.p 3 9 hbx ?_
 simp [neqBool]
 refine CallDo.p 3 9 m2 ?_
 simp [neqBool]
 refine CallDo.p 3 9 mk ?_
 simp
 refine⟨by kernel_rfl,?_⟩
 repeat refine and_o ?_
 apply hK
 exact AW.ret (FinC.num2 (κ:=0) (t:=4) (k:=2) (u:=5) ⟨rfl,rfl⟩ (by simp) (by simp [setSeg]) (by simp))
theorem rat_Ab (G:List (List DV))(x:Rat):CallsP Tryz.prog G 101 [ratV x] (ratV (absQ x)):=by
 have h:=num_Abs_ok G (decide (x.num<0)) (natO x.num.natAbs) (denO x.den)
 have h1:x.num<0↔x<0:=by
  rw [← Rat.not_le,← Rat.num_nonneg];omega
 have e:nmA false (natO x.num.natAbs) (denO x.den)=ratV (absQ x):=by
  unfold absQ
  split
  ·rename_i hn
   have:=h1.2 hn
   show nmA _ _ _=nmA (decide ((-x).num<0)) (natO (-x).num.natAbs) (denO (-x).den)
   rw [Rat.neg_num,Int.natAbs_neg,Rat.neg_den,decide_eq_false (by omega)]
  ·rename_i hn
   have:¬ x.num<0:=fun h=>hn (h1.1 h)
   show nmA _ _ _=nmA (decide (x.num<0)) _ _
   rw [decide_eq_false this]
 rw [← e]
 exact h
theorem cmpR_neg {x y:Rat}:cmpR x y<0↔x<y:=by unfold cmpR;(repeat' split) <;> simp_all
theorem cmpR_pos {x y:Rat}:0<cmpR x y↔y<x:=by
 unfold cmpR
 split
 ·rename_i h;simp;exact fun h'=>by grind
 ·split <;> simp_all
theorem rat_Max (G:List (List DV))(x y:Rat)(hx:szR x 10000000000)(hy:szR y 10000000000):CallsP Tryz.prog G 78 [ratV x,ratV y] (ratV (maxR x y)):=by
 have hc:=rat_Cmp G x y hx hy
 by_cases h:x<y
 ·have h':=cmpR_neg.2 h
  unfold maxR;rw [if_pos h]
  generalize cmpR x y=n at *
  refine CallsP.enc Go.Proofs.Tryz.func78 rfl (fun lv=>nC_dArg lv _ _ _) fun _=>AW.q ?_
  refine AW.seqK fun K hK=>AW.c1 3 hc h' ?_
  refine AW.fy (by simp [h'] <;> omega) (AW.q ?_)
  exact AW.ret (FinC.num (κ:=0) (t:=4) (k:=2) ⟨rfl,rfl⟩ (by simp) (by simp [setSeg]))
 ·have h':¬ cmpR x y<0:=fun e=>h (cmpR_neg.1 e)
  unfold maxR;rw [if_neg h]
  generalize cmpR x y=n at *
  refine CallsP.enc Go.Proofs.Tryz.func78 rfl (fun lv=>nC_dArg lv _ _ _) fun _=>AW.q ?_
  refine AW.seqK fun K hK=>AW.c1 3 hc h' ?_
  refine AW.fn (by simp [h'] <;> omega) (AW.skip (hK _ _ (AW.q ?_)))
  exact AW.ret (FinC.num (κ:=0) (t:=4) (k:=2) ⟨rfl,rfl⟩ (by simp) (by simp [setSeg]))
theorem rat_Min (G:List (List DV))(x y:Rat)(hx:szR x 10000000000)(hy:szR y 10000000000):CallsP Tryz.prog G 79 [ratV x,ratV y] (ratV (minR x y)):=by
 have hc:=rat_Cmp G x y hx hy
 by_cases h:x<y
 ·have h':=cmpR_neg.2 h
  unfold minR;rw [if_pos h]
  generalize cmpR x y=n at *
  refine CallsP.enc Go.Proofs.Tryz.func79 rfl (fun lv=>nC_dArg lv _ _ _) fun _=>AW.q ?_
  refine AW.seqK fun K hK=>AW.c1 3 hc h' ?_
  refine AW.fy (by simp [h'] <;> omega) (AW.q ?_)
  exact AW.ret (FinC.num (κ:=0) (t:=4) (k:=2) ⟨rfl,rfl⟩ (by simp) (by simp [setSeg]))
 ·have h':¬ cmpR x y<0:=fun e=>h (cmpR_neg.1 e)
  unfold minR;rw [if_neg h]
  generalize cmpR x y=n at *
  refine CallsP.enc Go.Proofs.Tryz.func79 rfl (fun lv=>nC_dArg lv _ _ _) fun _=>AW.q ?_
  refine AW.seqK fun K hK=>AW.c1 3 hc h' ?_
  refine AW.fn (by simp [h'] <;> omega) (AW.skip (hK _ _ (AW.q ?_)))
  exact AW.ret (FinC.num (κ:=0) (t:=4) (k:=2) ⟨rfl,rfl⟩ (by simp) (by simp [setSeg]))
theorem whole_q (x:Rat):dO (divQ (natO x.num.natAbs) (some (dig 4294967296 x.den)))=(dig 4294967296 (x.num.natAbs / x.den)):=by rw [divQ_d,natO_v,dO_some,val_dig]
theorem rat_whole (G:List (List DV))(x:Rat)(away:Bool)(hx:szR x 10000000000):CallsP Tryz.prog G 187 [ratV x,.c (.d (.bool away))] (ratV (wholeR x away)):=by
 have hb:=num_bottom_ok G (decide (x.num<0)) (natO x.num.natAbs) (denO x.den)
 rw [denO_b] at hb
 have hd:=exact_div_ok G (natO x.num.natAbs) (some (dig 4294967296 x.den)) (natO_can _) (can_dig _) (dig_ne x.den_nz) (by rw [natO_len];have:=hx.1;omega)
 have hq:=whole_q x
 have hr:dO (divR (natO x.num.natAbs) (some (dig 4294967296 x.den)))=(dig 4294967296 (x.num.natAbs % x.den)):=by rw [divR_d (natO_can _),natO_v,dO_some,val_dig]
 have ho:=exact_of_ok G 1 (by decide)
 have hl:nl (x.num.natAbs / x.den)≤10000000000:=Nat.le_trans (nl_mono (Nat.div_le_self _ _)) hx.1
 generalize divQ (natO x.num.natAbs) (some (dig 4294967296 x.den))=q at *
 generalize divR (natO x.num.natAbs) (some (dig 4294967296 x.den))=r at *
 have hrl:0<(dO r).length↔x.num.natAbs % x.den≠0:=by
  rw [hr,List.length_pos_iff,Ne,dig_nil (by decide)]
 have hqc:can 4294967296 (dO q):=by rw [hq];exact can_dig _
 have hqv:(val 4294967296 (dO q))=x.num.natAbs / x.den:=by rw [hq,val_dig]
 have hadd:=exact_add_ok G q (some (dig 4294967296 1)) (by rw [hq];show nl _≤_;omega) (by show nl 1≤_;rw [nl_one];decide)
 rw [hqv,dO_some,val_dig] at hadd
 have m1:=rat_made G (decide (x.num<0)) q (some (dig 4294967296 1)) hqc (can_dig _) (dig_ne (by decide)) (by rw [hq];show nl _<_;omega) (by show nl 1<_;rw [nl_one];decide)
 have hl2:=nl_add (x.num.natAbs / x.den) 1
 rw [nl_one] at hl2
 have m2:=rat_made' G (decide (x.num<0)) (x.num.natAbs / x.den+1) 1 (by decide) (by omega) (by rw [nl_one];decide)
 rw [hqv,dO_some,val_dig,mkRat_int] at m1
 rw [mkRat_int] at m2
 simp only [nK_nC] at ho hadd hd
 have hdt:=tup2_pure q r
 simp only [nK_nC] at hdt
 by_cases ha:away=true∧x.num.natAbs % x.den≠0
 ·have e:wholeR x away=((sgI (decide (x.num<0)) (x.num.natAbs / x.den+1):Int):Rat):=by unfold wholeR;rw [if_pos ha]
  rw [e]
  obtain⟨rfl,ha2⟩:=ha
  have hr1:=hrl.2 ha2
  generalize ((sgI (decide (x.num<0)) (x.num.natAbs / x.den+1):Int):Rat)=w at *
  refine CallsP.enc Go.Proofs.Tryz.func187 rfl (fun lv=>nC_dArg lv _ _ _) fun _=>AW.q ?_
  refine AW.seqK fun K hK=>?_
  refine AW.drawP mixed (by kernel_rfl) rfl ?_
  simp
  refine CallDo.p 2 9 hb ?_
  simp
  refine CallDo.pure 2 9 hd hdt (by simp) (by simp) ?_
  simp
  refine⟨by kernel_rfl,?_⟩
  repeat refine and_o ?_
  apply hK
  refine AW.seqK fun K hK=>AW.f2 @lpC hr1 ?_
  refine AW.fy (by simp [hr1] <;> omega) (AW.rP ?_)
  simp
  refine CallDo.p 2 9 ho ?_
  simp
  refine CallDo.p 2 9 hadd ?_
  simp
  repeat refine and_o ?_
  apply hK
  refine AW.seqK fun K hK=>?_
  refine AW.drawP mixed (by kernel_rfl) rfl ?_
  simp
  refine CallDo.p 2 9 ho ?_
  simp
  refine CallDo.p 2 9 m2 ?_
  simp
  refine⟨by kernel_rfl,?_⟩
  repeat refine and_o ?_
  apply hK
  exact AW.ret (FinC.num (κ:=0) (t:=4) (k:=1) ⟨rfl,rfl⟩ (by simp) (by simp [setSeg]))
 ·have e:wholeR x away=((sgI (decide (x.num<0)) (x.num.natAbs / x.den):Int):Rat):=by unfold wholeR;rw [if_neg ha,Nat.add_zero]
  rw [e]
  have ha':¬ (away=true∧0<(dO r).length):=fun h=>ha ⟨h.1,hrl.1 h.2⟩
  generalize ((sgI (decide (x.num<0)) (x.num.natAbs / x.den):Int):Rat)=w at *
  refine CallsP.enc Go.Proofs.Tryz.func187 rfl (fun lv=>nC_dArg lv _ _ _) fun _=>AW.q ?_
  refine AW.seqK fun K hK=>?_
  refine AW.drawP mixed (by kernel_rfl) rfl ?_
  simp
  refine CallDo.p 2 9 hb ?_
  simp
  refine CallDo.pure 2 9 hd hdt (by simp) (by simp) ?_
  simp
  refine⟨by kernel_rfl,?_⟩
  repeat refine and_o ?_
  apply hK
  cases away with
  | false=>
   refine AW.seqK fun K hK=>AW.q ?_
   refine AW.cn (AW.skip (hK _ _ (AW.seqK fun K hK=>?_)))
   refine AW.drawP mixed (by kernel_rfl) rfl ?_
   simp
   refine CallDo.p 2 9 ho ?_
   simp
   refine CallDo.p 2 9 m1 ?_
   simp
   refine⟨by kernel_rfl,?_⟩
   repeat refine and_o ?_
   apply hK
   exact AW.ret (FinC.num (κ:=0) (t:=4) (k:=1) ⟨rfl,rfl⟩ (by simp) (by simp [setSeg]))
  | true=>
   have hr1:¬ 0<(dO r).length:=fun h=>ha' ⟨rfl,h⟩
   refine AW.seqK fun K hK=>AW.f2 @lpC hr1 ?_
   refine AW.fn (by simp [hr1] <;> omega) (AW.skip (hK _ _ (AW.seqK fun K hK=>?_)))
   refine AW.drawP mixed (by kernel_rfl) rfl ?_
   simp
   refine CallDo.p 2 9 ho ?_
   simp
   refine CallDo.p 2 9 m1 ?_
   simp
   refine⟨by kernel_rfl,?_⟩
   repeat refine and_o ?_
   apply hK
   exact AW.ret (FinC.num (κ:=0) (t:=4) (k:=1) ⟨rfl,rfl⟩ (by simp) (by simp [setSeg]))
theorem rngI_r (b:Int):1≤rngI b∧rngI b≤4000:=by unfold rngI;omega
theorem inRange_ok (G:List (List DV))(b:Int):CallsP Tryz.prog G 185 [.c (.d (.int .i64 b))] (.c (.d (.int .i64 (rngI b)))):=by
 have e1:(List.foldl (fun a b:Int=>if a<b then b else a) b [1])=max b 1:=by simp only [List.foldl];split <;> omega
 have e2:(List.foldl (fun a b:Int=>if b<a then b else a) (max b 1) [4000])=rngI b:=by unfold rngI;simp only [List.foldl];split <;> omega
 refine CallsP.en Go.Proofs.Tryz.func185 rfl fun _=>AW.q ?_
 refine AW.sr fun K hK=>?_
 simp [intsOf,e1,e2,-List.foldl_cons,-List.foldl_nil]
 repeat refine and_o ?_
 apply hK
 exact AW.r0 (FinP.rt rfl 2 (by simp))
theorem rat_grid (G:List (List DV))(x:Rat)(bits:Int)(away:Bool)(hx:szR x 10000):CallsP Tryz.prog G 142 [ratV x,.c (.d (.int .i64 bits)),.c (.d (.bool away))] (ratV (gridR x bits away)):=by
 have hg:=num_Sign_ok G (decide (x.num<0)) (natO x.num.natAbs) (denO x.den)
 by_cases h0:x=0
 ·have e:gridR x bits away=x:=if_pos h0
  rw [sgA_zero h0] at hg
  rw [e]
  refine CallsP.enc Go.Proofs.Tryz.func142 rfl (fun lv=>nC_dArg lv _ _ _) fun _=>AW.q ?_
  refine AW.seqK fun K hK=>AW.c0 2 hg ?_
  refine AW.cy (AW.q ?_)
  exact AW.ret (FinC.num (κ:=0) (t:=6) (k:=1) ⟨rfl,rfl⟩ (by simp) (by simp [setSeg]))
 have hne:=sgA_ne h0
 have hl:=rat_log G x h0 (szR_mono hx (by omega))
 have hlr:=logR_rng h0 hx
 have hi:=inRange_ok G bits
 obtain⟨b1,b2⟩:=rngI_r bits
 have e:gridR x bits away=shiftR (wholeR (shiftR x (-(logR x - rngI bits+1))) away) (logR x - rngI bits+1):=if_neg h0
 rw [e]
 generalize logR x=l at *
 generalize rngI bits=b at *
 have w1:IntKind.i64.wrap (l - b)=l - b:=w64 (by omega) (by omega)
 obtain⟨k,hk,k1,k2⟩:∃ k,l - b+1=k∧-325000≤k∧k≤325000:=⟨_,rfl,by omega,by omega⟩
 rw [hk]
 have w2:IntKind.i64.wrap k=k:=w64 (by omega) (by omega)
 have w3:IntKind.i64.wrap (-k) = -k:=w64 (by omega) (by omega)
 have z1:=szR_shift hx (-k)
 have z2:=szR_whole z1 away
 have s1:=rat_shifted G x (-k) (szR_mono hx (by omega)) (by omega) (by omega)
 have s2:=rat_whole G (shiftR x (-k)) away (szR_mono z1 (by omega))
 have s3:=rat_shifted G (wholeR (shiftR x (-k)) away) k (szR_mono z2 (by omega)) (by omega) (by omega)
 generalize shiftR (wholeR (shiftR x (-k)) away) k=r at *
 generalize wholeR (shiftR x (-k)) away=u at *
 generalize shiftR x (-k)=v at *
 refine CallsP.enc Go.Proofs.Tryz.func142 rfl (fun lv=>nC_dArg lv _ _ _) fun _=>AW.q ?_
 refine AW.seqK fun K hK=>AW.c1 2 hg hne ?_
 refine AW.fn (by simp [hne] <;> omega) (AW.skip (hK _ _ (AW.seqK fun K hK=>AW.rP ?_)))
 simp
 refine CallDo.p 2 9 hl ?_
 simp
 refine CallDo.p 2 9 hi ?_
 simp [w1,hk,w2]
 repeat refine and_o ?_
 apply hK
 refine AW.seqK fun K hK=>AW.rP ?_
 simp [w3]
 refine CallDo.p 2 9 s1 ?_
 simp [w3]
 refine CallDo.p 2 9 s2 ?_
 simp
 refine CallDo.p 2 9 s3 ?_
 simp
 repeat refine and_o ?_
 apply hK
 exact AW.ret (FinC.num (κ:=0) (t:=6) (k:=1) ⟨rfl,rfl⟩ (by simp) (by simp [setSeg]))
theorem rat_Down (G:List (List DV))(x:Rat)(bits:Int)(hx:szR x 10000):CallsP Tryz.prog G 83 [ratV x,.c (.d (.int .i64 bits))] (ratV (downR x bits)):=by
 have h:CallsP Tryz.prog G 142 [ratV x,.c (.d (.int .i64 bits)),.c (.d (.bool (decide (x.num<0))))] (ratV (downR x bits)):=rat_grid G x bits (decide (x.num<0)) hx
 generalize downR x bits=r at *
 refine CallsP.enc Go.Proofs.Tryz.func83 rfl (fun lv=>nC_dArg lv _ _ _) fun _=>AW.q ?_
 refine AW.c0 2 h ?_
 exact AW.ret (FinC.num (κ:=0) (t:=4) (k:=1) ⟨rfl,rfl⟩ (by simp) (by simp [setSeg]))
theorem rat_Up (G:List (List DV))(x:Rat)(bits:Int)(hx:szR x 10000):CallsP Tryz.prog G 84 [ratV x,.c (.d (.int .i64 bits))] (ratV (upR x bits)):=by
 have h:CallsP Tryz.prog G 142 [ratV x,.c (.d (.int .i64 bits)),.c (.d (.bool (!decide (x.num<0))))] (ratV (upR x bits)):=rat_grid G x bits (!decide (x.num<0)) hx
 generalize upR x bits=r at *
 refine CallsP.enc Go.Proofs.Tryz.func84 rfl (fun lv=>nC_dArg lv _ _ _) fun _=>AW.seqK fun K hK=>AW.rP ?_
 simp
 repeat refine and_o ?_
 apply hK
 refine AW.seqK fun K hK=>AW.rP ?_
 simp
 refine CallDo.p 2 9 h ?_
 simp
 repeat refine and_o ?_
 apply hK
 exact AW.ret (FinC.num (κ:=0) (t:=4) (k:=1) ⟨rfl,rfl⟩ (by simp) (by simp [setSeg]))
abbrev ivV (a:Iv):AV:=.agg [.d (.bool (decide (a.1.num<0))),nC (natO a.1.num.natAbs),nC (denO a.1.den),.d (.bool (decide (a.2.num<0))),nC (natO a.2.num.natAbs),nC (denO a.2.den)]
theorem bIv (b p q b' p' q':CV):buildA Tryz.prog 32 [0,1] [.agg [b,p,q],.agg [b',p',q']]=some (.agg [b,p,q,b',p',q'],[],[],True):=by kernel_rfl
theorem loadIv (b p q b' p' q':CV):loadA Tryz.prog 32 [b,p,q,b',p',q']=some (.agg [b,p,q,b',p',q']):=by kernel_rfl
theorem nC_nD (o:Option (List Nat)):nC o=.d (nD o):=by cases o <;> rfl
@[simp] theorem nC_rn (g:Key→Key)(o:Option (List Nat)):(nC o).ren g=nC o:=by cases o <;> rfl
@[simp] theorem iv_dArg (lv:Key→LB)(b b':Bool)(p q p' q':Option (List Nat)):dRes lv (.agg [.d (.bool b),nC p,nC q,.d (.bool b'),nC p',nC q'])=some (.agg [.d (.bool b),nC p,nC q,.d (.bool b'),nC p',nC q'],[]):=by
 simp only [nC_nD];rfl
@[simp] theorem iv_dArg2 (lv:Key→LB)(b b':Bool)(p q p' q':Option (List Nat))(n:DV)(hn:n.isScal=true):dRes lv (.tup [.agg [.d (.bool b),nC p,nC q,.d (.bool b'),nC p',nC q'],.c (.d n)])=some (.tup [.agg [.d (.bool b),nC p,nC q,.d (.bool b'),nC p',nC q'],.c (.d n)],[]):=by
 simp only [nC_nD];rfl
@[simp] theorem iv_pure (b b':Bool)(p q p' q':Option (List Nat)):(AV.agg [.d (.bool b),nC p,nC q,.d (.bool b'),nC p',nC q']).pure=true:=by
 simp only [nC_nD];rfl
@[simp] theorem iv_pure2 (b b':Bool)(p q p' q':Option (List Nat))(n:DV):(AV.tup [.agg [.d (.bool b),nC p,nC q,.d (.bool b'),nC p',nC q'],.c (.d n)]).pure=true:=by
 simp only [nC_nD];rfl
theorem FinC.iv {c:Ctx}{fn:Func}{t k:Nat}{s:LSt}{κ:Nat}{a:Iv}(hr:c.P=Tryz.prog∧fn.results=#[.cell t 32]) (ht:s.fr t=.c (.ptr k 0))
 (hk:s.lv k=.cells true false 32 [.d (.bool (decide (a.1.num<0))),nC (natO a.1.num.natAbs),nC (denO a.1.den),.d (.bool (decide (a.2.num<0))),nC (natO a.2.num.natAbs),nC (denO a.2.den)]):FinC c fn (ivV a) .ret s κ:=
 FinC.cell hr.2 ht hk (by rw [hr.1,List.drop_zero,loadIv])
def Iv.sz (a:Iv)(L:Nat):Prop:=szR a.1 L∧szR a.2 L
theorem Iv.sz_mono {a:Iv}{L M:Nat}(h:a.sz L) (hm:L≤M):a.sz M:=⟨szR_mono h.1 hm,szR_mono h.2 hm⟩
theorem cmpR_le {x y:Rat}:cmpR x y≤0↔x≤y:=by
 rw [← Rat.not_lt,← cmpR_pos];omega
theorem cmpR_ge {x y:Rat}:0≤cmpR x y↔y≤x:=by
 rw [← Rat.not_lt,← cmpR_neg];omega
theorem iv_Has (G:List (List DV))(a:Iv)(x:Rat)(ha:a.sz 10000000000)(hx:szR x 10000000000):CallsP Tryz.prog G 34 [ivV a,ratV x] (.c (.d (.bool (decide (a.has x))))):=by
 obtain⟨a1,a2⟩:=a
 have c1:=rat_Cmp G a1 x ha.1 hx
 have c2:=rat_Cmp G a2 x ha.2 hx
 have e1:cmpR a1 x≤0↔a1≤x:=cmpR_le
 have e2:0≤cmpR a2 x↔x≤a2:=cmpR_ge
 by_cases g1:a1≤x
 ·have d1:=e1.2 g1
  by_cases g2:x≤a2
  ·have d2:=e2.2 g2
   rw [show decide (Iv.has (a1,a2) x)=true from decide_eq_true ⟨g1,g2⟩]
   generalize cmpR a1 x=n1 at *
   generalize cmpR a2 x=n2 at *
   refine CallsP.en Go.Proofs.Tryz.func34 rfl fun _=>AW.q ?_
   refine AW.sr fun K hK=>?_
   simp
   refine CallDo.p 2 9 c1 ?_
   simp [d1]
   refine CallDo.p 2 9 c2 ?_
   simp [d2]
   repeat refine and_o ?_
   apply hK
   exact AW.r0 (FinP.rt rfl 4 (by simp))
  ·have d2:¬ 0≤cmpR a2 x:=fun h=>g2 (e2.1 h)
   rw [show decide (Iv.has (a1,a2) x)=false from decide_eq_false fun h=>g2 h.2]
   generalize cmpR a1 x=n1 at *
   generalize cmpR a2 x=n2 at *
   refine CallsP.en Go.Proofs.Tryz.func34 rfl fun _=>AW.q ?_
   refine AW.sr fun K hK=>?_
   simp
   refine CallDo.p 2 9 c1 ?_
   simp [d1]
   refine CallDo.p 2 9 c2 ?_
   simp [d2]
   repeat refine and_o ?_
   apply hK
   exact AW.r0 (FinP.rt rfl 4 (by simp))
 ·have d1:¬ cmpR a1 x≤0:=fun h=>g1 (e1.1 h)
  rw [show decide (Iv.has (a1,a2) x)=false from decide_eq_false fun h=>g1 h.1]
  generalize cmpR a1 x=n1 at *
  refine CallsP.en Go.Proofs.Tryz.func34 rfl fun _=>AW.q ?_
  refine AW.c1 2 c1 d1 ?_
  exact AW.r0 (FinP.rt rfl 4 (by simp))
theorem iv_Add (G:List (List DV))(a b:Iv)(ha:a.sz 10000000000)(hb:b.sz 10000000000):CallsP Tryz.prog G 19 [ivV a,ivV b] (ivV (a.add b)):=by
 have c1:=rat_Add G a.1 b.1 ha.1 hb.1
 have c2:=rat_Add G a.2 b.2 ha.2 hb.2
 unfold Iv.add
 generalize a.1+b.1=r1 at *
 generalize a.2+b.2=r2 at *
 refine CallsP.enc Go.Proofs.Tryz.func19 rfl (fun lv=>iv_dArg lv _ _ _ _ _ _) fun _=>AW.q ?_
 refine AW.seqK fun K hK=>?_
 refine AW.drawP mixed (by kernel_rfl) rfl ?_
 simp
 refine CallDo.p 3 9 c1 ?_
 simp
 refine CallDo.p 3 9 c2 ?_
 simp [bIv]
 refine⟨by kernel_rfl,?_⟩
 repeat refine and_o ?_
 apply hK
 exact AW.ret (FinC.iv (κ:=0) (t:=4) (k:=2) ⟨rfl,rfl⟩ (by simp) (by simp [setSeg]))
theorem iv_Sub (G:List (List DV))(a b:Iv)(ha:a.sz 10000000000)(hb:b.sz 10000000000):CallsP Tryz.prog G 21 [ivV a,ivV b] (ivV (a.sub b)):=by
 have c1:=rat_Sub G a.1 b.2 ha.1 hb.2
 have c2:=rat_Sub G a.2 b.1 ha.2 hb.1
 unfold Iv.sub
 generalize a.1 - b.2=r1 at *
 generalize a.2 - b.1=r2 at *
 refine CallsP.enc Go.Proofs.Tryz.func21 rfl (fun lv=>iv_dArg lv _ _ _ _ _ _) fun _=>AW.q ?_
 refine AW.seqK fun K hK=>?_
 refine AW.drawP mixed (by kernel_rfl) rfl ?_
 simp
 refine CallDo.p 3 9 c1 ?_
 simp
 refine CallDo.p 3 9 c2 ?_
 simp [bIv]
 refine⟨by kernel_rfl,?_⟩
 repeat refine and_o ?_
 apply hK
 exact AW.ret (FinC.iv (κ:=0) (t:=4) (k:=2) ⟨rfl,rfl⟩ (by simp) (by simp [setSeg]))
theorem iv_Join (G:List (List DV))(a b:Iv)(ha:a.sz 10000000000)(hb:b.sz 10000000000):CallsP Tryz.prog G 28 [ivV a,ivV b] (ivV (a.join b)):=by
 have c1:=rat_Min G a.1 b.1 ha.1 hb.1
 have c2:=rat_Max G a.2 b.2 ha.2 hb.2
 unfold Iv.join
 generalize minR a.1 b.1=r1 at *
 generalize maxR a.2 b.2=r2 at *
 refine CallsP.enc Go.Proofs.Tryz.func28 rfl (fun lv=>iv_dArg lv _ _ _ _ _ _) fun _=>AW.q ?_
 refine AW.seqK fun K hK=>?_
 refine AW.drawP mixed (by kernel_rfl) rfl ?_
 simp
 refine CallDo.p 3 9 c1 ?_
 simp
 refine CallDo.p 3 9 c2 ?_
 simp [bIv]
 refine⟨by kernel_rfl,?_⟩
 repeat refine and_o ?_
 apply hK
 exact AW.ret (FinC.iv (κ:=0) (t:=4) (k:=2) ⟨rfl,rfl⟩ (by simp) (by simp [setSeg]))
theorem iv_Out (G:List (List DV))(a:Iv)(bits:Int)(ha:a.sz 10000):CallsP Tryz.prog G 30 [ivV a,.c (.d (.int .i64 bits))] (ivV (downR a.1 bits,upR a.2 bits)):=by
 have c1:=rat_Down G a.1 bits ha.1
 have c2:=rat_Up G a.2 bits ha.2
 generalize downR a.1 bits=r1 at *
 generalize upR a.2 bits=r2 at *
 refine CallsP.enc Go.Proofs.Tryz.func30 rfl (fun lv=>iv_dArg lv _ _ _ _ _ _) fun _=>AW.q ?_
 refine AW.seqK fun K hK=>?_
 refine AW.drawP mixed (by kernel_rfl) rfl ?_
 simp
 refine CallDo.p 2 9 c1 ?_
 simp
 refine CallDo.p 2 9 c2 ?_
 simp [bIv]
 refine⟨by kernel_rfl,?_⟩
 repeat refine and_o ?_
 apply hK
 exact AW.ret (FinC.iv (κ:=0) (t:=4) (k:=1) ⟨rfl,rfl⟩ (by simp) (by simp [setSeg]))
theorem iv_Neg (G:List (List DV))(a:Iv):CallsP Tryz.prog G 15 [ivV a] (ivV a.neg):=by
 have c1:=rat_Neg G a.2
 have c2:=rat_Neg G a.1
 unfold Iv.neg
 generalize -a.2=r1 at *
 generalize -a.1=r2 at *
 refine CallsP.enc Go.Proofs.Tryz.func15 rfl (fun lv=>iv_dArg lv _ _ _ _ _ _) fun _=>AW.q ?_
 refine AW.seqK fun K hK=>?_
 refine AW.drawP mixed (by kernel_rfl) rfl ?_
 simp
 refine CallDo.p 2 9 c1 ?_
 simp
 refine CallDo.p 2 9 c2 ?_
 simp [bIv]
 refine⟨by kernel_rfl,?_⟩
 repeat refine and_o ?_
 apply hK
 exact AW.ret (FinC.iv (κ:=0) (t:=2) (k:=1) ⟨rfl,rfl⟩ (by simp) (by simp [setSeg]))
def numD (x:Rat):List DV:=[.bool (decide (x.num<0)),nD (natO x.num.natAbs),nD (denO x.den)]
abbrev numsA (l:List Rat):AV:=.c (.d (.sl (l.map numD)))
abbrev cmpF:AV:=.c (.d (.func (.func 99) [] []))
theorem lpNums (l:List Rat)(lv:Key→LB):lenP Tryz.prog 87 lv (numsA l)=some (.c (.d (.int .i64 l.length)),[],[],True):=by
 simp [lenP,lenA,keyOf]
theorem ixNums (l:List Rat)(lv:Key→LB)(i:Nat)(x:Rat)(h:l[i]?=some x):stepIndexAddr Tryz.prog 87 lv (numsA l) (.c (.d (.int .i64 (i:Int))))=some (.c (.d (.ptr (numD x))),[],[],True):=by
 obtain⟨hi,e⟩:=List.getElem?_eq_some_iff.1 h
 have hi':(i:Int)<(l.length:Int):=by omega
 simp [hi,e,numD]
def minL (l:List Rat)(m:Rat):Rat:=l.foldl (fun m x=>minR x m) m
def maxL (l:List Rat)(m:Rat):Rat:=l.foldl (fun m x=>maxR m x) m
theorem minR_comm (x y:Rat):minR x y=minR y x:=by unfold minR;split <;> split <;> grind
theorem hull_minL (w x y z:Rat):(minL [x,y,z] w,maxL [x,y,z] w)=hull4 w x y z:=by
 simp only [minL,maxL,List.foldl,hull4,minR_comm z,minR_comm y,minR_comm x]
theorem minL_drop {l:List Rat}{i:Nat}{x m:Rat}(h:l[i]?=some x):minL (l.drop i) m=minL (l.drop (i+1)) (minR x m):=by
 obtain⟨hi,e⟩:=List.getElem?_eq_some_iff.1 h
 rw [List.drop_eq_getElem_cons hi,e];rfl
theorem maxL_drop {l:List Rat}{i:Nat}{x m:Rat}(h:l[i]?=some x):maxL (l.drop i) m=maxL (l.drop (i+1)) (maxR m x):=by
 obtain⟨hi,e⟩:=List.getElem?_eq_some_iff.1 h
 rw [List.drop_eq_getElem_cons hi,e];rfl
theorem minFunc_ok (G:List (List DV))(l:List Rat)(x0:Rat)(h0:l[0]?=some x0)(hn:l.length≤1000)(hs:∀ x∈l,szR x 10000000000) :
 CallsP Tryz.prog G 140 [numsA l,cmpF] (ratV (minL (l.drop 1) x0)):=by
 have hl:0<l.length:=(List.getElem?_eq_some_iff.1 h0).1
 have hl1:¬ (l.length:Int)<1:=by omega
 have e0:l[0]'hl=x0:=(List.getElem?_eq_some_iff.1 h0).2
 generalize hR:minL (l.drop 1) x0=R
 refine CallsP.enc Go.Proofs.Tryz.func140 rfl (fun lv=>nC_dArg lv _ _ _) fun _=>AW.q ?_
 refine AW.seqK fun K hK=>AW.f2 @lpNums hl1 ?_
 refine AW.fn (by simp [hl1] <;> omega) (AW.skip ?_)
 simp
 repeat refine and_o ?_
 apply hK
 refine AW.seqK fun K hK=>AW.rP ?_
 simp [h0,hl,e0,numD,← nC_nD,setSeg]
 repeat refine and_o ?_
 apply hK
 refine AW.seqK fun K hK=>AW.seqK fun K1 hK1=>AW.rP ?_
 simp
 repeat refine and_o ?_
 apply hK1
 refine AW.block ?_
 refine AW.loopV (fun (p:Nat × Rat)=>⟨frOf [(0,numsA l),(1,cmpF),(4,.c (.ptr 0 0)),(5,.c (.ptr 1 0)),(6,.c (.d (.int .i64 (p.1:Int))))],
  upd (upd (fun _=>.hole) 0 (.cells true false 30 [.d (.bool false),.d .nilsl,.d .nilsl])) 1 (.cells true false 30 [.d (.bool (decide (p.2.num<0))),nC (natO p.2.num.natAbs),nC (denO p.2.den)])⟩) 2
  (fun p=>1≤p.1∧p.1≤l.length∧szR p.2 10000000000∧minL (l.drop p.1) p.2=R) (fun p=>l.length - p.1) (1,x0) (Le.mk2 _) ⟨Nat.le_refl _,hl,hs _ (List.mem_of_getElem? h0),hR⟩ ?_
 rintro⟨i,m⟩ ⟨h1,h2,h3,h4⟩
 simp only at h1 h2 h3 h4
 refine AW.seqK fun K2 hK2=>AW.f1 @lpNums ?_
 by_cases hlt:i<l.length
 ·have hlt':(i:Int)<(l.length:Int):=by omega
  obtain⟨x,hx⟩:∃ x,l[i]?=some x:=⟨_,List.getElem?_eq_getElem hlt⟩
  have hxs:=hs _ (List.mem_of_getElem? hx)
  have hix:=fun lv=>ixNums l lv i x hx
  have hc:=rat_Cmp G x m hxs h3
  have f12:=w64 (n:=(i:Int)+1) (by omega) (by omega)
  refine AW.fy (by simp [hlt'] <;> omega) (AW.skip (hK2 _ _ (AW.seqK fun K4 hK4=>AW.block (AW.seqK fun K5 hK5=>?_))))
  refine AW.drawP mixed (by kernel_rfl) rfl ?_
  simp [hix,numD,← nC_nD]
  refine CallDo.p 2 9 hc ?_
  simp [hix,numD,← nC_nD]
  refine⟨by kernel_rfl,?_⟩
  repeat refine and_o ?_
  apply hK5
  by_cases hm:x<m
  ·have hm':=cmpR_neg.2 hm
   refine AW.fy (by simp [hm'] <;> omega) (AW.rP ?_)
   simp [hix,numD,← nC_nD]
   repeat refine and_o ?_
   apply hK4
   refine AW.rP ?_
   simp [f12]
   refine⟨i+1,x,Le.mk2 _ (by simp [setSeg]),⟨by omega,by omega,hxs,?_⟩,by omega⟩
   rw [← h4,minL_drop hx,show minR x m=x from if_pos hm]
  ·have hm':¬ cmpR x m<0:=fun h=>hm (cmpR_neg.1 h)
   refine AW.fn (by simp [hm'] <;> omega) (AW.skip (hK4 _ _ (AW.rP ?_)))
   simp [f12]
   refine⟨i+1,m,Le.mk2 _,⟨by omega,by omega,h3,?_⟩,by omega⟩
   rw [← h4,minL_drop hx,show minR x m=m from if_neg hm]
 ·have hlt':¬ (i:Int)<(l.length:Int):=by omega
  have hd:l.drop i=[]:=List.drop_eq_nil_of_le (by omega)
  rw [hd] at h4
  have h5:m=R:=h4
  refine AW.fn (by simp [hlt'] <;> omega) (AW.exit (hK _ _ (AW.q ?_)))
  subst h5
  exact AW.ret (FinC.num (κ:=0) (t:=4) (k:=0) ⟨rfl,rfl⟩ (by simp) (by simp [setSeg]))
theorem maxFunc_ok (G:List (List DV))(l:List Rat)(x0:Rat)(h0:l[0]?=some x0)(hn:l.length≤1000)(hs:∀ x∈l,szR x 10000000000) :
 CallsP Tryz.prog G 141 [numsA l,cmpF] (ratV (maxL (l.drop 1) x0)):=by
 have hl:0<l.length:=(List.getElem?_eq_some_iff.1 h0).1
 have hl1:¬ (l.length:Int)<1:=by omega
 have e0:l[0]'hl=x0:=(List.getElem?_eq_some_iff.1 h0).2
 generalize hR:maxL (l.drop 1) x0=R
 refine CallsP.enc Go.Proofs.Tryz.func141 rfl (fun lv=>nC_dArg lv _ _ _) fun _=>AW.q ?_
 refine AW.seqK fun K hK=>AW.f2 @lpNums hl1 ?_
 refine AW.fn (by simp [hl1] <;> omega) (AW.skip (hK _ _ (AW.sr fun K hK=>?_)))
 simp [h0,hl,e0,numD,← nC_nD,setSeg]
 repeat refine and_o ?_
 apply hK
 refine AW.seqK fun K hK=>AW.seqK fun K1 hK1=>AW.rP ?_
 simp
 repeat refine and_o ?_
 apply hK1
 refine AW.block ?_
 refine AW.loopV (fun (p:Nat × Rat)=>⟨frOf [(0,numsA l),(1,cmpF),(4,.c (.ptr 0 0)),(5,.c (.ptr 1 0)),(6,.c (.d (.int .i64 (p.1:Int))))],
  upd (upd (fun _=>.hole) 0 (.cells true false 30 [.d (.bool false),.d .nilsl,.d .nilsl])) 1 (.cells true false 30 [.d (.bool (decide (p.2.num<0))),nC (natO p.2.num.natAbs),nC (denO p.2.den)])⟩) 2
  (fun p=>1≤p.1∧p.1≤l.length∧szR p.2 10000000000∧maxL (l.drop p.1) p.2=R) (fun p=>l.length - p.1) (1,x0) (Le.mk2 _) ⟨Nat.le_refl _,hl,hs _ (List.mem_of_getElem? h0),hR⟩ ?_
 rintro⟨i,m⟩ ⟨h1,h2,h3,h4⟩
 simp only at h1 h2 h3 h4
 refine AW.seqK fun K2 hK2=>AW.f1 @lpNums ?_
 by_cases hlt:i<l.length
 ·have hlt':(i:Int)<(l.length:Int):=by omega
  obtain⟨x,hx⟩:∃ x,l[i]?=some x:=⟨_,List.getElem?_eq_getElem hlt⟩
  have hxs:=hs _ (List.mem_of_getElem? hx)
  have hix:=fun lv=>ixNums l lv i x hx
  have hc:=rat_Cmp G x m hxs h3
  have f12:=w64 (n:=(i:Int)+1) (by omega) (by omega)
  refine AW.fy (by simp [hlt'] <;> omega) (AW.skip (hK2 _ _ (AW.seqK fun K4 hK4=>AW.block (AW.seqK fun K5 hK5=>?_))))
  refine AW.drawP mixed (by kernel_rfl) rfl ?_
  simp [hix,numD,← nC_nD]
  refine CallDo.p 2 9 hc ?_
  simp [hix,numD,← nC_nD]
  refine⟨by kernel_rfl,?_⟩
  repeat refine and_o ?_
  apply hK5
  by_cases hm:m<x
  ·have hm':=cmpR_pos.2 hm
   refine AW.fy (by simp [hm'] <;> omega) (AW.rP ?_)
   simp [hix,numD,← nC_nD]
   repeat refine and_o ?_
   apply hK4
   refine AW.rP ?_
   simp [f12]
   refine⟨i+1,x,Le.mk2 _ (by simp [setSeg]),⟨by omega,by omega,hxs,?_⟩,by omega⟩
   rw [← h4,maxL_drop hx,show maxR m x=x from if_pos hm]
  ·have hm':¬ 0<cmpR x m:=fun h=>hm (cmpR_pos.1 h)
   refine AW.fn (by simp [hm'] <;> omega) (AW.skip (hK4 _ _ (AW.rP ?_)))
   simp [f12]
   refine⟨i+1,m,Le.mk2 _,⟨by omega,by omega,h3,?_⟩,by omega⟩
   rw [← h4,maxL_drop hx,show maxR m x=m from if_neg hm]
 ·have hlt':¬ (i:Int)<(l.length:Int):=by omega
  have hd:l.drop i=[]:=List.drop_eq_nil_of_le (by omega)
  rw [hd] at h4
  have h5:m=R:=h4
  refine AW.fn (by simp [hlt'] <;> omega) (AW.exit (hK _ _ (AW.q ?_)))
  subst h5
  exact AW.ret (FinC.num (κ:=0) (t:=4) (k:=0) ⟨rfl,rfl⟩ (by simp) (by simp [setSeg]))
theorem hull_ok (G:List (List DV))(w x y z:Rat)(h1:szR w 10000000000)(h2:szR x 10000000000)(h3:szR y 10000000000)(h4:szR z 10000000000) :
 CallsP Tryz.prog G 76 [numsA [w,x,y,z]] (ivV (hull4 w x y z)):=by
 have hs:∀ u∈[w,x,y,z],szR u 10000000000:=by
  intro u hu
  simp only [List.mem_cons,List.not_mem_nil,or_false] at hu
  rcases hu with rfl|rfl|rfl|rfl <;> assumption
 have c1:=minFunc_ok G [w,x,y,z] w rfl (by simp) hs
 have c2:=maxFunc_ok G [w,x,y,z] w rfl (by simp) hs
 rw [← hull_minL]
 change CallsP _ _ _ _ (ratV (minL [x,y,z] w)) at c1
 change CallsP _ _ _ _ (ratV (maxL [x,y,z] w)) at c2
 generalize minL [x,y,z] w=r1 at *
 generalize maxL [x,y,z] w=r2 at *
 generalize [w,x,y,z]=l at *
 refine CallsP.enc Go.Proofs.Tryz.func76 rfl (fun lv=>iv_dArg lv _ _ _ _ _ _) fun _=>AW.q ?_
 refine AW.sr fun K hK=>?_
 simp
 refine CallDo.p 1 9 c1 ?_
 simp
 refine CallDo.p 1 9 c2 ?_
 simp [bIv]
 repeat refine and_o ?_
 apply hK
 exact AW.ret (FinC.iv (κ:=0) (t:=2) (k:=0) ⟨rfl,rfl⟩ (by simp) (by simp [setSeg]))
theorem CallDo.frz4 {c:Ctx}{f:FuncId}{lv:Key→LB}{K:AV→List (Key × LB)→List Key→Nat→Prop}(κ' kh κb:Key) {T:TypeId}{w x y z:Rat}{X:AV}
 (hk:lv κb=.cells true false T (((numD w++numD x)++(numD y++numD z)).map CV.d)) (hc:CallsP c.P c.G f [numsA [w,x,y,z]] X) (hX:X.pure=true) (hh:lv kh=.hole) (hkh:kh≠κb)
 (hK:K X [(κb,.cells true true T (((numD w++numD x)++(numD y++numD z)).map CV.d))] [kh] κ'):CallDo c f [.c (.lsl κb 0 4 3)] lv K:=by
 refine CallDo.frz κ' kh κb T _ [kh] hc hX hk hh hkh rfl (fun i p q=>?_) (fun a ha j hj=>?_) (by simp) hK
 ·have hi:i=0:=by simp at p;omega
  subst hi
  right
  simp only [List.getElem_cons_zero,dArg,toDV,upd_same]
  rfl
 ·simp only [List.mem_singleton] at ha;subst ha
  simp only [rdA,rdK,List.mem_cons,upd_same] at hj
  rcases hj with rfl|hj
  ·exact .inr rfl
  ·simp only [List.mem_flatMap] at hj
   obtain⟨y,hy,hj⟩:=hj
   simp only [List.mem_map] at hy
   obtain⟨z,_,rfl⟩:=hy
   cases hj
theorem fill4 (a b c d e f g h i j k l:CV):fillA (fun i=>some (i*3,3)) (repl 4 [.d (.bool false),.d .nilsl,.d .nilsl]) [(0,.agg [a,b,c]),(1,.agg [d,e,f]),(2,.agg [g,h,i]),(3,.agg [j,k,l])]=some [a,b,c,d,e,f,g,h,i,j,k,l]:=by kernel_rfl
theorem sgA_pos (x:Rat):0≤sgA (decide (x.num<0)) (natO x.num.natAbs)↔0≤x:=by
 unfold sgA;rw [natO_d,← Rat.num_nonneg]
 by_cases h0:x.num.natAbs=0
 ·rw [if_pos ((dig_nil (by decide)).2 h0)];omega
 ·rw [if_neg (dig_ne h0)]
  by_cases hn:x.num<0
  ·rw [decide_eq_true hn,if_pos rfl];omega
  ·rw [decide_eq_false hn,if_neg (by decide)];omega
theorem sgA_le (x:Rat):sgA (decide (x.num<0)) (natO x.num.natAbs)≤0↔x≤0:=by
 have h2:0≤-x↔x≤0:=by constructor <;> intro h <;> grind
 unfold sgA;rw [natO_d,← h2,← Rat.num_nonneg,Rat.neg_num]
 by_cases h0:x.num.natAbs=0
 ·rw [if_pos ((dig_nil (by decide)).2 h0)];omega
 ·rw [if_neg (dig_ne h0)]
  by_cases hn:x.num<0
  ·rw [decide_eq_true hn,if_pos rfl];omega
  ·rw [decide_eq_false hn,if_neg (by decide)];omega
theorem iv_mul_step (G:List (List DV))(a b:Iv)(ha:a.sz 10000000)(hb:b.sz 10000000)(la:a.1≤a.2)(lb:b.1≤b.2)
 (r1:a.1<0→a.2≤0→CallsP Tryz.prog G 23 [ivV a.neg,ivV b] (ivV (a.neg.mul b)))
 (r2:¬ (a.1<0∧a.2≤0)→b.1<0→b.2≤0→CallsP Tryz.prog G 23 [ivV a,ivV b.neg] (ivV (a.mul b.neg))) :
 CallsP Tryz.prog G 23 [ivV a,ivV b] (ivV (a.mul b)):=by
 obtain⟨a1,a2⟩:=a
 obtain⟨b1,b2⟩:=b
 have sz:∀ {x:Rat},szR x 10000000→szR x 10000000000:=fun h=>szR_mono h (by decide)
 have g1:=num_Sign_ok G (decide (a1.num<0)) (natO a1.num.natAbs) (denO a1.den)
 have g2:=num_Sign_ok G (decide (a2.num<0)) (natO a2.num.natAbs) (denO a2.den)
 have g3:=num_Sign_ok G (decide (b1.num<0)) (natO b1.num.natAbs) (denO b1.den)
 have g4:=num_Sign_ok G (decide (b2.num<0)) (natO b2.num.natAbs) (denO b2.den)
 have p1:=sgA_pos a1
 have p2:=sgA_le a2
 have p3:=sgA_pos b1
 have p4:=sgA_le b2
 by_cases c0:0≤a1∧0≤b1
 ·have m1:=rat_Mul G a1 b1 (sz ha.1) (sz hb.1)
  have m2:=rat_Mul G a2 b2 (sz ha.2) (sz hb.2)
  rw [Iv.mul_pos la lb c0.1 c0.2]
  have q1:=p1.2 c0.1
  have q3:=p3.2 c0.2
  generalize sgA (decide (a1.num<0)) (natO a1.num.natAbs)=s1 at *
  generalize sgA (decide (b1.num<0)) (natO b1.num.natAbs)=s3 at *
  simp only at m1 m2 ⊢
  generalize a1*b1=u1 at *
  generalize a2*b2=u2 at *
  refine CallsP.enc Go.Proofs.Tryz.func23 rfl (fun lv=>iv_dArg lv _ _ _ _ _ _) fun _=>AW.q ?_
  refine AW.seqK fun K hK=>AW.block (AW.sr fun K1 hK1=>?_)
  simp
  refine CallDo.p 3 9 g1 ?_
  simp [q1]
  refine CallDo.p 3 9 g3 ?_
  simp [q3]
  repeat refine and_o ?_
  apply hK1
  refine AW.cy (AW.seqK fun K1 hK1=>?_)
  refine AW.drawP mixed (by kernel_rfl) rfl ?_
  simp
  refine CallDo.p 3 9 m1 ?_
  simp
  refine CallDo.p 3 9 m2 ?_
  simp [bIv]
  refine⟨by kernel_rfl,?_⟩
  repeat refine and_o ?_
  apply hK1
  exact AW.ret (FinC.iv (κ:=0) (t:=4) (k:=2) ⟨rfl,rfl⟩ (by simp) (by simp [setSeg]))
 by_cases c1:a1<0∧a2≤0
 ·have m1:=r1 c1.1 c1.2
  have n1:=iv_Neg G (a1,a2)
  have n2:=iv_Neg G (Iv.mul (Iv.neg (a1,a2)) (b1,b2))
  rw [Iv.mul_negl] at n2
  have q1:¬ 0≤sgA (decide (a1.num<0)) (natO a1.num.natAbs):=fun h=>absurd (p1.1 h) (Rat.not_le.2 c1.1)
  have q2:=p2.2 c1.2
  have q1':sgA (decide (a1.num<0)) (natO a1.num.natAbs)<0:=by omega
  generalize sgA (decide (a1.num<0)) (natO a1.num.natAbs)=s1 at *
  generalize sgA (decide (a2.num<0)) (natO a2.num.natAbs)=s2 at *
  generalize Iv.mul (Iv.neg (a1,a2)) (b1,b2)=u at *
  generalize Iv.mul (a1,a2) (b1,b2)=v at *
  generalize Iv.neg (a1,a2)=na at *
  refine CallsP.enc Go.Proofs.Tryz.func23 rfl (fun lv=>iv_dArg lv _ _ _ _ _ _) fun _=>AW.q ?_
  refine AW.seqK fun K hK=>AW.block (AW.sr fun K1 hK1=>?_)
  simp
  refine CallDo.p 3 9 g1 ?_
  simp [q1]
  repeat refine and_o ?_
  apply hK1
  refine AW.cn (AW.sr fun K1 hK1=>?_)
  simp
  refine CallDo.p 3 9 g1 ?_
  simp [q1']
  refine CallDo.p 3 9 g2 ?_
  simp [q2]
  repeat refine and_o ?_
  apply hK1
  refine AW.cy (AW.seqK fun K1 hK1=>?_)
  refine AW.drawP mixed (by kernel_rfl) rfl ?_
  simp
  refine CallDo.p 3 9 n1 ?_
  simp
  refine CallDo.p 3 9 m1 ?_
  simp
  refine CallDo.p 3 9 n2 ?_
  simp
  refine⟨by kernel_rfl,?_⟩
  repeat refine and_o ?_
  apply hK1
  exact AW.ret (FinC.iv (κ:=0) (t:=4) (k:=2) ⟨rfl,rfl⟩ (by simp) (by simp [setSeg]))
 have q1n:¬ 0≤a1→a1<0:=fun h=>Rat.not_le.1 h
 have s1n:a1<0→sgA (decide (a1.num<0)) (natO a1.num.natAbs)<0:=fun h=>by
  have:¬ 0≤sgA (decide (a1.num<0)) (natO a1.num.natAbs):=fun h'=>absurd (p1.1 h') (Rat.not_le.2 h)
  omega
 have s3n:b1<0→sgA (decide (b1.num<0)) (natO b1.num.natAbs)<0:=fun h=>by
  have:¬ 0≤sgA (decide (b1.num<0)) (natO b1.num.natAbs):=fun h'=>absurd (p3.1 h') (Rat.not_le.2 h)
  omega
 by_cases c2:b1<0∧b2≤0
 ·have m1:=r2 c1 c2.1 c2.2
  have n1:=iv_Neg G (b1,b2)
  have n2:=iv_Neg G (Iv.mul (a1,a2) (Iv.neg (b1,b2)))
  rw [Iv.mul_negr] at n2
  have q3':=s3n c2.1
  have q3:¬ 0≤sgA (decide (b1.num<0)) (natO b1.num.natAbs):=by omega
  have q4:=p4.2 c2.2
  by_cases h1:0≤a1
  ·have q1:=p1.2 h1
   have q1':¬ sgA (decide (a1.num<0)) (natO a1.num.natAbs)<0:=by omega
   generalize sgA (decide (a1.num<0)) (natO a1.num.natAbs)=s1 at *
   generalize sgA (decide (a2.num<0)) (natO a2.num.natAbs)=s2 at *
   generalize sgA (decide (b1.num<0)) (natO b1.num.natAbs)=s3 at *
   generalize sgA (decide (b2.num<0)) (natO b2.num.natAbs)=s4 at *
   generalize Iv.mul (a1,a2) (Iv.neg (b1,b2))=u at *
   generalize Iv.mul (a1,a2) (b1,b2)=v at *
   generalize Iv.neg (b1,b2)=nb at *
   refine CallsP.enc Go.Proofs.Tryz.func23 rfl (fun lv=>iv_dArg lv _ _ _ _ _ _) fun _=>AW.q ?_
   refine AW.seqK fun K hK=>AW.block (AW.sr fun K1 hK1=>?_)
   simp
   refine CallDo.p 3 9 g1 ?_
   simp [q1]
   refine CallDo.p 3 9 g3 ?_
   simp [q3]
   repeat refine and_o ?_
   apply hK1
   refine AW.cn (AW.c1 3 g1 q1' ?_)
   refine AW.cn (AW.sr fun K1 hK1=>?_)
   simp
   refine CallDo.p 3 9 g3 ?_
   simp [q3']
   refine CallDo.p 3 9 g4 ?_
   simp [q4]
   repeat refine and_o ?_
   apply hK1
   refine AW.cy (AW.seqK fun K1 hK1=>?_)
   refine AW.drawP mixed (by kernel_rfl) rfl ?_
   simp
   refine CallDo.p 3 9 n1 ?_
   simp
   refine CallDo.p 3 9 m1 ?_
   simp
   refine CallDo.p 3 9 n2 ?_
   simp
   refine⟨by kernel_rfl,?_⟩
   repeat refine and_o ?_
   apply hK1
   exact AW.ret (FinC.iv (κ:=0) (t:=4) (k:=2) ⟨rfl,rfl⟩ (by simp) (by simp [setSeg]))
  ·have q1':=s1n (q1n h1)
   have q1:¬ 0≤sgA (decide (a1.num<0)) (natO a1.num.natAbs):=by omega
   have q2:¬ sgA (decide (a2.num<0)) (natO a2.num.natAbs)≤0:=fun h=>c1 ⟨q1n h1,p2.1 h⟩
   generalize sgA (decide (a1.num<0)) (natO a1.num.natAbs)=s1 at *
   generalize sgA (decide (a2.num<0)) (natO a2.num.natAbs)=s2 at *
   generalize sgA (decide (b1.num<0)) (natO b1.num.natAbs)=s3 at *
   generalize sgA (decide (b2.num<0)) (natO b2.num.natAbs)=s4 at *
   generalize Iv.mul (a1,a2) (Iv.neg (b1,b2))=u at *
   generalize Iv.mul (a1,a2) (b1,b2)=v at *
   generalize Iv.neg (b1,b2)=nb at *
   refine CallsP.enc Go.Proofs.Tryz.func23 rfl (fun lv=>iv_dArg lv _ _ _ _ _ _) fun _=>AW.q ?_
   refine AW.seqK fun K hK=>AW.block (AW.sr fun K1 hK1=>?_)
   simp
   refine CallDo.p 3 9 g1 ?_
   simp [q1]
   repeat refine and_o ?_
   apply hK1
   refine AW.cn (AW.sr fun K1 hK1=>?_)
   simp
   refine CallDo.p 3 9 g1 ?_
   simp [q1']
   refine CallDo.p 3 9 g2 ?_
   simp [q2]
   repeat refine and_o ?_
   apply hK1
   refine AW.cn (AW.sr fun K1 hK1=>?_)
   simp
   refine CallDo.p 3 9 g3 ?_
   simp [q3']
   refine CallDo.p 3 9 g4 ?_
   simp [q4]
   repeat refine and_o ?_
   apply hK1
   refine AW.cy (AW.seqK fun K1 hK1=>?_)
   refine AW.drawP mixed (by kernel_rfl) rfl ?_
   simp
   refine CallDo.p 3 9 n1 ?_
   simp
   refine CallDo.p 3 9 m1 ?_
   simp
   refine CallDo.p 3 9 n2 ?_
   simp
   refine⟨by kernel_rfl,?_⟩
   repeat refine and_o ?_
   apply hK1
   exact AW.ret (FinC.iv (κ:=0) (t:=4) (k:=2) ⟨rfl,rfl⟩ (by simp) (by simp [setSeg]))
 have hm:Iv.mul (a1,a2) (b1,b2)=hull4 (a1*b1) (a1*b2) (a2*b1) (a2*b2):=rfl
 have m1:=rat_Mul G a1 b1 (sz ha.1) (sz hb.1)
 have m2:=rat_Mul G a1 b2 (sz ha.1) (sz hb.2)
 have m3:=rat_Mul G a2 b1 (sz ha.2) (sz hb.1)
 have m4:=rat_Mul G a2 b2 (sz ha.2) (sz hb.2)
 have zz:∀ {x y:Rat},szR x 10000000→szR y 10000000→szR (x*y) 10000000000:=fun h h'=>szR_mono (szR_mul h h') (by decide)
 have hh:=hull_ok G (a1*b1) (a1*b2) (a2*b1) (a2*b2) (zz ha.1 hb.1) (zz ha.1 hb.2) (zz ha.2 hb.1) (zz ha.2 hb.2)
 rw [hm]
 generalize hull4 (a1*b1) (a1*b2) (a2*b1) (a2*b2)=v at *
 generalize a1*b1=u1 at *
 generalize a1*b2=u2 at *
 generalize a2*b1=u3 at *
 generalize a2*b2=u4 at *
 by_cases h1:0≤a1
 ·have h3:b1<0:=Rat.not_le.1 fun h=>c0 ⟨h1,h⟩
  have q1:=p1.2 h1
  have q1':¬ sgA (decide (a1.num<0)) (natO a1.num.natAbs)<0:=by omega
  have q3':=s3n h3
  have q3:¬ 0≤sgA (decide (b1.num<0)) (natO b1.num.natAbs):=by omega
  have q4:¬ sgA (decide (b2.num<0)) (natO b2.num.natAbs)≤0:=fun h=>c2 ⟨h3,p4.1 h⟩
  generalize sgA (decide (a1.num<0)) (natO a1.num.natAbs)=s1 at *
  generalize sgA (decide (b1.num<0)) (natO b1.num.natAbs)=s3 at *
  generalize sgA (decide (b2.num<0)) (natO b2.num.natAbs)=s4 at *
  refine CallsP.enc Go.Proofs.Tryz.func23 rfl (fun lv=>iv_dArg lv _ _ _ _ _ _) fun _=>AW.q ?_
  refine AW.seqK fun K hK=>AW.block (AW.sr fun K1 hK1=>?_)
  simp
  refine CallDo.p 3 9 g1 ?_
  simp [q1]
  refine CallDo.p 3 9 g3 ?_
  simp [q3]
  repeat refine and_o ?_
  apply hK1
  refine AW.cn (AW.c1 3 g1 q1' ?_)
  refine AW.cn (AW.sr fun K1 hK1=>?_)
  simp
  refine CallDo.p 3 9 g3 ?_
  simp [q3']
  refine CallDo.p 3 9 g4 ?_
  simp [q4]
  repeat refine and_o ?_
  apply hK1
  refine AW.cn (AW.skip (hK _ _ (AW.seqK fun K hK=>?_)))
  refine AW.drawP mixed (by kernel_rfl) rfl ?_
  simp
  refine CallDo.p 3 9 m1 ?_
  simp
  refine CallDo.p 3 9 m2 ?_
  simp
  refine CallDo.p 3 9 m3 ?_
  simp
  refine CallDo.p 3 9 m4 ?_
  simp [fill4]
  refine CallDo.frz4 (T:=30) 4 9 3 (w:=u1) (x:=u2) (y:=u3) (z:=u4) ?_ hh ?_ ?_ ?_ ?_
  ·simp [numD,nC_nD]
  ·simp
  ·simp
  ·decide
  simp
  refine⟨by kernel_rfl,?_⟩
  repeat refine and_o ?_
  apply hK
  exact AW.ret (FinC.iv (κ:=0) (t:=4) (k:=2) ⟨rfl,rfl⟩ (by simp) (by simp [setSeg]))
 have q1':=s1n (q1n h1)
 have q1:¬ 0≤sgA (decide (a1.num<0)) (natO a1.num.natAbs):=by omega
 have q2:¬ sgA (decide (a2.num<0)) (natO a2.num.natAbs)≤0:=fun h=>c1 ⟨q1n h1,p2.1 h⟩
 by_cases h3:b1<0
 ·have q3':=s3n h3
  have q4:¬ sgA (decide (b2.num<0)) (natO b2.num.natAbs)≤0:=fun h=>c2 ⟨h3,p4.1 h⟩
  generalize sgA (decide (a1.num<0)) (natO a1.num.natAbs)=s1 at *
  generalize sgA (decide (a2.num<0)) (natO a2.num.natAbs)=s2 at *
  generalize sgA (decide (b1.num<0)) (natO b1.num.natAbs)=s3 at *
  generalize sgA (decide (b2.num<0)) (natO b2.num.natAbs)=s4 at *
  refine CallsP.enc Go.Proofs.Tryz.func23 rfl (fun lv=>iv_dArg lv _ _ _ _ _ _) fun _=>AW.q ?_
  refine AW.seqK fun K hK=>AW.block (AW.sr fun K1 hK1=>?_)
  simp
  refine CallDo.p 3 9 g1 ?_
  simp [q1]
  repeat refine and_o ?_
  apply hK1
  refine AW.cn (AW.sr fun K1 hK1=>?_)
  simp
  refine CallDo.p 3 9 g1 ?_
  simp [q1']
  refine CallDo.p 3 9 g2 ?_
  simp [q2]
  repeat refine and_o ?_
  apply hK1
  refine AW.cn (AW.sr fun K1 hK1=>?_)
  simp
  refine CallDo.p 3 9 g3 ?_
  simp [q3']
  refine CallDo.p 3 9 g4 ?_
  simp [q4]
  repeat refine and_o ?_
  apply hK1
  refine AW.cn (AW.skip (hK _ _ (AW.seqK fun K hK=>?_)))
  refine AW.drawP mixed (by kernel_rfl) rfl ?_
  simp
  refine CallDo.p 3 9 m1 ?_
  simp
  refine CallDo.p 3 9 m2 ?_
  simp
  refine CallDo.p 3 9 m3 ?_
  simp
  refine CallDo.p 3 9 m4 ?_
  simp [fill4]
  refine CallDo.frz4 (T:=30) 4 9 3 (w:=u1) (x:=u2) (y:=u3) (z:=u4) ?_ hh ?_ ?_ ?_ ?_
  ·simp [numD,nC_nD]
  ·simp
  ·simp
  ·decide
  simp
  refine⟨by kernel_rfl,?_⟩
  repeat refine and_o ?_
  apply hK
  exact AW.ret (FinC.iv (κ:=0) (t:=4) (k:=2) ⟨rfl,rfl⟩ (by simp) (by simp [setSeg]))
 ·have q3':¬ sgA (decide (b1.num<0)) (natO b1.num.natAbs)<0:=by
   have:=p3.2 (Rat.not_lt.1 h3)
   omega
  generalize sgA (decide (a1.num<0)) (natO a1.num.natAbs)=s1 at *
  generalize sgA (decide (a2.num<0)) (natO a2.num.natAbs)=s2 at *
  generalize sgA (decide (b1.num<0)) (natO b1.num.natAbs)=s3 at *
  refine CallsP.enc Go.Proofs.Tryz.func23 rfl (fun lv=>iv_dArg lv _ _ _ _ _ _) fun _=>AW.q ?_
  refine AW.seqK fun K hK=>AW.block (AW.sr fun K1 hK1=>?_)
  simp
  refine CallDo.p 3 9 g1 ?_
  simp [q1]
  repeat refine and_o ?_
  apply hK1
  refine AW.cn (AW.sr fun K1 hK1=>?_)
  simp
  refine CallDo.p 3 9 g1 ?_
  simp [q1']
  refine CallDo.p 3 9 g2 ?_
  simp [q2]
  repeat refine and_o ?_
  apply hK1
  refine AW.cn (AW.c1 3 g3 q3' ?_)
  refine AW.cn (AW.skip (hK _ _ (AW.seqK fun K hK=>?_)))
  refine AW.drawP mixed (by kernel_rfl) rfl ?_
  simp
  refine CallDo.p 3 9 m1 ?_
  simp
  refine CallDo.p 3 9 m2 ?_
  simp
  refine CallDo.p 3 9 m3 ?_
  simp
  refine CallDo.p 3 9 m4 ?_
  simp [fill4]
  refine CallDo.frz4 (T:=30) 4 9 3 (w:=u1) (x:=u2) (y:=u3) (z:=u4) ?_ hh ?_ ?_ ?_ ?_
  ·simp [numD,nC_nD]
  ·simp
  ·simp
  ·decide
  simp
  refine⟨by kernel_rfl,?_⟩
  repeat refine and_o ?_
  apply hK
  exact AW.ret (FinC.iv (κ:=0) (t:=4) (k:=2) ⟨rfl,rfl⟩ (by simp) (by simp [setSeg]))
theorem iv_Mul (G:List (List DV))(a b:Iv)(ha:a.sz 10000000)(hb:b.sz 10000000)(la:a.1≤a.2)(lb:b.1≤b.2) :
 CallsP Tryz.prog G 23 [ivV a,ivV b] (ivV (a.mul b)):=by
 have sn:∀ {a:Iv},a.sz 10000000→a.neg.sz 10000000:=fun h=>⟨szR_neg h.2,szR_neg h.1⟩
 have ln:∀ {a:Iv},a.1≤a.2→a.neg.1≤a.neg.2:=fun h=>Rat.neg_le_neg h
 have nn:∀ {a:Iv},a.2≤0→¬ a.neg.1<0:=fun {a} h h'=>by
  have:-a.2<0:=h'
  grind
 refine iv_mul_step G a b ha hb la lb (fun h1 h2=>?_) (fun h0 h1 h2=>?_)
 ·refine iv_mul_step G a.neg b (sn ha) hb (ln la) lb (fun h3 _=>absurd h3 (nn h2)) (fun _ h4 h5=>?_)
  exact iv_mul_step G a.neg b.neg (sn ha) (sn hb) (ln la) (ln lb) (fun h3 _=>absurd h3 (nn h2)) (fun _ h3 _=>absurd h3 (nn h5))
 ·exact iv_mul_step G a b.neg ha (sn hb) la (ln lb) (fun h3 h4=>absurd ⟨h3,h4⟩ h0) (fun _ h3 _=>absurd h3 (nn h2))
def isDg (c:UInt8):Bool:=decide (48≤c.toNat∧c.toNat≤57)
def asc:List DV:=(List.range 256).map fun c=>.bool (decide (48≤c∧c≤57))
theorem asc_len:asc.length=256:=by simp [asc]
theorem asc_drop (c:UInt8):asc.drop c.toNat=.bool (isDg c)::asc.drop (c.toNat+1):=by
 have h:c.toNat<asc.length:=by rw [asc_len];exact c.toNat_lt
 rw [List.drop_eq_getElem_cons h]
 congr 1
 simp [asc,isDg]
theorem contains_ok (G:List (List DV))(c:UInt8):CallsP Tryz.prog G 242 [.c (.d (.ptr asc)),.c (.d (.int .u8 c.toNat))] (.c (.d (.bool (isDg c)))):=by
 have hc:=c.toNat_lt
 have hl:=asc_len
 have ha:=asc_drop c
 refine CallsP.en Go.Proofs.Tryz.func242 rfl fun _=>AW.q ?_
 refine AW.sr fun K hK=>?_
 simp [stepIndexAddr,ha,hl]
 repeat refine and_o ?_
 apply hK
 exact AW.r0 (FinP.rt rfl 4 (by simp))
theorem trimLeft_ok (G:List (List DV))(s:List UInt8):CallsP Tryz.prog G 201 [.c (.d (.str s)),.c (.d (.ptr asc))] (.c (.d (.str (s.dropWhile isDg)))):=by
 refine CallsP.en Go.Proofs.Tryz.func201 rfl fun _=>AW.q ?_
 refine AW.seqK fun K hK=>AW.block ?_
 refine AW.loopV (fun (p:List UInt8)=>⟨frOf [(0,.c (.d (.str p))),(1,.c (.d (.ptr asc)))],fun _=>.hole⟩) 0 (fun p=>p.dropWhile isDg=s.dropWhile isDg) (fun p=>p.length) s (Le.mk' _ rfl (by simp) (by simp)) rfl ?_
 rintro p hp
 refine AW.seqK fun K3 hK3=>AW.q ?_
 cases p with
 | nil=>
  refine AW.cn (AW.exit (hK _ _ (AW.q ?_)))
  have hp':s.dropWhile isDg=[]:=by rw [← hp];rfl
  exact AW.r0 (FinP.rt rfl 4 (by simp [hp']))
 | cons c l=>
  refine AW.cy (AW.skip (hK3 _ _ (AW.block (AW.seqK fun K5 hK5=>AW.sr fun K6 hK6=>?_))))
  simp
  refine CallDo.pure 0 9 (contains_ok _ c) (by simp) (by simp) rfl ?_
  simp
  apply hK6
  cases hd:isDg c with
  | false=>
   refine AW.fy (by rfl) (AW.exit (hK _ _ ?_))
   simp only [List.dropWhile,hd] at hp
   refine AW.q ?_
   exact AW.r0 (FinP.rt rfl 4 (by simp [hp]))
  | true=>
   refine AW.fn (by rfl) (AW.skip (hK5 _ _ (AW.rP ?_)))
   simp
   simp only [List.dropWhile,hd] at hp
   exact⟨by omega,l,Le.mk' _ rfl (by simp) (by simp),hp,by simp⟩
def trimRD (s:List UInt8):List UInt8:=(s.reverse.dropWhile isDg).reverse
theorem trimRight_ok (G:List (List DV))(s:List UInt8):CallsP Tryz.prog G 202 [.c (.d (.str s)),.c (.d (.ptr asc))] (.c (.d (.str (trimRD s)))):=by
 refine CallsS.know 0 (by simp) (fun V v h=>(show s.length≤9223372036854775807 by cases h.1 with|str _ hl=>exact hl)) fun hr=>?_
 refine CallsP.en Go.Proofs.Tryz.func202 rfl fun _=>AW.q ?_
 refine AW.seqK fun K hK=>AW.block ?_
 refine AW.loopV (fun (p:List UInt8)=>⟨frOf [(0,.c (.d (.str p))),(1,.c (.d (.ptr asc)))],fun _=>.hole⟩) 0 (fun p=>p.reverse.dropWhile isDg=s.reverse.dropWhile isDg∧p.length≤s.length) (fun p=>p.length) s (Le.mk' _ rfl (by simp) (by simp)) ⟨rfl,Nat.le_refl _⟩ ?_
 rintro p ⟨hp,hpl⟩
 refine AW.seqK fun K3 hK3=>AW.q ?_
 rcases List.eq_nil_or_concat p with rfl|⟨l,c,rfl⟩
 ·refine AW.cn (AW.exit (hK _ _ (AW.q ?_)))
  have hp':trimRD s=[]:=by unfold trimRD;rw [← hp];rfl
  exact AW.r0 (FinP.rt rfl 4 (by simp [hp']))
 ·rw [List.concat_eq_append] at *
  have hn:0<(l++[c]).length:=by simp
  have hlen:(l++[c]).length=l.length+1:=by simp
  have e2:IntKind.i64.wrap (l.length:Int)=(l.length:Int):=w64 (by omega) (by omega)
  have hr1:(l++[c]).reverse=c::l.reverse:=by simp
  rw [hr1] at hp
  refine AW.cy (AW.skip (hK3 _ _ (AW.block (AW.seqK fun K5 hK5=>AW.sr fun K6 hK6=>?_))))
  simp [e2]
  refine⟨by omega,?_⟩
  refine CallDo.pure 0 9 (contains_ok _ c) (by simp) (by simp) rfl ?_
  simp
  apply hK6
  cases hd:isDg c with
  | false=>
   refine AW.fy (by rfl) (AW.exit (hK _ _ ?_))
   simp only [List.dropWhile,hd] at hp
   refine AW.q ?_
   have hp':trimRD s=l++[c]:=by unfold trimRD;rw [← hp];simp
   exact AW.r0 (FinP.rt rfl 4 (by simp [hp']))
  | true=>
   refine AW.fn (by rfl) (AW.skip (hK5 _ _ (AW.rP ?_)))
   simp [e2]
   simp only [List.dropWhile,hd] at hp
   exact⟨by omega,l,Le.mk' _ rfl (by simp) (by simp),⟨hp,by omega⟩,by simp⟩
end Go.Am
namespace Go.Am
open Go.Proofs
theorem mkset_ok (m:Int):CallsP Tryz.prog (GG m) 200 [.c (.d (.str [48,49,50,51,52,53,54,55,56,57]))] (.tup [.agg (asc.map .d),.c (.d (.bool true))]):=
 CallsP.of_ev (evA_ok m 60) (by kernel_rfl)
end Go.Am
namespace Go.Am
open Go.Am.Ty Go.Proofs N
abbrev digs:List UInt8:=[48,49,50,51,52,53,54,55,56,57]
def trimD (s:List UInt8):List UInt8:=(trimRD s).dropWhile isDg
def zerS:List CV:=List.replicate 256 (.d (.bool false))
def ascC:List CV:=asc.map .d
theorem mkset' (m:Int):CallsP Tryz.prog (GG m) 200 [.c (.d (.str digs))] (.tup [.agg ascC,.c (.d (.bool true))]):=mkset_ok m
theorem mksetP:(AV.tup [.agg ascC,.c (.d (.bool true))]).pure=true:=by kernel_rfl
abbrev lvS:Key→LB:=upd (fun _=>LB.hole) 0 (.cells true false 246 ascC)
theorem dargS (s:List UInt8):dArgs lvS [.c (.d (.str s)),.c (.ptr 0 0)]=some ([.c (.d (.str s)),.c (.d (.ptr asc))],[0]):=by kernel_rfl
theorem rdaS:rdA lvS (.c (.ptr 0 0))=[0]:=by kernel_rfl
theorem rdS (s:List UInt8):∀ a∈[AV.c (.d (.str s)),AV.c (.ptr 0 0)],∀ k∈rdA lvS a,k∈[0]:=by
 intro a ha k hk
 simp only [List.mem_cons,List.not_mem_nil,or_false] at ha
 rcases ha with rfl|rfl
 ·cases hk
 ·rw [rdaS] at hk;exact hk
theorem zcS:zcells Tryz.prog 246=some zerS:=by kernel_rfl
theorem stS:stepStore Tryz.prog 246 (upd (fun _=>.hole) 0 (.cells true false 246 zerS)) (.c (.ptr 0 0)) (.agg ascC)=some (.undef,[(0,.cells true false 246 ascC)],[],True):=by
 have hl:ascC.length=256:=by unfold ascC;simp [asc_len]
 have hz:zerS.length=256:=List.length_replicate
 have hs:setSeg zerS 0 ascC=ascC:=by
  unfold setSeg;rw [hl,List.take_zero,List.nil_append,Nat.zero_add,List.drop_eq_nil_of_le (Nat.le_of_eq hz),List.append_nil]
 simp_all
theorem CallDo.flat {c:Ctx}{f:FuncId}{xs us:List AV}{ks rds:List Key}{x:AV}{lv:Key→LB}{K:AV→List (Key × LB)→List Key→Nat→Prop}(κ:Nat) (ha:dArgs lv xs=some (us,ks)) (hc:CallsP c.P c.G f us x) (hx:x.flat=true)
 (hr:∀ a∈xs,∀ k∈rdA lv a,k∈rds) (hK:K x [] rds κ):CallDo c f xs lv K:=⟨x,[],rds,κ,CallEff.flat us ks rds x ha hc hx hr,hK⟩
theorem eqEmpty (s:List UInt8):stepBin Tryz.prog .eql 9 (.c (.d (.str s))) (.c (.d (.str [])))=some (.c (.d (.bool (decide (s=[])))),[],[],True):=by
 cases s with
 | nil=>kernel_rfl
 | cons a l=>rfl
theorem trim_ok (m:Int)(s:List UInt8):CallsP Tryz.prog (GG m) 149 [.c (.d (.str s)),.c (.d (.str digs))] (.c (.d (.str (trimD s)))):=by
 refine CallsP.en Go.Proofs.Tryz.func149 rfl fun _=>AW.q ?_
 refine AW.seqK fun K hK=>AW.seqK fun K1 hK1=>?_
 by_cases hs:s=[]
 ·refine AW.l2 @eqEmpty hs (hK1 _ _ ?_)
  refine AW.cy (AW.q ?_)
  exact AW.r0 (FinP.rt rfl 4 (by simp [hs,trimD,trimRD]))
 refine AW.l2 @eqEmpty hs (hK1 _ _ ?_)
 refine AW.cn (AW.skip (hK _ _ (AW.seqK fun K hK=>AW.q ?_)))
 refine AW.cn (AW.skip (hK _ _ (AW.seqK fun K hK=>AW.sr fun K1 hK1=>?_)))
 simp
 refine CallDo.pure 0 9 (mkset' m) mksetP (by simp) rfl ?_
 simp [zcS,stS,-stepStore]
 apply hK1
 refine AW.q ?_
 refine AW.cy (AW.sr fun K1 hK1=>?_)
 simp
 refine CallDo.flat 2 (us:=[.c (.d (.str s)),.c (.d (.ptr asc))]) (ks:=[0]) (rds:=[0]) (dargS s) (trimRight_ok _ s) rfl (rdS s) ?_
 simp
 refine CallDo.flat 2 (us:=[.c (.d (.str (trimRD s))),.c (.d (.ptr asc))]) (ks:=[0]) (rds:=[0]) (dargS _) (trimLeft_ok _ (trimRD s)) rfl (rdS _) ?_
 simp
 apply hK1
 exact AW.r0 (FinP.rt rfl 9 (by rfl))
theorem beqD (s t:List UInt8):(s == t)=decide (s=t):=by
 grind
theorem eqStr (s t:List UInt8):stepBin Tryz.prog .eql 9 (.c (.d (.str s))) (.c (.d (.str t)))=some (.c (.d (.bool (decide (s=t)))),[],[],True):=by
 rw [← beqD];rfl
theorem neStr (s t:List UInt8):stepBin Tryz.prog .neq 9 (.c (.d (.str s))) (.c (.d (.str t)))=some (.c (.d (.bool (!decide (s=t)))),[],[],True):=by
 rw [← beqD];rfl
def rowB (s:List UInt8):Bool:=!decide (s=[]) && decide (trimD s=[]) && (decide (s=[48]) || !decide (s.getD 0 0=48))
theorem row_ok (m:Int)(s:List UInt8):CallsP Tryz.prog (GG m) 89 [.c (.d (.str s))] (.c (.d (.bool (rowB s)))):=by
 refine CallsP.en Go.Proofs.Tryz.func89 rfl fun _=>AW.q ?_
 refine AW.seqK fun K hK=>?_
 cases s with
 | nil=>
  refine AW.l1 @neStr (hK _ _ ?_)
  exact AW.r0 (FinP.rt rfl 2 (by simp [rowB]))
 | cons a l=>
  refine AW.rP ?_
  simp [neStr]
  refine CallDo.pure 0 9 (trim_ok m (a::l)) (by simp) (by simp) rfl ?_
  by_cases ht:trimD (a::l)=[]
  ·by_cases h0:a::l=[48]
   ·have ht':trimD [48]=[]:=h0 ▸ ht
    simp [eqStr,h0,ht']
    apply hK
    exact AW.r0 (FinP.rt rfl 2 (by simp [rowB,h0,ht']))
   ·simp [eqStr,ht,h0]
    apply hK
    have ha:((a.toNat:Int)=48)↔a=48:=by
     constructor
     ·intro h;exact UInt8.toNat_inj.1 (by grind)
     ·simp_all
    have hr:rowB (a::l) = !decide ((a.toNat:Int)=48):=by
     have h1:decide ((a.toNat:Int)=48)=decide (a=48):=by simp only [ha]
     rw [h1]
     simp [rowB,ht,h0]
    exact AW.r0 (FinP.rt rfl 2 (by simp [hr]))
  ·simp [eqStr,ht]
   apply hK
   exact AW.r0 (FinP.rt rfl 2 (by simp [rowB,ht]))
def hpB (s p:List UInt8):Bool:=decide (p.length≤s.length) && decide (s.take p.length=p)
def cpS (s p:List UInt8):List UInt8:=if hpB s p=true then s.drop p.length else s
theorem hasPrefix_ok (G:List (List DV))(s p:List UInt8):CallsP Tryz.prog G 196 [.c (.d (.str s)),.c (.d (.str p))] (.c (.d (.bool (hpB s p)))):=by
 refine CallsP.en Go.Proofs.Tryz.func196 rfl fun _=>AW.q ?_
 refine AW.seqK fun K hK=>?_
 by_cases h:p.length≤s.length
 ·have h':(p.length:Int)≤(s.length:Int):=by omega
  refine AW.l3 @eqStr h h' (hK _ _ ?_)
  exact AW.r0 (FinP.rt rfl 4 (by simp [hpB,h]))
 ·have h':¬ (p.length:Int)≤(s.length:Int):=by omega
  refine AW.l3 @eqStr h h' (hK _ _ ?_)
  exact AW.r0 (FinP.rt rfl 4 (by simp [hpB,h]))
theorem cutPrefix0_ok (G:List (List DV))(s p:List UInt8):CallsP Tryz.prog G 147 [.c (.d (.str s)),.c (.d (.str p))] (.tup [.c (.d (.str (cpS s p))),.c (.d (.bool (hpB s p)))]):=by
 refine CallsP.en Go.Proofs.Tryz.func147 rfl fun _=>AW.q ?_
 refine AW.seqK fun K hK=>AW.sr fun K1 hK1=>?_
 simp
 refine CallDo.pure 0 9 (hasPrefix_ok _ s p) (by simp) (by simp) rfl ?_
 simp
 apply hK1
 by_cases h:hpB s p=true
 ·refine AW.fn (by simp_all) (AW.skip (hK _ _ (AW.seqK fun K hK=>?_)))
  have hl:p.length≤s.length:=by
   unfold hpB at h;simp only [Bool.and_eq_true,decide_eq_true_eq] at h;exact h.1
  refine AW.l1 hl (hK _ _ ?_)
  exact AW.r0 (FinP.t2 rfl 5 (by simp [cpS,h]) (by simp [h]))
 ·refine AW.fy (by simp_all) (AW.q ?_)
  exact AW.r0 (FinP.t2 rfl 5 (by simp [cpS,h]) (by simp [h]))
theorem cutPrefix_ok (G:List (List DV))(s p:List UInt8):CallsP Tryz.prog G 87 [.c (.d (.str s)),.c (.d (.str p))] (.tup [.c (.d (.str (cpS s p))),.c (.d (.bool (hpB s p)))]):=by
 refine CallsP.en Go.Proofs.Tryz.func87 rfl fun _=>AW.q ?_
 refine AW.sr fun K hK=>?_
 simp
 refine CallDo.pure 0 9 (cutPrefix0_ok _ s p) rfl (by simp) rfl ?_
 simp
 apply hK
 exact AW.r0 (FinP.t2 rfl 6 (by simp) (by simp))
theorem FinP.tmp3 {c:Ctx}{fn:Func}{x y z:AV}{t u v:Nat}{s:LSt}{κ:Nat}(hr:fn.results=#[.tmp t,.tmp u,.tmp v]) (kh:Key) (hx:s.fr t=x) (hy:s.fr u=y) (hz:s.fr v=z) (hp:x.pure=true) (hq:y.pure=true) (hw:z.pure=true) (hh:s.lv kh=.hole)
 (hn:x.noTup=true) (hm:y.noTup=true) (hl:z.noTup=true) (htu:t≠u) (htv:t≠v) (huv:u≠v):FinP c fn (.tup [x,y,z]) .ret s κ:=by
 refine⟨[(t,x),(u,y),(v,z)],kh,by grind,hh,?_⟩
 rw [hr]
 have h1:¬ u=t:=fun h=>htu h.symm
 have h2:¬ v=t:=fun h=>htv h.symm
 have h3:¬ v=u:=fun h=>huv h.symm
 simp [resA,resL,resV,frOf,h1,h2,h3,hn,hm,hl]
theorem FinP.t3 {c:Ctx}{fn:Func}{x y z:AV}{t u v:Nat}{s:LSt}(hr:fn.results=#[.tmp t,.tmp u,.tmp v]) (kh:Key) (hx:s.fr t=x:=by simp) (hy:s.fr u=y:=by simp) (hz:s.fr v=z:=by simp) (hp:x.pure=true:=by first|rfl|simp) (hq:y.pure=true:=by first|rfl|simp) (hw:z.pure=true:=by first|rfl|simp)
 (hh:s.lv kh=.hole:=by first|rfl|simp) (h1:x.noTup=true:=by first|rfl|simp) (h2:y.noTup=true:=by first|rfl|simp) (h3:z.noTup=true:=by first|rfl|simp) (d1:t≠u:=by decide) (d2:t≠v:=by decide) (d3:u≠v:=by decide):FinP c fn (.tup [x,y,z]) .ret s 0:=FinP.tmp3 hr kh hx hy hz hp hq hw hh h1 h2 h3 d1 d2 d3
def ctI (s t:List UInt8):Int:=Lib.index s t
def ctA (s t:List UInt8):List UInt8:=if 0≤ctI s t then s.take (ctI s t).toNat else s
def ctB (s t:List UInt8):List UInt8:=if 0≤ctI s t then s.drop ((ctI s t).toNat+t.length) else []
theorem index_lt (s t:List UInt8)(h:s.length≤9223372036854775807):-9223372036854775808≤Lib.index s t∧Lib.index s t≤9223372036854775807:=by
 have h1:=Lib.index_ge s t
 have h2:Lib.index s t≤s.length:=by
  clear h h1
  induction s with
  | nil=>simp only [Lib.index];omega
  | cons a s ih=>
   simp only [Lib.index]
   grind
 omega
theorem indexB_ok (G:List (List DV))(s:List UInt8)(c:Nat)(hc:c<256):CallsP Tryz.prog G 238 [.c (.d (.str s)),.c (.d (.int .u8 (c:Int)))] (.c (.d (.int .i64 (ctI s [UInt8.ofNat c])))):=by
 refine CallsS.know 0 (by simp) (fun V v h=>(show s.length≤9223372036854775807 by cases h.1 with|str _ hl=>exact hl)) fun hs=>?_
 refine CallsP.of_CallG (X:=.c (.d (.int .i64 (ctI s [UInt8.ofNat c])))) (lv':=fun _=>.hole) (ks:=[]) ?_ rfl
 refine CallG.of_same (by rfl) fun F β w vs hS hl hv=>?_
 obtain⟨u,v,rfl,hu,hv⟩:=args2 hl hv
 have:=Tryz.stringslite_IndexByte ⟨s.toArray⟩ c w
 refine⟨.int .i64 (ctI s [UInt8.ofNat c]),av_int (index_lt s _ hs),?_⟩
 rw [Vw.c_str hu,Vw.c_int hv]
 simpa [ctI,← index_one] using this
theorem idx_self (c:UInt8):ctI [c] [c]=0:=by simp [ctI,Lib.index,List.isPrefixOf]
theorem index1_ok (G:List (List DV))(s:List UInt8)(c:UInt8):CallsP Tryz.prog G 197 [.c (.d (.str s)),.c (.d (.str [c]))] (.c (.d (.int .i64 (ctI s [c])))):=by
 have hb:=indexB_ok G s c.toNat c.toNat_lt
 rw [show UInt8.ofNat c.toNat=c from UInt8.ofNat_toNat] at hb
 refine CallsP.en Go.Proofs.Tryz.func197 rfl fun _=>AW.q ?_
 refine AW.q ?_
 refine AW.seqK fun K hK=>AW.block (AW.seqK fun K1 hK1=>?_)
 by_cases hs:[c]=s
 ·have h0:ctI s [c]=0:=by rw [← hs];exact idx_self c
  refine AW.l2 @eqStr hs (hK1 _ _ ?_)
  refine AW.cy (AW.q ?_)
  exact AW.r0 (FinP.rt rfl 4 (by simp [h0]))
 ·refine AW.l2 @eqStr hs (hK1 _ _ ?_)
  refine AW.cn (AW.q ?_)
  refine AW.cy (AW.sr fun K1 hK1=>?_)
  simp
  refine CallDo.pure 0 9 hb (by simp) (by simp) rfl ?_
  simp
  apply hK1
  exact AW.r0 (FinP.rt rfl 4 (by simp))
theorem cutA0_ok (m:Int)(s t:List UInt8)(h:s.length≤9223372036854775807)(hix:CallsP Tryz.prog (GG m) 197 [.c (.d (.str s)),.c (.d (.str t))] (.c (.d (.int .i64 (ctI s t))))):CallsP Tryz.prog (GG m) 148 [.c (.d (.str s)),.c (.d (.str t))] (.tup [.c (.d (.str (ctA s t))),.c (.d (.str (ctB s t))),.c (.d (.bool (decide (0≤ctI s t))))]):=by
 refine CallsP.en Go.Proofs.Tryz.func148 rfl fun _=>AW.q ?_
 refine AW.seqK fun K hK=>AW.sr fun K1 hK1=>?_
 simp
 refine CallDo.pure 0 9 hix (by simp) (by simp) rfl ?_
 simp
 apply hK1
 refine AW.q ?_
 by_cases hi:0≤ctI s t
 ·refine AW.fy (by simp_all) ?_
  obtain⟨n,hn⟩:∃ n:Nat,ctI s t=n:=⟨(ctI s t).toNat,(Int.toNat_of_nonneg hi).symm⟩
  have hr:=Lib.index_room s t (by unfold ctI at hi;exact hi)
  have hr':n+t.length≤s.length:=by unfold ctI at hn;rw [hn] at hr;omega
  have hw:IntKind.i64.wrap ((n:Int)+t.length)=((n+t.length:Nat):Int):=by rw [w64 (by omega) (by omega)];omega
  have hn1:n≤s.length:=by omega
  refine AW.seqK fun K1 hK1=>?_
  refine AW.drawQ mixed (by kernel_rfl) rfl rfl ?_
  simp [hn,hw,hn1,hr',-Int.natCast_add]
  apply hK1
  exact AW.r0 (FinP.t3 rfl 9 (by simp [ctA,hn]) (by simp [ctB,hn]) (by simp [hn]))
 ·refine AW.fn (by simp_all) (AW.skip (hK _ _ (AW.q ?_)))
  exact AW.r0 (FinP.t3 rfl 9 (by simp [ctA,hi]) (by simp [ctB,hi]) (by simp [hi]))
theorem cutA_ok (m:Int)(s t:List UInt8)(h:s.length≤9223372036854775807)(hix:CallsP Tryz.prog (GG m) 197 [.c (.d (.str s)),.c (.d (.str t))] (.c (.d (.int .i64 (ctI s t))))):CallsP Tryz.prog (GG m) 88 [.c (.d (.str s)),.c (.d (.str t))] (.tup [.c (.d (.str (ctA s t))),.c (.d (.str (ctB s t))),.c (.d (.bool (decide (0≤ctI s t))))]):=by
 refine CallsP.en Go.Proofs.Tryz.func88 rfl fun _=>AW.q ?_
 refine AW.sr fun K hK=>?_
 simp
 refine CallDo.pure 0 9 (cutA0_ok m s t h hix) rfl (by simp) rfl ?_
 simp
 apply hK
 exact AW.r0 (FinP.t3 rfl 9 (by simp) (by simp) (by simp))
theorem cut1_ok (m:Int)(s:List UInt8)(c:UInt8):CallsP Tryz.prog (GG m) 88 [.c (.d (.str s)),.c (.d (.str [c]))] (.tup [.c (.d (.str (ctA s [c]))),.c (.d (.str (ctB s [c]))),.c (.d (.bool (decide (0≤ctI s [c]))))]):=by
 refine CallsS.know 0 (by simp) (fun V v h=>(show s.length≤9223372036854775807 by cases h.1 with|str _ hl=>exact hl)) fun hs=>?_
 exact cutA_ok m s [c] hs (index1_ok (GG m) s c)
theorem dw_nil {p:UInt8→Bool}:∀ {l:List UInt8},l.dropWhile p=[]→∀ x∈l,p x=true
 | [],_,x,hx=>by cases hx
 | a::l,h,x,hx=>by
  simp only [List.dropWhile] at h
  split at h
  ·rename_i ha
   rcases List.mem_cons.1 hx with rfl|hx
   ·exact ha
   ·exact dw_nil h x hx
  grind
theorem trimD_nil {s:List UInt8}(h:trimD s=[]):isD s:=by
 have h1:∀ x∈trimRD s,isDg x=true:=dw_nil h
 have h2:∀ x∈s.reverse.dropWhile isDg,isDg x=true:=fun x hx=>h1 x (by unfold trimRD;grind)
 have h3:∀ x∈s.reverse,isDg x=true:=by
  intro x hx
  rw [← List.takeWhile_append_dropWhile (p:=isDg) (l:=s.reverse),List.mem_append] at hx
  rcases hx with hx|hx
  ·have:=List.all_takeWhile (p:=isDg) (l:=s.reverse)
   grind
  ·grind
 intro c hc
 have:=h3 c (List.mem_reverse.2 hc)
 simpa [isDg] using this
theorem rowB_d {s:List UInt8}(h:rowB s=true):isD s∧s≠[]:=by
 unfold rowB at h
 simp only [Bool.and_eq_true,Bool.not_eq_true',decide_eq_false_iff_not,decide_eq_true_eq] at h
 exact⟨trimD_nil h.1.2,h.1.1⟩
abbrev nm0:AV:=nmA false none none
def badB (neg:Bool)(top bot:List UInt8)(brk:Bool):Bool:=!rowB top || (neg && decide (top=[48])) || (brk && (!rowB bot || decide (bot=[48]) || decide (bot=[49])))
abbrev rdO (s:List UInt8):Option (List Nat):=some (dig 4294967296 (decN s 0))
def parseR (neg:Bool)(top bot:List UInt8)(brk:Bool):AV:=
 if badB neg top bot brk=true then .tup [nm0,.c (.d (.int .i64 6))]
 else if 2000<max top.length bot.length then .tup [nm0,.c (.d (.int .i64 3))]
 else if brk=false then .tup [madeA neg (rdO top) (some (dig 4294967296 1)),.c (.d (.int .i64 0))]
 else if val 4294967296 (dO (gO (rdO top) (rdO bot)))=1 then .tup [nmA neg (rdO top) (rdO bot),.c (.d (.int .i64 0))]
 else .tup [nm0,.c (.d (.int .i64 6))]
theorem parseR_dRes (lv:Key→LB)(neg:Bool)(top bot:List UInt8)(brk:Bool):dRes lv (parseR neg top bot brk)=some (parseR neg top bot brk,[]):=by
 have h1:∀ b p q n,dRes lv (.tup [nmA b p q,.c (.d (.int .i64 n))])=some (.tup [nmA b p q,.c (.d (.int .i64 n))],[]):=by
  intro b p q n;cases p <;> cases q <;> rfl
 unfold parseR madeA
 grind
theorem read_row (G:List (List DV)){s:List UInt8}(h:rowB s=true) (hl:s.length≤2000):CallsP Tryz.prog G 91 [.c (.d (.str s))] (.c (nC (rdO s))):=by
 obtain⟨h1,h2⟩:=rowB_d h
 have:=exact_read_ok G s h1 (by omega)
 have e:oO (!s.isEmpty) (decN s 0)=rdO s:=by
  cases s with
  | nil=>grind
  | cons a l=>rfl
 rw [e,nK_nC] at this
 omega
theorem parse_ok (m:Int)(r:List UInt8) :
 CallsP Tryz.prog (GG m) 32 [.c (.d (.str r))] (parseR (hpB r [45]) (ctA (cpS r [45]) [47]) (ctB (cpS r [45]) [47]) (decide (0≤ctI (cpS r [45]) [47]))):=by
 refine CallsS.know 0 (by simp) (fun V v h=>(show r.length≤9223372036854775807 by cases h.1 with|str _ hl=>exact hl)) fun hr=>?_
 have hcl:(cpS r [45]).length≤9223372036854775807:=by
  unfold cpS;split
  ·grind
  ·exact hr
 have hcp:=cutPrefix_ok (GG m) r [45]
 have hct:=cut1_ok m (cpS r [45]) 47
 have hta:(ctA (cpS r [45]) [47]).length≤9223372036854775807:=by
  unfold ctA;split
  ·grind
  ·omega
 have htb:(ctB (cpS r [45]) [47]).length≤9223372036854775807:=by
  unfold ctB;split
  ·grind
  ·simp
 generalize hpB r [45]=neg at *
 generalize cpS r [45]=s at *
 generalize ctA s [47]=top at *
 generalize ctB s [47]=bot at *
 generalize decide (0≤ctI s [47])=brk at *
 refine CallsP.enc Go.Proofs.Tryz.func32 rfl (fun lv=>parseR_dRes lv _ _ _ _) fun _=>AW.q ?_
 refine AW.sr fun K hK=>?_
 simp
 refine CallDo.pure 1 9 hcp rfl (by simp) (by simp) ?_
 simp
 apply hK
 refine AW.sr fun K hK=>?_
 simp
 refine CallDo.pure 1 9 hct rfl (by simp) (by simp) ?_
 simp
 apply hK
 refine AW.seqK fun K hK=>AW.block (AW.seqK fun K1 hK1=>?_)
 have row1:=row_ok m top
 have row2:=row_ok m bot
 have hbad:∀ (fr:Nat→AV) (κ:Nat),fr 2=.c (.ptr 0 0)→fr 22=.c (.d (.bool true))→badB neg top bot brk=true →
  K1 ⟨fr,upd (fun _=>.hole) 0 (.cells true false 30 [.d (.bool false),.d .nilsl,.d .nilsl])⟩ κ:=by
  intro fr κ z2 z22 hb
  apply hK1
  refine AW.fy (by simp_all) (AW.f2 z2 @bNum0 ?_)
  refine AW.ret ?_
  simp only [parseR,if_pos hb]
  refine FinC.cell2 (κ:=0) (T:=30) (t:=2) (u:=3) (k:=0) (off:=0) (own:=true) (fz:=false) (U:=30) (cs:=[.d (.bool false),.d .nilsl,.d .nilsl]) rfl ?_ ?_ ?_ ?_ rfl rfl
  ·simp [z2]
  ·rfl
  ·rfl
  ·simp
 have hgood:∀ (fr:Nat→AV) (κ:Nat),fr 2=.c (.ptr 0 0)→fr 5=.c (.d (.bool neg))→fr 6=.c (.d (.str top))→fr 7=.c (.d (.str bot))→fr 8=.c (.d (.bool brk))→fr 22=.c (.d (.bool false)) →
  rowB top=true→(brk=true→rowB bot=true)→badB neg top bot brk=false →
  K1 ⟨fr,upd (fun _=>.hole) 0 (.cells true false 30 [.d (.bool false),.d .nilsl,.d .nilsl])⟩ κ:=by
  intro fr κ z2 z5 z6 z7 z8 z22 g1 g2 hb
  apply hK1
  refine AW.fn (by simp_all) (AW.seqK fun K2 hK2=>?_)
  have hmx:∀ (a b:Nat),(List.foldl (fun a b:Int=>if a<b then b else a) (a:Int) [(b:Int)])=((max a b:Nat):Int):=by
   intro a b;simp only [List.foldl];split <;> omega
  refine AW.rP ?_
  simp [z6,z7,intsOf,hmx,-List.foldl_cons,-List.foldl_nil]
  apply hK2
  have hbf:¬ badB neg top bot brk=true:=by rw [hb];decide
  by_cases hl:2000<max top.length bot.length
  ·have hl':(2000:Int)<((max top.length bot.length:Nat):Int):=by omega
   refine AW.fy (by simp_all) (AW.f2 z2 @bNum0 ?_)
   refine AW.ret ?_
   simp only [parseR,if_neg hbf,if_pos hl]
   refine FinC.cell2 (κ:=0) (T:=30) (t:=2) (u:=3) (k:=0) (off:=0) (own:=true) (fz:=false) (U:=30) (cs:=[.d (.bool false),.d .nilsl,.d .nilsl]) rfl ?_ ?_ ?_ ?_ rfl rfl
   ·simp [z2]
   ·rfl
   ·rfl
   ·simp
  have hl':¬ (2000:Int)<((max top.length bot.length:Nat):Int):=by omega
  refine AW.fn (by simp_all) (AW.skip (hK _ _ ?_))
  have ht2:top.length≤2000:=by omega
  have hb2:bot.length≤2000:=by omega
  have rd1:=read_row (GG m) g1 ht2
  have hof:=exact_of_ok (GG m) 1 (by decide)
  have c1:can 4294967296 (dO (rdO top)):=dig_can (by decide) _
  have c2:can 4294967296 (dO (some (dig 4294967296 1))):=dig_can (by decide) _
  have dlen:∀ (u:List UInt8),isD u→u.length≤2000→(dO (rdO u)).length<1000000000000:=by
   intro u hu hlu
   have h1:=decN_lt hu
   have h2:(10:Nat) ^ u.length≤4294967296 ^ u.length:=Nat.pow_le_pow_left (by decide) _
   have:=dig_len_le (B:=4294967296) (n:=decN u 0) (m:=u.length) (by decide) (by omega)
   simp only [dO_some]
   omega
  have l1:=dlen top (rowB_d g1).1 ht2
  have l2:(dO (some (dig 4294967296 1))).length<1000000000000:=Nat.lt_of_le_of_lt (dig_len_le (m:=1) (by decide) (by decide)) (by decide)
  refine AW.seqK fun K3 hK3=>AW.f1 z8 ?_
  cases hk:brk with
  | false=>
   rw [hk] at hbf
   have hmade:=exact_made_ok (GG m) neg (rdO top) (some (dig 4294967296 1)) c1 c2 (by intro h;exact absurd ((dig_nil (by decide)).1 h) (by decide)) l1 l2
   simp only [nK_nC] at hmade hof
   refine AW.cy (AW.sr fun K4 hK4=>?_)
   simp [z5,z6]
   refine CallDo.pure κ 9 rd1 (by simp) (by simp) (by simp) ?_
   simp
   refine CallDo.pure κ 9 hof (by simp) (by simp) (by simp) ?_
   simp
   by_cases hz:dO (rdO top)=[]
   ·simp only [madeA,if_pos hz] at hmade
    refine CallDo.pure κ 9 hmade (by simp) (by simp) (by simp) ?_
    simp [z2]
    apply hK4
    refine AW.ret ?_
    simp only [parseR,if_neg hbf,if_neg hl,reduceIte,madeA,if_pos hz]
    refine FinC.cell2 (κ:=0) (T:=30) (t:=2) (u:=3) (k:=0) (off:=0) (own:=true) (fz:=false) (U:=30) (cs:=[.d (.bool false),nC none,nC none]) rfl ?_ ?_ ?_ ?_ rfl rfl
    ·simp [z2]
    ·rfl
    ·rfl
    ·simp
   ·simp only [madeA,if_neg hz] at hmade
    refine CallDo.pure κ 9 hmade (by simp) (by simp) (by simp) ?_
    simp [z2]
    apply hK4
    refine AW.ret ?_
    simp only [parseR,if_neg hbf,if_neg hl,reduceIte,madeA,if_neg hz]
    refine FinC.cell2 (κ:=0) (T:=30) (t:=2) (u:=3) (k:=0) (off:=0) (own:=true) (fz:=false) (U:=30) (cs:=[.d (.bool neg),nC (mP (rdO top) (some (dig 4294967296 1))),nC (mQ (rdO top) (some (dig 4294967296 1)))]) rfl ?_ ?_ ?_ ?_ rfl rfl
    ·simp [z2]
    ·rfl
    ·rfl
    ·simp
  | true=>
   rw [hk] at hbf
   have g3:=g2 hk
   have rd2:=read_row (GG m) g3 hb2
   have c3:can 4294967296 (dO (rdO bot)):=dig_can (by decide) _
   have l3:=dlen bot (rowB_d g3).1 hb2
   have hgcd:=exact_gcd_ok (GG m) (rdO top) (rdO bot) c1 c3 l1 l3
   have his:=exact_is1_ok (GG m) (gO (rdO top) (rdO bot)) (by unfold gO;rw [gcdO_d c1 c3];exact dig_can (by decide) _)
   change CallsP _ _ 94 _ (nK .u32 (gO (rdO top) (rdO bot))) at hgcd
   simp only [nK_nC] at hgcd his
   refine AW.cn (AW.skip (hK3 _ _ (AW.sr fun K4 hK4=>?_)))
   simp [z6]
   refine CallDo.pure κ 9 rd1 (by simp) (by simp) (by simp) ?_
   simp [z7]
   refine CallDo.pure κ 9 rd2 (by simp) (by simp) (by simp) ?_
   simp
   apply hK4
   refine AW.seqK fun K4 hK4=>AW.sr fun K5 hK5=>?_
   simp
   refine CallDo.pure κ 9 hgcd (by simp) (by simp) (by simp) ?_
   simp
   refine CallDo.pure κ 9 his (by simp) (by simp) (by simp) ?_
   simp
   apply hK5
   by_cases h1:val 4294967296 (dO (gO (rdO top) (rdO bot)))=1
   ·refine AW.fn (by simp_all) (AW.skip (hK4 _ _ (AW.f3 z2 z5 @bNum ?_)))
    refine AW.ret ?_
    have hp:parseR neg top bot brk=.tup [nmA neg (rdO top) (rdO bot),.c (.d (.int .i64 0))]:=by rw [hk];unfold parseR;rw [if_neg hbf,if_neg hl,if_neg (by decide),if_pos h1]
    rw [hp]
    refine FinC.cell2 (κ:=0) (T:=30) (t:=2) (u:=3) (k:=0) (off:=0) (own:=true) (fz:=false) (U:=30) (cs:=[.d (.bool neg),nC (rdO top),nC (rdO bot)]) rfl ?_ ?_ ?_ ?_ rfl rfl
    ·simp [z2]
    ·rfl
    ·rfl
    ·simp
   ·refine AW.fy (by simp_all) (AW.f2 z2 @bNum0 ?_)
    refine AW.ret ?_
    have hp:parseR neg top bot brk=.tup [nm0,.c (.d (.int .i64 6))]:=by rw [hk];unfold parseR;rw [if_neg hbf,if_neg hl,if_neg (by decide),if_neg h1]
    rw [hp]
    refine FinC.cell2 (κ:=0) (T:=30) (t:=2) (u:=3) (k:=0) (off:=0) (own:=true) (fz:=false) (U:=30) (cs:=[.d (.bool false),.d .nilsl,.d .nilsl]) rfl ?_ ?_ ?_ ?_ rfl rfl
    ·simp [z2]
    ·rfl
    ·rfl
    ·simp
 refine AW.rP ?_
 simp
 refine CallDo.pure 1 9 row1 (by simp) (by simp) (by simp) ?_
 cases g1:rowB top with
 | false=>
  simp
  exact hbad _ _ (by simp) (by simp) (by simp [badB,g1])
 | true=>
  cases hn:neg with
  | true=>
   by_cases h48:top=[48]
   ·have e48:decide (top=[48])=true:=decide_eq_true h48
    simp [eqStr,e48]
    exact hbad _ _ (by simp) (by simp) (by simp [badB,hn,h48])
   ·cases hk:brk with
    | false=>
     simp [eqStr,h48]
     exact hgood _ _ (by simp) (by simp [hn]) (by simp) (by simp) (by simp [hk]) (by simp) g1 (fun h=>by grind) (by simp [badB,g1,hn,h48,hk])
    | true=>
     simp [eqStr,h48]
     refine CallDo.pure 1 9 row2 (by simp) (by simp) (by simp) ?_
     cases g2:rowB bot with
     | false=>
      simp
      exact hbad _ _ (by simp) (by simp) (by simp [badB,g2,hk])
     | true=>
      by_cases b48:bot=[48]
      ·have e:decide (bot=[48])=true:=decide_eq_true b48
       simp [eqStr,e]
       exact hbad _ _ (by simp) (by simp) (by simp [badB,e,hk])
      ·by_cases b49:bot=[49]
       ·have e:decide (bot=[49])=true:=decide_eq_true b49
        simp [eqStr,b48,e]
        exact hbad _ _ (by simp) (by simp) (by simp [badB,e,hk])
       ·simp [eqStr,b48,b49]
        exact hgood _ _ (by simp) (by simp [hn]) (by simp) (by simp) (by simp [hk]) (by simp) g1 (fun _=>g2) (by simp [badB,g1,hn,h48,hk,g2,b48,b49])
  | false=>
   cases hk:brk with
   | false=>
    simp
    exact hgood _ _ (by simp) (by simp [hn]) (by simp) (by simp) (by simp [hk]) (by simp) g1 (fun h=>by grind) (by simp [badB,g1,hn,hk])
   | true=>
    simp
    refine CallDo.pure 1 9 row2 (by simp) (by simp) (by simp) ?_
    cases g2:rowB bot with
    | false=>
     simp
     exact hbad _ _ (by simp) (by simp) (by simp [badB,g2,hk])
    | true=>
     by_cases b48:bot=[48]
     ·have e:decide (bot=[48])=true:=decide_eq_true b48
      simp [eqStr,e]
      exact hbad _ _ (by simp) (by simp) (by simp [badB,e,hk])
     ·by_cases b49:bot=[49]
      ·have e:decide (bot=[49])=true:=decide_eq_true b49
       simp [eqStr,b48,e]
       exact hbad _ _ (by simp) (by simp) (by simp [badB,e,hk])
      ·simp [eqStr,b48,b49]
       exact hgood _ _ (by simp) (by simp [hn]) (by simp) (by simp) (by simp [hk]) (by simp) g1 (fun _=>g2) (by simp [badB,g1,hn,hk,g2,b48,b49])
def parseE (neg:Bool)(top bot:List UInt8)(brk:Bool):Int:=
 if badB neg top bot brk=true then 6
 else if 2000<max top.length bot.length then 3
 else if brk=false then 0
 else if val 4294967296 (dO (gO (rdO top) (rdO bot)))=1 then 0 else 6
theorem row_ge2 {s:List UInt8}(h:rowB s=true) (h0:s≠[48]) (h1:s≠[49]):2≤decN s 0:=by
 obtain⟨hD,hne⟩:=rowB_d h
 unfold rowB at h
 simp only [Bool.and_eq_true,Bool.or_eq_true,Bool.not_eq_true',decide_eq_true_eq,decide_eq_false_iff_not] at h
 have h4:s.getD 0 0≠48:=by
  rcases h.2 with h3|h3
  ·exact absurd h3 h0
  ·exact h3
 cases s with
 | nil=>grind
 | cons c l=>
  have hc:=hD c (by simp)
  have hc48:c≠48:=h4
  have hcn:c.toNat≠48:=fun e=>hc48 (UInt8.toNat_inj.1 (by rw [e];rfl))
  have e:decN (c::l) 0=(c.toNat - 48)*10 ^ l.length+decN l 0:=by
   show decN l (10*0+(c.toNat - 48))=_
   rw [decN_shift,Nat.mul_zero,Nat.zero_add]
  rw [e]
  cases l with
  | nil=>
   have hc49:c.toNat≠49:=fun e=>h1 (by rw [UInt8.toNat_inj.1 (show c.toNat=(49:UInt8).toNat by rw [e];rfl)])
   grind
  | cons d l=>
   have h10:10≤10 ^ (d::l).length:=by
    rw [List.length_cons,Nat.pow_succ]
    have:=Nat.pow_pos (a:=10) (n:=l.length) (by decide)
    omega
   have:1*10≤(c.toNat - 48)*10 ^ (d::l).length:=Nat.mul_le_mul (by omega) h10
   omega
def ratQ (neg:Bool)(top bot:List UInt8)(brk:Bool):Rat:=if parseE neg top bot brk=0 then mkRat (sgI neg (decN top 0)) (if brk=true then decN bot 0 else 1) else 0
theorem rdO_v (s:List UInt8):(val 4294967296 (dO (rdO s)))=decN s 0:=by show val 4294967296 (dig 4294967296 (decN s 0))=_;rw [val_dig]
theorem rdO_can (s:List UInt8):can 4294967296 (dO (rdO s)):=can_dig _
theorem gO_v (s t:List UInt8):(val 4294967296 (dO (gO (rdO s) (rdO t))))=Nat.gcd (decN s 0) (decN t 0):=by
 unfold gO;rw [gcdO_d (rdO_can s) (rdO_can t),val_dig,rdO_v,rdO_v]
theorem bad_no {neg:Bool}{top bot:List UInt8}{brk:Bool}(h:badB neg top bot brk=false):rowB top=true∧(brk=true→rowB bot=true∧bot≠[48]∧bot≠[49]):=by
 unfold badB at h
 grind
theorem parseR_rat (neg:Bool)(top bot:List UInt8)(brk:Bool):parseR neg top bot brk=.tup [ratV (ratQ neg top bot brk),.c (.d (.int .i64 (parseE neg top bot brk)))]:=by
 by_cases h1:badB neg top bot brk=true
 ·have e:parseE neg top bot brk=6:=by unfold parseE;rw [if_pos h1]
  have e2:ratQ neg top bot brk=0:=by unfold ratQ;rw [e,if_neg (by decide)]
  rw [e,e2];unfold parseR;rw [if_pos h1];rfl
 by_cases h2:2000<max top.length bot.length
 ·have e:parseE neg top bot brk=3:=by unfold parseE;rw [if_neg h1,if_pos h2]
  have e2:ratQ neg top bot brk=0:=by unfold ratQ;rw [e,if_neg (by decide)]
  rw [e,e2];unfold parseR;rw [if_neg h1,if_pos h2];rfl
 obtain⟨g1,g2⟩:=bad_no (by simpa using h1)
 by_cases h3:brk=false
 ·have e:parseE neg top bot brk=0:=by unfold parseE;rw [if_neg h1,if_neg h2,if_pos h3]
  have e2:ratQ neg top bot brk=mkRat (sgI neg (decN top 0)) 1:=by unfold ratQ;rw [e,if_pos rfl,h3];rfl
  rw [e,e2];unfold parseR;rw [if_neg h1,if_neg h2,if_pos h3]
  rw [madeA_rat neg (rdO_can top) (q:=some (dig 4294967296 1)) (can_dig 1) (dig_ne (by decide)),rdO_v,dO_some,val_dig]
 have hb:brk=true:=by simpa using h3
 obtain⟨r1,r2,r3⟩:=g2 hb
 have hge:=row_ge2 r1 r2 r3
 by_cases h4:(val 4294967296 (dO (gO (rdO top) (rdO bot))))=1
 ·have e:parseE neg top bot brk=0:=by unfold parseE;rw [if_neg h1,if_neg h2,if_neg h3,if_pos h4]
  have e2:ratQ neg top bot brk=mkRat (sgI neg (decN top 0)) (decN bot 0):=by unfold ratQ;rw [e,if_pos rfl,hb];rfl
  rw [e,e2];unfold parseR;rw [if_neg h1,if_neg h2,if_neg h3,if_pos h4]
  rw [gO_v] at h4
  have ha:decN top 0≠0:=by intro h0;rw [h0,Nat.gcd_zero_left] at h4;omega
  obtain⟨n1,n2⟩:=mkRat_sg neg (a:=decN top 0) (b:=decN bot 0) (by omega)
  rw [h4,Nat.div_one] at n1 n2
  show AV.tup [nmA neg (some (dig 4294967296 (decN top 0))) (some (dig 4294967296 (decN bot 0))),_]=AV.tup [nmA (decide ((mkRat (sgI neg (decN top 0)) (decN bot 0)).num<0)) (natO (mkRat (sgI neg (decN top 0)) (decN bot 0)).num.natAbs) (denO (mkRat (sgI neg (decN top 0)) (decN bot 0)).den),_]
  rw [n1,n2,sgI_abs,sgI_neg neg ha]
  unfold natO denO
  grind
 ·have e:parseE neg top bot brk=6:=by unfold parseE;rw [if_neg h1,if_neg h2,if_neg h3,if_neg h4]
  have e2:ratQ neg top bot brk=0:=by unfold ratQ;rw [e,if_neg (by decide)]
  rw [e,e2];unfold parseR;rw [if_neg h1,if_neg h2,if_neg h3,if_neg h4];rfl
def ratE (r:List UInt8):Int:=parseE (hpB r [45]) (ctA (cpS r [45]) [47]) (ctB (cpS r [45]) [47]) (decide (0≤ctI (cpS r [45]) [47]))
def ratP (r:List UInt8):Rat:=ratQ (hpB r [45]) (ctA (cpS r [45]) [47]) (ctB (cpS r [45]) [47]) (decide (0≤ctI (cpS r [45]) [47]))
theorem rat_Parse (m:Int)(r:List UInt8):CallsP Tryz.prog (GG m) 32 [.c (.d (.str r))] (.tup [ratV (ratP r),.c (.d (.int .i64 (ratE r)))]):=by
 have h:=parse_ok m r
 rw [parseR_rat] at h
 exact h
end Go.Am
namespace Go.Am
open Go.Proofs
theorem SpecOK.more {P:Program}{G:List (List DV)}{sp:Tb Spec}{ft:TypeId}(h:SpecOK P G sp ft) (f0:Nat) (g0:List AV→Option AV) (hg:∀ us x,g0 us=some x→∀ lv,AllOk lv→CallG P G f0 us lv (.ret x lv)):SpecOK P G (setS f0 (.pure g0) sp) ft where
 pure:=by
  intro f g us x hf hx lv ho
  rw [setS_get] at hf
  split at hf
  ·rename_i e;subst e;cases hf;exact hg us x hx lv ho
  ·exact h.pure f g us x hf hx lv ho
 caughtR:=by
  intro f hf
  rw [setS_get] at hf
  split at hf
  ·cases hf
  ·exact h.caughtR f hf
 caughtP:=by
  intro f hf
  rw [setS_get] at hf
  split at hf
  ·cases hf
  ·exact h.caughtP f hf
 selfN:=by
  intro f T hf
  rw [setS_get] at hf
  split at hf
  ·cases hf
  ·exact h.selfN f T hf
 live:=by
  intro f g us lv x hf
  rw [setS_get] at hf
  split at hf
  ·cases hf
  ·exact h.live f g us lv x hf
 selfP:=by
  intro f T hf
  rw [setS_get] at hf
  split at hf
  ·cases hf
  ·exact h.selfP f T hf
end Go.Am
namespace Go.Am
open Go.Proofs N
def unD:List (List DV)→Option (List Nat)
 | []=>some []
 | e::l=>match e with
  | [.int .u32 (.ofNat n)]=>(unD l).map (n::·)
  | _=>none
theorem unD_ok:∀ {es:List (List DV)}{l:List Nat},unD es=some l→es=dK .u32 l
 | [],l,h=>by cases h;rfl
 | e::es,l,h=>by
  unfold unD at h
  split at h
  ·obtain⟨m,hm,rfl⟩:=Option.map_eq_some_iff.1 h
   rw [unD_ok hm];rfl
  ·cases h
def unK:AV→Option (Option (List Nat))
 | .c (.d .nilsl)=>some none
 | .c (.d (.sl es))=>(unD es).map some
 | _=>none
theorem unK_ok {x:AV}{o:Option (List Nat)}(h:unK x=some o):x=nK .u32 o:=by
 unfold unK at h
 split at h
 ·cases h;rfl
 ·obtain⟨m,hm,rfl⟩:=Option.map_eq_some_iff.1 h
  rw [unD_ok hm];rfl
 ·cases h
def canB:List Nat→Bool
 | []=>true
 | d::l=>Nat.blt d 4294967296 && (match l with|[]=>Nat.blt 0 d|_=>true) && canB l
theorem canB_ok:∀ {l:List Nat},canB l=true→can 4294967296 l
 | [],_=>⟨fun d h=>by (cases h),fun x h=>by (cases h)⟩
 | d::l,h=>by
  simp only [canB,Bool.and_eq_true] at h
  obtain⟨⟨h1,h2⟩,h3⟩:=h
  obtain⟨g1,g2⟩:=canB_ok h3
  refine⟨ok_cons.2 ⟨Nat.le_of_ble_eq_true h1,g1⟩,fun x hx=>?_⟩
  cases l with
  | nil=>
   have:d=x:=by simpa using hx
   have h2':0<d:=Nat.le_of_ble_eq_true h2
   omega
  | cons e l=>exact g2 x (by simpa using hx)
def nOK (o:Option (List Nat)):Bool:=canB (dO o) && Nat.ble (dO o).length 1000000
theorem nOK_ok {o:Option (List Nat)}(h:nOK o=true):can 4294967296 (dO o)∧(dO o).length≤1000000:=by
 simp only [nOK,Bool.and_eq_true] at h
 exact⟨canB_ok h.1,Nat.le_of_ble_eq_true h.2⟩
def numA (x:AV):Option (Option (List Nat)):=(unK x).bind fun o=>bif nOK o then some o else none
theorem numA_ok {x:AV}{o:Option (List Nat)}(h:numA x=some o):x=nK .u32 o∧can 4294967296 (dO o)∧(dO o).length≤1000000:=by
 obtain⟨o',h1,h2⟩:=Option.bind_eq_some_iff.1 h
 cases hb:nOK o' with
 | false=>rw [hb] at h2;cases h2
 | true=>
  rw [hb] at h2
  simp only [cond_true,Option.some.injEq] at h2
  subst h2
  exact⟨unK_ok h1,nOK_ok hb⟩
def sp2 (f:Option (List Nat)→Option (List Nat)→Option AV):List AV→Option AV
 | [x,y]=>(numA x).bind fun a=>(numA y).bind fun b=>f a b
 | _=>none
def sp1 (f:Option (List Nat)→Option AV):List AV→Option AV
 | [x]=>(numA x).bind fun a=>f a
 | _=>none
theorem sp2_ok {m:Int}{g:FuncId}{f:Option (List Nat)→Option (List Nat)→Option AV}(hf:∀ a b x,can 4294967296 (dO a)→can 4294967296 (dO b)→(dO a).length≤1000000→(dO b).length≤1000000→f a b=some x→CallsP Tryz.prog (GG m) g [nK .u32 a,nK .u32 b] x∧x.pure=true)
 {us:List AV}{x:AV}(h:sp2 f us=some x) (lv:Key→LB):CallG Tryz.prog (GG m) g us lv (.ret x lv):=by
 unfold sp2 at h
 split at h
 ·obtain⟨a,ha,g1⟩:=Option.bind_eq_some_iff.1 h
  obtain⟨b,hb,g2⟩:=Option.bind_eq_some_iff.1 g1
  obtain⟨rfl,a1,a2⟩:=numA_ok ha
  obtain⟨rfl,b1,b2⟩:=numA_ok hb
  obtain⟨h1,h2⟩:=hf a b x a1 b1 a2 b2 g2
  exact CallG.of_CallsP (fun u hu=>by simp only [List.mem_cons,List.not_mem_nil,or_false] at hu;rcases hu with rfl|rfl <;> exact nK_pure _ _) h2 h1
 ·cases h
theorem sp1_ok {m:Int}{g:FuncId}{f:Option (List Nat)→Option AV}(hf:∀ a x,can 4294967296 (dO a)→(dO a).length≤1000000→f a=some x→CallsP Tryz.prog (GG m) g [nK .u32 a] x∧x.pure=true)
 {us:List AV}{x:AV}(h:sp1 f us=some x) (lv:Key→LB):CallG Tryz.prog (GG m) g us lv (.ret x lv):=by
 unfold sp1 at h
 split at h
 ·obtain⟨a,ha,g1⟩:=Option.bind_eq_some_iff.1 h
  obtain⟨rfl,a1,a2⟩:=numA_ok ha
  obtain⟨h1,h2⟩:=hf a x a1 a2 g1
  exact CallG.of_CallsP (fun u hu=>by simp only [List.mem_cons,List.not_mem_nil,or_false] at hu;rcases hu with rfl;exact nK_pure _ _) h2 h1
 ·cases h
def gMul:=sp2 fun a b=>some (nK .u32 (some (dig 4294967296 (val 4294967296 (dO a)*val 4294967296 (dO b)))))
def gAdd:=sp2 fun a b=>some (nK .u32 (some (dig 4294967296 (val 4294967296 (dO a)+val 4294967296 (dO b)))))
def gSub:=sp2 fun a b=>bif Nat.ble (val 4294967296 (dO b)) (val 4294967296 (dO a)) then some (nK .u32 (some (dig 4294967296 (val 4294967296 (dO a) - val 4294967296 (dO b))))) else none
def gCmp:=sp2 fun a b=>some (.c (.d (.int .i64 (cmpN (val 4294967296 (dO a)) (val 4294967296 (dO b))))))
def gIs1:=sp1 fun a=>some (.c (.d (.bool (Nat.beq (val 4294967296 (dO a)) 1))))
theorem gMul_ok (m:Int){us:List AV}{x:AV}(h:gMul us=some x) (lv:Key→LB):CallG Tryz.prog (GG m) 130 us lv (.ret x lv):=
 sp2_ok (fun a b x _ _ h1 h2 h=>by cases h;exact⟨exact_mul_ok _ a b (by omega) (by omega),nK_pure _ _⟩) h lv
theorem gAdd_ok (m:Int){us:List AV}{x:AV}(h:gAdd us=some x) (lv:Key→LB):CallG Tryz.prog (GG m) 132 us lv (.ret x lv):=
 sp2_ok (fun a b x _ _ h1 h2 h=>by cases h;exact⟨exact_add_ok _ a b (by omega) (by omega),nK_pure _ _⟩) h lv
theorem gSub_ok (m:Int){us:List AV}{x:AV}(h:gSub us=some x) (lv:Key→LB):CallG Tryz.prog (GG m) 134 us lv (.ret x lv):=
 sp2_ok (fun a b x _ _ h1 h2 h=>by
  cases hb:Nat.ble (val 4294967296 (dO b)) (val 4294967296 (dO a)) with
  | false=>rw [hb] at h;cases h
  | true=>
   rw [hb] at h;cases h
   exact⟨exact_sub_ok _ a b (by omega) (Nat.le_of_ble_eq_true hb),nK_pure _ _⟩) h lv
theorem gCmp_ok (m:Int){us:List AV}{x:AV}(h:gCmp us=some x) (lv:Key→LB):CallG Tryz.prog (GG m) 133 us lv (.ret x lv):=
 sp2_ok (fun a b x h3 h4 h1 h2 h=>by cases h;exact⟨exact_cmp_ok h3 h4,rfl⟩) h lv
theorem gIs1_ok (m:Int){us:List AV}{x:AV}(h:gIs1 us=some x) (lv:Key→LB):CallG Tryz.prog (GG m) 93 us lv (.ret x lv):=
 sp1_ok (fun a x h3 h1 h=>by
  cases h
  have:=exact_is1_ok (GG m) a h3
  rw [show decide (val 4294967296 (dO a)=1)=Nat.beq (val 4294967296 (dO a)) 1 by cases e:Nat.beq (val 4294967296 (dO a)) 1 with|true=>simp [Nat.eq_of_beq_eq_true e]|false=>simp [Nat.ne_of_beq_eq_false e]] at this
  exact⟨this,rfl⟩) h lv
def gMade:List AV→Option AV
 | [.c (.d (.bool neg)),x,y]=>(numA x).bind fun p=>(numA y).bind fun q=>bif Nat.blt 0 (val 4294967296 (dO q)) then some (ratV (mkRat (sgI neg (val 4294967296 (dO p))) (val 4294967296 (dO q)))) else none
 | _=>none
theorem gMade_ok (m:Int){us:List AV}{x:AV}(h:gMade us=some x) (lv:Key→LB):CallG Tryz.prog (GG m) 90 us lv (.ret x lv):=by
 unfold gMade at h
 split at h
 ·rename_i neg x' y'
  obtain⟨p,hp,g1⟩:=Option.bind_eq_some_iff.1 h
  obtain⟨q,hq,g2⟩:=Option.bind_eq_some_iff.1 g1
  clear h g1
  obtain⟨rfl,a1,a2⟩:=numA_ok hp
  obtain⟨rfl,b1,b2⟩:=numA_ok hq
  cases hb:Nat.blt 0 (val 4294967296 (dO q)) with
  | false=>rw [hb] at g2;cases g2
  | true=>
   rw [hb] at g2;cases g2
   have hv:0<val 4294967296 (dO q):=Nat.le_of_ble_eq_true hb
   have hq0:dO q≠[]:=fun e=>by rw [e] at hv;exact absurd hv (by decide)
   have:=rat_made (GG m) neg p q a1 b1 hq0 (by omega) (by omega)
   rw [nK_nC,nK_nC]
   exact CallG.of_CallsP (fun u hu=>by
    simp only [List.mem_cons,List.not_mem_nil,or_false] at hu
    rcases hu with rfl|rfl|rfl <;> simp) (by simp) this
 ·cases h
def gShl:List AV→Option AV
 | [x,.c (.d (.int .i64 (.ofNat k)))]=>(numA x).bind fun a=>bif Nat.ble k 1000000 then some (if dO a=[] then nK .u32 none else nK .u32 (some (dig 4294967296 (val 4294967296 (dO a)*2 ^ k)))) else none
 | _=>none
theorem gShl_ok (m:Int){us:List AV}{x:AV}(h:gShl us=some x) (lv:Key→LB):CallG Tryz.prog (GG m) 206 us lv (.ret x lv):=by
 unfold gShl at h
 split at h
 ·rename_i x' k
  obtain⟨a,ha,g1⟩:=Option.bind_eq_some_iff.1 h
  clear h
  obtain⟨rfl,a1,a2⟩:=numA_ok ha
  cases hb:Nat.ble k 1000000 with
  | false=>rw [hb] at g1;cases g1
  | true=>
   rw [hb] at g1;cases g1
   have hk:=Nat.le_of_ble_eq_true hb
   exact CallG.of_CallsP (fun u hu=>by
    simp only [List.mem_cons,List.not_mem_nil,or_false] at hu
    rcases hu with rfl|rfl
    ·exact nK_pure _ _
    ·rfl) (by split <;> exact nK_pure _ _) (exact_shl_ok (GG m) a k (by omega) (by omega))
 ·cases h
def gBits:=sp1 fun a=>some (.c (.d (.int .i64 (blen (val 4294967296 (dO a))))))
theorem gBits_ok (m:Int){us:List AV}{x:AV}(h:gBits us=some x) (lv:Key→LB):CallG Tryz.prog (GG m) 236 us lv (.ret x lv):=
 sp1_ok (fun a x h3 h1 h=>by cases h;exact⟨exact_bits_ok (GG m) a h3 (by omega),rfl⟩) h lv
def gDiv:=sp2 fun a b=>bif Nat.blt 0 (val 4294967296 (dO b)) then some (.tup [nK .u32 (divQ a b),nK .u32 (divR a b)]) else none
theorem gDiv_ok (m:Int){us:List AV}{x:AV}(h:gDiv us=some x) (lv:Key→LB):CallG Tryz.prog (GG m) 150 us lv (.ret x lv):=
 sp2_ok (fun a b x h3 h4 h1 h2 h=>by
  cases hb:Nat.blt 0 (val 4294967296 (dO b)) with
  | false=>rw [hb] at h;cases h
  | true=>
   rw [hb] at h;cases h
   have hv:0<val 4294967296 (dO b):=Nat.le_of_ble_eq_true hb
   exact⟨exact_div_ok _ a b h3 h4 (fun e=>by rw [e] at hv;exact absurd hv (by decide)) (by omega),tup2_pure _ _⟩) h lv
def gOf:List AV→Option AV
 | [.c (.d (.int .u64 (.ofNat n)))]=>bif Nat.blt n 18446744073709551616 then some (nK .u32 (some (dig 4294967296 n))) else none
 | _=>none
theorem gOf_ok (m:Int){us:List AV}{x:AV}(h:gOf us=some x) (lv:Key→LB):CallG Tryz.prog (GG m) 92 us lv (.ret x lv):=by
 unfold gOf at h
 split at h
 ·rename_i n
  cases hb:Nat.blt n 18446744073709551616 with
  | false=>rw [hb] at h;cases h
  | true=>
   rw [hb] at h;cases h
   exact CallG.of_CallsP (fun u hu=>by
    simp only [List.mem_cons,List.not_mem_nil,or_false] at hu
    rcases hu with rfl;rfl) (nK_pure _ _) (exact_of_ok (GG m) n (Nat.le_of_ble_eq_true hb))
 ·cases h
def gSmall:List AV→Option AV
 | [x,.c (.d (.int .u32 (.ofNat b)))]=>(numA x).bind fun a=>bif Nat.blt 0 b then some (.tup [nK .u32 (some (dig 4294967296 (val 4294967296 (dO a) / b))),.c (.d (.int .u32 ((val 4294967296 (dO a) % b:Nat):Int)))]) else none
 | _=>none
theorem gSmall_ok (m:Int){us:List AV}{x:AV}(h:gSmall us=some x) (lv:Key→LB):CallG Tryz.prog (GG m) 177 us lv (.ret x lv):=by
 unfold gSmall at h
 split at h
 ·rename_i x' b
  obtain⟨a,ha,g1⟩:=Option.bind_eq_some_iff.1 h
  clear h
  obtain⟨rfl,a1,a2⟩:=numA_ok ha
  cases hb:Nat.blt 0 b with
  | false=>rw [hb] at g1;cases g1
  | true=>
   rw [hb] at g1;cases g1
   have hb':0<b:=Nat.le_of_ble_eq_true hb
   exact CallG.of_CallsP (fun u hu=>by
    simp only [List.mem_cons,List.not_mem_nil,or_false] at hu
    rcases hu with rfl|rfl
    ·exact nK_pure _ _
    ·rfl) rfl (exact_small_ok (GG m) a b (by omega) (by omega))
 ·cases h
end Go.Am
namespace Go.Am
open Go.Proofs
noncomputable def forceDD {β:Type}(d:DV) (k:DV→β):β:=
 DV.casesOn (motive_1:=fun _=>β) d (fun b=>forceBool b fun b=>k (.bool b)) (fun q n=>forceInt n fun n=>k (.int q n)) (fun s=>forceL forceByte s fun s=>k (.str s)) (k .nilp) (fun cs=>k (.ptr cs)) (k .nilsl)
  (fun es=>forceL (forceL forceD) es fun es=>k (.sl es)) (fun cs=>k (.agg cs)) (k .nilIface) (fun t v=>k (.iface t v)) (k .nilFunc) (fun f a b=>k (.func f a b)) (k .nilmap)
theorem forceDD_eq {β:Type}(d:DV) (k:DV→β):forceDD d k=k d:=by
 cases d <;> simp only [forceDD] <;> first|exact forceBool_eq _ _|exact forceInt_eq _ _|exact forceL_eq _ forceByte_eq _ _|exact forceL_eq _ (forceL_eq _ forceD_eq) _ _|rfl
noncomputable def forceCC {β:Type}(x:CV) (k:CV→β):β:=
 CV.casesOn (motive:=fun _=>β) x (fun d=>forceDD d fun d=>k (.d d)) (fun a b=>k (.ptr a b)) (fun a b c d=>k (.lsl a b c d)) (fun a=>k (.mapr a)) (fun f a b=>k (.func f a b)) (fun t r=>k (.ifc t r)) (k .junk) (fun a b c d=>k (.lsf a b c d))
theorem forceCC_eq {β:Type}(x:CV) (k:CV→β):forceCC x k=k x:=by cases x <;> simp only [forceCC,forceDD_eq]
noncomputable def forceAA0 {β:Type}(x:AV) (k:AV→β):β:=
 AV.casesOn (motive_1:=fun _=>β) x (fun c=>forceCC c fun c=>k (.c c)) (fun l=>forceL forceCC l fun l=>k (.agg l)) (fun l=>k (.tup l)) (k .undef) (k .junk)
theorem forceAA0_eq {β:Type}(x:AV) (k:AV→β):forceAA0 x k=k x:=by cases x <;> simp only [forceAA0,forceCC_eq,forceL_eq _ forceCC_eq]
noncomputable def forceAA {β:Type}(x:AV) (k:AV→β):β:=
 AV.casesOn (motive_1:=fun _=>β) x (fun c=>forceCC c fun c=>k (.c c)) (fun l=>forceL forceCC l fun l=>k (.agg l)) (fun l=>forceL forceAA0 l fun l=>k (.tup l)) (k .undef) (k .junk)
theorem forceAA_eq {β:Type}(x:AV) (k:AV→β):forceAA x k=k x:=by cases x <;> simp only [forceAA,forceCC_eq,forceL_eq _ forceCC_eq,forceL_eq _ forceAA0_eq]
noncomputable def gF (g:List AV→Option AV)(us:List AV):Option AV:=Option.rec (motive:=fun _=>Option AV) none (fun x=>forceAA x some) (g us)
theorem gF_eq (g:List AV→Option AV)(us:List AV):gF g us=g us:=by
 unfold gF;cases g us with
 | none=>rfl
 | some x=>exact forceAA_eq _ _
theorem SpecOK.f {P:Program}{G:List (List DV)}{sp:Tb Spec}{ft:TypeId}(h:SpecOK P G sp ft) (f0:Nat) (g0:List AV→Option AV) (hg:∀ {us x},g0 us=some x→∀ lv,CallG P G f0 us lv (.ret x lv)):SpecOK P G (setS f0 (.pure (gF g0)) sp) ft:=
 h.more f0 (gF g0) fun us x hx lv _=>hg (by rw [gF_eq] at hx;exact hx) lv
noncomputable def spW:Tb Spec:=setS 130 (.pure (gF gMul)) (setS 132 (.pure (gF gAdd)) (setS 134 (.pure (gF gSub)) (setS 133 (.pure (gF gCmp)) (setS 93 (.pure (gF gIs1)) (setS 90 (.pure (gF gMade)) (setS 206 (.pure (gF gShl)) (setS 236 (.pure (gF gBits)) (setS 150 (.pure (gF gDiv)) (setS 92 (.pure (gF gOf)) (setS 177 (.pure (gF gSmall)) (setS 91 (.pure (gF gRead)) spA)))))))))))
theorem spW_ok (m:Int):SpecOK Tryz.prog (GG m) spW 0:=
 ((((((((((((spA_ok m).f 91 gRead (gRead_ok m)).f 177 gSmall (gSmall_ok m)).f 92 gOf (gOf_ok m)).f 150 gDiv (gDiv_ok m)).f 236 gBits (gBits_ok m)).f 206 gShl (gShl_ok m)).f 90 gMade (gMade_ok m)).f 93 gIs1 (gIs1_ok m)).f 133 gCmp (gCmp_ok m)).f 134 gSub (gSub_ok m)).f 132 gAdd (gAdd_ok m)).f 130 gMul (gMul_ok m)
end Go.Am
namespace Go.Am
open Go.Proofs N
def eqNL:List Nat→List Nat→Bool
 | [],[]=>true
 | a::l,b::m=>Nat.beq a b && eqNL l m
 | _,_=>false
theorem eqNL_eq:∀ {l m:List Nat},eqNL l m=true→l=m
 | [],[],_=>rfl
 | a::l,b::m,h=>by
  simp only [eqNL,Bool.and_eq_true] at h
  rw [Nat.eq_of_beq_eq_true h.1,eqNL_eq h.2]
 | [],_::_,h=>by cases h
 | _::_,[],h=>by cases h
def eqO:Option (List Nat)→Option (List Nat)→Bool
 | none,none=>true
 | some l,some m=>eqNL l m
 | _,_=>false
theorem eqO_eq {o p:Option (List Nat)}(h:eqO o p=true):o=p:=by
 cases o <;> cases p <;> first|rfl|cases h|exact congrArg some (eqNL_eq h)
def eqB2 (a b:Bool):Bool:=match a with|true=>b|false=>!b
theorem eqB2_eq {a b:Bool}(h:eqB2 a b=true):a=b:=by cases a <;> cases b <;> first|rfl|cases h
def rdQ (neg:Bool)(po qo:Option (List Nat)):Rat:=mkRat (sgI neg (val 4294967296 (dO po))) (match qo with|none=>1|some l=>val 4294967296 l)
def okQ (neg:Bool)(po qo:Option (List Nat))(x:Rat):Bool:=eqB2 neg (decide (x.num<0)) && (eqO po (natO x.num.natAbs) && (eqO qo (denO x.den) && (Nat.ble (dO po).length 1000 && Nat.ble (dO qo).length 1000)))
def unQ (a p q:CV):Option Rat:=match a with
 | .d (.bool neg)=>(unK (.c p)).bind fun po=>(unK (.c q)).bind fun qo=>bif okQ neg po qo (rdQ neg po qo) then some (rdQ neg po qo) else none
 | _=>none
theorem unQ_ok {a p q:CV}{x:Rat}(h:unQ a p q=some x):a=.d (.bool (decide (x.num<0)))∧p=nC (natO x.num.natAbs)∧q=nC (denO x.den)∧szR x 1000:=by
 unfold unQ at h
 split at h
 ·rename_i neg
  obtain⟨po,h1,k1⟩:=Option.bind_eq_some_iff.1 h
  obtain⟨qo,h2,k2⟩:=Option.bind_eq_some_iff.1 k1
  have e1:=unK_ok h1
  have e2:=unK_ok h2
  rw [nK_nC] at e1 e2
  cases hb:okQ neg po qo (rdQ neg po qo) with
  | false=>rw [hb] at k2;cases k2
  | true=>
   rw [hb] at k2
   simp only [cond_true,Option.some.injEq] at k2
   rw [k2] at hb
   simp only [okQ,Bool.and_eq_true] at hb
   obtain⟨b1,b2,b3,b4,b5⟩:=hb
   have c1:=eqB2_eq b1
   have c2:=eqO_eq b2
   have c3:=eqO_eq b3
   have d4:=Nat.le_of_ble_eq_true b4
   have d5:=Nat.le_of_ble_eq_true b5
   injection e1 with e1
   injection e2 with e2
   refine⟨by rw [c1],by rw [e1,c2],by rw [e2,c3],?_,?_⟩
   ·rw [c2,natO_len] at d4;exact d4
   ·rw [c3] at d5
    unfold denO at d5
    split at d5
    ·rename_i hd;rw [hd,nl_one];decide
    ·exact d5
 ·cases h
def unR:AV→Option Rat
 | .agg [a,p,q]=>unQ a p q
 | _=>none
theorem unR_ok {v:AV}{x:Rat}(h:unR v=some x):v=ratV x∧szR x 1000:=by
 unfold unR at h
 split at h
 ·obtain⟨rfl,rfl,rfl,hs⟩:=unQ_ok h
  exact⟨rfl,hs⟩
 ·cases h
def leQ (x y:Rat):Bool:=decide (x≤y)
def unI:AV→Option Iv
 | .agg [a,p,q,a',p',q']=>(unQ a p q).bind fun x=>(unQ a' p' q').bind fun y=>bif leQ x y then some (x,y) else none
 | _=>none
theorem unI_ok {v:AV}{a:Iv}(h:unI v=some a):v=ivV a∧a.sz 1000∧a.1≤a.2:=by
 unfold unI at h
 split at h
 ·obtain⟨x,h1,k1⟩:=Option.bind_eq_some_iff.1 h
  obtain⟨y,h2,k2⟩:=Option.bind_eq_some_iff.1 k1
  obtain⟨rfl,rfl,rfl,hs⟩:=unQ_ok h1
  obtain⟨rfl,rfl,rfl,hs'⟩:=unQ_ok h2
  cases hb:leQ x y with
  | false=>rw [hb] at k2;cases k2
  | true=>rw [hb] at k2;cases k2;exact⟨rfl,⟨hs,hs'⟩,of_decide_eq_true hb⟩
 ·cases h
theorem ratV_pure (x:Rat):(ratV x).pure=true:=nmA_pure _ _ _
theorem ivV_pure (a:Iv):(ivV a).pure=true:=iv_pure _ _ _ _ _ _
def q1 (f:Rat→Option AV):List AV→Option AV
 | [x]=>(unR x).bind f
 | _=>none
def q2 (f:Rat→Rat→Option AV):List AV→Option AV
 | [x,y]=>(unR x).bind fun a=>(unR y).bind fun b=>f a b
 | _=>none
def qi (f:Rat→Int→Option AV):List AV→Option AV
 | [x,.c (.d (.int .i64 n))]=>(unR x).bind fun a=>f a n
 | _=>none
def v1 (f:Iv→Option AV):List AV→Option AV
 | [x]=>(unI x).bind f
 | _=>none
def v2 (f:Iv→Iv→Option AV):List AV→Option AV
 | [x,y]=>(unI x).bind fun a=>(unI y).bind fun b=>f a b
 | _=>none
def vi (f:Iv→Int→Option AV):List AV→Option AV
 | [x,.c (.d (.int .i64 n))]=>(unI x).bind fun a=>f a n
 | _=>none
def vq (f:Iv→Rat→Option AV):List AV→Option AV
 | [x,y]=>(unI x).bind fun a=>(unR y).bind fun b=>f a b
 | _=>none
section
variable {m:Int}{g:FuncId}{us:List AV}{x:AV}
theorem q1_ok {f:Rat→Option AV}(hf:∀ a x,szR a 1000→f a=some x→CallsP Tryz.prog (GG m) g [ratV a] x∧x.pure=true) (h:q1 f us=some x) (lv:Key→LB):CallG Tryz.prog (GG m) g us lv (.ret x lv):=by
 unfold q1 at h;split at h
 ·obtain⟨a,ha,k1⟩:=Option.bind_eq_some_iff.1 h
  obtain⟨rfl,sa⟩:=unR_ok ha
  obtain⟨h1,h2⟩:=hf a x sa k1
  exact CallG.of_CallsP (fun u hu=>by simp only [List.mem_cons,List.not_mem_nil,or_false] at hu;subst hu;exact ratV_pure a) h2 h1
 ·cases h
theorem q2_ok {f:Rat→Rat→Option AV}(hf:∀ a b x,szR a 1000→szR b 1000→f a b=some x→CallsP Tryz.prog (GG m) g [ratV a,ratV b] x∧x.pure=true) (h:q2 f us=some x) (lv:Key→LB):CallG Tryz.prog (GG m) g us lv (.ret x lv):=by
 unfold q2 at h;split at h
 ·obtain⟨a,ha,k1⟩:=Option.bind_eq_some_iff.1 h
  obtain⟨b,hb,k2⟩:=Option.bind_eq_some_iff.1 k1
  obtain⟨rfl,sa⟩:=unR_ok ha
  obtain⟨rfl,sb⟩:=unR_ok hb
  obtain⟨h1,h2⟩:=hf a b x sa sb k2
  exact CallG.of_CallsP (fun u hu=>by simp only [List.mem_cons,List.not_mem_nil,or_false] at hu;rcases hu with rfl|rfl;exact ratV_pure a;exact ratV_pure b) h2 h1
 ·cases h
theorem qi_ok {f:Rat→Int→Option AV}(hf:∀ a n x,szR a 1000→f a n=some x→CallsP Tryz.prog (GG m) g [ratV a,.c (.d (.int .i64 n))] x∧x.pure=true) (h:qi f us=some x) (lv:Key→LB):CallG Tryz.prog (GG m) g us lv (.ret x lv):=by
 unfold qi at h;split at h
 ·rename_i n
  obtain⟨a,ha,k1⟩:=Option.bind_eq_some_iff.1 h
  obtain⟨rfl,sa⟩:=unR_ok ha
  obtain⟨h1,h2⟩:=hf a n x sa k1
  exact CallG.of_CallsP (fun u hu=>by simp only [List.mem_cons,List.not_mem_nil,or_false] at hu;rcases hu with rfl|rfl;exact ratV_pure a;rfl) h2 h1
 ·cases h
theorem v2_ok {f:Iv→Iv→Option AV}(hf:∀ a b x,a.sz 1000→b.sz 1000→a.1≤a.2→b.1≤b.2→f a b=some x→CallsP Tryz.prog (GG m) g [ivV a,ivV b] x∧x.pure=true) (h:v2 f us=some x) (lv:Key→LB):CallG Tryz.prog (GG m) g us lv (.ret x lv):=by
 unfold v2 at h;split at h
 ·obtain⟨a,ha,k1⟩:=Option.bind_eq_some_iff.1 h
  obtain⟨b,hb,k2⟩:=Option.bind_eq_some_iff.1 k1
  obtain⟨rfl,sa,la⟩:=unI_ok ha
  obtain⟨rfl,sb,lb⟩:=unI_ok hb
  obtain⟨h1,h2⟩:=hf a b x sa sb la lb k2
  exact CallG.of_CallsP (fun u hu=>by simp only [List.mem_cons,List.not_mem_nil,or_false] at hu;rcases hu with rfl|rfl;exact ivV_pure a;exact ivV_pure b) h2 h1
 ·cases h
theorem vi_ok {f:Iv→Int→Option AV}(hf:∀ a n x,a.sz 1000→a.1≤a.2→f a n=some x→CallsP Tryz.prog (GG m) g [ivV a,.c (.d (.int .i64 n))] x∧x.pure=true) (h:vi f us=some x) (lv:Key→LB):CallG Tryz.prog (GG m) g us lv (.ret x lv):=by
 unfold vi at h;split at h
 ·rename_i n
  obtain⟨a,ha,k1⟩:=Option.bind_eq_some_iff.1 h
  obtain⟨rfl,sa,la⟩:=unI_ok ha
  obtain⟨h1,h2⟩:=hf a n x sa la k1
  exact CallG.of_CallsP (fun u hu=>by simp only [List.mem_cons,List.not_mem_nil,or_false] at hu;rcases hu with rfl|rfl;exact ivV_pure a;rfl) h2 h1
 ·cases h
theorem vq_ok {f:Iv→Rat→Option AV}(hf:∀ a b x,a.sz 1000→szR b 1000→a.1≤a.2→f a b=some x→CallsP Tryz.prog (GG m) g [ivV a,ratV b] x∧x.pure=true) (h:vq f us=some x) (lv:Key→LB):CallG Tryz.prog (GG m) g us lv (.ret x lv):=by
 unfold vq at h;split at h
 ·obtain⟨a,ha,k1⟩:=Option.bind_eq_some_iff.1 h
  obtain⟨b,hb,k2⟩:=Option.bind_eq_some_iff.1 k1
  obtain⟨rfl,sa,la⟩:=unI_ok ha
  obtain⟨rfl,sb⟩:=unR_ok hb
  obtain⟨h1,h2⟩:=hf a b x sa sb la k2
  exact CallG.of_CallsP (fun u hu=>by simp only [List.mem_cons,List.not_mem_nil,or_false] at hu;rcases hu with rfl|rfl;exact ivV_pure a;exact ratV_pure b) h2 h1
 ·cases h
end
theorem szK {x:Rat}{L:Nat}(h:szR x 1000) (hL:1000≤L:=by decide):szR x L:=szR_mono h hL
theorem szI {a:Iv}{L:Nat}(h:a.sz 1000) (hL:1000≤L:=by decide):a.sz L:=Iv.sz_mono h hL
abbrev iA (n:Int):AV:=.c (.d (.int .i64 n))
theorem tupR_pure (x:Rat)(n:Int):(AV.tup [ratV x,iA n]).pure=true:=tup_num_pure _ _ _ _
noncomputable def spX:Tb Spec:=
 setS 72 (.pure (gF (q2 fun a b=>some (ratV (a+b))))) <|
 setS 74 (.pure (gF (q2 fun a b=>some (ratV (a - b))))) <|
 setS 75 (.pure (gF (q2 fun a b=>some (ratV (a*b))))) <|
 setS 99 (.pure (gF (q2 fun a b=>some (iA (cmpR a b))))) <|
 setS 79 (.pure (gF (q2 fun a b=>some (ratV (minR a b))))) <|
 setS 78 (.pure (gF (q2 fun a b=>some (ratV (maxR a b))))) <|
 setS 125 (.pure (gF (q2 fun a b=>some (.tup [ratV (a / b),iA (if b=0 then 8 else 0)])))) <|
 setS 70 (.pure (gF (q1 fun a=>some (ratV (-a))))) <|
 setS 101 (.pure (gF (q1 fun a=>some (ratV (absQ a))))) <|
 setS 83 (.pure (gF (qi fun a n=>some (ratV (downR a n))))) <|
 setS 84 (.pure (gF (qi fun a n=>some (ratV (upR a n))))) <|
 setS 19 (.pure (gF (v2 fun a b=>some (ivV (a.add b))))) <|
 setS 21 (.pure (gF (v2 fun a b=>some (ivV (a.sub b))))) <|
 setS 23 (.pure (gF (v2 fun a b=>some (ivV (a.mul b))))) <|
 setS 28 (.pure (gF (v2 fun a b=>some (ivV (a.join b))))) <|
 setS 30 (.pure (gF (vi fun a n=>some (ivV (downR a.1 n,upR a.2 n))))) <|
 setS 34 (.pure (gF (vq fun a b=>some (.c (.d (.bool (decide (a.has b)))))))) spW
theorem spX_ok (m:Int):SpecOK Tryz.prog (GG m) spX 0:=
 (((((((((((((((((spW_ok m).f _ _ (vq_ok fun a b x sa sb la h=>by cases h;exact⟨iv_Has _ a b (szI sa) (szK sb),rfl⟩)).f _ _ (vi_ok fun a n x sa la h=>by cases h;exact⟨iv_Out _ a n (szI sa),ivV_pure _⟩)).f _ _
  (v2_ok fun a b x sa sb la lb h=>by cases h;exact⟨iv_Join _ a b (szI sa) (szI sb),ivV_pure _⟩)).f _ _
  (v2_ok fun a b x sa sb la lb h=>by cases h;exact⟨iv_Mul _ a b (szI sa) (szI sb) la lb,ivV_pure _⟩)).f _ _
  (v2_ok fun a b x sa sb la lb h=>by cases h;exact⟨iv_Sub _ a b (szI sa) (szI sb),ivV_pure _⟩)).f _ _
  (v2_ok fun a b x sa sb la lb h=>by cases h;exact⟨iv_Add _ a b (szI sa) (szI sb),ivV_pure _⟩)).f _ _
  (qi_ok fun a n x sa h=>by cases h;exact⟨rat_Up _ a n (szK sa),ratV_pure _⟩)).f _ _
  (qi_ok fun a n x sa h=>by cases h;exact⟨rat_Down _ a n (szK sa),ratV_pure _⟩)).f _ _
  (q1_ok fun a x sa h=>by cases h;exact⟨rat_Ab _ a,ratV_pure _⟩)).f _ _
  (q1_ok fun a x sa h=>by cases h;exact⟨rat_Neg _ a,ratV_pure _⟩)).f _ _
  (q2_ok fun a b x sa sb h=>by cases h;exact⟨rat_Quo _ a b (szK sa) (szK sb),tupR_pure _ _⟩)).f _ _
  (q2_ok fun a b x sa sb h=>by cases h;exact⟨rat_Max _ a b (szK sa) (szK sb),ratV_pure _⟩)).f _ _
  (q2_ok fun a b x sa sb h=>by cases h;exact⟨rat_Min _ a b (szK sa) (szK sb),ratV_pure _⟩)).f _ _
  (q2_ok fun a b x sa sb h=>by cases h;exact⟨rat_Cmp _ a b (szK sa) (szK sb),rfl⟩)).f _ _
  (q2_ok fun a b x sa sb h=>by cases h;exact⟨rat_Mul _ a b (szK sa) (szK sb),ratV_pure _⟩)).f _ _
  (q2_ok fun a b x sa sb h=>by cases h;exact⟨rat_Sub _ a b (szK sa) (szK sb),ratV_pure _⟩)).f _ _
  (q2_ok fun a b x sa sb h=>by cases h;exact⟨rat_Add _ a b (szK sa) (szK sb),ratV_pure _⟩)
theorem evX_ok (m:Int)(n:Nat):CallOK Tryz.prog (GG m) (evK Tryz.prog (GG m) spX 0 n):=evK_ok mixed (spX_ok m) n
end Go.Am
namespace Go.Am
open Go.Am.Ty Go.Proofs N
def decU (n:Nat):List UInt8:=if n=0 then [48] else (dig 10 n).reverse.map fun d=>UInt8.ofNat (48+d)
def eqB:List UInt8→List UInt8→Bool
 | [],[]=>true
 | a::l,b::m=>Nat.beq a.toNat b.toNat && eqB l m
 | _,_=>false
theorem eqB_eq:∀ {l m:List UInt8},eqB l m=true→l=m
 | [],[],_=>rfl
 | a::l,b::m,h=>by
  simp only [eqB,Bool.and_eq_true] at h
  rw [UInt8.toNat_inj.1 (Nat.eq_of_beq_eq_true h.1),eqB_eq h.2]
 | [],_::_,h=>by cases h
 | _::_,[],h=>by cases h
noncomputable def smT (G:List (List DV)):Bool:=(List.range 100).all fun i=>match finK (evK Tryz.prog G spX 0 40 255 [.c (.d (.int .i64 (.ofNat i)))] .leaf 0 [] kDone .pan) with
 | some (.c (.d (.str s)))=>eqB s (decU i)
 | _=>false
theorem smT_ok (m:Int):smT (GG m)=true:=by kernel_rfl
theorem small_ok (m:Int)(i:Nat)(hi:i<100):CallsP Tryz.prog (GG m) 255 [.c (.d (.int .i64 i))] (.c (.d (.str (decU i)))):=by
 have h:=List.all_eq_true.1 (smT_ok m) i (List.mem_range.2 hi)
 split at h
 ·rename_i s hs
  have:=CallsP.of_ev (evX_ok m 40) hs
  rw [eqB_eq h] at this
  exact this
 ·cases h
theorem bool2_ok (G:List (List DV))(b:Bool):CallsP Tryz.prog G 276 [.c (.d (.bool b))] (.c (.d (.int .i64 (if b then 1 else 0)))):=by
 cases b with
 | true=>
  refine CallsP.en Go.Proofs.Tryz.func276 rfl fun _=>AW.q ?_
  refine AW.seqK fun K hK=>AW.q ?_
  refine AW.cy (AW.q ?_)
  exact AW.r0 (FinP.rt rfl 2 (by simp))
 | false=>
  refine CallsP.en Go.Proofs.Tryz.func276 rfl fun _=>AW.q ?_
  refine AW.seqK fun K hK=>AW.q ?_
  refine AW.cn (AW.skip (hK _ _ (AW.q ?_)))
  exact AW.r0 (FinP.rt rfl 2 (by simp))
theorem log10Pow2_ok (G:List (List DV))(x:Nat)(hx:x≤64):CallsP Tryz.prog G 274 [.c (.d (.int .i64 x))] (.c (.d (.int .i64 ((x*78913 / 262144:Nat):Int)))):=by
 have w1:=w64 (n:=(x:Int)*78913) (by omega) (by omega)
 have e1:Int.fdiv ((x:Int)*78913) 262144=((x*78913 / 262144:Nat):Int):=by rw [Int.fdiv_eq_ediv_of_nonneg _ (by omega)];omega
 refine CallsP.en Go.Proofs.Tryz.func274 rfl fun _=>AW.q ?_
 refine AW.sr fun K hK=>?_
 simp [w1,IntKind.bits,e1,-Int.natCast_ediv]
 repeat refine and_o ?_
 apply hK
 exact AW.r0 (FinP.rt rfl 2 (by simp))
theorem bits_Len64_ok (G:List (List DV))(n:Nat)(hn:n<4294967296):CallsP Tryz.prog G 275 [.c (.d (.int .u64 n))] (.c (.d (.int .i64 (blen n)))):=by
 have h0:¬ (4294967296:Int)≤n:=by omega
 have w16:IntKind.i64.wrap 16=16:=w64 (by omega) (by omega)
 refine CallsP.en Go.Proofs.Tryz.func275 rfl fun _=>AW.q ?_
 refine AW.seqK fun K hK=>AW.f1 h0 ?_
 refine AW.fn (by simp [h0] <;> omega) (AW.skip (hK _ _ (AW.seqK fun K hK=>AW.q ?_)))
 have step2:∀ (x m:Nat) (fr:Nat→AV) (κ:Nat),x<65536→m≤16→blen n=m+blen x→fr 0=.c (.d (.int .u64 x))→fr 2=.c (.d (.int .i64 m))→K ⟨fr,fun _=>.hole⟩ κ:=by
  intro x m fr κ hx hm hb f0 f2
  repeat refine and_o ?_
  apply hK
  refine AW.seqK fun K hK=>AW.f1 f0 ?_
  have step3:∀ (x m:Nat) (fr:Nat→AV) (κ:Nat),x<256→m≤24→blen n=m+blen x→fr 0=.c (.d (.int .u64 x))→fr 2=.c (.d (.int .i64 m))→K ⟨fr,fun _=>.hole⟩ κ:=by
   intro x m fr κ hx hm hb f0 f2
   repeat refine and_o ?_
   apply hK
   refine AW.seqK fun K hK=>?_
   have e1:IntKind.u8.wrap (x:Int)=x:=wrap_in ⟨by simp only [loK];omega,by simp only [hiK];omega⟩
   have hbl:blen x≤8:=by
    by_cases h0:x=0
    ·subst h0;decide
    ·have:=blen_le h0
     apply Classical.byContradiction
     intro hc
     have h9:2 ^ 8≤2 ^ (blen x - 1):=Nat.pow_le_pow_right (by decide) (by omega)
     omega
   refine AW.rP ?_
   simp [f0,f2,e1]
   rw [len8 (x:=x) (hx:=hx)]
   ·have e2:=w64 (n:=(blen x:Int)) (by omega) (by omega)
    have e3:=w64 (n:=(m:Int)+blen x) (by omega) (by omega)
    rw [e2,e3]
    repeat refine and_o ?_
    apply hK
    exact AW.r0 (FinP.rt rfl 0 (by simp [hb]))
   ·kernel_rfl
  by_cases h:256≤x
  ·refine AW.fy (by simp [h] <;> omega) ?_
   have e1:Int.fdiv (x:Int) 256=((x / 256:Nat):Int):=by rw [Int.fdiv_eq_ediv_of_nonneg _ (by omega)];omega
   have e2:=w64 (n:=(m:Int)+8) (by omega) (by omega)
   refine AW.sr fun K1 hK1=>?_
   simp [f0,IntKind.bits,e1,-Int.natCast_ediv]
   repeat refine and_o ?_
   apply hK1
   refine AW.rP ?_
   simp [f2,e2]
   refine step3 (x / 256) (m+8) _ _ (by omega) (by omega) ?_ (by simp) (by simp)
   have:=blen_shift (n:=x) (k:=8) (by omega)
   rw [hb,this];simp;omega
  ·refine AW.fn (by simp [h] <;> omega) (AW.skip ?_)
   simp
   exact step3 x m _ _ (by omega) (by omega) hb (by simp [f0]) (by simp [f2])
 by_cases h:65536≤n
 ·refine AW.fy (by simp [h] <;> omega) ?_
  have e1:Int.fdiv (n:Int) 65536=((n / 65536:Nat):Int):=by rw [Int.fdiv_eq_ediv_of_nonneg _ (by omega)];omega
  refine AW.sr fun K1 hK1=>?_
  simp [IntKind.bits,e1,-Int.natCast_ediv]
  repeat refine and_o ?_
  apply hK1
  refine AW.rP ?_
  simp [w16]
  refine step2 (n / 65536) 16 _ _ (by omega) (by omega) ?_ (by simp) (by simp)
  have:=blen_shift (n:=n) (k:=16) (by omega)
  rw [this];simp;omega
 ·refine AW.fn (by simp [h] <;> omega) (AW.skip ?_)
  simp
  exact step2 n 0 _ _ (by omega) (by omega) (by simp) (by simp) (by simp)
def tblP:List DV:=[.int .u64 1,.int .u64 10,.int .u64 100,.int .u64 1000,.int .u64 10000,.int .u64 100000,.int .u64 1000000,.int .u64 10000000,.int .u64 100000000,.int .u64 1000000000,.int .u64 10000000000,.int .u64 100000000000,.int .u64 1000000000000,.int .u64 10000000000000,.int .u64 100000000000000,.int .u64 1000000000000000,.int .u64 10000000000000000,.int .u64 100000000000000000,.int .u64 1000000000000000000,.int .u64 10000000000000000000]
theorem GGp (m:Int):(GG m)[2]?=some tblP:=rfl
theorem ixP {l:Nat}(h:l≤9):∃ rest,∀ lv:Key→LB,stepIndexAddr Tryz.prog 319 lv (.c (.d (.ptr tblP))) (.c (.d (.int .i64 (l:Int))))=some (.c (.d (.ptr (.int .u64 ((10 ^ l:Nat):Int)::rest))),[],[],True):=by
 have ha:arT Tryz.prog 319=some (20,123,1):=by kernel_rfl
 have key:∀ (l:Nat) (rest:List DV),l<20→tblP.drop l=.int .u64 ((10 ^ l:Nat):Int)::rest→∃ rest,∀ lv:Key→LB,stepIndexAddr Tryz.prog 319 lv (.c (.d (.ptr tblP))) (.c (.d (.int .i64 (l:Int))))=some (.c (.d (.ptr (.int .u64 ((10 ^ l:Nat):Int)::rest))),[],[],True):=by
  intro l rest g2 g3
  refine⟨rest,fun lv=>?_⟩
  unfold stepIndexAddr
  rw [ha]
  show some (AV.c (.d (.ptr (tblP.drop ((l:Int).toNat*1)))),([]:List (Key × LB)),([]:List Key),(0≤(l:Int)∧(l:Int)<((20:Nat):Int)∧(l:Int).toNat*1≤tblP.length))=_
  rw [Int.toNat_natCast,Nat.mul_one,g3,eq_true (show 0≤(l:Int)∧(l:Int)<((20:Nat):Int)∧l≤tblP.length from ⟨by omega,by omega,by show l≤20;omega⟩)]
 have h:l=0∨l=1∨l=2∨l=3∨l=4∨l=5∨l=6∨l=7∨l=8∨l=9:=by omega
 rcases h with rfl|rfl|rfl|rfl|rfl|rfl|rfl|rfl|rfl|rfl <;> exact key _ _ (by decide) rfl
def ndig (n:Nat):Nat:=(dig 10 n).length
theorem ndig_of {n k:Nat}(h1:10 ^ k≤n) (h2:n<10 ^ (k+1)):ndig n=k+1:=by
 have g1:=dig_len_le (B:=10) (by decide) h2
 have g2:=dig_lt (B:=10) (n:=n) (by decide)
 have g3:k<(dig 10 n).length:=(Nat.pow_lt_pow_iff_right (a:=10) (by decide)).1 (Nat.lt_of_le_of_lt h1 g2)
 unfold ndig;omega
theorem ndig_lt (n:Nat):n<10 ^ ndig n:=dig_lt (by decide)
theorem l10:∀ b,b≤30→1≤b→2 ^ b≤10 ^ (b*78913 / 262144+1)∧b*78913 / 262144≤9∧(b*78913 / 262144=0∨10 ^ (b*78913 / 262144 - 1)≤2 ^ (b - 1)):=by decide
theorem numDigits_n {n:Nat}(h0:n≠0) (hn:n<1000000000):blen n*78913 / 262144≤9∧ndig n=blen n*78913 / 262144+if 10 ^ (blen n*78913 / 262144)≤n then 1 else 0:=by
 have b1:1≤blen n:=by unfold blen;rw [if_neg h0];omega
 have b2:blen n≤30:=by
  have:=blen_le h0
  apply Classical.byContradiction
  intro hc
  have h9:2 ^ 30≤2 ^ (blen n - 1):=Nat.pow_le_pow_right (by decide) (by omega)
  omega
 obtain⟨g1,g2,g3⟩:=l10 (blen n) b2 b1
 have g4:=blen_lt n
 have g5:=blen_le h0
 generalize blen n*78913 / 262144=l at *
 refine⟨g2,?_⟩
 split
 ·rename_i h;exact ndig_of h (by omega)
 ·rename_i h
  have h:n<10 ^ l:=Nat.not_le.1 h
  cases l with
  | zero=>exact absurd h (by simpa using h0)
  | succ l=>
   rcases g3 with g3|g3
   ·omega
   ·rw [Nat.add_zero];exact ndig_of (by simp only [Nat.add_sub_cancel] at g3;omega) h
theorem numDigits_ok (m:Int)(n:Nat)(h0:n≠0)(hn:n<1000000000):CallsP Tryz.prog (GG m) 256 [.c (.d (.int .u64 n))] (.c (.d (.int .i64 (ndig n)))):=by
 have c1:=bits_Len64_ok (GG m) n (by omega)
 have hb:blen n≤64:=by
  have:=blen_le h0
  apply Classical.byContradiction
  intro hc
  have h9:2 ^ 64≤2 ^ (blen n - 1):=Nat.pow_le_pow_right (by decide) (by omega)
  omega
 have c2:=log10Pow2_ok (GG m) (blen n) hb
 obtain⟨hl,hd⟩:=numDigits_n h0 hn
 rw [hd]
 generalize blen n*78913 / 262144=l at *
 generalize blen n=b at *
 obtain⟨rest,hx⟩:=ixP hl
 have hg:=GGp m
 have c3:=bool2_ok (GG m) (decide (((10 ^ l:Nat):Int)≤n))
 have hc:decide (((10 ^ l:Nat):Int)≤(n:Int))=decide (10 ^ l≤n):=decide_eq_decide.2 (by omega)
 rw [hc] at c3
 have hv:(if decide (10 ^ l≤n)=true then (1:Int) else 0)=((if 10 ^ l≤n then 1 else 0:Nat):Int):=by by_cases h:10 ^ l≤n <;> simp [h]
 rw [hv] at c3
 have hu:(if 10 ^ l≤n then 1 else 0:Nat)≤1:=by split <;> omega
 generalize (if 10 ^ l≤n then 1 else 0:Nat)=u at *
 have w:=w64 (n:=(l:Int)+u) (by omega) (by omega)
 rw [← hc] at c3
 generalize ((10 ^ l:Nat):Int)=t at *
 refine CallsP.en Go.Proofs.Tryz.func256 rfl fun _=>AW.q ?_
 refine AW.sr fun K hK=>?_
 simp
 refine CallDo.p 0 9 c1 ?_
 simp
 refine CallDo.p 0 9 c2 ?_
 simp
 repeat refine and_o ?_
 apply hK
 refine AW.c3 0 c3 hg hx w ?_
 exact AW.r0 (FinP.rt rfl 2 (by simp))
def dB (d:Nat):CV:=.d (.int .u8 ((48+d:Nat):Int))
@[simp] theorem dB_pure (d:Nat):(dB d).pure=true:=rfl
def dL:Nat→Nat→List Nat
 | 0,_=>[]
 | k+1,n=>dL k (n / 10)++[n % 10]
theorem tb0 (f:List UInt8){x a:Nat}(hx:x<100) (ha:a=2*x) (hf:(List.range 100).all (fun i=>(f[2*i]?.getD 0).toNat == 48+i / 10)=true):CV.d (.int .u8 ((f[a]?.getD 0).toNat:Int))=dB (x / 10):=by
 subst ha
 have:=List.all_eq_true.1 hf x (List.mem_range.2 hx)
 unfold dB
 rw [show (f[2*x]?.getD 0).toNat=48+x / 10 by simpa using this]
theorem tb1 (f:List UInt8){x a:Nat}(hx:x<100) (ha:a=2*x+1) (hf:(List.range 100).all (fun i=>(f[2*i+1]?.getD 0).toNat == 48+i % 10)=true):CV.d (.int .u8 ((f[a]?.getD 0).toNat:Int))=dB (x % 10):=by
 subst ha
 have:=List.all_eq_true.1 hf x (List.mem_range.2 hx)
 unfold dB
 rw [show (f[2*x+1]?.getD 0).toNat=48+x % 10 by simpa using this]
theorem fb3 (G:List (List DV))(n:Nat)(hn:n<1000)(c0 c1 c2:CV)(r:List CV) :
 CallsS Tryz.prog G 257 [.c (.lsl 0 0 3 1),.c (.d (.int .u64 n))] [.cells false false 299 (c0::c1::c2::r)]
  (.ret (.tup []) [.cells false false 299 ((dL 3 n).map dB++r)] []):=by
 have wl:∀ k:Nat,k<1000→IntKind.i64.wrap (k:Int)=k:=fun k h=>w64 (by omega) (by omega)
 have wl0:IntKind.i64.wrap 0=0:=wl 0 (by decide)
 have wl1:IntKind.i64.wrap 1=1:=wl 1 (by decide)
 have wl2:IntKind.i64.wrap 2=2:=wl 2 (by decide)
 have wl3:IntKind.i64.wrap 3=3:=wl 3 (by decide)
 have wl4:IntKind.i64.wrap 4=4:=wl 4 (by decide)
 have wl5:IntKind.i64.wrap 5=5:=wl 5 (by decide)
 have wl6:IntKind.i64.wrap 6=6:=wl 6 (by decide)
 have wl7:IntKind.i64.wrap 7=7:=wl 7 (by decide)
 have wl8:IntKind.i64.wrap 8=8:=wl 8 (by decide)
 have w12:IntKind.u32.wrap (n:Int)=n:=wu32 (by omega) (by omega)
 obtain⟨v,hv⟩:∃ q,n / 100=q:=⟨_,rfl⟩
 obtain⟨p5,hp5⟩:∃ q,n % 100=q:=⟨_,rfl⟩
 have dv:(n:Int).tdiv 100=(v:Int):=by rw [Int.tdiv_eq_ediv_of_nonneg (by omega)];omega
 have dp5:(n:Int).tmod 100=(p5:Int):=by rw [Int.tmod_eq_emod_of_nonneg (by omega)];omega
 have ev:IntKind.u32.wrap (v:Int)=v:=wu32 (by omega) (by omega)
 obtain⟨p5a,hp5a⟩:∃ a,p5*2=a:=⟨_,rfl⟩
 obtain⟨p5b,hp5b⟩:∃ a,p5a+1=a:=⟨_,rfl⟩
 have p51:IntKind.u32.wrap ((p5:Int)*2)=(p5a:Int):=by rw [wu32 (by omega) (by omega)];omega
 have p52:IntKind.u32.wrap ((p5a:Int)+1)=(p5b:Int):=by rw [wu32 (by omega) (by omega)];omega
 have p53:(p5a:Int)<200:=by omega
 have p54:(p5b:Int)<200:=by omega
 have w48:IntKind.u32.wrap (48+(v:Int))=((48+v:Nat):Int):=by rw [wu32 (by omega) (by omega)];omega
 have w49:IntKind.u8.wrap ((48+v:Nat):Int)=((48+v:Nat):Int):=wrap_in ⟨by simp only [loK];omega,by simp only [hiK];omega⟩
 refine CallsS.en1 Go.Proofs.Tryz.func257 rfl fun _=>AW.q ?_
 refine AW.seqK fun K hK=>AW.block ?_
 refine AW.loopV (fun (_:Unit)=>⟨frOf [(0,.c (.lsl 0 0 3 1)),(1,.c (.d (.int .u64 n))),(4,.c (.d (.int .i64 3)))],upd (fun _=>.hole) 0 (.cells false false 299 (c0::c1::c2::r))⟩) 1000 (fun _=>True) (fun _=>0) () (Le.mk2 _) trivial ?_
 rintro _ -
 refine AW.seqK fun K2 hK2=>AW.q ?_
 refine AW.cn (AW.exit (hK _ _ (AW.f1 w12 ?_)))
 refine AW.seqK fun K hK=>AW.q ?_
 refine AW.cn (AW.skip (hK _ _ (AW.seqK fun K hK=>AW.q ?_)))
 refine AW.cy (AW.f2 dp5 p51 ?_)
 refine AW.sr fun K1 hK1=>?_
 simp [dv,ev]
 repeat refine and_o ?_
 apply hK1
 refine AW.seqK fun K1 hK1=>?_
 refine AW.drawP mixed (by kernel_rfl) rfl ?_
 simp [p52,p53,p54,wl0,wl1,wl2,wl3,wl4,wl5,wl6,wl7,wl8,setSeg]
 rw [tb0 _ (x:=p5) (a:=p5a) (by omega) (by omega),tb1 _ (x:=p5) (a:=p5b) (by omega) (by omega)]
 rotate_left
 ·kernel_rfl
 ·kernel_rfl
 repeat refine and_o ?_
 refine⟨by kernel_rfl,?_⟩
 repeat refine and_o ?_
 apply hK1
 refine AW.rP ?_
 simp [wl0,wl1,wl2,wl3,wl4,wl5,wl6,wl7,wl8]
 repeat refine and_o ?_
 apply hK
 refine AW.q ?_
 refine AW.cy (AW.rP ?_)
 simp [w48,w49,setSeg]
 repeat refine and_o ?_
 have ed:dL 3 n=[v,p5 / 10,p5 % 10]:=by
  show [n / 10 / 10 % 10,n / 10 % 10,n % 10]=_
  simp only [List.cons.injEq,and_true]
  refine⟨?_,?_,?_⟩ <;> omega
 refine FinS.none (.inl rfl) rfl (by simp) ?_
 rw [ed]
 have e48:CV.d (.int .u8 (IntKind.u8.wrap (48+(v:Int))))=dB v:=by unfold dB;rw [← w49];rfl
 simp [e48]
theorem fb4 (G:List (List DV))(n:Nat)(hn:n<10000)(c0 c1 c2 c3:CV)(r:List CV) :
 CallsS Tryz.prog G 257 [.c (.lsl 0 0 4 1),.c (.d (.int .u64 n))] [.cells false false 299 (c0::c1::c2::c3::r)]
  (.ret (.tup []) [.cells false false 299 ((dL 4 n).map dB++r)] []):=by
 have wl:∀ k:Nat,k<1000→IntKind.i64.wrap (k:Int)=k:=fun k h=>w64 (by omega) (by omega)
 have wl0:IntKind.i64.wrap 0=0:=wl 0 (by decide)
 have wl1:IntKind.i64.wrap 1=1:=wl 1 (by decide)
 have wl2:IntKind.i64.wrap 2=2:=wl 2 (by decide)
 have wl3:IntKind.i64.wrap 3=3:=wl 3 (by decide)
 have wl4:IntKind.i64.wrap 4=4:=wl 4 (by decide)
 have wl5:IntKind.i64.wrap 5=5:=wl 5 (by decide)
 have wl6:IntKind.i64.wrap 6=6:=wl 6 (by decide)
 have wl7:IntKind.i64.wrap 7=7:=wl 7 (by decide)
 have wl8:IntKind.i64.wrap 8=8:=wl 8 (by decide)
 have w12:IntKind.u32.wrap (n:Int)=n:=wu32 (by omega) (by omega)
 obtain⟨t,ht⟩:∃ q,n / 10000=q:=⟨_,rfl⟩
 obtain⟨s,hs⟩:∃ q,n % 10000=q:=⟨_,rfl⟩
 have dt:(n:Int).tdiv 10000=(t:Int):=by rw [Int.tdiv_eq_ediv_of_nonneg (by omega)];omega
 have ds:(n:Int).tmod 10000=(s:Int):=by rw [Int.tmod_eq_emod_of_nonneg (by omega)];omega
 have et:IntKind.u32.wrap (t:Int)=t:=wu32 (by omega) (by omega)
 obtain⟨p1,hp1⟩:∃ q,s / 100=q:=⟨_,rfl⟩
 obtain⟨p0,hp0⟩:∃ q,s % 100=q:=⟨_,rfl⟩
 have dp1:(s:Int).tdiv 100=(p1:Int):=by rw [Int.tdiv_eq_ediv_of_nonneg (by omega)];omega
 have dp0:(s:Int).tmod 100=(p0:Int):=by rw [Int.tmod_eq_emod_of_nonneg (by omega)];omega
 have ep1:IntKind.u32.wrap (p1:Int)=p1:=wu32 (by omega) (by omega)
 obtain⟨p0a,hp0a⟩:∃ a,p0*2=a:=⟨_,rfl⟩
 obtain⟨p0b,hp0b⟩:∃ a,p0a+1=a:=⟨_,rfl⟩
 have p01:IntKind.u32.wrap ((p0:Int)*2)=(p0a:Int):=by rw [wu32 (by omega) (by omega)];omega
 have p02:IntKind.u32.wrap ((p0a:Int)+1)=(p0b:Int):=by rw [wu32 (by omega) (by omega)];omega
 have p03:(p0a:Int)<200:=by omega
 have p04:(p0b:Int)<200:=by omega
 obtain⟨p1a,hp1a⟩:∃ a,p1*2=a:=⟨_,rfl⟩
 obtain⟨p1b,hp1b⟩:∃ a,p1a+1=a:=⟨_,rfl⟩
 have p11:IntKind.u32.wrap ((p1:Int)*2)=(p1a:Int):=by rw [wu32 (by omega) (by omega)];omega
 have p12:IntKind.u32.wrap ((p1a:Int)+1)=(p1b:Int):=by rw [wu32 (by omega) (by omega)];omega
 have p13:(p1a:Int)<200:=by omega
 have p14:(p1b:Int)<200:=by omega
 refine CallsS.en1 Go.Proofs.Tryz.func257 rfl fun _=>AW.q ?_
 refine AW.seqK fun K hK=>AW.block ?_
 refine AW.loopV (fun (_:Unit)=>⟨frOf [(0,.c (.lsl 0 0 4 1)),(1,.c (.d (.int .u64 n))),(4,.c (.d (.int .i64 4)))],upd (fun _=>.hole) 0 (.cells false false 299 (c0::c1::c2::c3::r))⟩) 1000 (fun _=>True) (fun _=>0) () (Le.mk2 _) trivial ?_
 rintro _ -
 refine AW.seqK fun K2 hK2=>AW.q ?_
 refine AW.cn (AW.exit (hK _ _ (AW.f1 w12 ?_)))
 refine AW.seqK fun K hK=>AW.q ?_
 refine AW.cy (AW.f1 ds ?_)
 refine AW.f2 dt et ?_
 refine AW.f5 dp1 dp0 ep1 p11 p01 ?_
 refine AW.seqK fun K1 hK1=>?_
 refine AW.drawP mixed (by kernel_rfl) rfl ?_
 simp [p02,p03,p04,wl0,wl1,wl2,wl3,wl4,wl5,wl6,wl7,wl8,setSeg]
 rw [tb0 _ (x:=p0) (a:=p0a) (by omega) (by omega),tb1 _ (x:=p0) (a:=p0b) (by omega) (by omega)]
 rotate_left
 ·kernel_rfl
 ·kernel_rfl
 repeat refine and_o ?_
 refine⟨by kernel_rfl,?_⟩
 repeat refine and_o ?_
 apply hK1
 refine AW.seqK fun K1 hK1=>?_
 refine AW.drawP mixed (by kernel_rfl) rfl ?_
 simp [p12,p13,p14,wl0,wl1,wl2,wl3,wl4,wl5,wl6,wl7,wl8,setSeg]
 rw [tb0 _ (x:=p1) (a:=p1a) (by omega) (by omega),tb1 _ (x:=p1) (a:=p1b) (by omega) (by omega)]
 rotate_left
 ·kernel_rfl
 ·kernel_rfl
 repeat refine and_o ?_
 refine⟨by kernel_rfl,?_⟩
 repeat refine and_o ?_
 apply hK1
 refine AW.rP ?_
 simp [wl0,wl1,wl2,wl3,wl4,wl5,wl6,wl7,wl8]
 repeat refine and_o ?_
 apply hK
 refine AW.seqK fun K hK=>AW.q ?_
 refine AW.cn (AW.skip (hK _ _ (AW.q ?_)))
 refine AW.cn (AW.skip ?_)
 have ed:dL 4 n=[p1 / 10,p1 % 10,p0 / 10,p0 % 10]:=by
  show [n / 10 / 10 / 10 % 10,n / 10 / 10 % 10,n / 10 % 10,n % 10]=_
  simp only [List.cons.injEq,and_true]
  refine⟨?_,?_,?_,?_⟩ <;> omega
 refine FinS.none (.inl rfl) rfl (by simp) ?_
 rw [ed]
 simp
theorem fb5 (G:List (List DV))(n:Nat)(hn:n<100000)(c0 c1 c2 c3 c4:CV)(r:List CV) :
 CallsS Tryz.prog G 257 [.c (.lsl 0 0 5 1),.c (.d (.int .u64 n))] [.cells false false 299 (c0::c1::c2::c3::c4::r)]
  (.ret (.tup []) [.cells false false 299 ((dL 5 n).map dB++r)] []):=by
 have wl:∀ k:Nat,k<1000→IntKind.i64.wrap (k:Int)=k:=fun k h=>w64 (by omega) (by omega)
 have wl0:IntKind.i64.wrap 0=0:=wl 0 (by decide)
 have wl1:IntKind.i64.wrap 1=1:=wl 1 (by decide)
 have wl2:IntKind.i64.wrap 2=2:=wl 2 (by decide)
 have wl3:IntKind.i64.wrap 3=3:=wl 3 (by decide)
 have wl4:IntKind.i64.wrap 4=4:=wl 4 (by decide)
 have wl5:IntKind.i64.wrap 5=5:=wl 5 (by decide)
 have wl6:IntKind.i64.wrap 6=6:=wl 6 (by decide)
 have wl7:IntKind.i64.wrap 7=7:=wl 7 (by decide)
 have wl8:IntKind.i64.wrap 8=8:=wl 8 (by decide)
 have w12:IntKind.u32.wrap (n:Int)=n:=wu32 (by omega) (by omega)
 obtain⟨t,ht⟩:∃ q,n / 10000=q:=⟨_,rfl⟩
 obtain⟨s,hs⟩:∃ q,n % 10000=q:=⟨_,rfl⟩
 have dt:(n:Int).tdiv 10000=(t:Int):=by rw [Int.tdiv_eq_ediv_of_nonneg (by omega)];omega
 have ds:(n:Int).tmod 10000=(s:Int):=by rw [Int.tmod_eq_emod_of_nonneg (by omega)];omega
 have et:IntKind.u32.wrap (t:Int)=t:=wu32 (by omega) (by omega)
 obtain⟨p1,hp1⟩:∃ q,s / 100=q:=⟨_,rfl⟩
 obtain⟨p0,hp0⟩:∃ q,s % 100=q:=⟨_,rfl⟩
 have dp1:(s:Int).tdiv 100=(p1:Int):=by rw [Int.tdiv_eq_ediv_of_nonneg (by omega)];omega
 have dp0:(s:Int).tmod 100=(p0:Int):=by rw [Int.tmod_eq_emod_of_nonneg (by omega)];omega
 have ep1:IntKind.u32.wrap (p1:Int)=p1:=wu32 (by omega) (by omega)
 obtain⟨p0a,hp0a⟩:∃ a,p0*2=a:=⟨_,rfl⟩
 obtain⟨p0b,hp0b⟩:∃ a,p0a+1=a:=⟨_,rfl⟩
 have p01:IntKind.u32.wrap ((p0:Int)*2)=(p0a:Int):=by rw [wu32 (by omega) (by omega)];omega
 have p02:IntKind.u32.wrap ((p0a:Int)+1)=(p0b:Int):=by rw [wu32 (by omega) (by omega)];omega
 have p03:(p0a:Int)<200:=by omega
 have p04:(p0b:Int)<200:=by omega
 obtain⟨p1a,hp1a⟩:∃ a,p1*2=a:=⟨_,rfl⟩
 obtain⟨p1b,hp1b⟩:∃ a,p1a+1=a:=⟨_,rfl⟩
 have p11:IntKind.u32.wrap ((p1:Int)*2)=(p1a:Int):=by rw [wu32 (by omega) (by omega)];omega
 have p12:IntKind.u32.wrap ((p1a:Int)+1)=(p1b:Int):=by rw [wu32 (by omega) (by omega)];omega
 have p13:(p1a:Int)<200:=by omega
 have p14:(p1b:Int)<200:=by omega
 have w48:IntKind.u32.wrap (48+(t:Int))=((48+t:Nat):Int):=by rw [wu32 (by omega) (by omega)];omega
 have w49:IntKind.u8.wrap ((48+t:Nat):Int)=((48+t:Nat):Int):=wrap_in ⟨by simp only [loK];omega,by simp only [hiK];omega⟩
 refine CallsS.en1 Go.Proofs.Tryz.func257 rfl fun _=>AW.q ?_
 refine AW.seqK fun K hK=>AW.block ?_
 refine AW.loopV (fun (_:Unit)=>⟨frOf [(0,.c (.lsl 0 0 5 1)),(1,.c (.d (.int .u64 n))),(4,.c (.d (.int .i64 5)))],upd (fun _=>.hole) 0 (.cells false false 299 (c0::c1::c2::c3::c4::r))⟩) 1000 (fun _=>True) (fun _=>0) () (Le.mk2 _) trivial ?_
 rintro _ -
 refine AW.seqK fun K2 hK2=>AW.q ?_
 refine AW.cn (AW.exit (hK _ _ (AW.f1 w12 ?_)))
 refine AW.seqK fun K hK=>AW.q ?_
 refine AW.cy (AW.f1 ds ?_)
 refine AW.f2 dt et ?_
 refine AW.f5 dp1 dp0 ep1 p11 p01 ?_
 refine AW.seqK fun K1 hK1=>?_
 refine AW.drawP mixed (by kernel_rfl) rfl ?_
 simp [p02,p03,p04,wl0,wl1,wl2,wl3,wl4,wl5,wl6,wl7,wl8,setSeg]
 rw [tb0 _ (x:=p0) (a:=p0a) (by omega) (by omega),tb1 _ (x:=p0) (a:=p0b) (by omega) (by omega)]
 rotate_left
 ·kernel_rfl
 ·kernel_rfl
 repeat refine and_o ?_
 refine⟨by kernel_rfl,?_⟩
 repeat refine and_o ?_
 apply hK1
 refine AW.seqK fun K1 hK1=>?_
 refine AW.drawP mixed (by kernel_rfl) rfl ?_
 simp [p12,p13,p14,wl0,wl1,wl2,wl3,wl4,wl5,wl6,wl7,wl8,setSeg]
 rw [tb0 _ (x:=p1) (a:=p1a) (by omega) (by omega),tb1 _ (x:=p1) (a:=p1b) (by omega) (by omega)]
 rotate_left
 ·kernel_rfl
 ·kernel_rfl
 repeat refine and_o ?_
 refine⟨by kernel_rfl,?_⟩
 repeat refine and_o ?_
 apply hK1
 refine AW.rP ?_
 simp [wl0,wl1,wl2,wl3,wl4,wl5,wl6,wl7,wl8]
 repeat refine and_o ?_
 apply hK
 refine AW.seqK fun K hK=>AW.q ?_
 refine AW.cn (AW.skip (hK _ _ (AW.q ?_)))
 refine AW.cy (AW.rP ?_)
 simp [w48,w49,setSeg]
 repeat refine and_o ?_
 have ed:dL 5 n=[t,p1 / 10,p1 % 10,p0 / 10,p0 % 10]:=by
  show [n / 10 / 10 / 10 / 10 % 10,n / 10 / 10 / 10 % 10,n / 10 / 10 % 10,n / 10 % 10,n % 10]=_
  simp only [List.cons.injEq,and_true]
  refine⟨?_,?_,?_,?_,?_⟩ <;> omega
 refine FinS.none (.inl rfl) rfl (by simp) ?_
 rw [ed]
 have e48:CV.d (.int .u8 (IntKind.u8.wrap (48+(t:Int))))=dB t:=by unfold dB;rw [← w49];rfl
 simp [e48]
theorem fb6 (G:List (List DV))(n:Nat)(hn:n<1000000)(c0 c1 c2 c3 c4 c5:CV)(r:List CV) :
 CallsS Tryz.prog G 257 [.c (.lsl 0 0 6 1),.c (.d (.int .u64 n))] [.cells false false 299 (c0::c1::c2::c3::c4::c5::r)]
  (.ret (.tup []) [.cells false false 299 ((dL 6 n).map dB++r)] []):=by
 have wl:∀ k:Nat,k<1000→IntKind.i64.wrap (k:Int)=k:=fun k h=>w64 (by omega) (by omega)
 have wl0:IntKind.i64.wrap 0=0:=wl 0 (by decide)
 have wl1:IntKind.i64.wrap 1=1:=wl 1 (by decide)
 have wl2:IntKind.i64.wrap 2=2:=wl 2 (by decide)
 have wl3:IntKind.i64.wrap 3=3:=wl 3 (by decide)
 have wl4:IntKind.i64.wrap 4=4:=wl 4 (by decide)
 have wl5:IntKind.i64.wrap 5=5:=wl 5 (by decide)
 have wl6:IntKind.i64.wrap 6=6:=wl 6 (by decide)
 have wl7:IntKind.i64.wrap 7=7:=wl 7 (by decide)
 have wl8:IntKind.i64.wrap 8=8:=wl 8 (by decide)
 have w12:IntKind.u32.wrap (n:Int)=n:=wu32 (by omega) (by omega)
 obtain⟨t,ht⟩:∃ q,n / 10000=q:=⟨_,rfl⟩
 obtain⟨s,hs⟩:∃ q,n % 10000=q:=⟨_,rfl⟩
 have dt:(n:Int).tdiv 10000=(t:Int):=by rw [Int.tdiv_eq_ediv_of_nonneg (by omega)];omega
 have ds:(n:Int).tmod 10000=(s:Int):=by rw [Int.tmod_eq_emod_of_nonneg (by omega)];omega
 have et:IntKind.u32.wrap (t:Int)=t:=wu32 (by omega) (by omega)
 obtain⟨p1,hp1⟩:∃ q,s / 100=q:=⟨_,rfl⟩
 obtain⟨p0,hp0⟩:∃ q,s % 100=q:=⟨_,rfl⟩
 have dp1:(s:Int).tdiv 100=(p1:Int):=by rw [Int.tdiv_eq_ediv_of_nonneg (by omega)];omega
 have dp0:(s:Int).tmod 100=(p0:Int):=by rw [Int.tmod_eq_emod_of_nonneg (by omega)];omega
 have ep1:IntKind.u32.wrap (p1:Int)=p1:=wu32 (by omega) (by omega)
 obtain⟨p0a,hp0a⟩:∃ a,p0*2=a:=⟨_,rfl⟩
 obtain⟨p0b,hp0b⟩:∃ a,p0a+1=a:=⟨_,rfl⟩
 have p01:IntKind.u32.wrap ((p0:Int)*2)=(p0a:Int):=by rw [wu32 (by omega) (by omega)];omega
 have p02:IntKind.u32.wrap ((p0a:Int)+1)=(p0b:Int):=by rw [wu32 (by omega) (by omega)];omega
 have p03:(p0a:Int)<200:=by omega
 have p04:(p0b:Int)<200:=by omega
 obtain⟨p1a,hp1a⟩:∃ a,p1*2=a:=⟨_,rfl⟩
 obtain⟨p1b,hp1b⟩:∃ a,p1a+1=a:=⟨_,rfl⟩
 have p11:IntKind.u32.wrap ((p1:Int)*2)=(p1a:Int):=by rw [wu32 (by omega) (by omega)];omega
 have p12:IntKind.u32.wrap ((p1a:Int)+1)=(p1b:Int):=by rw [wu32 (by omega) (by omega)];omega
 have p13:(p1a:Int)<200:=by omega
 have p14:(p1b:Int)<200:=by omega
 obtain⟨v,hv⟩:∃ q,t / 100=q:=⟨_,rfl⟩
 obtain⟨p5,hp5⟩:∃ q,t % 100=q:=⟨_,rfl⟩
 have dv:(t:Int).tdiv 100=(v:Int):=by rw [Int.tdiv_eq_ediv_of_nonneg (by omega)];omega
 have dp5:(t:Int).tmod 100=(p5:Int):=by rw [Int.tmod_eq_emod_of_nonneg (by omega)];omega
 have ev:IntKind.u32.wrap (v:Int)=v:=wu32 (by omega) (by omega)
 obtain⟨p5a,hp5a⟩:∃ a,p5*2=a:=⟨_,rfl⟩
 obtain⟨p5b,hp5b⟩:∃ a,p5a+1=a:=⟨_,rfl⟩
 have p51:IntKind.u32.wrap ((p5:Int)*2)=(p5a:Int):=by rw [wu32 (by omega) (by omega)];omega
 have p52:IntKind.u32.wrap ((p5a:Int)+1)=(p5b:Int):=by rw [wu32 (by omega) (by omega)];omega
 have p53:(p5a:Int)<200:=by omega
 have p54:(p5b:Int)<200:=by omega
 refine CallsS.en1 Go.Proofs.Tryz.func257 rfl fun _=>AW.q ?_
 refine AW.seqK fun K hK=>AW.block ?_
 refine AW.loopV (fun (_:Unit)=>⟨frOf [(0,.c (.lsl 0 0 6 1)),(1,.c (.d (.int .u64 n))),(4,.c (.d (.int .i64 6)))],upd (fun _=>.hole) 0 (.cells false false 299 (c0::c1::c2::c3::c4::c5::r))⟩) 1000 (fun _=>True) (fun _=>0) () (Le.mk2 _) trivial ?_
 rintro _ -
 refine AW.seqK fun K2 hK2=>AW.q ?_
 refine AW.cn (AW.exit (hK _ _ (AW.f1 w12 ?_)))
 refine AW.seqK fun K hK=>AW.q ?_
 refine AW.cy (AW.f1 ds ?_)
 refine AW.f2 dt et ?_
 refine AW.f5 dp1 dp0 ep1 p11 p01 ?_
 refine AW.seqK fun K1 hK1=>?_
 refine AW.drawP mixed (by kernel_rfl) rfl ?_
 simp [p02,p03,p04,wl0,wl1,wl2,wl3,wl4,wl5,wl6,wl7,wl8,setSeg]
 rw [tb0 _ (x:=p0) (a:=p0a) (by omega) (by omega),tb1 _ (x:=p0) (a:=p0b) (by omega) (by omega)]
 rotate_left
 ·kernel_rfl
 ·kernel_rfl
 repeat refine and_o ?_
 refine⟨by kernel_rfl,?_⟩
 repeat refine and_o ?_
 apply hK1
 refine AW.seqK fun K1 hK1=>?_
 refine AW.drawP mixed (by kernel_rfl) rfl ?_
 simp [p12,p13,p14,wl0,wl1,wl2,wl3,wl4,wl5,wl6,wl7,wl8,setSeg]
 rw [tb0 _ (x:=p1) (a:=p1a) (by omega) (by omega),tb1 _ (x:=p1) (a:=p1b) (by omega) (by omega)]
 rotate_left
 ·kernel_rfl
 ·kernel_rfl
 repeat refine and_o ?_
 refine⟨by kernel_rfl,?_⟩
 repeat refine and_o ?_
 apply hK1
 refine AW.rP ?_
 simp [wl0,wl1,wl2,wl3,wl4,wl5,wl6,wl7,wl8]
 repeat refine and_o ?_
 apply hK
 refine AW.seqK fun K hK=>AW.q ?_
 refine AW.cy (AW.f2 dp5 p51 ?_)
 refine AW.sr fun K1 hK1=>?_
 simp [dv,ev]
 repeat refine and_o ?_
 apply hK1
 refine AW.seqK fun K1 hK1=>?_
 refine AW.drawP mixed (by kernel_rfl) rfl ?_
 simp [p52,p53,p54,wl0,wl1,wl2,wl3,wl4,wl5,wl6,wl7,wl8,setSeg]
 rw [tb0 _ (x:=p5) (a:=p5a) (by omega) (by omega),tb1 _ (x:=p5) (a:=p5b) (by omega) (by omega)]
 rotate_left
 ·kernel_rfl
 ·kernel_rfl
 repeat refine and_o ?_
 refine⟨by kernel_rfl,?_⟩
 repeat refine and_o ?_
 apply hK1
 refine AW.rP ?_
 simp [wl0,wl1,wl2,wl3,wl4,wl5,wl6,wl7,wl8]
 repeat refine and_o ?_
 apply hK
 refine AW.q ?_
 refine AW.cn (AW.skip ?_)
 have ed:dL 6 n=[p5 / 10,p5 % 10,p1 / 10,p1 % 10,p0 / 10,p0 % 10]:=by
  show [n / 10 / 10 / 10 / 10 / 10 % 10,n / 10 / 10 / 10 / 10 % 10,n / 10 / 10 / 10 % 10,n / 10 / 10 % 10,n / 10 % 10,n % 10]=_
  simp only [List.cons.injEq,and_true]
  refine⟨?_,?_,?_,?_,?_,?_⟩ <;> omega
 refine FinS.none (.inl rfl) rfl (by simp) ?_
 rw [ed]
 simp
theorem fb7 (G:List (List DV))(n:Nat)(hn:n<10000000)(c0 c1 c2 c3 c4 c5 c6:CV)(r:List CV) :
 CallsS Tryz.prog G 257 [.c (.lsl 0 0 7 1),.c (.d (.int .u64 n))] [.cells false false 299 (c0::c1::c2::c3::c4::c5::c6::r)]
  (.ret (.tup []) [.cells false false 299 ((dL 7 n).map dB++r)] []):=by
 have wl:∀ k:Nat,k<1000→IntKind.i64.wrap (k:Int)=k:=fun k h=>w64 (by omega) (by omega)
 have wl0:IntKind.i64.wrap 0=0:=wl 0 (by decide)
 have wl1:IntKind.i64.wrap 1=1:=wl 1 (by decide)
 have wl2:IntKind.i64.wrap 2=2:=wl 2 (by decide)
 have wl3:IntKind.i64.wrap 3=3:=wl 3 (by decide)
 have wl4:IntKind.i64.wrap 4=4:=wl 4 (by decide)
 have wl5:IntKind.i64.wrap 5=5:=wl 5 (by decide)
 have wl6:IntKind.i64.wrap 6=6:=wl 6 (by decide)
 have wl7:IntKind.i64.wrap 7=7:=wl 7 (by decide)
 have wl8:IntKind.i64.wrap 8=8:=wl 8 (by decide)
 have w12:IntKind.u32.wrap (n:Int)=n:=wu32 (by omega) (by omega)
 obtain⟨t,ht⟩:∃ q,n / 10000=q:=⟨_,rfl⟩
 obtain⟨s,hs⟩:∃ q,n % 10000=q:=⟨_,rfl⟩
 have dt:(n:Int).tdiv 10000=(t:Int):=by rw [Int.tdiv_eq_ediv_of_nonneg (by omega)];omega
 have ds:(n:Int).tmod 10000=(s:Int):=by rw [Int.tmod_eq_emod_of_nonneg (by omega)];omega
 have et:IntKind.u32.wrap (t:Int)=t:=wu32 (by omega) (by omega)
 obtain⟨p1,hp1⟩:∃ q,s / 100=q:=⟨_,rfl⟩
 obtain⟨p0,hp0⟩:∃ q,s % 100=q:=⟨_,rfl⟩
 have dp1:(s:Int).tdiv 100=(p1:Int):=by rw [Int.tdiv_eq_ediv_of_nonneg (by omega)];omega
 have dp0:(s:Int).tmod 100=(p0:Int):=by rw [Int.tmod_eq_emod_of_nonneg (by omega)];omega
 have ep1:IntKind.u32.wrap (p1:Int)=p1:=wu32 (by omega) (by omega)
 obtain⟨p0a,hp0a⟩:∃ a,p0*2=a:=⟨_,rfl⟩
 obtain⟨p0b,hp0b⟩:∃ a,p0a+1=a:=⟨_,rfl⟩
 have p01:IntKind.u32.wrap ((p0:Int)*2)=(p0a:Int):=by rw [wu32 (by omega) (by omega)];omega
 have p02:IntKind.u32.wrap ((p0a:Int)+1)=(p0b:Int):=by rw [wu32 (by omega) (by omega)];omega
 have p03:(p0a:Int)<200:=by omega
 have p04:(p0b:Int)<200:=by omega
 obtain⟨p1a,hp1a⟩:∃ a,p1*2=a:=⟨_,rfl⟩
 obtain⟨p1b,hp1b⟩:∃ a,p1a+1=a:=⟨_,rfl⟩
 have p11:IntKind.u32.wrap ((p1:Int)*2)=(p1a:Int):=by rw [wu32 (by omega) (by omega)];omega
 have p12:IntKind.u32.wrap ((p1a:Int)+1)=(p1b:Int):=by rw [wu32 (by omega) (by omega)];omega
 have p13:(p1a:Int)<200:=by omega
 have p14:(p1b:Int)<200:=by omega
 obtain⟨v,hv⟩:∃ q,t / 100=q:=⟨_,rfl⟩
 obtain⟨p5,hp5⟩:∃ q,t % 100=q:=⟨_,rfl⟩
 have dv:(t:Int).tdiv 100=(v:Int):=by rw [Int.tdiv_eq_ediv_of_nonneg (by omega)];omega
 have dp5:(t:Int).tmod 100=(p5:Int):=by rw [Int.tmod_eq_emod_of_nonneg (by omega)];omega
 have ev:IntKind.u32.wrap (v:Int)=v:=wu32 (by omega) (by omega)
 obtain⟨p5a,hp5a⟩:∃ a,p5*2=a:=⟨_,rfl⟩
 obtain⟨p5b,hp5b⟩:∃ a,p5a+1=a:=⟨_,rfl⟩
 have p51:IntKind.u32.wrap ((p5:Int)*2)=(p5a:Int):=by rw [wu32 (by omega) (by omega)];omega
 have p52:IntKind.u32.wrap ((p5a:Int)+1)=(p5b:Int):=by rw [wu32 (by omega) (by omega)];omega
 have p53:(p5a:Int)<200:=by omega
 have p54:(p5b:Int)<200:=by omega
 have w48:IntKind.u32.wrap (48+(v:Int))=((48+v:Nat):Int):=by rw [wu32 (by omega) (by omega)];omega
 have w49:IntKind.u8.wrap ((48+v:Nat):Int)=((48+v:Nat):Int):=wrap_in ⟨by simp only [loK];omega,by simp only [hiK];omega⟩
 refine CallsS.en1 Go.Proofs.Tryz.func257 rfl fun _=>AW.q ?_
 refine AW.seqK fun K hK=>AW.block ?_
 refine AW.loopV (fun (_:Unit)=>⟨frOf [(0,.c (.lsl 0 0 7 1)),(1,.c (.d (.int .u64 n))),(4,.c (.d (.int .i64 7)))],upd (fun _=>.hole) 0 (.cells false false 299 (c0::c1::c2::c3::c4::c5::c6::r))⟩) 1000 (fun _=>True) (fun _=>0) () (Le.mk2 _) trivial ?_
 rintro _ -
 refine AW.seqK fun K2 hK2=>AW.q ?_
 refine AW.cn (AW.exit (hK _ _ (AW.f1 w12 ?_)))
 refine AW.seqK fun K hK=>AW.q ?_
 refine AW.cy (AW.f1 ds ?_)
 refine AW.f2 dt et ?_
 refine AW.f5 dp1 dp0 ep1 p11 p01 ?_
 refine AW.seqK fun K1 hK1=>?_
 refine AW.drawP mixed (by kernel_rfl) rfl ?_
 simp [p02,p03,p04,wl0,wl1,wl2,wl3,wl4,wl5,wl6,wl7,wl8,setSeg]
 rw [tb0 _ (x:=p0) (a:=p0a) (by omega) (by omega),tb1 _ (x:=p0) (a:=p0b) (by omega) (by omega)]
 rotate_left
 ·kernel_rfl
 ·kernel_rfl
 repeat refine and_o ?_
 refine⟨by kernel_rfl,?_⟩
 repeat refine and_o ?_
 apply hK1
 refine AW.seqK fun K1 hK1=>?_
 refine AW.drawP mixed (by kernel_rfl) rfl ?_
 simp [p12,p13,p14,wl0,wl1,wl2,wl3,wl4,wl5,wl6,wl7,wl8,setSeg]
 rw [tb0 _ (x:=p1) (a:=p1a) (by omega) (by omega),tb1 _ (x:=p1) (a:=p1b) (by omega) (by omega)]
 rotate_left
 ·kernel_rfl
 ·kernel_rfl
 repeat refine and_o ?_
 refine⟨by kernel_rfl,?_⟩
 repeat refine and_o ?_
 apply hK1
 refine AW.rP ?_
 simp [wl0,wl1,wl2,wl3,wl4,wl5,wl6,wl7,wl8]
 repeat refine and_o ?_
 apply hK
 refine AW.seqK fun K hK=>AW.q ?_
 refine AW.cy (AW.f2 dp5 p51 ?_)
 refine AW.sr fun K1 hK1=>?_
 simp [dv,ev]
 repeat refine and_o ?_
 apply hK1
 refine AW.seqK fun K1 hK1=>?_
 refine AW.drawP mixed (by kernel_rfl) rfl ?_
 simp [p52,p53,p54,wl0,wl1,wl2,wl3,wl4,wl5,wl6,wl7,wl8,setSeg]
 rw [tb0 _ (x:=p5) (a:=p5a) (by omega) (by omega),tb1 _ (x:=p5) (a:=p5b) (by omega) (by omega)]
 rotate_left
 ·kernel_rfl
 ·kernel_rfl
 repeat refine and_o ?_
 refine⟨by kernel_rfl,?_⟩
 repeat refine and_o ?_
 apply hK1
 refine AW.rP ?_
 simp [wl0,wl1,wl2,wl3,wl4,wl5,wl6,wl7,wl8]
 repeat refine and_o ?_
 apply hK
 refine AW.q ?_
 refine AW.cy (AW.rP ?_)
 simp [w48,w49,setSeg]
 repeat refine and_o ?_
 have ed:dL 7 n=[v,p5 / 10,p5 % 10,p1 / 10,p1 % 10,p0 / 10,p0 % 10]:=by
  show [n / 10 / 10 / 10 / 10 / 10 / 10 % 10,n / 10 / 10 / 10 / 10 / 10 % 10,n / 10 / 10 / 10 / 10 % 10,n / 10 / 10 / 10 % 10,n / 10 / 10 % 10,n / 10 % 10,n % 10]=_
  simp only [List.cons.injEq,and_true]
  refine⟨?_,?_,?_,?_,?_,?_,?_⟩ <;> omega
 refine FinS.none (.inl rfl) rfl (by simp) ?_
 rw [ed]
 have e48:CV.d (.int .u8 (IntKind.u8.wrap (48+(v:Int))))=dB v:=by unfold dB;rw [← w49];rfl
 simp [e48]
theorem fb8 (G:List (List DV))(n:Nat)(hn:n<100000000)(c0 c1 c2 c3 c4 c5 c6 c7:CV)(r:List CV) :
 CallsS Tryz.prog G 257 [.c (.lsl 0 0 8 1),.c (.d (.int .u64 n))] [.cells false false 299 (c0::c1::c2::c3::c4::c5::c6::c7::r)]
  (.ret (.tup []) [.cells false false 299 ((dL 8 n).map dB++r)] []):=by
 have wl:∀ k:Nat,k<1000→IntKind.i64.wrap (k:Int)=k:=fun k h=>w64 (by omega) (by omega)
 have wl0:IntKind.i64.wrap 0=0:=wl 0 (by decide)
 have wl1:IntKind.i64.wrap 1=1:=wl 1 (by decide)
 have wl2:IntKind.i64.wrap 2=2:=wl 2 (by decide)
 have wl3:IntKind.i64.wrap 3=3:=wl 3 (by decide)
 have wl4:IntKind.i64.wrap 4=4:=wl 4 (by decide)
 have wl5:IntKind.i64.wrap 5=5:=wl 5 (by decide)
 have wl6:IntKind.i64.wrap 6=6:=wl 6 (by decide)
 have wl7:IntKind.i64.wrap 7=7:=wl 7 (by decide)
 have wl8:IntKind.i64.wrap 8=8:=wl 8 (by decide)
 obtain⟨u,hu⟩:∃ q,n / 100000000=q:=⟨_,rfl⟩
 obtain⟨z,hz⟩:∃ q,n % 100000000=q:=⟨_,rfl⟩
 have du:(n:Int).tdiv 100000000=(u:Int):=by rw [Int.tdiv_eq_ediv_of_nonneg (by omega)];omega
 have dz:(n:Int).tmod 100000000=(z:Int):=by rw [Int.tmod_eq_emod_of_nonneg (by omega)];omega
 have eu:IntKind.u64.wrap (u:Int)=u:=wu64 (by omega) (by omega)
 obtain⟨y,hy⟩:∃ q,z / 10000=q:=⟨_,rfl⟩
 obtain⟨x,hx⟩:∃ q,z % 10000=q:=⟨_,rfl⟩
 have dy:(z:Int).tdiv 10000=(y:Int):=by rw [Int.tdiv_eq_ediv_of_nonneg (by omega)];omega
 have dx:(z:Int).tmod 10000=(x:Int):=by rw [Int.tmod_eq_emod_of_nonneg (by omega)];omega
 have ey:IntKind.u32.wrap (y:Int)=y:=wu32 (by omega) (by omega)
 obtain⟨p1,hp1⟩:∃ q,x / 100=q:=⟨_,rfl⟩
 obtain⟨p0,hp0⟩:∃ q,x % 100=q:=⟨_,rfl⟩
 have dp1:(x:Int).tdiv 100=(p1:Int):=by rw [Int.tdiv_eq_ediv_of_nonneg (by omega)];omega
 have dp0:(x:Int).tmod 100=(p0:Int):=by rw [Int.tmod_eq_emod_of_nonneg (by omega)];omega
 have ep1:IntKind.u32.wrap (p1:Int)=p1:=wu32 (by omega) (by omega)
 obtain⟨p3,hp3⟩:∃ q,y / 100=q:=⟨_,rfl⟩
 obtain⟨p2,hp2⟩:∃ q,y % 100=q:=⟨_,rfl⟩
 have dp3:(y:Int).tdiv 100=(p3:Int):=by rw [Int.tdiv_eq_ediv_of_nonneg (by omega)];omega
 have dp2:(y:Int).tmod 100=(p2:Int):=by rw [Int.tmod_eq_emod_of_nonneg (by omega)];omega
 have ep3:IntKind.u32.wrap (p3:Int)=p3:=wu32 (by omega) (by omega)
 obtain⟨p0a,hp0a⟩:∃ a,p0*2=a:=⟨_,rfl⟩
 obtain⟨p0b,hp0b⟩:∃ a,p0a+1=a:=⟨_,rfl⟩
 have p01:IntKind.u32.wrap ((p0:Int)*2)=(p0a:Int):=by rw [wu32 (by omega) (by omega)];omega
 have p02:IntKind.u32.wrap ((p0a:Int)+1)=(p0b:Int):=by rw [wu32 (by omega) (by omega)];omega
 have p03:(p0a:Int)<200:=by omega
 have p04:(p0b:Int)<200:=by omega
 obtain⟨p1a,hp1a⟩:∃ a,p1*2=a:=⟨_,rfl⟩
 obtain⟨p1b,hp1b⟩:∃ a,p1a+1=a:=⟨_,rfl⟩
 have p11:IntKind.u32.wrap ((p1:Int)*2)=(p1a:Int):=by rw [wu32 (by omega) (by omega)];omega
 have p12:IntKind.u32.wrap ((p1a:Int)+1)=(p1b:Int):=by rw [wu32 (by omega) (by omega)];omega
 have p13:(p1a:Int)<200:=by omega
 have p14:(p1b:Int)<200:=by omega
 obtain⟨p2a,hp2a⟩:∃ a,p2*2=a:=⟨_,rfl⟩
 obtain⟨p2b,hp2b⟩:∃ a,p2a+1=a:=⟨_,rfl⟩
 have p21:IntKind.u32.wrap ((p2:Int)*2)=(p2a:Int):=by rw [wu32 (by omega) (by omega)];omega
 have p22:IntKind.u32.wrap ((p2a:Int)+1)=(p2b:Int):=by rw [wu32 (by omega) (by omega)];omega
 have p23:(p2a:Int)<200:=by omega
 have p24:(p2b:Int)<200:=by omega
 obtain⟨p3a,hp3a⟩:∃ a,p3*2=a:=⟨_,rfl⟩
 obtain⟨p3b,hp3b⟩:∃ a,p3a+1=a:=⟨_,rfl⟩
 have p31:IntKind.u32.wrap ((p3:Int)*2)=(p3a:Int):=by rw [wu32 (by omega) (by omega)];omega
 have p32:IntKind.u32.wrap ((p3a:Int)+1)=(p3b:Int):=by rw [wu32 (by omega) (by omega)];omega
 have p33:(p3a:Int)<200:=by omega
 have p34:(p3b:Int)<200:=by omega
 have wz:IntKind.u32.wrap (z:Int)=z:=wu32 (by omega) (by omega)
 have w12:IntKind.u32.wrap (u:Int)=u:=wu32 (by omega) (by omega)
 refine CallsS.en1 Go.Proofs.Tryz.func257 rfl fun _=>AW.q ?_
 refine AW.seqK fun K hK=>AW.block ?_
 refine AW.loopV (fun (b:Int × Int × List CV)=>⟨frOf [(0,.c (.lsl 0 0 8 1)),(1,.c (.d (.int .u64 b.1))),(4,.c (.d (.int .i64 b.2.1)))],upd (fun _=>.hole) 0 (.cells false false 299 b.2.2)⟩) 1000 (fun b=>b=((n:Int),8,(c0::c1::c2::c3::c4::c5::c6::c7::r))∨b=((u:Int),0,(dB (p3 / 10)::dB (p3 % 10)::dB (p2 / 10)::dB (p2 % 10)::dB (p1 / 10)::dB (p1 % 10)::dB (p0 / 10)::dB (p0 % 10)::r))) (fun b=>b.2.1.toNat) ((n:Int),8,(c0::c1::c2::c3::c4::c5::c6::c7::r)) (Le.mk2 _) (.inl rfl) ?_
 rintro b (rfl|rfl)
 ·refine AW.seqK fun K2 hK2=>AW.q ?_
  refine AW.cy (AW.skip (hK2 _ _ (AW.block (AW.f2 dz wz ?_))))
  refine AW.f2 du eu ?_
  refine AW.f3 dy dx ey ?_
  refine AW.f5 dp1 dp0 ep1 p11 p01 ?_
  refine AW.f5 dp3 dp2 ep3 p31 p21 ?_
  refine AW.seqK fun K5 hK5=>?_
  refine AW.drawP mixed (by kernel_rfl) rfl ?_
  simp [p02,p03,p04,wl0,wl1,wl2,wl3,wl4,wl5,wl6,wl7,wl8,setSeg]
  rw [tb0 _ (x:=p0) (a:=p0a) (by omega) (by omega),tb1 _ (x:=p0) (a:=p0b) (by omega) (by omega)]
  rotate_left
  ·kernel_rfl
  ·kernel_rfl
  repeat refine and_o ?_
  refine⟨by kernel_rfl,?_⟩
  repeat refine and_o ?_
  apply hK5
  refine AW.seqK fun K5 hK5=>?_
  refine AW.drawP mixed (by kernel_rfl) rfl ?_
  simp [p12,p13,p14,wl0,wl1,wl2,wl3,wl4,wl5,wl6,wl7,wl8,setSeg]
  rw [tb0 _ (x:=p1) (a:=p1a) (by omega) (by omega),tb1 _ (x:=p1) (a:=p1b) (by omega) (by omega)]
  rotate_left
  ·kernel_rfl
  ·kernel_rfl
  repeat refine and_o ?_
  refine⟨by kernel_rfl,?_⟩
  repeat refine and_o ?_
  apply hK5
  refine AW.seqK fun K5 hK5=>?_
  refine AW.drawP mixed (by kernel_rfl) rfl ?_
  simp [p22,p23,p24,wl0,wl1,wl2,wl3,wl4,wl5,wl6,wl7,wl8,setSeg]
  rw [tb0 _ (x:=p2) (a:=p2a) (by omega) (by omega),tb1 _ (x:=p2) (a:=p2b) (by omega) (by omega)]
  rotate_left
  ·kernel_rfl
  ·kernel_rfl
  repeat refine and_o ?_
  refine⟨by kernel_rfl,?_⟩
  repeat refine and_o ?_
  apply hK5
  refine AW.seqK fun K5 hK5=>?_
  refine AW.drawP mixed (by kernel_rfl) rfl ?_
  simp [p32,p33,p34,wl0,wl1,wl2,wl3,wl4,wl5,wl6,wl7,wl8,setSeg]
  rw [tb0 _ (x:=p3) (a:=p3a) (by omega) (by omega),tb1 _ (x:=p3) (a:=p3b) (by omega) (by omega)]
  rotate_left
  ·kernel_rfl
  ·kernel_rfl
  repeat refine and_o ?_
  refine⟨by kernel_rfl,?_⟩
  repeat refine and_o ?_
  apply hK5
  refine AW.rP ?_
  simp [wl0,wl1,wl2,wl3,wl4,wl5,wl6,wl7,wl8]
  refine⟨(u:Int),0,(dB (p3 / 10)::dB (p3 % 10)::dB (p2 / 10)::dB (p2 % 10)::dB (p1 / 10)::dB (p1 % 10)::dB (p0 / 10)::dB (p0 % 10)::r),Le.mk2 _,.inr ⟨rfl,rfl,rfl⟩,by decide⟩
 refine AW.seqK fun K2 hK2=>AW.q ?_
 refine AW.cn (AW.exit (hK _ _ (AW.f1 w12 ?_)))
 refine AW.seqK fun K hK=>AW.q ?_
 refine AW.cn (AW.skip (hK _ _ (AW.seqK fun K hK=>AW.q ?_)))
 refine AW.cn (AW.skip (hK _ _ (AW.q ?_)))
 refine AW.cn (AW.skip ?_)
 have ed:dL 8 n=[p3 / 10,p3 % 10,p2 / 10,p2 % 10,p1 / 10,p1 % 10,p0 / 10,p0 % 10]:=by
  show [n / 10 / 10 / 10 / 10 / 10 / 10 / 10 % 10,n / 10 / 10 / 10 / 10 / 10 / 10 % 10,n / 10 / 10 / 10 / 10 / 10 % 10,n / 10 / 10 / 10 / 10 % 10,n / 10 / 10 / 10 % 10,n / 10 / 10 % 10,n / 10 % 10,n % 10]=_
  simp only [List.cons.injEq,and_true]
  refine⟨?_,?_,?_,?_,?_,?_,?_,?_⟩ <;> omega
 refine FinS.none (.inl rfl) rfl (by simp) ?_
 rw [ed]
 simp
theorem fb9 (G:List (List DV))(n:Nat)(hn:n<1000000000)(c0 c1 c2 c3 c4 c5 c6 c7 c8:CV)(r:List CV) :
 CallsS Tryz.prog G 257 [.c (.lsl 0 0 9 1),.c (.d (.int .u64 n))] [.cells false false 299 (c0::c1::c2::c3::c4::c5::c6::c7::c8::r)]
  (.ret (.tup []) [.cells false false 299 ((dL 9 n).map dB++r)] []):=by
 have wl:∀ k:Nat,k<1000→IntKind.i64.wrap (k:Int)=k:=fun k h=>w64 (by omega) (by omega)
 have wl0:IntKind.i64.wrap 0=0:=wl 0 (by decide)
 have wl1:IntKind.i64.wrap 1=1:=wl 1 (by decide)
 have wl2:IntKind.i64.wrap 2=2:=wl 2 (by decide)
 have wl3:IntKind.i64.wrap 3=3:=wl 3 (by decide)
 have wl4:IntKind.i64.wrap 4=4:=wl 4 (by decide)
 have wl5:IntKind.i64.wrap 5=5:=wl 5 (by decide)
 have wl6:IntKind.i64.wrap 6=6:=wl 6 (by decide)
 have wl7:IntKind.i64.wrap 7=7:=wl 7 (by decide)
 have wl8:IntKind.i64.wrap 8=8:=wl 8 (by decide)
 obtain⟨u,hu⟩:∃ q,n / 100000000=q:=⟨_,rfl⟩
 obtain⟨z,hz⟩:∃ q,n % 100000000=q:=⟨_,rfl⟩
 have du:(n:Int).tdiv 100000000=(u:Int):=by rw [Int.tdiv_eq_ediv_of_nonneg (by omega)];omega
 have dz:(n:Int).tmod 100000000=(z:Int):=by rw [Int.tmod_eq_emod_of_nonneg (by omega)];omega
 have eu:IntKind.u64.wrap (u:Int)=u:=wu64 (by omega) (by omega)
 obtain⟨y,hy⟩:∃ q,z / 10000=q:=⟨_,rfl⟩
 obtain⟨x,hx⟩:∃ q,z % 10000=q:=⟨_,rfl⟩
 have dy:(z:Int).tdiv 10000=(y:Int):=by rw [Int.tdiv_eq_ediv_of_nonneg (by omega)];omega
 have dx:(z:Int).tmod 10000=(x:Int):=by rw [Int.tmod_eq_emod_of_nonneg (by omega)];omega
 have ey:IntKind.u32.wrap (y:Int)=y:=wu32 (by omega) (by omega)
 obtain⟨p1,hp1⟩:∃ q,x / 100=q:=⟨_,rfl⟩
 obtain⟨p0,hp0⟩:∃ q,x % 100=q:=⟨_,rfl⟩
 have dp1:(x:Int).tdiv 100=(p1:Int):=by rw [Int.tdiv_eq_ediv_of_nonneg (by omega)];omega
 have dp0:(x:Int).tmod 100=(p0:Int):=by rw [Int.tmod_eq_emod_of_nonneg (by omega)];omega
 have ep1:IntKind.u32.wrap (p1:Int)=p1:=wu32 (by omega) (by omega)
 obtain⟨p3,hp3⟩:∃ q,y / 100=q:=⟨_,rfl⟩
 obtain⟨p2,hp2⟩:∃ q,y % 100=q:=⟨_,rfl⟩
 have dp3:(y:Int).tdiv 100=(p3:Int):=by rw [Int.tdiv_eq_ediv_of_nonneg (by omega)];omega
 have dp2:(y:Int).tmod 100=(p2:Int):=by rw [Int.tmod_eq_emod_of_nonneg (by omega)];omega
 have ep3:IntKind.u32.wrap (p3:Int)=p3:=wu32 (by omega) (by omega)
 obtain⟨p0a,hp0a⟩:∃ a,p0*2=a:=⟨_,rfl⟩
 obtain⟨p0b,hp0b⟩:∃ a,p0a+1=a:=⟨_,rfl⟩
 have p01:IntKind.u32.wrap ((p0:Int)*2)=(p0a:Int):=by rw [wu32 (by omega) (by omega)];omega
 have p02:IntKind.u32.wrap ((p0a:Int)+1)=(p0b:Int):=by rw [wu32 (by omega) (by omega)];omega
 have p03:(p0a:Int)<200:=by omega
 have p04:(p0b:Int)<200:=by omega
 obtain⟨p1a,hp1a⟩:∃ a,p1*2=a:=⟨_,rfl⟩
 obtain⟨p1b,hp1b⟩:∃ a,p1a+1=a:=⟨_,rfl⟩
 have p11:IntKind.u32.wrap ((p1:Int)*2)=(p1a:Int):=by rw [wu32 (by omega) (by omega)];omega
 have p12:IntKind.u32.wrap ((p1a:Int)+1)=(p1b:Int):=by rw [wu32 (by omega) (by omega)];omega
 have p13:(p1a:Int)<200:=by omega
 have p14:(p1b:Int)<200:=by omega
 obtain⟨p2a,hp2a⟩:∃ a,p2*2=a:=⟨_,rfl⟩
 obtain⟨p2b,hp2b⟩:∃ a,p2a+1=a:=⟨_,rfl⟩
 have p21:IntKind.u32.wrap ((p2:Int)*2)=(p2a:Int):=by rw [wu32 (by omega) (by omega)];omega
 have p22:IntKind.u32.wrap ((p2a:Int)+1)=(p2b:Int):=by rw [wu32 (by omega) (by omega)];omega
 have p23:(p2a:Int)<200:=by omega
 have p24:(p2b:Int)<200:=by omega
 obtain⟨p3a,hp3a⟩:∃ a,p3*2=a:=⟨_,rfl⟩
 obtain⟨p3b,hp3b⟩:∃ a,p3a+1=a:=⟨_,rfl⟩
 have p31:IntKind.u32.wrap ((p3:Int)*2)=(p3a:Int):=by rw [wu32 (by omega) (by omega)];omega
 have p32:IntKind.u32.wrap ((p3a:Int)+1)=(p3b:Int):=by rw [wu32 (by omega) (by omega)];omega
 have p33:(p3a:Int)<200:=by omega
 have p34:(p3b:Int)<200:=by omega
 have wz:IntKind.u32.wrap (z:Int)=z:=wu32 (by omega) (by omega)
 have w12:IntKind.u32.wrap (u:Int)=u:=wu32 (by omega) (by omega)
 have w48:IntKind.u32.wrap (48+(u:Int))=((48+u:Nat):Int):=by rw [wu32 (by omega) (by omega)];omega
 have w49:IntKind.u8.wrap ((48+u:Nat):Int)=((48+u:Nat):Int):=wrap_in ⟨by simp only [loK];omega,by simp only [hiK];omega⟩
 refine CallsS.en1 Go.Proofs.Tryz.func257 rfl fun _=>AW.q ?_
 refine AW.seqK fun K hK=>AW.block ?_
 refine AW.loopV (fun (b:Int × Int × List CV)=>⟨frOf [(0,.c (.lsl 0 0 9 1)),(1,.c (.d (.int .u64 b.1))),(4,.c (.d (.int .i64 b.2.1)))],upd (fun _=>.hole) 0 (.cells false false 299 b.2.2)⟩) 1000 (fun b=>b=((n:Int),9,(c0::c1::c2::c3::c4::c5::c6::c7::c8::r))∨b=((u:Int),1,(c0::dB (p3 / 10)::dB (p3 % 10)::dB (p2 / 10)::dB (p2 % 10)::dB (p1 / 10)::dB (p1 % 10)::dB (p0 / 10)::dB (p0 % 10)::r))) (fun b=>b.2.1.toNat) ((n:Int),9,(c0::c1::c2::c3::c4::c5::c6::c7::c8::r)) (Le.mk2 _) (.inl rfl) ?_
 rintro b (rfl|rfl)
 ·refine AW.seqK fun K2 hK2=>AW.q ?_
  refine AW.cy (AW.skip (hK2 _ _ (AW.block (AW.f2 dz wz ?_))))
  refine AW.f2 du eu ?_
  refine AW.f3 dy dx ey ?_
  refine AW.f5 dp1 dp0 ep1 p11 p01 ?_
  refine AW.f5 dp3 dp2 ep3 p31 p21 ?_
  refine AW.seqK fun K5 hK5=>?_
  refine AW.drawP mixed (by kernel_rfl) rfl ?_
  simp [p02,p03,p04,wl0,wl1,wl2,wl3,wl4,wl5,wl6,wl7,wl8,setSeg]
  rw [tb0 _ (x:=p0) (a:=p0a) (by omega) (by omega),tb1 _ (x:=p0) (a:=p0b) (by omega) (by omega)]
  rotate_left
  ·kernel_rfl
  ·kernel_rfl
  repeat refine and_o ?_
  refine⟨by kernel_rfl,?_⟩
  repeat refine and_o ?_
  apply hK5
  refine AW.seqK fun K5 hK5=>?_
  refine AW.drawP mixed (by kernel_rfl) rfl ?_
  simp [p12,p13,p14,wl0,wl1,wl2,wl3,wl4,wl5,wl6,wl7,wl8,setSeg]
  rw [tb0 _ (x:=p1) (a:=p1a) (by omega) (by omega),tb1 _ (x:=p1) (a:=p1b) (by omega) (by omega)]
  rotate_left
  ·kernel_rfl
  ·kernel_rfl
  repeat refine and_o ?_
  refine⟨by kernel_rfl,?_⟩
  repeat refine and_o ?_
  apply hK5
  refine AW.seqK fun K5 hK5=>?_
  refine AW.drawP mixed (by kernel_rfl) rfl ?_
  simp [p22,p23,p24,wl0,wl1,wl2,wl3,wl4,wl5,wl6,wl7,wl8,setSeg]
  rw [tb0 _ (x:=p2) (a:=p2a) (by omega) (by omega),tb1 _ (x:=p2) (a:=p2b) (by omega) (by omega)]
  rotate_left
  ·kernel_rfl
  ·kernel_rfl
  repeat refine and_o ?_
  refine⟨by kernel_rfl,?_⟩
  repeat refine and_o ?_
  apply hK5
  refine AW.seqK fun K5 hK5=>?_
  refine AW.drawP mixed (by kernel_rfl) rfl ?_
  simp [p32,p33,p34,wl0,wl1,wl2,wl3,wl4,wl5,wl6,wl7,wl8,setSeg]
  rw [tb0 _ (x:=p3) (a:=p3a) (by omega) (by omega),tb1 _ (x:=p3) (a:=p3b) (by omega) (by omega)]
  rotate_left
  ·kernel_rfl
  ·kernel_rfl
  repeat refine and_o ?_
  refine⟨by kernel_rfl,?_⟩
  repeat refine and_o ?_
  apply hK5
  refine AW.rP ?_
  simp [wl0,wl1,wl2,wl3,wl4,wl5,wl6,wl7,wl8]
  refine⟨(u:Int),1,(c0::dB (p3 / 10)::dB (p3 % 10)::dB (p2 / 10)::dB (p2 % 10)::dB (p1 / 10)::dB (p1 % 10)::dB (p0 / 10)::dB (p0 % 10)::r),Le.mk2 _,.inr ⟨rfl,rfl,rfl⟩,by decide⟩
 refine AW.seqK fun K2 hK2=>AW.q ?_
 refine AW.cn (AW.exit (hK _ _ (AW.f1 w12 ?_)))
 refine AW.seqK fun K hK=>AW.q ?_
 refine AW.cn (AW.skip (hK _ _ (AW.seqK fun K hK=>AW.q ?_)))
 refine AW.cn (AW.skip (hK _ _ (AW.q ?_)))
 refine AW.cy (AW.rP ?_)
 simp [w48,w49,setSeg]
 repeat refine and_o ?_
 have ed:dL 9 n=[u,p3 / 10,p3 % 10,p2 / 10,p2 % 10,p1 / 10,p1 % 10,p0 / 10,p0 % 10]:=by
  show [n / 10 / 10 / 10 / 10 / 10 / 10 / 10 / 10 % 10,n / 10 / 10 / 10 / 10 / 10 / 10 / 10 % 10,n / 10 / 10 / 10 / 10 / 10 / 10 % 10,n / 10 / 10 / 10 / 10 / 10 % 10,n / 10 / 10 / 10 / 10 % 10,n / 10 / 10 / 10 % 10,n / 10 / 10 % 10,n / 10 % 10,n % 10]=_
  simp only [List.cons.injEq,and_true]
  refine⟨?_,?_,?_,?_,?_,?_,?_,?_,?_⟩ <;> omega
 refine FinS.none (.inl rfl) rfl (by simp) ?_
 rw [ed]
 have e48:CV.d (.int .u8 (IntKind.u8.wrap (48+(u:Int))))=dB u:=by unfold dB;rw [← w49];rfl
 simp [e48]
def dgT (k n:Nat):List UInt8:=(dL k n).map fun d=>UInt8.ofNat (48+d)
theorem dL_len:∀ (k n:Nat),(dL k n).length=k
 | 0,_=>rfl
 | k+1,n=>by simp [dL,dL_len k]
theorem dL_lt:∀ (k n:Nat),∀ d∈dL k n,d<10
 | 0,_,d,h=>by cases h
 | k+1,n,d,h=>by
  simp only [dL,List.mem_append,List.mem_singleton] at h
  rcases h with h|rfl
  ·exact dL_lt k _ d h
  ·omega
theorem dgT_len (k n:Nat):(dgT k n).length=k:=by simp [dgT,dL_len]
theorem dB_bytes (k n:Nat):(dL k n).map dB=bytesA (dgT k n):=by
 unfold dgT bytesA
 rw [List.map_map]
 refine List.map_congr_left fun d hd=>?_
 have:=dL_lt k n d hd
 simp only [Function.comp,dB]
 rw [UInt8.toNat_ofNat',Nat.mod_eq_of_lt (by omega)]
theorem dig_step {n:Nat}(h:n≠0):dig 10 n=n % 10::dig 10 (n / 10):=by
 refine (dig_of (by decide) ?_ ?_).symm
 ·have hc:=dig_can (B:=10) (by decide) (n / 10)
  refine⟨ok_cons.2 ⟨Nat.mod_lt _ (by decide),hc.1⟩,fun x hx=>?_⟩
  cases hd:dig 10 (n / 10) with
  | nil=>
   rw [hd] at hx
   have h0:=(dig_nil (by decide)).1 hd
   simp at hx
   omega
  | cons a l=>
   rw [hd] at hx
   exact hc.2 x (by rw [hd];simpa using hx)
 ·show n % 10+10*val 10 (dig 10 (n / 10))=n
  rw [dig_val (by decide)];omega
theorem dL_dig:∀ (k n:Nat),ndig n=k→dL k n=(dig 10 n).reverse
 | 0,n,h=>by
  have:dig 10 n=[]:=List.length_eq_zero_iff.1 h
  rw [this];rfl
 | k+1,n,h=>by
  have h0:n≠0:=by
   intro e;subst e;cases h
  have hs:=dig_step h0
  have h1:ndig (n / 10)=k:=by
   unfold ndig at h ⊢
   rw [hs,List.length_cons] at h;omega
  rw [hs,List.reverse_cons,← dL_dig k _ h1];rfl
theorem decU_dgT {n:Nat}(h:n≠0):decU n=dgT (ndig n) n:=by
 unfold decU dgT;rw [if_neg h,dL_dig _ _ rfl]
theorem fb_ok (G:List (List DV))(k n:Nat)(h1:3≤k)(h2:k≤9)(hn:n<10 ^ k) :
 CallsS Tryz.prog G 257 [.c (.lsl 0 0 k 1),.c (.d (.int .u64 n))] [.cells false false 299 [.d (.int .u8 0),.d (.int .u8 0),.d (.int .u8 0),.d (.int .u8 0),.d (.int .u8 0),.d (.int .u8 0),.d (.int .u8 0),.d (.int .u8 0),.d (.int .u8 0),.d (.int .u8 0),.d (.int .u8 0),.d (.int .u8 0),.d (.int .u8 0),.d (.int .u8 0),.d (.int .u8 0),.d (.int .u8 0),.d (.int .u8 0),.d (.int .u8 0),.d (.int .u8 0),.d (.int .u8 0),.d (.int .u8 0),.d (.int .u8 0),.d (.int .u8 0),.d (.int .u8 0)]]
  (.ret (.tup []) [.cells false false 299 (bytesA (dgT k n)++List.replicate (24 - k) (.d (.int .u8 0)))] []):=by
 rw [← dB_bytes]
 have h:k=3∨k=4∨k=5∨k=6∨k=7∨k=8∨k=9:=by omega
 rcases h with rfl|rfl|rfl|rfl|rfl|rfl|rfl
 ·exact fb3 G n hn _ _ _ (List.replicate 21 _)
 ·exact fb4 G n hn _ _ _ _ (List.replicate 20 _)
 ·exact fb5 G n hn _ _ _ _ _ (List.replicate 19 _)
 ·exact fb6 G n hn _ _ _ _ _ _ (List.replicate 18 _)
 ·exact fb7 G n hn _ _ _ _ _ _ _ (List.replicate 17 _)
 ·exact fb8 G n hn _ _ _ _ _ _ _ _ (List.replicate 16 _)
 ·exact fb9 G n hn _ _ _ _ _ _ _ _ _ (List.replicate 15 _)
theorem bytesA_pure (l:List UInt8):∀ x∈bytesA l,x.pure=true:=by
 intro x hx
 simp only [bytesA,List.mem_map] at hx
 obtain⟨b,_,rfl⟩:=hx
 rfl
theorem fmtUint_ok (m:Int)(n:Nat)(hn:n<1000000000):CallsP Tryz.prog (GG m) 229 [.c (.d (.int .u64 n)),.c (.d (.int .i64 10))] (.c (.d (.str (decU n)))):=by
 by_cases hs:n<100
 ·have hs':(n:Int)<100:=by omega
  have h1:=small_ok m n hs
  have w1:=w64 (n:=(n:Int)) (by omega) (by omega)
  refine CallsP.en Go.Proofs.Tryz.func229 rfl fun _=>AW.q ?_
  refine AW.seqK fun K hK=>AW.q ?_
  refine AW.cy (AW.seqK fun K1 hK1=>AW.f1 hs' ?_)
  refine AW.fy (by simp [hs'] <;> omega) (AW.c1 0 h1 w1 ?_)
  exact AW.r0 (FinP.rt rfl 4 (by simp))
 have hs':¬ (n:Int)<100:=by omega
 have h0:n≠0:=by omega
 have h1:=numDigits_ok m n h0 hn
 have hd:=decU_dgT h0
 have k1:3≤ndig n:=by
  have:=ndig_lt n
  apply Classical.byContradiction
  intro hc
  have h9:10 ^ ndig n≤10 ^ 2:=Nat.pow_le_pow_right (by decide) (by omega)
  omega
 have k2:ndig n≤9:=dig_len_le (by decide) hn
 have hnd:=ndig_lt n
 rw [hd]
 refine CallsP.en Go.Proofs.Tryz.func229 rfl fun _=>AW.q ?_
 refine AW.seqK fun K hK=>AW.q ?_
 refine AW.cy (AW.seqK fun K1 hK1=>AW.f1 hs' ?_)
 refine AW.fn (by simp [hs'] <;> omega) (AW.skip (hK1 _ _ (AW.q ?_)))
 refine AW.c0 1 h1 ?_
 have hfb:=fun G=>fb_ok G (ndig n) n k1 k2 hnd
 have hlt:dgT (ndig n) n=dgT (ndig n) n:=rfl
 have hln:=dgT_len (ndig n) n
 generalize ndig n=k at *
 generalize dgT k n=t at *
 subst hln
 have hk1:(0:Int)≤(t.length:Int):=by omega
 have hk2:(t.length:Int)≤24:=by omega
 refine AW.seqK fun K1 hK1=>?_
 refine AW.regionX ?_
 refine ChX.run 1 rfl ?_
 simp []
 refine ChX.stepN (x:=.c (.lsl 0 0 t.length 1)) (us:=[]) (rds:=[0]) 1 rfl rfl ?_ ?_
 ·simp [Am.stepN,Op.operands,bnds,nSlice]
  omega
 refine ChX.run 2 rfl ?_
 simp []
 have hz:∀ x∈([.d (.int .u8 0),.d (.int .u8 0),.d (.int .u8 0),.d (.int .u8 0),.d (.int .u8 0),.d (.int .u8 0),.d (.int .u8 0),.d (.int .u8 0),.d (.int .u8 0),.d (.int .u8 0),.d (.int .u8 0),.d (.int .u8 0),.d (.int .u8 0),.d (.int .u8 0),.d (.int .u8 0),.d (.int .u8 0),.d (.int .u8 0),.d (.int .u8 0),.d (.int .u8 0),.d (.int .u8 0),.d (.int .u8 0),.d (.int .u8 0),.d (.int .u8 0),.d (.int .u8 0)]:List CV),x.pure=true:=by decide
 have hz':∀ x∈bytesA t++List.replicate (24 - t.length) (CV.d (.int .u8 0)),x.pure=true:=by
  intro x hx
  rcases List.mem_append.1 hx with h|h
  ·exact bytesA_pure t x h
  ·rw [List.eq_of_mem_replicate h];rfl
 refine CallP.pass1 1 9 0 (own:=true) (T:=299) (cs:=[.d (.int .u8 0),.d (.int .u8 0),.d (.int .u8 0),.d (.int .u8 0),.d (.int .u8 0),.d (.int .u8 0),.d (.int .u8 0),.d (.int .u8 0),.d (.int .u8 0),.d (.int .u8 0),.d (.int .u8 0),.d (.int .u8 0),.d (.int .u8 0),.d (.int .u8 0),.d (.int .u8 0),.d (.int .u8 0),.d (.int .u8 0),.d (.int .u8 0),.d (.int .u8 0),.d (.int .u8 0),.d (.int .u8 0),.d (.int .u8 0),.d (.int .u8 0),.d (.int .u8 0)]) (by simp) hz hz' (hfb _) rfl rfl (by
  intro i h h'
  match i,h with
  | 0,_=>exact .inr (.inl ⟨_,_,_,rfl,rfl⟩)
  | 1,_=>exact .inl ⟨rfl,rfl⟩) (by simp) (by decide) ?_
 simp
 refine ChX.done ?_
 repeat refine and_o ?_
 apply hK1
 refine AW.seqK fun K1 hK1=>?_
 refine AW.regionX ?_
 refine ChX.run 1 rfl ?_
 simp []
 refine ChX.stepN (x:=.c (.lsl 0 0 t.length 1)) (us:=[]) (rds:=[0]) 1 rfl rfl ?_ ?_
 ·simp [Am.stepN,Op.operands,bnds,nSlice,bytesA_length]
  omega
 refine ChX.convBs (κ:=0) (off:=0) (own:=true) (fz:=false) (T':=299) (e:=5) (cs:=bytesA t++List.replicate (24 - t.length) (CV.d (.int .u8 0))) (l:=t) 1 rfl rfl rfl (by simp) (by simp) (by rw [List.drop_zero,List.take_append_of_le_length (by rw [bytesA_length];exact Nat.le_refl _),List.take_of_length_le (by rw [bytesA_length];exact Nat.le_refl _)]) (by omega) (by simp) Tryz.underlying5 (by simp) ?_
 refine ChX.run 1 rfl ?_
 simp []
 refine ChX.done ?_
 repeat refine and_o ?_
 apply hK1
 exact AW.r0 (FinP.rt (t:=4) rfl 9 (by simp))
theorem SimW.of_sim {c:Ctx}{r:Option Nat}{ops:Array Oper}{o:Oper}{s s1:LSt}(hg:o.guard=none) (hdf:∀ cl,o.op≠.defer cl) (h:Sim c o s s1):SimW c r ops o s s1:=by
 intro F β a w K Q hs hK
 have hw:wantA ops o.guard s.fr=some true:=by unfold wantA;rw [hg]
 rw [wantA_sound hs hw]
 simp only [if_true]
 exact wpIn_fen hdf (h F β a w K Q hs hK)
theorem SimW.callG {c:Ctx}{r:Option Nat}{ops:Array Oper}{o:Oper}{s:LSt}{cl:Call}{f:FuncId}{fs cs:List AV}{x:AV}{lv':Key→LB}(hd:∀ d,o.dst=some d→d<c.n) (hg:o.guard=none) (ho:o.op=.call cl)
 (ht:tgtC c.P (s.val c.G) cl.callee=some (f,fs,cs)) (hf:isFn c.P f=true) (hok:AllOk s.lv) (hc:CallG c.P c.G f (fs++cl.args.toList.map (s.val c.G)++cs) s.lv (.ret x lv')):SimW c r ops o s (LSt.put ⟨s.fr,lv'⟩ o.dst x):=
 SimW.of_sim hg (fun cl' e=>by rw [ho] at e;cases e) (CallG.sim hd ho ht hf hok hc)
def bdC (k n:Nat):LB:=.cells false false 232 [.ptr 1 0,.lsl k 0 n 1]
def byC (l:List UInt8):LB:=.cells false false 5 (bytesA l)
theorem infoU8:∃ i z,Tryz.prog.info? 5=some i∧i.zero=some z∧z.cells.size=1∧i.bytes=1:=by
 have h:(Tryz.prog.info? 5).map (fun i=>(i.zero.map (·.cells.size),i.bytes))=some (some 1,1):=by kernel_rfl
 obtain⟨i,h1,h2⟩:=Option.map_eq_some_iff.1 h
 simp only [Prod.mk.injEq] at h2
 obtain⟨z,h3,h4⟩:=Option.map_eq_some_iff.1 h2.1
 exact⟨i,z,h1,h3,h4,h2.2⟩
theorem app_u8 (lv:Key→LB)(l s:List UInt8)(h2:lv 2=.cells false false 5 (bytesA l))(h3:lv 3=.hole)(hs:l.length+s.length≤100000000000) :
 nAppendS Tryz.prog 230 9 lv 3 (.c (.lsl 2 0 l.length 1)) (.c (.d (.str s)))=some (.c (.lsl 3 0 (l.length+s.length) 1),[(2,.dead),(3,.cells false false 5 (bytesA l++bytesA s))],[]):=by
 obtain⟨i,z,i1,i2,i3,i4⟩:=infoU8
 have hn:=bytesA_length l
 unfold nAppendS
 simp only [h3,h2]
 simp [i1,i2,i3,i4,hn]
 omega
theorem app_nil (lv:Key→LB)(s:List UInt8)(h3:lv 2=.hole)(hs:s.length≤100000000000) :
 nAppendS Tryz.prog 230 9 lv 2 (.c (.d .nilsl)) (.c (.d (.str s)))=some (.c (.lsl 2 0 s.length 1),[(2,if s.length=0 then .nils else .cells true false 5 (bytesA s))],[]):=by
 obtain⟨i,z,i1,i2,i3,i4⟩:=infoU8
 unfold nAppendS
 simp only [h3]
 simp [i1,i2,i3,i4]
 omega
theorem ws_used (m:Int)(lv:Key→LB)(l s:List UInt8)(hok:AllOk lv)(h1:lv 1=bdC 2 l.length)(h2:lv 2=byC l)(h3:lv 3=.hole)(hs:l.length+s.length≤100000000000) :
 CallG Tryz.prog (GG m) 180 [.c (.ptr 1 0),.c (.d (.str s))] lv
  (.ret (.tup [.c (.d (.int .i64 s.length)),.c (.d .nilIface)]) (upd (upd (upd lv 2 .dead) 3 (byC (l++s))) 1 (bdC 3 (l.length+s.length)))):=by
 refine CallG.of_AW (κ:=3) Go.Proofs.Tryz.func180 rfl (by show 2≤_;decide) ?_
 rintro⟨_,Gc,w0,F0,W0,_,lv0,β0⟩ rfl rfl rfl rfl
 refine AW.seqK fun K hK=>AW.rP ?_
 simp
 repeat refine and_o ?_
 apply hK
 refine AW.seqK fun K hK=>?_
 have h1:lv0 1=.cells false false 232 [.ptr 1 0,.lsl 2 0 l.length 1]:=h1
 have h2:lv0 2=.cells false false 5 (bytesA l):=h2
 have h3:lv0 3=.hole:=h3
 refine AW.regionS' ⟨_,⟨_,SimW.plain (x:=.c (.ptr 1 0)) (vc:=True) (κ:=9) (by intro d hd;cases hd;show (_:Nat)<19;decide) rfl rfl trivial rfl,_,SimW.callG (f:=234) (fs:=[]) (cs:=[]) (by intro d hd;cases hd;show (_:Nat)<19;decide) rfl rfl rfl (by simp) hok (self_used m lv0 1 0 232 _ _ h1 rfl),rfl⟩,?_⟩
 repeat refine and_o ?_
 apply hK
 refine AW.seqK fun K hK=>?_
 refine AW.regionX ?_
 refine ChX.run 6 rfl ?_
 simp [h1,h2,h3]
 have hn:=bytesA_length l
 have happ:bytesA l++bytesA s=bytesA (l++s):=by simp [bytesA]
 refine ChX.stepN (x:=.c (.lsl 3 0 (l.length+s.length) 1)) (us:=[(2,.dead),(3,.cells false false 5 (bytesA (l++s)))]) (rds:=[]) 4 rfl rfl ?_ ?_
 ·show nAppendS Tryz.prog 230 9 lv0 3 (.c (.lsl 2 0 l.length 1)) (.c (.d (.str s)))=_
  rw [← happ]
  exact app_u8 lv0 l s h2 h3 hs
 refine ChX.run 3 rfl ?_
 simp [updL,h1,setSeg]
 refine ChX.done ?_
 repeat refine and_o ?_
 apply hK
 refine AW.q ?_
 exact AW.ret (show FinG _ _ _ .ret _ _ from ⟨by simp [Tryz.f180,resA,resL,resV],rfl⟩)
theorem ws_first (m:Int)(lv:Key→LB)(s:List UInt8)(hok:AllOk lv)(h1:lv 1=.cells false false 232 [.d .nilp,.d .nilsl])(h2:lv 2=.hole)(hs:s.length≤100000000000)(h0:s≠[]) :
 CallG Tryz.prog (GG m) 180 [.c (.ptr 1 0),.c (.d (.str s))] lv
  (.ret (.tup [.c (.d (.int .i64 s.length)),.c (.d .nilIface)]) (upd (upd (upd lv 1 (.cells false false 232 [.ptr 1 0,.d .nilsl])) 2 (.cells true false 5 (bytesA s))) 1 (bdC 2 s.length))):=by
 refine CallG.of_AW (κ:=2) Go.Proofs.Tryz.func180 rfl (by show 2≤_;decide) ?_
 rintro⟨_,Gc,w0,F0,W0,_,lv0,β0⟩ rfl rfl rfl rfl
 have hl0:¬ s.length=0:=fun h=>h0 (List.length_eq_zero_iff.1 h)
 refine AW.q ?_
 refine AW.seqK fun K hK=>?_
 have h1:lv0 1=.cells false false 232 [.d .nilp,.d .nilsl]:=h1
 have h2:lv0 2=.hole:=h2
 refine AW.regionS' ⟨_,⟨_,SimW.plain (x:=.c (.ptr 1 0)) (vc:=True) (κ:=9) (by intro d hd;cases hd;show (_:Nat)<19;decide) rfl rfl trivial rfl,_,SimW.callG (f:=234) (fs:=[]) (cs:=[]) (by intro d hd;cases hd;show (_:Nat)<19;decide) rfl rfl rfl (by simp) hok (self_fresh m lv0 1 0 232 _ _ rfl h1 rfl),rfl⟩,?_⟩
 repeat refine and_o ?_
 apply hK
 refine AW.seqK fun K hK=>?_
 refine AW.regionX ?_
 refine ChX.run 6 rfl ?_
 simp [h1,h2,setSeg]
 refine ChX.stepN (x:=.c (.lsl 2 0 s.length 1)) (us:=[(2,.cells true false 5 (bytesA s))]) (rds:=[]) 3 rfl rfl ?_ ?_
 ·have:=app_nil (upd lv0 1 (.cells false false 232 [.ptr 1 0,.d .nilsl])) s (by simp [h2]) hs
  rw [if_neg hl0] at this
  exact this
 refine ChX.run 3 rfl ?_
 simp [updL,h1,setSeg]
 refine ChX.done ?_
 repeat refine and_o ?_
 apply hK
 refine AW.q ?_
 exact AW.ret (show FinG _ _ _ .ret _ _ from ⟨by simp [Tryz.f180,resA,resL,resV],by simp [setSeg,bdC]⟩)
theorem toBytes_A:∀ l:List UInt8,toBytes (bytesA l)=some l
 | []=>rfl
 | b::l=>by
  have hb:b.toNat<256:=b.toNat_lt
  show toBytes (.d (.int .u8 (.ofNat b.toNat))::bytesA l)=_
  unfold toBytes
  simp only [toBytes_A l,hb,if_true,UInt8.ofNat_toNat]
theorem ptrU8:Tryz.prog.underlying 282=some (.pointer 5):=Tryz.underlying282
theorem bs_ok (m:Int)(lv:Key→LB)(l:List UInt8)(h1:lv 1=bdC 2 l.length)(h2:lv 2=byC l)(hl:l.length≤100000000000)(h0:l≠[]) :
 CallG Tryz.prog (GG m) 181 [.c (.ptr 1 0)] lv (.ret (.c (.d (.str l))) (upd lv 2 .dead)):=by
 refine CallG.of_AW (κ:=9) Go.Proofs.Tryz.func181 rfl (by show 1≤_;decide) ?_
 rintro⟨_,Gc,w0,F0,W0,_,lv0,β0⟩ rfl rfl rfl rfl
 have hl0:0<l.length:=List.length_pos_iff.2 h0
 have h1:lv0 1=.cells false false 232 [.ptr 1 0,.lsl 2 0 l.length 1]:=h1
 have h2:lv0 2=.cells false false 5 (bytesA l):=h2
 have hn:=bytesA_length l
 refine AW.q ?_
 refine AW.seqK fun K hK=>?_
 refine AW.drawX mixed (by kernel_rfl) ?_
 refine ChD.run 4 rfl ?_
 simp [h1]
 refine ChD.stepN (x:=.c (.ptr 2 0)) (us:=[]) (rds:=[2]) 9 rfl rfl ?_ ?_
 ·show nData lv0 (.c (.lsl 2 0 l.length 1))=_
  simp [nData,h2,hl0]
 refine ChD.run 5 rfl ?_
 simp [h1,h2,updL]
 refine⟨by omega,?_⟩
 refine ChD.stepN (x:=.c (.d (.str l))) (us:=[(2,.dead)]) (rds:=[]) 9 rfl rfl ?_ ?_
 ·show nString Tryz.prog 282 (updL lv0 []) (.c (.ptr 2 0)) (.c (.d (.int .i64 (l.length:Int))))=_
  have hc1:Tryz.prog.cellsOf 5=1:=by kernel_rfl
  have htk:(bytesA l).take ((l.length:Int).toNat)=bytesA l:=by rw [Int.toNat_natCast];exact List.take_of_length_le (by omega)
  simp only [nString,updL,List.foldl,h2,ptrU8,hc1,htk,toBytes_A]
  rw [if_pos ⟨trivial,trivial,by omega,by omega⟩,if_pos (by omega)]
 refine ChD.run 1 rfl ?_
 simp
 refine ChD.done ?_
 refine⟨by kernel_rfl,?_⟩
 repeat refine and_o ?_
 apply hK
 exact AW.ret (show FinG _ _ _ .ret _ _ from ⟨by simp [Tryz.f181,resA,resL,resV],by simp [updL]⟩)
theorem dL_add (j:Nat):∀ (k n:Nat),dL (j+k) n=dL j (n / 10 ^ k)++dL k n
 | 0,n=>by simp [dL]
 | k+1,n=>by
  show dL (j+k) (n / 10)++[n % 10]=_
  rw [dL_add j k (n / 10),Nat.div_div_eq_div_mul,show 10*10 ^ k=10 ^ (k+1) by rw [Nat.pow_succ];omega,List.append_assoc];rfl
theorem dL_zero:∀ k:Nat,dL k 0=List.replicate k 0
 | 0=>rfl
 | k+1=>by
  show dL k (0 / 10)++[0 % 10]=_
  rw [Nat.zero_div,dL_zero k,List.replicate_succ']
theorem dL_mod:∀ (k n:Nat),dL k (n % 10 ^ k)=dL k n
 | 0,n=>rfl
 | k+1,n=>by
  show dL k (n % 10 ^ (k+1) / 10)++[n % 10 ^ (k+1) % 10]=dL k (n / 10)++[n % 10]
  rw [show 10 ^ (k+1)=10*10 ^ k by rw [Nat.pow_succ];omega,Nat.mod_mul_right_div_self,dL_mod k (n / 10),Nat.mod_mul_right_mod]
theorem dgT_add (j k n:Nat):dgT (j+k) n=dgT j (n / 10 ^ k)++dgT k n:=by
 unfold dgT;rw [dL_add,List.map_append]
theorem dgT_zero (k:Nat):dgT k 0=List.replicate k 48:=by
 unfold dgT;rw [dL_zero,List.map_replicate];rfl
theorem dgT_mod (k n:Nat):dgT k (n % 10 ^ k)=dgT k n:=by
 unfold dgT;rw [dL_mod]
theorem decU_len {n:Nat}(h:n<1000000000):1≤(decU n).length∧(decU n).length≤9:=by
 by_cases h0:n=0
 ·subst h0;exact⟨by decide,by decide⟩
 ·rw [decU_dgT h0,dgT_len]
  have h2:ndig n≤9:=dig_len_le (by decide) h
  have h1:=ndig_lt n
  refine⟨Nat.one_le_iff_ne_zero.2 fun e=>?_,h2⟩
  rw [e] at h1;omega
theorem dec_pad {n:Nat}(h:n<1000000000):List.replicate (9 - (decU n).length) 48++decU n=dgT 9 n:=by
 by_cases h0:n=0
 ·subst h0;decide
 ·have h2:ndig n≤9:=dig_len_le (by decide) h
  rw [decU_dgT h0,dgT_len]
  conv=>rhs;rw [show 9=(9 - ndig n)+ndig n by omega]
  rw [dgT_add,Nat.div_eq_of_lt (ndig_lt n),dgT_zero]
theorem ndig_step {n:Nat}(h:n≠0):ndig n=ndig (n / 10)+1:=by
 unfold ndig;rw [dig_step h,List.length_cons]
theorem ndig_add (n:Nat):∀ j:Nat,n / 10 ^ j≠0→ndig n=ndig (n / 10 ^ j)+j
 | 0,_=>by simp
 | j+1,h=>by
  have e:n / 10 ^ (j+1)=n / 10 ^ j / 10:=by rw [Nat.div_div_eq_div_mul,Nat.pow_succ]
  have h1:n / 10 ^ j≠0:=by intro e0;rw [e,e0] at h;simp at h
  rw [ndig_add n j h1,ndig_step h1,e];omega
def pts (n:Nat):List (List UInt8):=if n / 1000000000=0 then [decU n] else dgT 9 (n % 1000000000)::pts (n / 1000000000)
termination_by n
decreasing_by
 rename_i h
 exact Nat.div_lt_self (by omega) (by decide)
theorem pts_lo {n:Nat}(h:n / 1000000000=0):pts n=[decU n]:=by rw [pts,if_pos h]
theorem pts_hi {n:Nat}(h:n / 1000000000≠0):pts n=dgT 9 (n % 1000000000)::pts (n / 1000000000):=by rw [pts,if_neg h]
theorem pts_flat (n:Nat)(h:n≠0):(pts n).reverse.flatten=decU n:=by
 induction n using Nat.strongRecOn with
 | _ n ih=>
  by_cases hq:n / 1000000000=0
  ·rw [pts_lo hq];simp
  ·rw [pts_hi hq,List.reverse_cons,List.flatten_append,ih _ (Nat.div_lt_self (by omega) (by decide)) hq,decU_dgT hq,decU_dgT h,ndig_add n 9 hq,dgT_add]
   have:dgT 9 (n % 1000000000)=dgT 9 n:=dgT_mod 9 n
   rw [this];simp
theorem pts_ne (n:Nat):∀ p∈pts n,p≠[]∧p.length≤9:=by
 induction n using Nat.strongRecOn with
 | _ n ih=>
  by_cases hq:n / 1000000000=0
  ·rw [pts_lo hq]
   intro p hp
   rw [List.mem_singleton.1 hp]
   have h:=decU_len (n:=n) (by omega)
   exact⟨fun e=>by rw [e] at h;exact absurd h.1 (by decide),h.2⟩
  ·rw [pts_hi hq]
   intro p hp
   rcases List.mem_cons.1 hp with rfl|hp
   ·refine⟨fun e=>?_,?_⟩
    ·have:=dgT_len 9 (n % 1000000000);rw [e] at this;cases this
    ·rw [dgT_len];exact Nat.le_refl _
   ·exact ih _ (Nat.div_lt_self (by omega) (by decide)) p hp
theorem pts_nil (n:Nat):pts n≠[]:=by
 rw [pts];split <;> simp
theorem flat_len {l:List (List UInt8)}(h:∀ p∈l,p≠[]):l.length≤l.flatten.length:=by
 induction l with
 | nil=>simp
 | cons p l ih=>
  have h1:=List.length_pos_iff.2 (h p (List.mem_cons_self ..))
  have h2:=ih fun q hq=>h q (List.mem_cons_of_mem _ hq)
  simp only [List.flatten_cons,List.length_append,List.length_cons];omega
theorem fmtU_ok (m:Int)(n:Nat)(hn:n<1000000000):CallsP Tryz.prog (GG m) 178 [.c (.d (.int .u64 n)),.c (.d (.int .i64 10))] (.c (.d (.str (decU n)))):=by
 have h1:=fmtUint_ok m n hn
 refine CallsP.en Go.Proofs.Tryz.func178 rfl fun _=>AW.q ?_
 refine AW.c0 1 h1 ?_
 exact AW.r0 (FinP.rt rfl 4 (by simp))
noncomputable def rpT (G:List (List DV)):Bool:=(List.range 9).all fun i=>match finK (evK Tryz.prog G spX 0 60 179 [.c (.d (.str [48])),.c (.d (.int .i64 (.ofNat i)))] .leaf 0 [] kDone .pan) with
 | some (.c (.d (.str s)))=>eqB s (List.replicate i 48)
 | _=>false
theorem rpT_ok (m:Int):rpT (GG m)=true:=by kernel_rfl
theorem repeat_ok (m:Int)(i:Nat)(hi:i<9):CallsP Tryz.prog (GG m) 179 [.c (.d (.str [48])),.c (.d (.int .i64 i))] (.c (.d (.str (List.replicate i 48)))):=by
 have h:=List.all_eq_true.1 (rpT_ok m) i (List.mem_range.2 hi)
 split at h
 ·rename_i s hs
  have:=CallsP.of_ev (evX_ok m 60) hs
  rw [eqB_eq h] at this
  exact this
 ·cases h
theorem upd_hm {lv:Key→LB}{k:Key}(h:lv k=.hole):upd lv k .hole=lv:=by
 funext j
 simp_all
def sK (l:List (List UInt8)):List CV:=l.map fun s=>CV.d (.str s)
def sB (l:List (List UInt8)):LB:=if l=[] then .hole else .cells true false 9 (sK l)
def sS (l:List (List UInt8)):AV:=if l=[] then .c (.d .nilsl) else .c (.lsl 0 0 l.length 1)
theorem sK_len (l:List (List UInt8)):(sK l).length=l.length:=by simp [sK]
theorem sK_ren (l:List (List UInt8))(g:Key→Key):(sK l).map (CV.ren g)=sK l:=by
 unfold sK;rw [List.map_map];rfl
theorem sB_snoc (l:List (List UInt8))(x:List UInt8):sB (l++[x])=.cells true false 9 (sK l++[.d (.str x)]):=by
 unfold sB;rw [if_neg (by simp)];simp [sK]
theorem sS_snoc (l:List (List UInt8))(x:List UInt8):sS (l++[x])=.c (.lsl 0 0 (l.length+1) 1):=by
 unfold sS;rw [if_neg (by simp)];simp
theorem bsS1 (lv:Key→LB)(κ:Key)(h:lv κ=.hole)(a:CV):stepBuildSlice Tryz.prog 224 1 [0] lv κ [.c a]=some (.c (.lsl κ 0 1 1),[(κ,.cells true false 9 [a])],[],True):=by
 unfold stepBuildSlice;rw [h];kernel_rfl
theorem concatT (s t:List UInt8):stepBin Tryz.prog .add 9 (.c (.d (.str s))) (.c (.d (.str t)))=some (.c (.d (.str (s++t))),[],[],s.length+t.length≤9223372036854775807):=by
 simp [stepBin,binS,binSok]
theorem ixS1 (lv:Key→LB){cs:List CV}{n i:Nat}(h:lv 0=.cells false false 9 cs) (hi:i<n):stepIndexAddr Tryz.prog 224 lv (.c (.lsl 0 0 n 1)) (.c (.d (.int .i64 (i:Int))))=some (.c (.ptr 0 i),[],[0],i<n):=by
 simp [stepIndexAddr,h]
theorem ldS1 (lv:Key→LB){cs:List CV}{i:Nat}{s:List UInt8}(h:lv 0=.cells false false 9 cs) (hs:cs[i]?=some (.d (.str s))):stepLoad Tryz.prog 9 lv (.c (.ptr 0 i))=some (.c (.d (.str s)),[],[0],True):=by
 obtain⟨hi,hs⟩:=List.getElem?_eq_some_iff.1 hs
 have hd:cs.drop i=.d (.str s)::cs.drop (i+1):=by rw [List.drop_eq_getElem_cons hi,hs]
 simp [stepLoad,h,hd]
def wJ (A j:Nat):List UInt8:=((pts A).drop j).reverse.flatten
def bdJ (w:List UInt8):LB:=if w=[] then .cells false false 232 [.d .nilp,.d .nilsl] else bdC 2 w.length
def byJ (w:List UInt8):LB:=if w=[] then .hole else byC w
theorem wJ_all (A:Nat)(h:A≠0):wJ A 0=decU A:=by unfold wJ;rw [List.drop_zero,pts_flat A h]
theorem wJ_end (A:Nat):wJ A (pts A).length=[]:=by unfold wJ;rw [List.drop_length];rfl
theorem wJ_step (A j:Nat)(h:j<(pts A).length):wJ A j=wJ A (j+1)++(pts A)[j]:=by
 unfold wJ
 rw [List.drop_eq_getElem_cons h,List.reverse_cons,List.flatten_append];simp
theorem flat_le9:∀ {l:List (List UInt8)},(∀ p∈l,p.length≤9)→l.flatten.length≤9*l.length
 | [],_=>by simp
 | p::l,h=>by
  have h1:=h p (List.mem_cons_self ..)
  have h2:=flat_le9 (l:=l) fun q hq=>h q (List.mem_cons_of_mem _ hq)
  simp only [List.flatten_cons,List.length_append,List.length_cons];omega
theorem wJ_len (A j:Nat):(wJ A j).length≤9*(pts A).length:=by
 unfold wJ
 refine Nat.le_trans (flat_le9 fun p hp=>(pts_ne A p (List.mem_of_mem_drop (List.mem_reverse.1 hp))).2) ?_
 rw [List.length_reverse,List.length_drop];omega
theorem wJ_ne (A j:Nat)(h:j<(pts A).length):wJ A j≠[]:=by
 rw [wJ_step A j h]
 have:=(pts_ne A _ (List.getElem_mem h)).1
 simp [this]
theorem ndig_nl (A:Nat):ndig A≤10*(dig 4294967296 A).length:=by
 refine dig_len_le (by decide) ?_
 rw [Nat.pow_mul]
 exact Nat.lt_of_lt_of_le (dig_lt (by decide)) (Nat.pow_le_pow_left (by decide) _)
theorem pts_count {A:Nat}(h:A≠0):(pts A).length≤10*(dig 4294967296 A).length:=by
 have h1:=flat_len (l:=(pts A).reverse) fun p hp=>(pts_ne A p (List.mem_reverse.1 hp)).1
 rw [List.length_reverse,pts_flat A h,decU_dgT h,dgT_len] at h1
 exact Nat.le_trans h1 (ndig_nl A)
theorem SimW.step {c:Ctx}{r:Option Nat}{ops:Array Oper}{o:Oper}{s:LSt}{κ:Key}{x:AV}{us:List (Key × LB)}{rds:List Key}{vc:Prop}(hd:∀ d,o.dst=some d→d<c.n) (hg:o.guard=none)
 (h:stepF c.P o.op (o.op.operands.toList.map (s.val c.G)) s.lv κ=some (x,us,rds,vc)) (hvc:vc) {s1:LSt}(h1:s1=LSt.put ⟨s.fr,updL s.lv us⟩ o.dst x):SimW c r ops o s s1:=by
 subst h1
 exact SimW.of_eff (EffOK.plain hd (by unfold wantA;rw [hg]) h hvc)
theorem allOk_hole:AllOk (fun _=>.hole):=fun _=>rfl
theorem allOk_upd {lv:Key→LB}{k:Key}{b:LB}(h:AllOk lv) (hb:b.okB=true):AllOk (upd lv k b):=by
 intro j
 unfold upd;split
 ·exact hb
 ·exact h j
theorem bdJ_ok (w:List UInt8):(bdJ w).okB=true:=by unfold bdJ;split <;> rfl
theorem byJ_ok (w:List UInt8):(byJ w).okB=true:=by unfold byJ;split <;> rfl
theorem bytesA_ren (l:List UInt8)(g:Key→Key):(bytesA l).map (CV.ren g)=bytesA l:=by
 unfold bytesA;rw [List.map_map];rfl
theorem nat_text_ok (m:Int)(o:Option (List Nat))(A:Nat)(ho:dO o=(dig 4294967296 A))(hA:(dig 4294967296 A).length≤1000000000):CallsP Tryz.prog (GG m) 119 [nK .u32 o] (.c (.d (.str (decU A)))):=by
 by_cases h0:A=0
 ·subst h0
  have hl:(dO o).length=0:=by rw [ho];rfl
  have hl':((dO o).length:Int)=0:=by omega
  have hd:decU 0=[48]:=rfl
  rw [hd]
  refine CallsP.en Go.Proofs.Tryz.func119 rfl fun _=>AW.q ?_
  refine AW.seqK fun K hK=>AW.f1 hl ?_
  refine AW.cy (AW.q ?_)
  exact AW.r0 (FinP.rt rfl 2 (by simp))
 have hne:(dig 4294967296 A)≠[]:=fun e=>h0 ((dig_nil (by decide)).1 e)
 obtain rfl:o=some (dig 4294967296 A):=by
  cases o with
  | none=>exact absurd ho.symm hne
  | some l=>exact congrArg some ho
 have hl:¬ ((dig 4294967296 A).length:Int)=0:=by
  have:=List.length_pos_iff.2 hne;omega
 have hl0:¬ (dig 4294967296 A).length=0:=by omega
 refine CallsP.en0 Go.Proofs.Tryz.func119 rfl fun _=>AW.q ?_
 refine AW.seqK fun K hK=>AW.f2 hl hl0 ?_
 refine AW.fn (by simp [hl] <;> omega) (AW.skip (hK _ _ (AW.q ?_)))
 refine AW.seqK fun K hK=>AW.block ?_
 refine AW.loopV (fun (d:Nat × List (List UInt8))=>⟨frOf [(0,nK .u32 (some (dig 4294967296 d.1))),(3,sS d.2)],upd (fun _=>.hole) 0 (sB d.2)⟩) 1
  (fun d=>d.1≤A∧d.2++(if d.1=0 then [] else pts d.1)=pts A) (fun d=>d.1) (A,[]) (Le.mk2 _ (by simp only [sB,if_true];exact (upd_hm rfl).symm) (by simp [sS])) ⟨Nat.le_refl _,by rw [if_neg h0];rfl⟩ ?_
 rintro⟨n,p⟩ hi
 obtain⟨hi,hp⟩:=hi
 try simp only at hi hp ⊢
 have hnl:(dig 4294967296 n).length≤1000000000:=Nat.le_trans (dig_len_mono (by decide) hi) hA
 refine AW.seqK fun K3 hK3=>AW.q ?_
 by_cases hn0:n=0
 rotate_left
 ·have hpos:0<(dig 4294967296 n).length:=List.length_pos_iff.2 fun e=>hn0 ((dig_nil (by decide)).1 e)
  have csm:=exact_small_ok (GG m) (some (dig 4294967296 n)) 1000000000 (by decide) (by rw [dO_some];omega)
  rw [dO_some,dig_val (by decide)] at csm
  rw [if_neg hn0] at hp
  have hpl:p.length≤10000000000:=by
   have h1:p.length+(pts n).length=(pts A).length:=by rw [← hp,List.length_append]
   have h2:=pts_count h0
   omega
  have hr:n % 1000000000<1000000000:=Nat.mod_lt _ (by decide)
  have hqn:n / 1000000000<n:=Nat.div_lt_self (by omega) (by decide)
  have hlo:=@pts_lo n
  have hhi:=@pts_hi n
  have hmm:n / 1000000000=0→n % 1000000000=n:=by omega
  generalize n / 1000000000=q at *
  generalize n % 1000000000=r at *
  have cfu:=fmtU_ok m r hr
  have w1:=wu64 (n:=(r:Int)) (by omega) (by omega)
  have hdl:=decU_len hr
  have hpad:=dec_pad hr
  have crp:=repeat_ok m (9 - (decU r).length) (by omega)
  have hsub:(9:Int) - ((decU r).length:Int)=((9 - (decU r).length:Nat):Int):=by omega
  have w2:=w64 (n:=((9 - (decU r).length:Nat):Int)) (by omega) (by omega)
  refine AW.fy (by simp [hpos] <;> omega) (AW.skip (hK3 _ _ (AW.block (AW.c0 10 csm ?_))))
  refine AW.c1 10 cfu w1 ?_
  refine AW.seqK fun K5 hK5=>AW.q ?_
  by_cases hq:q=0
  ·have hps:p++[decU r]++(if q=0 then [] else pts q)=p++pts n:=by rw [if_pos hq,hlo hq,hmm hq];simp
   have hqz:¬ 0<(dig 4294967296 q).length:=by rw [hq];decide
   refine AW.fn (by simp [hqz] <;> omega) (AW.skip (hK5 _ _ (AW.seqK fun K5 hK5=>?_)))
   by_cases hl:p=[]
   ·subst hl
    refine AW.rP ?_
    simp [sB,sS,bsS1,srcA,keyOf,-stepBuildSlice]
    repeat refine and_o ?_
    apply hK5
    refine AW.rP ?_
    simp
    exact⟨q,[]++[decU r],Le.keys [(0,11,sB ([]++[decU r]))] 19 _ rfl rfl (by simp) (by simp) (by simp) (by
     intro e he
     simp only [List.mem_cons,List.not_mem_nil,or_false] at he
     subst he
     rw [sB_snoc]
     simp [sK]) (by rw [sS_snoc];simp [kmap]),⟨by omega,by rw [← hp];exact hps⟩,by omega⟩
   ·have hzb:sB p=.cells true false 9 (sK p):=if_neg hl
    have hzs:sS p=.c (.lsl 0 0 p.length 1):=if_neg hl
    have hzl:=sK_len p
    refine AW.rP ?_
    simp [hzb,hzs,bsS1,srcA,keyOf,hzl,-stepBuildSlice]
    repeat refine and_o ?_
    apply hK5
    refine AW.rP ?_
    simp
    exact⟨q,p++[decU r],Le.keys [(0,11,sB (p++[decU r]))] 19 _ rfl rfl (by simp) (by simp) (by simp) (by
     intro e he
     simp only [List.mem_cons,List.not_mem_nil,or_false] at he
     subst he
     rw [sB_snoc]
     simp [sK_ren]) (by rw [sS_snoc];simp [kmap]),⟨by omega,by rw [← hp];exact hps⟩,by omega⟩
  ·have hps:p++[dgT 9 r]++(if q=0 then [] else pts q)=p++pts n:=by rw [if_neg hq,hhi hq];simp
   have hqz:0<(dig 4294967296 q).length:=List.length_pos_iff.2 fun e=>hq ((dig_nil (by decide)).1 e)
   refine AW.fy (by simp [hqz] <;> omega) (AW.rP ?_)
   simp [hsub,w2]
   refine CallDo.p 10 9 crp ?_
   simp [concatT,hpad]
   repeat refine and_o ?_
   apply hK5
   refine AW.seqK fun K5 hK5=>?_
   by_cases hl:p=[]
   ·subst hl
    refine AW.rP ?_
    simp [sB,sS,bsS1,srcA,keyOf,-stepBuildSlice]
    repeat refine and_o ?_
    apply hK5
    refine AW.rP ?_
    simp
    exact⟨q,[]++[dgT 9 r],Le.keys [(0,11,sB ([]++[dgT 9 r]))] 19 _ rfl rfl (by simp) (by simp) (by simp) (by
     intro e he
     simp only [List.mem_cons,List.not_mem_nil,or_false] at he
     subst he
     rw [sB_snoc]
     simp [sK]) (by rw [sS_snoc];simp [kmap]),⟨by omega,by rw [← hp];exact hps⟩,by omega⟩
   ·have hzb:sB p=.cells true false 9 (sK p):=if_neg hl
    have hzs:sS p=.c (.lsl 0 0 p.length 1):=if_neg hl
    have hzl:=sK_len p
    refine AW.rP ?_
    simp [hzb,hzs,bsS1,srcA,keyOf,hzl,-stepBuildSlice]
    repeat refine and_o ?_
    apply hK5
    refine AW.rP ?_
    simp
    exact⟨q,p++[dgT 9 r],Le.keys [(0,11,sB (p++[dgT 9 r]))] 19 _ rfl rfl (by simp) (by simp) (by simp) (by
     intro e he
     simp only [List.mem_cons,List.not_mem_nil,or_false] at he
     subst he
     rw [sB_snoc]
     simp [sK_ren]) (by rw [sS_snoc];simp [kmap]),⟨by omega,by rw [← hp];exact hps⟩,by omega⟩
 subst hn0
 have hpe:p=pts A:=by rw [← hp];simp
 have hpn:p≠[]:=by rw [hpe];exact pts_nil A
 have hzb:sB p=.cells true false 9 (sK p):=if_neg hpn
 have hzs:sS p=.c (.lsl 0 0 p.length 1):=if_neg hpn
 rw [hzb,hzs,hpe]
 have hplen:(pts A).length≤10000000000:=Nat.le_trans (pts_count h0) (by omega)
 have w1:=w64 (n:=((pts A).length:Int) - 1) (by omega) (by omega)
 refine AW.cn (AW.exit (hK _ _ (AW.q ?_)))
 refine AW.seqK fun K hK=>AW.f1 w1 ?_
 refine AW.block ?_
 refine AW.loopV (fun (j:Nat)=>⟨frOf [(3,.c (.lsl 0 0 (pts A).length 1)),(7,.c (.ptr 1 0)),(8,.c (.d (.int .i64 ((j:Int) - 1))))],upd (upd (upd (fun _=>.hole) 0 (.cells false false 9 (sK (pts A)))) 1 (bdJ (wJ A j))) 2 (byJ (wJ A j))⟩) 3
  (fun j=>j≤(pts A).length) (fun j=>j) (pts A).length ?_ (Nat.le_refl _) ?_
 ·rw [wJ_end]
  simp only [bdJ,byJ,if_true]
  exact Le.keys [(0,0,.cells false false 9 (sK (pts A))),(1,1,.cells false false 232 [.d .nilp,.d .nilsl])] 19 _ (upd_hm rfl) rfl (by simp) (by simp) (by simp) (by
   intro e he
   simp only [List.mem_cons,List.not_mem_nil,or_false] at he
   rcases he with rfl|rfl
   ·simp [sK_ren]
   ·simp [CV.ren]) (by simp [kmap])
 rintro j hj
 try simp only at hj
 refine AW.seqK fun K4 hK4=>AW.q ?_
 cases j with
 | zero=>
  refine AW.cn (AW.exit (hK _ _ (AW.seqK fun K hK=>?_)))
  have hne:wJ A 0≠[]:=wJ_ne A 0 (List.length_pos_iff.2 (pts_nil A))
  have hlim:(wJ A 0).length≤100000000000:=Nat.le_trans (wJ_len A 0) (by omega)
  have hb:bdJ (wJ A 0)=bdC 2 (wJ A 0).length:=if_neg hne
  have hy:byJ (wJ A 0)=byC (wJ A 0):=if_neg hne
  have hd:=wJ_all A h0
  obtain⟨L,hL⟩:∃ L,L=upd (upd (upd (fun _=>LB.hole) 0 (.cells false false 9 (sK (pts A)))) 1 (bdJ (wJ A 0))) 2 (byJ (wJ A 0)):=⟨_,rfl⟩
  have hL1:L 1=bdC 2 (wJ A 0).length:=by rw [hL,← hb];rfl
  have hL2:L 2=byC (wJ A 0):=by rw [hL,← hy];rfl
  have hLk:AllOk L:=by rw [hL];exact allOk_upd (allOk_upd (allOk_upd allOk_hole rfl) (bdJ_ok _)) (byJ_ok _)
  rw [← hL]
  have hcall:=bs_ok m L (wJ A 0) hL1 hL2 hlim hne
  refine AW.regionS' ⟨_,⟨_,SimW.callG (f:=181) (fs:=[]) (cs:=[]) (by intro d hd;cases hd;show (_:Nat)<50;decide) rfl rfl rfl (by simp) (by exact hLk) (by exact hcall),_,SimW.step (x:=.c (.d (.str (wJ A 0)))) (us:=[]) (rds:=[]) (vc:=True) (κ:=19) (by intro d hd;cases hd;show (_:Nat)<50;decide) rfl rfl trivial rfl,rfl⟩,?_⟩
  refine hK _ _ ?_
  rw [← hd]
  exact AW.ret (κ:=0) (FinP.tmp rfl 19 (by simp) rfl (by simp [hL]) rfl)
 | succ i=>
  have e1:((i+1:Nat):Int) - 1=(i:Int):=by omega
  have hi:i<(pts A).length:=hj
  have hi0:(0:Int)≤(i:Int):=by omega
  have hw:=wJ_step A i hi
  have hpn:=pts_ne A _ (List.getElem_mem hi)
  have hsk:(sK (pts A))[i]?=some (.d (.str (pts A)[i])):=by unfold sK;rw [List.getElem?_map,List.getElem?_eq_getElem hi];rfl
  rw [e1]
  refine AW.fy (by simp [hi0] <;> omega) (AW.skip (hK4 _ _ (AW.seqK fun K6 hK6=>AW.block ?_)))
  have hlim:(wJ A (i+1)).length+(pts A)[i].length≤100000000000:=by
   have h1:=wJ_len A i
   rw [hw,List.length_append] at h1
   omega
  have w3:=w64 (n:=(i:Int) - 1) (by omega) (by omega)
  obtain⟨L,hL⟩:∃ L,L=upd (upd (upd (fun _=>LB.hole) 0 (.cells false false 9 (sK (pts A)))) 1 (bdJ (wJ A (i+1)))) 2 (byJ (wJ A (i+1))):=⟨_,rfl⟩
  have hL0:L 0=.cells false false 9 (sK (pts A)):=by rw [hL];rfl
  have hL1:L 1=bdJ (wJ A (i+1)):=by rw [hL];rfl
  have hL2:L 2=byJ (wJ A (i+1)):=by rw [hL];rfl
  have hLk:AllOk L:=by rw [hL];exact allOk_upd (allOk_upd (allOk_upd allOk_hole rfl) (bdJ_ok _)) (byJ_ok _)
  rw [← hL]
  by_cases hwe:wJ A (i+1)=[]
  ·have hb:bdJ (wJ A (i+1))=.cells false false 232 [.d .nilp,.d .nilsl]:=if_pos hwe
   have hy:byJ (wJ A (i+1))=.hole:=if_pos hwe
   rw [hb] at hL1
   rw [hy] at hL2
   have hcall:=ws_first m L (pts A)[i] hLk hL1 hL2 (by omega) hpn.1
   rw [hwe,List.nil_append] at hw
   refine AW.regionS' ⟨_,⟨_,SimW.step (κ:=19) (x:=.c (.lsl 0 0 (pts A).length 1)) (us:=[]) (rds:=[]) (vc:=True) (by intro d hd;cases hd;show (_:Nat)<50;decide) rfl rfl trivial rfl,_,SimW.step (κ:=19) (x:=.c (.d (.int .i64 (i:Int)))) (us:=[]) (rds:=[]) (vc:=True) (by intro d hd;cases hd;show (_:Nat)<50;decide) rfl rfl trivial rfl,
    _,SimW.step (κ:=19) (x:=.c (.ptr 0 i)) (us:=[]) (rds:=[0]) (vc:=i<(pts A).length) (by intro d hd;cases hd;show (_:Nat)<50;decide) rfl (by exact ixS1 L hL0 hi) hi rfl,_,SimW.step (κ:=19) (x:=.c (.d (.str (pts A)[i]))) (us:=[]) (rds:=[0]) (vc:=True) (by intro d hd;cases hd;show (_:Nat)<50;decide) rfl (by exact ldS1 L hL0 hsk) trivial rfl,
    _,SimW.callG (f:=180) (fs:=[]) (cs:=[]) (by intro d hd;cases hd;show (_:Nat)<50;decide) rfl rfl rfl (by simp) (by exact hLk) (by exact hcall),rfl⟩,?_⟩
   refine hK6 _ _ ?_
   refine AW.rP ?_
   simp [w3]
   have hb':bdJ (wJ A i)=bdC 2 (pts A)[i].length:=by unfold bdJ;rw [hw,if_neg hpn.1]
   have hy':byJ (wJ A i)=byC (pts A)[i]:=by unfold byJ;rw [hw,if_neg hpn.1]
   exact⟨i,Le.keys [(0,0,.cells false false 9 (sK (pts A))),(1,1,bdC 2 (pts A)[i].length),(2,2,byC (pts A)[i])] 19 _ (by rw [hb',hy'];rfl) rfl (by simp) (by simp) (by simp [hL]) (by
    intro e he
    simp only [List.mem_cons,List.not_mem_nil,or_false] at he
    rcases he with rfl|rfl|rfl
    ·simp [hL0,sK_ren]
    ·simp [bdC,kmap,CV.ren]
    ·simp [byC,bytesA_ren]) (by simp [kmap]),by omega,by omega⟩
  ·have hb:bdJ (wJ A (i+1))=bdC 2 (wJ A (i+1)).length:=if_neg hwe
   have hy:byJ (wJ A (i+1))=byC (wJ A (i+1)):=if_neg hwe
   rw [hb] at hL1
   rw [hy] at hL2
   have hL3:L 3=.hole:=by rw [hL];rfl
   have hcall:=ws_used m L (wJ A (i+1)) (pts A)[i] hLk hL1 hL2 hL3 hlim
   refine AW.regionS' ⟨_,⟨_,SimW.step (κ:=19) (x:=.c (.lsl 0 0 (pts A).length 1)) (us:=[]) (rds:=[]) (vc:=True) (by intro d hd;cases hd;show (_:Nat)<50;decide) rfl rfl trivial rfl,_,SimW.step (κ:=19) (x:=.c (.d (.int .i64 (i:Int)))) (us:=[]) (rds:=[]) (vc:=True) (by intro d hd;cases hd;show (_:Nat)<50;decide) rfl rfl trivial rfl,
    _,SimW.step (κ:=19) (x:=.c (.ptr 0 i)) (us:=[]) (rds:=[0]) (vc:=i<(pts A).length) (by intro d hd;cases hd;show (_:Nat)<50;decide) rfl (by exact ixS1 L hL0 hi) hi rfl,_,SimW.step (κ:=19) (x:=.c (.d (.str (pts A)[i]))) (us:=[]) (rds:=[0]) (vc:=True) (by intro d hd;cases hd;show (_:Nat)<50;decide) rfl (by exact ldS1 L hL0 hsk) trivial rfl,
    _,SimW.callG (f:=180) (fs:=[]) (cs:=[]) (by intro d hd;cases hd;show (_:Nat)<50;decide) rfl rfl rfl (by simp) (by exact hLk) (by exact hcall),rfl⟩,?_⟩
   refine hK6 _ _ ?_
   refine AW.rP ?_
   simp [w3]
   have hne:¬ wJ A i=[]:=wJ_ne A i hi
   have hb':bdJ (wJ A i)=bdC 2 ((wJ A (i+1)).length+(pts A)[i].length):=by unfold bdJ;rw [if_neg hne,hw,List.length_append]
   have hy':byJ (wJ A i)=byC (wJ A (i+1)++(pts A)[i]):=by unfold byJ;rw [if_neg hne,hw]
   exact⟨i,Le.keys [(0,0,.cells false false 9 (sK (pts A))),(1,1,bdC 2 ((wJ A (i+1)).length+(pts A)[i].length)),(2,3,byC (wJ A (i+1)++(pts A)[i]))] 19 _ (by rw [hb',hy'];rfl) rfl (by simp) (by simp) (by simp [hL]) (by
    intro e he
    simp only [List.mem_cons,List.not_mem_nil,or_false] at he
    rcases he with rfl|rfl|rfl
    ·simp [hL0,sK_ren]
    ·simp [bdC,kmap,CV.ren]
    ·simp [byC,bytesA_ren]) (by simp [kmap]),by omega,by omega⟩
end Go.Am
namespace Go.Am
open Go.Proofs N
abbrev txA (k:Nat):AV:=.c (.d (.sl [[.int .u32 (.ofNat k)]]))
theorem text_dig (m:Int)(k:Nat)(h1:1≤k)(h2:k≤9):CallsP Tryz.prog (GG m) 119 [txA k] (.c (.d (.str [UInt8.ofNat (48+k)]))):=by
 have h:k=1∨k=2∨k=3∨k=4∨k=5∨k=6∨k=7∨k=8∨k=9:=by omega
 rcases h with rfl|rfl|rfl|rfl|rfl|rfl|rfl|rfl|rfl <;> exact CallsP.of_ev (evX_ok m 40) (by kernel_rfl)
theorem text_nil (m:Int):CallsP Tryz.prog (GG m) 119 [.c (.d .nilsl)] (.c (.d (.str [48]))):=CallsP.of_ev (evX_ok m 40) (by kernel_rfl)
def gText:List AV→Option AV
 | [.c (.d .nilsl)]=>some (.c (.d (.str [48])))
 | [.c (.d (.sl [[.int .u32 (.ofNat k)]]))]=>bif Nat.ble 1 k && Nat.ble k 9 then some (.c (.d (.str [UInt8.ofNat (48+k)]))) else none
 | _=>none
theorem gText_ok (m:Int){us:List AV}{x:AV}(h:gText us=some x) (lv:Key→LB):CallG Tryz.prog (GG m) 119 us lv (.ret x lv):=by
 unfold gText at h
 split at h
 ·cases h
  exact CallG.of_CallsP (fun u hu=>by simp only [List.mem_cons,List.not_mem_nil,or_false] at hu;subst hu;rfl) rfl (text_nil m)
 ·rename_i k
  cases hb:Nat.ble 1 k && Nat.ble k 9 with
  | false=>rw [hb] at h;cases h
  | true=>
   rw [hb] at h;cases h
   simp only [Bool.and_eq_true] at hb
   exact CallG.of_CallsP (fun u hu=>by simp only [List.mem_cons,List.not_mem_nil,or_false] at hu;subst hu;rfl) rfl (text_dig m k (Nat.le_of_ble_eq_true hb.1) (Nat.le_of_ble_eq_true hb.2))
 ·cases h
def gPar:List AV→Option AV
 | [.c (.d (.str s))]=>some (.tup [ratV (ratP s),iA (ratE s)])
 | _=>none
theorem gPar_ok (m:Int){us:List AV}{x:AV}(h:gPar us=some x) (lv:Key→LB):CallG Tryz.prog (GG m) 32 us lv (.ret x lv):=by
 unfold gPar at h
 split at h
 ·rename_i s
  cases h
  exact CallG.of_CallsP (fun u hu=>by simp only [List.mem_cons,List.not_mem_nil,or_false] at hu;subst hu;rfl) (tupR_pure _ _) (rat_Parse m s)
 ·cases h
noncomputable def spY:Tb Spec:=setS 119 (.pure (gF gText)) (setS 32 (.pure (gF gPar)) spX)
theorem evY_ok (m:Int)(n:Nat):CallOK Tryz.prog (GG m) (evK Tryz.prog (GG m) spY 0 n):=evK_ok mixed (((spX_ok m).f _ _ (gPar_ok m)).f _ _ (gText_ok m)) n
end Go.Am
namespace Go.Am
open Go.Am.Ty Go.Proofs N
def txF:Nat→Nat→List UInt8→List UInt8
 | 0,_,acc=>acc
 | f+1,n,acc=>bif Nat.ble n 9 then UInt8.ofNat (48+n)::acc else txF f (n / 10) (UInt8.ofNat (48+n % 10)::acc)
theorem txF_eq:∀ {f n:Nat}{acc:List UInt8},n<10 ^ f→n≠0→txF f n acc=decU n++acc
 | 0,n,acc,h,h0=>by simp at h;omega
 | f+1,n,acc,h,h0=>by
  unfold txF
  cases hb:Nat.ble n 9 with
  | true=>
   have hl:=Nat.le_of_ble_eq_true hb
   unfold decU
   rw [if_neg h0,dig_small (by decide) h0 (by omega)]
   simp
  | false=>
   have hl:¬ n≤9:=fun e=>by rw [Nat.ble_eq_true_of_le e] at hb;cases hb
   have hq:n / 10≠0:=by omega
   show txF f (n / 10) _=_
   rw [txF_eq (by rw [Nat.pow_succ] at h;omega) hq]
   unfold decU
   rw [if_neg h0,if_neg hq,dig_step h0]
   simp
def gTxt:List AV→Option AV
 | [.c (.d .nilsl)]=>some (.c (.d (.str [48])))
 | [.c (.d (.sl [[.int .u32 (.ofNat k)]]))]=>bif Nat.ble 1 k && Nat.ble k 4294967295 then some (.c (.d (.str (txF 10 k [])))) else none
 | _=>none
theorem gTxt_ok (m:Int){us:List AV}{x:AV}(h:gTxt us=some x) (lv:Key→LB):CallG Tryz.prog (GG m) 119 us lv (.ret x lv):=by
 unfold gTxt at h
 split at h
 ·cases h
  exact CallG.of_CallsP (fun u hu=>by simp only [List.mem_cons,List.not_mem_nil,or_false] at hu;subst hu;rfl) rfl (text_nil m)
 ·rename_i k
  cases hb:Nat.ble 1 k && Nat.ble k 4294967295 with
  | false=>rw [hb] at h;cases h
  | true=>
   rw [hb] at h;cases h
   simp only [Bool.and_eq_true] at hb
   have h1:=Nat.le_of_ble_eq_true hb.1
   have h2:=Nat.le_of_ble_eq_true hb.2
   have hd:dig 4294967296 k=[k]:=dig_small (by decide) (by omega) (by omega)
   rw [txF_eq (by omega) (by omega),List.append_nil]
   exact CallG.of_CallsP (fun u hu=>by simp only [List.mem_cons,List.not_mem_nil,or_false] at hu;subst hu;rfl) rfl (nat_text_ok m (some [k]) k (by rw [hd];rfl) (by rw [hd];simp))
 ·cases h
noncomputable def spZ:Tb Spec:=setS 119 (.pure (gF gTxt)) spY
theorem spZ_ok (m:Int):SpecOK Tryz.prog (GG m) spZ 0:=(((spX_ok m).f _ _ (gPar_ok m)).f _ _ (gText_ok m)).f _ _ (gTxt_ok m)
theorem evZ_ok (m:Int)(n:Nat):CallOK Tryz.prog (GG m) (evK Tryz.prog (GG m) spZ 0 n):=evK_ok mixed (spZ_ok m) n
end Go.Am
namespace Go.Am
open Go.Proofs
def lsB {α:Type}(f:α→α→Bool):List α→List α→Bool
 | [],[]=>true
 | a::l,b::m=>f a b && lsB f l m
 | _,_=>false
theorem lsB_eq {α:Type}{f:α→α→Bool}(hf:∀ a b,f a b=true→a=b):∀ {l m:List α},lsB f l m=true→l=m
 | [],[],_=>rfl
 | a::l,b::m,h=>by simp only [lsB,Bool.and_eq_true] at h;rw [hf _ _ h.1,lsB_eq hf h.2]
 | [],_::_,h=>by cases h
 | _::_,[],h=>by cases h
def slB (f:DV→DV→Bool)(a b:DV):Bool:=
 match a,b with
 | .sl x,.sl y=>lsB (lsB f) x y
 | x,y=>beqDV x y
def dvB:Nat→DV→DV→Bool
 | 0=>beqDV
 | n+1=>slB (dvB n)
theorem dvB_eq:∀ {n:Nat}(a b:DV),dvB n a b=true→a=b
 | 0,a,b,h=>beqDV_eq h
 | n+1,a,b,h=>by
  have h:slB (dvB n) a b=true:=h
  unfold slB at h
  split at h
  ·rw [lsB_eq (fun _ _ h=>lsB_eq dvB_eq h) h]
  ·exact beqDV_eq h
def cdB (a b:CV):Bool:=match a,b with|.d x,.d y=>dvB 3 x y|_,_=>false
theorem cdB_eq (a b:CV)(h:cdB a b=true):a=b:=by
 unfold cdB at h
 split at h
 ·rw [dvB_eq _ _ h]
 ·cases h
def avB (a b:AV):Bool:=match a,b with|.c x,.c y=>cdB x y|.agg x,.agg y=>lsB cdB x y|_,_=>false
theorem avB_eq (a b:AV)(h:avB a b=true):a=b:=by
 unfold avB at h
 split at h
 ·rw [cdB_eq _ _ h]
 ·rw [lsB_eq cdB_eq h]
 ·cases h
def gTab:List (List AV × AV)→List AV→Option AV
 | [],_=>none
 | p::l,us=>bif lsB avB p.1 us then some p.2 else gTab l us
theorem gTab_in:∀ {l:List (List AV × AV)}{us:List AV}{x:AV},gTab l us=some x→(us,x)∈l
 | p::l,us,x,h=>by
  unfold gTab at h
  cases e:lsB avB p.1 us with
  | true=>
   rw [e] at h;cases h
   rw [← lsB_eq avB_eq e]
   exact List.mem_cons_self ..
  | false=>rw [e] at h;exact List.mem_cons_of_mem _ (gTab_in h)
theorem SpecOK.tab {P:Program}{G:List (List DV)}{sp:Tb Spec}{ft:TypeId}(h:SpecOK P G sp ft) (f:Nat) (l:List (List AV × AV)) (hp:l.all (fun p=>p.1.all AV.pure && p.2.pure)=true)
 (hl:∀ p∈l,CallsP P G f p.1 p.2):SpecOK P G (setS f (.pure (gTab l)) sp) ft:=
 h.more f (gTab l) fun us x hx lv _=>by
  have hm:=gTab_in hx
  have h2:=List.all_eq_true.1 hp _ hm
  simp only [Bool.and_eq_true,List.all_eq_true] at h2
  exact CallG.of_CallsP h2.1 h2.2 (hl _ hm)
abbrev qA (a b:Nat):List DV:=[.bool false,(match a with|0=>.nilsl|a=>.sl [[.int .u32 a]]),(match b with|1=>.nilsl|b=>.sl [[.int .u32 b]])]
def pX:AV:=.agg [.d (.sl [[.int .i64 5,.int .i64 11]]),.d (.int .i64 0),.d (.sl [[.int .i64 0,.str [49],.str [50]]]),.d (.sl [[.int .i64 1,.int .i64 0,.int .i64 0,.int .i64 0,.int .i64 0,.int .i64 0,.str []],[.int .i64 10,.int .i64 0,.int .i64 0,.int .i64 0,.int .i64 0,.int .i64 0,.str []],[.int .i64 9,.int .i64 1,.int .i64 0,.int .i64 0,.int .i64 0,.int .i64 0,.str []]]),.d (.int .i64 3),.d (.int .i64 3),.d .nilsl,.d (.int .i64 2)]
def ix (a b c d:Nat):AV:=.c (.d (.sl [qA a b++qA c d]))
def iy (a b c d:Nat):AV:=.agg ((qA a b++qA c d).map .d)
abbrev nI (n:Nat):AV:=.c (.d (.int .i64 n))
end Go.Am
namespace Go.Am
open Go
def mkD (D:Nat):Deferred:={ target:=.collected D,args:=#[] }
structure Mks (B:Nat) (F:Nat→Prop) (w:World) (l:List Nat):Prop where
 nd:l.Nodup
 ge:∀ D∈l,B≤D
 ob:∀ D∈l,w.heap[D]?=some (.deferred (some []))
 nF:∀ D∈l,¬ F D
theorem Mks.nil (B:Nat)(F:Nat→Prop)(w:World):Mks B F w []:=⟨List.nodup_nil,fun _ h=>(by cases h),fun _ h=>(by cases h),fun _ h=>(by cases h)⟩
theorem StOK.notFar {c:Ctx}{F:Nat→Prop}{β:Key→Nat}{s:LSt}{a:Act}{w:World}(h:StOK c F β s a w) {l:Nat}{o:Obj}(hl:w.heap[l]?=some o) (hc:∀ x y z,o≠.cells x y z) (hm:∀ x y,o≠.map x y):∀ k,(s.lv k).live=true→β k≠l:=by
 intro k hk he
 have hb:=h.blk k
 unfold Vw.blk at hb
 cases e:s.lv k with
 | cells own fz T cs=>simp only [e] at hb;obtain⟨arr,b1,_⟩:=hb;rw [he,hl] at b1;simp only [Option.some.injEq] at b1;exact hc _ _ _ b1
 | map own es=>simp only [e] at hb;obtain⟨x,y,b1,_⟩:=hb;rw [he,hl] at b1;simp only [Option.some.injEq] at b1;exact hm _ _ b1
 | hole=>rw [e] at hk;cases hk
 | dead=>rw [e] at hk;cases hk
 | nils=>rw [e] at hk;cases hk
theorem Mks.lt {B:Nat}{F:Nat→Prop}{w:World}{l:List Nat}(h:Mks B F w l) {D:Nat}(hD:D∈l):D<w.heap.size:=(Array.getElem?_eq_some_iff.1 (h.ob D hD)).1
theorem Mks.mono {B:Nat}{F F':Nat→Prop}{w w':World}{l:List Nat}{lv:Key→LB}{β:Key→Nat}(h:Mks B F w l) (hn:∀ D∈l,∀ k,(lv k).live=true→β k≠D) (z2:∀ b,F' b→F b∨w.heap.size≤b)
 (z3:∀ b,b<w.heap.size→(∀ k,(lv k).live=true→β k≠b)→w'.heap[b]?=w.heap[b]?):Mks B F' w' l:=by
 refine⟨h.nd,h.ge,fun D hD=>?_,fun D hD hF=>?_⟩
 ·rw [z3 D (h.lt hD) (hn D hD)];exact h.ob D hD
 ·rcases z2 D hF with h1|h1
  ·exact h.nF D hD h1
  ·have:=h.lt hD;omega
def PostD (c:Ctx)(Q:Ex→LSt→Nat→Prop):Exit→Act→World→Prop:=fun e a' w'=>∃ x s' κ' F' β' l',Q x s' κ'∧Mks c.w0.heap.size F' w' l'∧StOK { c with ds:=l'.map mkD } F' β' s' a' w'∧ExOK x e F' w'
def AWD (c:Ctx)(code:Code)(s:LSt)(κ:Nat)(Q:Ex→LSt→Nat→Prop):Prop:=
 ∀ F β a w l,Mks c.w0.heap.size F w l→StOK { c with ds:=l.map mkD } F β s a w→code.wpIn (fen none) 0 c.P (PostD c Q) a w
section
variable {c:Ctx}{s:LSt}{κ:Nat}{Q:Ex→LSt→Nat→Prop}
theorem AWD.of_AW {code:Code}(hok:AllOk s.lv) (h:∀ c':Ctx,c'.P=c.P→c'.G=c.G→c'.n=c.n→c'.lv0=s.lv→AW c' none code s κ Q):AWD c code s κ Q:=by
 intro F β a w l hM hs
 refine wpIn_mono (AW.fresh (c:={ c with ds:=l.map mkD }) (r:=none) (fr:=s.fr) (lv:=s.lv) (code:=code) (κ:=κ) (Q:=Q) hs hok h) ?_
 rintro e a' w' ⟨x,s',κ',F',β',hQ,h2,hx,z1,z2,z2b,z3⟩
 exact⟨x,s',κ',F',β',l,hQ,hM.mono (fun D hD=>hs.notFar (hM.ob D hD) (fun _ _ _ h=>by cases h) (fun _ _ h=>by cases h)) z2 z3,h2,hx⟩
theorem AWD.mono {x:Code}{Q':Ex→LSt→Nat→Prop}(h:AWD c x s κ Q) (hq:∀ e s κ,Q e s κ→Q' e s κ):AWD c x s κ Q':=fun F β a w l hM hs=>
 wpIn_mono (h F β a w l hM hs) fun _ _ _ ⟨e',s',κ',F',β',l',h1,h2,h3,h4⟩=>⟨e',s',κ',F',β',l',hq _ _ _ h1,h2,h3,h4⟩
theorem AWD.seq {x y:Code}{K:LSt→Nat→Prop}(h:AWD c x s κ (thenA K Q)) (hK:∀ s κ,K s κ→AWD c y s κ Q):AWD c (.seq x y) s κ Q:=by
 intro F β a w l hM hs
 refine wpIn_seq (wpIn_mono (h F β a w l hM hs) fun e a' w' hp=>?_)
 obtain⟨e',s',κ',F',β',l',hq,hm,hs',he⟩:=hp
 cases e' with
 | normal=>cases he;exact hK s' κ' hq F' β' a' w' l' hm hs'
 | exit id=>cases he;exact⟨.exit id,s',κ',F',β',l',hq,hm,hs',rfl⟩
 | goto i=>cases he;exact⟨.goto i,s',κ',F',β',l',hq,hm,hs',rfl⟩
 | ret=>cases he;exact⟨.ret,s',κ',F',β',l',hq,hm,hs',rfl⟩
 | panic d=>obtain⟨v,rfl,hv⟩:=he;exact⟨.panic d,s',κ',F',β',l',hq,hm,hs',v,rfl,hv⟩
theorem AWD.cond {o:Operand}{x y:Code}{b:Bool}(hb:s.val c.G o=.c (.d (.bool b))) (h:AWD c (if b then x else y) s κ Q):AWD c (.cond o x y) s κ Q:=by
 intro F β a w l hM hs
 have h1:=hs.val o
 rw [hb] at h1
 exact wpIn_cond (Vw.c_bool h1) (h F β a w l hM hs)
theorem AWD.block {id:Nat}{x:Code}(h:AWD c x s κ (blockA id Q)):AWD c (.block id x) s κ Q:=by
 intro F β a w l hM hs
 refine wpIn_block (wpIn_mono (h F β a w l hM hs) fun e a' w' hp=>?_)
 obtain⟨e',s',κ',F',β',l',hq,hm,hs',he⟩:=hp
 cases e' with
 | normal=>cases he;exact⟨.normal,s',κ',F',β',l',hq,hm,hs',rfl⟩
 | exit id'=>
  cases he
  simp only [blockA] at hq
  simp only [Exit.inBlock]
  split
  ·rename_i hid;rw [if_pos hid] at hq;exact⟨.normal,s',κ',F',β',l',hq,hm,hs',rfl⟩
  ·rename_i hid;rw [if_neg hid] at hq;exact⟨.exit id',s',κ',F',β',l',hq,hm,hs',rfl⟩
 | goto i=>cases he;exact⟨.goto i,s',κ',F',β',l',hq,hm,hs',rfl⟩
 | ret=>cases he;exact⟨.ret,s',κ',F',β',l',hq,hm,hs',rfl⟩
 | panic d=>obtain⟨v,rfl,hv⟩:=he;exact⟨.panic d,s',κ',F',β',l',hq,hm,hs',v,rfl,hv⟩
end
theorem calls_at' {P:Program}{G:List (List DV)}{f:FuncId}{fn:Func}{code:Code}{args:List AV}{lv lv':Key→LB}{κ:Nat}(hf:P.funcs[f]?=some fn) (hb:fn.body=some code) (hl:args.length≤fn.ntmps) (hres:fn.results=#[])
 {F:Nat→Prop}{β:Key→Nat}{w:World}{vs:Array Value}(hS:Sits (CtxE P G w F β lv) F β lv w) (hvl:vs.size=args.length) (hv:∀ i (h:i<args.length) (h':i<vs.size),(Vw.mk F β lv w).av vs[i] args[i])
 (h:AW { CtxE P G w F β lv with n:=fn.ntmps } none code ⟨fun t=>args.getD t .undef,lv⟩ κ (fun x s _=>(x=.normal∨x=.ret)∧s.lv=lv')) :
 Calls P f vs w fun e w'=>(∃ v,e=.returned v)∧∃ F' β',Sits (CtxE P G w F β lv) F' β' lv' w':=
 enter_wp hf hb hl hS hvl hv h (fun _ _ _ h=>h.1) (fun e s κ F' β' a w' hq hs'=>⟨hs'.defers,.tuple #[],by simp [results,hres],⟨_,rfl⟩,F',β',hq.2 ▸ hs'.sits⟩)
def yv (l:Nat):AV:=.c (.d (.func (.yield l) [] []))
theorem AWD.rangeFunc {c:Ctx}{s:LSt}{κ κi:Nat}{Q:Ex→LSt→Nat→Prop}{fo:Operand}{p:Tmp}{asg body:Code}{f:FuncId}{fn:Func}{itc:Code}{caps:List AV}(hp:p<c.n)
 (ht:callTgt (s.val c.G fo)=some (f,[],caps)) (hisf:isFn c.P f=true) (hf:c.P.funcs[f]?=some fn) (hb:fn.body=some itc) (hl:caps.length+1≤fn.ntmps) (hres:fn.results=#[]) (hok:AllOk s.lv)
 (hit:∀ (l:Nat),∃ lvE:Key→LB,Q .normal ⟨s.fr,lvE⟩ κ∧∀ (c':Ctx),c'.P=c.P→c'.G=c.G→c'.n=fn.ntmps→c'.lv0=s.lv →
  (∀ {fr:Nat→AV}{lv lv1 lv':Key→LB}{ops:Array Oper}{o:Oper}{cl:Call}{fy:Operand}{x:AV}{fr2:Nat→AV}{κ2:Nat},(∀ d,o.dst=some d→d<fn.ntmps)→o.guard=none→o.op=.call cl→cl.callee=.value fy→(LSt.mk fr lv).val c.G fy=yv l →
   cl.args.toList.map ((LSt.mk fr lv).val c.G)=[x]→AllOk lv→AllOk lv1 →
   (∀ c'':Ctx,c''.P=c.P→c''.G=c.G→c''.n=c.n→c''.lv0=lv→AW c'' (some l) asg ⟨upd s.fr p x,lv⟩ κ2 (fun x s' _=>x=.normal∧s'=⟨fr2,lv1⟩)) →
   (∀ c'':Ctx,c''.P=c.P→c''.G=c.G→c''.n=c.n→c''.lv0=lv1→AW c'' (some l) body ⟨fr2,lv1⟩ κ2 (fun x s' _=>x=.normal∧s'.lv=lv')) →
   SimW c' none ops o ⟨fr,lv⟩ (LSt.put ⟨fr,lv'⟩ o.dst (.c (.d (.bool true))))) →
  AW c' none itc ⟨fun t=>(yv l::caps).getD t .undef,s.lv⟩ κi (fun x s' _=>(x=.normal∨x=.ret)∧s'.lv=lvE)):AWD c (.rangeFunc fo #[p] asg body) s κ Q:=by
 intro F β a w ls hM hs
 obtain⟨lvE,hQ,hit⟩:=hit (w.heap.size+1)
 refine wpIn_rangeFunc ?_
 intro fnid hfn
 obtain⟨rec,hrec⟩:∃ rec:Loop,rec={ state:=.ready,pending:=none,fn:=fnid,tmps:=a.tmps,params:=#[p],assign:=asg,body,defers:=w.heap.size }:=⟨_,rfl⟩
 obtain⟨w1,hw1⟩:∃ w1,(w.alloc (.deferred (some []))).alloc (.loop rec)=w1:=⟨_,rfl⟩
 have hD1:w1.heap[w.heap.size]?=some (.deferred (some [])):=by
  rw [← hw1,heap_alloc,if_neg (by simp),heap_alloc,if_pos rfl]
 have hL1:w1.heap[w.heap.size+1]?=some (.loop rec):=by
  rw [← hw1,heap_alloc,if_pos (by simp)]
 have hw1s:w1.heap.size=w.heap.size+2:=by rw [← hw1];simp
 have hs1:StOK { c with ds:=ls.map mkD } F β s a w1:=by
  rw [← hw1];exact (hs.allocFar _).allocFar _
 have hS4:Sits (CtxE c.P c.G w1 F β s.lv) F β s.lv w1:=StOK.enterG (c:={ c with ds:=ls.map mkD }) hs1 hok
 have hFw:∀ b,F b→b<w.heap.size:=fun b hb=>(hs.Flt b hb).1
 have hnL:∀ k,(s.lv k).live=true→β k≠w.heap.size+1:=hs1.notFar hL1 (fun _ _ _ h=>by cases h) (fun _ _ h=>by cases h)
 have hnD:∀ k,(s.lv k).live=true→β k≠w.heap.size:=hs1.notFar hD1 (fun _ _ _ h=>by cases h) (fun _ _ h=>by cases h)
 obtain⟨fs',cs',hev,hfs,hcs,_,hcv⟩:=run_callTgt (hs1.val fo) ht
 have hfs0:fs'=#[]:=Array.size_eq_zero_iff.1 (by simpa using hfs)
 subst hfs0
 refine⟨w.heap.size+1,[mkD w.heap.size],w1,{ target:=.fn (.func f) cs',args:=#[.func (.yield (w.heap.size+1)) #[] #[]] },w1,f,#[.func (.yield (w.heap.size+1)) #[] #[]]++cs',w1,?_,?_,fun _ _=>trivial,?_,(fun h=>by simp [fen,Fence.wide] at h),?_⟩
 ·have:=run_enterLoop_outer (P:=c.P) (w:=w) fnid a.tmps #[p] asg body
  rw [← hrec,hw1] at this
  exact this
 ·simp only [resolve,hev]
  simp [go_sem]
 ·have:=run_callFunc hisf (#[.func (.yield (w.heap.size+1)) #[] #[]]++cs') w1
  simpa [invoke,go_sem] using this
 ·refine callsIn_fen ?_
  have hit2:=calls_at' (κ:=κi) (lv':=lvE) (args:=yv (w.heap.size+1)::caps) (vs:=#[.func (.yield (w.heap.size+1)) #[] #[]]++cs') hf hb (by simpa using hl) hres hS4 (by simp [hcs];omega) (fun i q q'=>by
   cases i with
   | zero=>
    have h2:(#[Value.func (.yield (w.heap.size+1)) #[] #[]]++cs')[0]'(by simp;omega)=.func (.yield (w.heap.size+1)) #[] #[]:=by
     rw [Array.getElem_append_left (by simp)];rfl
    rw [h2]
    exact⟨.func (.yield (w.heap.size+1)) #[] #[] [] [] rfl rfl (fun i h=>absurd h (Nat.not_lt_zero i)) (fun i h=>absurd h (Nat.not_lt_zero i)),rfl⟩
   | succ i=>
    have h1:i<cs'.size:=by simp at q';omega
    have h2:(#[Value.func (.yield (w.heap.size+1)) #[] #[]]++cs')[i+1]=cs'[i]:=by
     rw [Array.getElem_append_right (by simp)];simp
    rw [h2]
    simp only [List.getElem_cons_succ]
    exact hcv i (by simpa using q) h1) (hit _ rfl rfl rfl rfl ?_)
  ·refine hit2.mono fun e w3 he=>?_
   obtain⟨⟨v,rfl⟩,F3,β3,hX⟩:=he
   have hold:∀ b,b<w1.heap.size→(∀ k,(s.lv k).live=true→β k≠b)→w3.heap[b]?=w1.heap[b]?:=fun b h2 hn=>hX.old b h2 (fun⟨k,hk,he⟩=>hn k hk he)
   have hL3:w3.heap[w.heap.size+1]?=some (.loop rec):=(hold _ (by omega) hnL).trans hL1
   have hD3:w3.heap[w.heap.size]?=some (.deferred (some [])):=(hold _ (by omega) hnD).trans hD1
   have hF3:∀ b,F3 b→F b∨w1.heap.size≤b:=fun b hb=>(hX.Flt b hb).2
   have q1:StOK { c with ds:=ls.map mkD } F3 β3 ⟨s.fr,lvE⟩ a w3:=hs1.backG hX
   have hge:=hs.ge
   have hge':c.w0.heap.size≤w.heap.size:=hge
   have q2:=q1.putFar (.loop { rec with state:=.exhausted }) hL3 (fun _ _ _ h=>by cases h) (fun hb=>(hF3 _ hb).elim (fun h=>by have:=hFw _ h;omega) (fun h=>by omega)) (q1.notFar hL3 (fun _ _ _ h=>by cases h) (fun _ _ h=>by cases h)) (.inl (by show c.w0.heap.size≤_;omega))
   have hw4:∀ b,b≠w.heap.size+1→(w3.putObj (w.heap.size+1) (.loop { rec with state:=.exhausted })).heap[b]?=w3.heap[b]?:=fun b hb=>World.putObj_heap_other hb
   refine⟨none,w3.putObj (w.heap.size+1) (.loop { rec with state:=.exhausted }),?_,.normal,⟨s.fr,lvE⟩,κ,F3,β3,w.heap.size::ls,hQ,⟨?_,?_,?_,?_⟩,?_,rfl⟩
   ·have:=run_endLoop (P:=c.P) hL3 (by rw [hrec];simp)
    rw [this,hrec]
   ·refine List.nodup_cons.2 ⟨fun h=>?_,hM.nd⟩
    have:=hM.lt h;omega
   ·intro D hD
    rcases List.mem_cons.1 hD with rfl|hD
    ·exact hge'
    ·exact hM.ge D hD
   ·intro D hD
    rcases List.mem_cons.1 hD with rfl|hD
    ·rw [hw4 _ (by omega)];exact hD3
    ·have h1:=hM.lt hD
     rw [hw4 _ (by omega),hold D (by omega) (hs.notFar (hM.ob D hD) (fun _ _ _ h=>by cases h) (fun _ _ h=>by cases h)),← hw1,heap_alloc,if_neg (by simp;omega),heap_alloc,if_neg (by omega)]
     exact hM.ob D hD
   ·intro D hD hb
    rcases List.mem_cons.1 hD with rfl|hD
    ·rcases hF3 _ hb with h|h
     ·have:=hFw _ h;omega
     ·omega
    ·have h1:=hM.lt hD
     rcases hF3 _ hb with h|h
     ·exact hM.nF D hD h
     ·omega
   ·exact⟨q2.blk,q2.inj,q2.fr,q2.size,by show mkD w.heap.size::a.defers=_;rw [hs.defers];rfl,q2.Flt,q2.F0,q2.old,q2.ge,q2.glob,q2.keep,q2.asz,q2.oso⟩
  ·intro fr lv lv1 lv' ops o cl fy x fr2 κ2 hdst hg ho hcal hfy hargs hokv hokv1 h1 h2
   refine SimW.yield (xs:=[x]) hdst hg ho hcal hfy hargs (by rw [hrec];rfl) hL1 hnL hokv ?_
   intro F' β' w' vs' hX hXe hl' hvs hav
   have e1:vs'=#[vs'[0]'(by rw [hvs];simp)]:=by
    apply Array.ext
    ·simpa using hvs
    ·intro i p1 p2;have:i=0:=by simp at p2;omega
     subst this;rfl
   have hx:=hav 0 (by simp) (by rw [hvs];simp)
   simp only [List.getElem_cons_zero] at hx
   generalize vs'[0]'(by rw [hvs];simp)=v at e1 hx
   subst e1
   have ht:(rec.params.zip #[v]).foldl (fun tmps (t,a)=>tmps.setIfInBounds t a) rec.tmps=a.tmps.setIfInBounds p v:=by rw [hrec];simp only [List.zip_toArray,List.zip_cons_cons,List.zip_nil_right,List.foldl_toArray,List.foldl_cons,List.foldl_nil]
   rw [ht]
   have hFl:¬ F' (w.heap.size+1):=by
    intro hb
    rcases (hX.Flt _ hb).2 with h|h
    ·have:=hFw _ h;omega
    ·have:w1.heap.size≤w.heap.size+1:=h
     omega
   have q1:StOK { c with ds:=ls.map mkD } F' β' ⟨s.fr,lv⟩ a w':=hs1.backG hX
   have hsz:a.tmps.size=c.n:=hs.size
   refine round_of_AW (n:=c.n) (κ:=κ2) (fr:=upd s.fr p x) (fr2:=fr2) hXe hokv hokv1 hl' (by rw [hrec]) (by rw [hrec]) (by simpa using hsz) (fun t=>?_) hFl ?_ ?_
   ·by_cases e:t=p
    ·subst e
     have h3:(a.tmps.setIfInBounds t v).getD t undef=v:=by
      rw [Array.getD_eq_getD_getElem?,Array.getElem?_setIfInBounds_self_of_lt (by rw [hsz];exact hp)];rfl
     rw [h3,upd_same];exact hx
    ·have h3:(a.tmps.setIfInBounds p v).getD t undef=a.tmps.getD t undef:=by
      rw [Array.getD_eq_getD_getElem?,Array.getElem?_setIfInBounds_ne (Ne.symm e),← Array.getD_eq_getD_getElem?]
     rw [h3,upd_ne _ _ e];exact q1.fr t
   ·intro c'' hP hG hn' hlv
    rw [hrec]
    exact h1 c'' hP hG hn' hlv
   ·intro c'' hP hG hn' hlv
    rw [hrec]
    exact h2 c'' hP hG hn' hlv
theorem leave_marks {c:Ctx}{P:Program}{fn:Func}{R:Ending→World→Prop}{F:Nat→Prop}{β:Key→Nat}{s:LSt}{a:Act}:∀ (ls:List Nat) (w:World),Mks c.w0.heap.size F w ls→StOK c F β s a w →
 (∀ w',StOK c F β s a w'→∃ v,(results fn a.tmps).run P w'=.ok v w'∧R (.returned v) w')→LeavesInM Fence.wide 0 P fn a.tmps R (ls.map mkD) .returning w
 | [],w,_,hs,h=>h w hs
 | D::ls,w,hM,hs,h=>by
  have hD:=hM.ob D (List.mem_cons_self ..)
  refine⟨by simp,.inl ⟨D,_,rfl,run_takeDeferred hD,?_⟩⟩
  have hnd:=List.nodup_cons.1 hM.nd
  refine leave_marks ls _ ⟨hnd.2,fun x hx=>hM.ge x (List.mem_cons_of_mem _ hx),fun x hx=>?_,fun x hx=>hM.nF x (List.mem_cons_of_mem _ hx)⟩ (hs.putFar (.deferred none) hD (fun _ _ _ h=>by cases h) (hM.nF D (List.mem_cons_self ..)) (hs.notFar hD (fun _ _ _ h=>by cases h) (fun _ _ h=>by cases h)) (.inl (hM.ge D (List.mem_cons_self ..)))) h
  rw [World.putObj_heap_other (fun e=>hnd.1 (by rw [← e];exact hx))]
  exact hM.ob x (List.mem_cons_of_mem _ hx)
end Go.Am
