/- Helpers: an abstract machine for Go functions, and walks of functions of the program. -/
import Derived.Test.YtlnhbjpphecakaaGreatDoorLn08

set_option linter.all false
set_option maxHeartbeats 8000000
set_option maxRecDepth 100000
namespace Go.Am
open Go.Am.Ty Go.Proofs N
def numD (x:Rat):List DV:=[.bool (decide (x.num<0)),nD (natO x.num.natAbs),nD (denO x.den)]
abbrev numsA (l:List Rat):AV:=.c (.d (.sl (l.map numD)))
abbrev cmpF:AV:=.c (.d (.func (.func 99) [] []))
theorem lpNums (l:List Rat)(lv:Key→LB):lenP Tryz.prog 87 lv (numsA l)=some (.c (.d (.int .i64 l.length)),[],[],True):=by
 simp [lenP,lenA,keyOf]
theorem ixNums (l:List Rat)(lv:Key→LB)(i:Nat)(x:Rat)(h:l[i]?=some x):stepIndexAddr Tryz.prog 87 lv (numsA l) (.c (.d (.int .i64 (i:Int))))=some (.c (.d (.ptr (numD x))),[],[],True):=by
 obtain⟨hi,e⟩:=List.getElem?_eq_some_iff.1 h
 have hi':(i:Int)<(l.length:Int):=by omega
 simp [hi,e,numD]
def minL (l:List Rat)(m:Rat):Rat:=l.foldl (fun m x=>minR x m) m
def maxL (l:List Rat)(m:Rat):Rat:=l.foldl (fun m x=>maxR m x) m
theorem minR_comm (x y:Rat):minR x y=minR y x:=by unfold minR;split <;> split <;> grind
theorem hull_minL (w x y z:Rat):(minL [x,y,z] w,maxL [x,y,z] w)=hull4 w x y z:=by
 simp only [minL,maxL,List.foldl,hull4,minR_comm z,minR_comm y,minR_comm x]
theorem minL_drop {l:List Rat}{i:Nat}{x m:Rat}(h:l[i]?=some x):minL (l.drop i) m=minL (l.drop (i+1)) (minR x m):=by
 obtain⟨hi,e⟩:=List.getElem?_eq_some_iff.1 h
 rw [List.drop_eq_getElem_cons hi,e];rfl
theorem maxL_drop {l:List Rat}{i:Nat}{x m:Rat}(h:l[i]?=some x):maxL (l.drop i) m=maxL (l.drop (i+1)) (maxR m x):=by
 obtain⟨hi,e⟩:=List.getElem?_eq_some_iff.1 h
 rw [List.drop_eq_getElem_cons hi,e];rfl
theorem minFunc_ok (G:List (List DV))(l:List Rat)(x0:Rat)(h0:l[0]?=some x0)(hn:l.length≤1000)(hs:∀ x∈l,szR x 10000000000) :
 CallsP Tryz.prog G 140 [numsA l,cmpF] (ratV (minL (l.drop 1) x0)):=by
 have hl:0<l.length:=(List.getElem?_eq_some_iff.1 h0).1
 have hl1:¬ (l.length:Int)<1:=by omega
 have e0:l[0]'hl=x0:=(List.getElem?_eq_some_iff.1 h0).2
 generalize hR:minL (l.drop 1) x0=R
 refine CallsP.enc Go.Proofs.Tryz.func140 rfl (fun lv=>nC_dArg lv _ _ _) fun _=>AW.q ?_
 refine AW.seqK fun K hK=>AW.f2 @lpNums hl1 ?_
 refine AW.fn (by simp [hl1] <;> omega) (AW.skip ?_)
 simp
 repeat refine and_o ?_
 apply hK
 refine AW.seqK fun K hK=>AW.rP ?_
 simp [h0,hl,e0,numD,← nC_nD,setSeg]
 repeat refine and_o ?_
 apply hK
 refine AW.seqK fun K hK=>AW.seqK fun K1 hK1=>AW.rP ?_
 simp
 repeat refine and_o ?_
 apply hK1
 refine AW.block ?_
 refine AW.loopV (fun (p:Nat × Rat)=>⟨frOf [(0,numsA l),(1,cmpF),(4,.c (.ptr 0 0)),(5,.c (.ptr 1 0)),(6,.c (.d (.int .i64 (p.1:Int))))],
  upd (upd (fun _=>.hole) 0 (.cells true false 30 [.d (.bool false),.d .nilsl,.d .nilsl])) 1 (.cells true false 30 [.d (.bool (decide (p.2.num<0))),nC (natO p.2.num.natAbs),nC (denO p.2.den)])⟩) 2
  (fun p=>1≤p.1∧p.1≤l.length∧szR p.2 10000000000∧minL (l.drop p.1) p.2=R) (fun p=>l.length - p.1) (1,x0) (Le.mk2 _) ⟨Nat.le_refl _,hl,hs _ (List.mem_of_getElem? h0),hR⟩ ?_
 rintro⟨i,m⟩ ⟨h1,h2,h3,h4⟩
 simp only at h1 h2 h3 h4
 refine AW.seqK fun K2 hK2=>AW.f1 @lpNums ?_
 by_cases hlt:i<l.length
 ·have hlt':(i:Int)<(l.length:Int):=by omega
  obtain⟨x,hx⟩:∃ x,l[i]?=some x:=⟨_,List.getElem?_eq_getElem hlt⟩
  have hxs:=hs _ (List.mem_of_getElem? hx)
  have hix:=fun lv=>ixNums l lv i x hx
  have hc:=rat_Cmp G x m hxs h3
  have f12:=w64 (n:=(i:Int)+1) (by omega) (by omega)
  refine AW.fy (by simp [hlt'] <;> omega) (AW.skip (hK2 _ _ (AW.seqK fun K4 hK4=>AW.block (AW.seqK fun K5 hK5=>?_))))
  refine AW.drawP mixed (by kernel_rfl) rfl ?_
  simp [hix,numD,← nC_nD]
  refine CallDo.p 2 9 hc ?_
  simp [hix,numD,← nC_nD]
  refine⟨by kernel_rfl,?_⟩
  repeat refine and_o ?_
  apply hK5
  by_cases hm:x<m
  ·have hm':=cmpR_neg.2 hm
   refine AW.fy (by simp [hm'] <;> omega) (AW.rP ?_)
   simp [hix,numD,← nC_nD]
   repeat refine and_o ?_
   apply hK4
   refine AW.rP ?_
   simp [f12]
   refine⟨i+1,x,Le.mk2 _ (by simp [setSeg]),⟨by omega,by omega,hxs,?_⟩,by omega⟩
   rw [← h4,minL_drop hx,show minR x m=x from if_pos hm]
  ·have hm':¬ cmpR x m<0:=fun h=>hm (cmpR_neg.1 h)
   refine AW.fn (by simp [hm'] <;> omega) (AW.skip (hK4 _ _ (AW.rP ?_)))
   simp [f12]
   refine⟨i+1,m,Le.mk2 _,⟨by omega,by omega,h3,?_⟩,by omega⟩
   rw [← h4,minL_drop hx,show minR x m=m from if_neg hm]
 ·have hlt':¬ (i:Int)<(l.length:Int):=by omega
  have hd:l.drop i=[]:=List.drop_eq_nil_of_le (by omega)
  rw [hd] at h4
  have h5:m=R:=h4
  refine AW.fn (by simp [hlt'] <;> omega) (AW.exit (hK _ _ (AW.q ?_)))
  subst h5
  exact AW.ret (FinC.num (κ:=0) (t:=4) (k:=0) ⟨rfl,rfl⟩ (by simp) (by simp [setSeg]))
theorem maxFunc_ok (G:List (List DV))(l:List Rat)(x0:Rat)(h0:l[0]?=some x0)(hn:l.length≤1000)(hs:∀ x∈l,szR x 10000000000) :
 CallsP Tryz.prog G 141 [numsA l,cmpF] (ratV (maxL (l.drop 1) x0)):=by
 have hl:0<l.length:=(List.getElem?_eq_some_iff.1 h0).1
 have hl1:¬ (l.length:Int)<1:=by omega
 have e0:l[0]'hl=x0:=(List.getElem?_eq_some_iff.1 h0).2
 generalize hR:maxL (l.drop 1) x0=R
 refine CallsP.enc Go.Proofs.Tryz.func141 rfl (fun lv=>nC_dArg lv _ _ _) fun _=>AW.q ?_
 refine AW.seqK fun K hK=>AW.f2 @lpNums hl1 ?_
 refine AW.fn (by simp [hl1] <;> omega) (AW.skip (hK _ _ (AW.sr fun K hK=>?_)))
 simp [h0,hl,e0,numD,← nC_nD,setSeg]
 repeat refine and_o ?_
 apply hK
 refine AW.seqK fun K hK=>AW.seqK fun K1 hK1=>AW.rP ?_
 simp
 repeat refine and_o ?_
 apply hK1
 refine AW.block ?_
 refine AW.loopV (fun (p:Nat × Rat)=>⟨frOf [(0,numsA l),(1,cmpF),(4,.c (.ptr 0 0)),(5,.c (.ptr 1 0)),(6,.c (.d (.int .i64 (p.1:Int))))],
  upd (upd (fun _=>.hole) 0 (.cells true false 30 [.d (.bool false),.d .nilsl,.d .nilsl])) 1 (.cells true false 30 [.d (.bool (decide (p.2.num<0))),nC (natO p.2.num.natAbs),nC (denO p.2.den)])⟩) 2
  (fun p=>1≤p.1∧p.1≤l.length∧szR p.2 10000000000∧maxL (l.drop p.1) p.2=R) (fun p=>l.length - p.1) (1,x0) (Le.mk2 _) ⟨Nat.le_refl _,hl,hs _ (List.mem_of_getElem? h0),hR⟩ ?_
 rintro⟨i,m⟩ ⟨h1,h2,h3,h4⟩
 simp only at h1 h2 h3 h4
 refine AW.seqK fun K2 hK2=>AW.f1 @lpNums ?_
 by_cases hlt:i<l.length
 ·have hlt':(i:Int)<(l.length:Int):=by omega
  obtain⟨x,hx⟩:∃ x,l[i]?=some x:=⟨_,List.getElem?_eq_getElem hlt⟩
  have hxs:=hs _ (List.mem_of_getElem? hx)
  have hix:=fun lv=>ixNums l lv i x hx
  have hc:=rat_Cmp G x m hxs h3
  have f12:=w64 (n:=(i:Int)+1) (by omega) (by omega)
  refine AW.fy (by simp [hlt'] <;> omega) (AW.skip (hK2 _ _ (AW.seqK fun K4 hK4=>AW.block (AW.seqK fun K5 hK5=>?_))))
  refine AW.drawP mixed (by kernel_rfl) rfl ?_
  simp [hix,numD,← nC_nD]
  refine CallDo.p 2 9 hc ?_
  simp [hix,numD,← nC_nD]
  refine⟨by kernel_rfl,?_⟩
  repeat refine and_o ?_
  apply hK5
  by_cases hm:m<x
  ·have hm':=cmpR_pos.2 hm
   refine AW.fy (by simp [hm'] <;> omega) (AW.rP ?_)
   simp [hix,numD,← nC_nD]
   repeat refine and_o ?_
   apply hK4
   refine AW.rP ?_
   simp [f12]
   refine⟨i+1,x,Le.mk2 _ (by simp [setSeg]),⟨by omega,by omega,hxs,?_⟩,by omega⟩
   rw [← h4,maxL_drop hx,show maxR m x=x from if_pos hm]
  ·have hm':¬ 0<cmpR x m:=fun h=>hm (cmpR_pos.1 h)
   refine AW.fn (by simp [hm'] <;> omega) (AW.skip (hK4 _ _ (AW.rP ?_)))
   simp [f12]
   refine⟨i+1,m,Le.mk2 _,⟨by omega,by omega,h3,?_⟩,by omega⟩
   rw [← h4,maxL_drop hx,show maxR m x=m from if_neg hm]
 ·have hlt':¬ (i:Int)<(l.length:Int):=by omega
  have hd:l.drop i=[]:=List.drop_eq_nil_of_le (by omega)
  rw [hd] at h4
  have h5:m=R:=h4
  refine AW.fn (by simp [hlt'] <;> omega) (AW.exit (hK _ _ (AW.q ?_)))
  subst h5
  exact AW.ret (FinC.num (κ:=0) (t:=4) (k:=0) ⟨rfl,rfl⟩ (by simp) (by simp [setSeg]))
theorem hull_ok (G:List (List DV))(w x y z:Rat)(h1:szR w 10000000000)(h2:szR x 10000000000)(h3:szR y 10000000000)(h4:szR z 10000000000) :
 CallsP Tryz.prog G 76 [numsA [w,x,y,z]] (ivV (hull4 w x y z)):=by
 have hs:∀ u∈[w,x,y,z],szR u 10000000000:=by
  intro u hu
  simp only [List.mem_cons,List.not_mem_nil,or_false] at hu
  rcases hu with rfl|rfl|rfl|rfl <;> assumption
 have c1:=minFunc_ok G [w,x,y,z] w rfl (by simp) hs
 have c2:=maxFunc_ok G [w,x,y,z] w rfl (by simp) hs
 rw [← hull_minL]
 change CallsP _ _ _ _ (ratV (minL [x,y,z] w)) at c1
 change CallsP _ _ _ _ (ratV (maxL [x,y,z] w)) at c2
 generalize minL [x,y,z] w=r1 at *
 generalize maxL [x,y,z] w=r2 at *
 generalize [w,x,y,z]=l at *
 refine CallsP.enc Go.Proofs.Tryz.func76 rfl (fun lv=>iv_dArg lv _ _ _ _ _ _) fun _=>AW.q ?_
 refine AW.sr fun K hK=>?_
 simp
 refine CallDo.p 1 9 c1 ?_
 simp
 refine CallDo.p 1 9 c2 ?_
 simp [bIv]
 repeat refine and_o ?_
 apply hK
 exact AW.ret (FinC.iv (κ:=0) (t:=2) (k:=0) ⟨rfl,rfl⟩ (by simp) (by simp [setSeg]))
theorem CallDo.frz4 {c:Ctx}{f:FuncId}{lv:Key→LB}{K:AV→List (Key × LB)→List Key→Nat→Prop}(κ' kh κb:Key) {T:TypeId}{w x y z:Rat}{X:AV}
 (hk:lv κb=.cells true false T (((numD w++numD x)++(numD y++numD z)).map CV.d)) (hc:CallsP c.P c.G f [numsA [w,x,y,z]] X) (hX:X.pure=true) (hh:lv kh=.hole) (hkh:kh≠κb)
 (hK:K X [(κb,.cells true true T (((numD w++numD x)++(numD y++numD z)).map CV.d))] [kh] κ'):CallDo c f [.c (.lsl κb 0 4 3)] lv K:=by
 refine CallDo.frz κ' kh κb T _ [kh] hc hX hk hh hkh rfl (fun i p q=>?_) (fun a ha j hj=>?_) (by simp) hK
 ·have hi:i=0:=by simp at p;omega
  subst hi
  right
  simp only [List.getElem_cons_zero,dArg,toDV,upd_same]
  rfl
 ·simp only [List.mem_singleton] at ha;subst ha
  simp only [rdA,rdK,List.mem_cons,upd_same] at hj
  rcases hj with rfl|hj
  ·exact .inr rfl
  ·simp only [List.mem_flatMap] at hj
   obtain⟨y,hy,hj⟩:=hj
   simp only [List.mem_map] at hy
   obtain⟨z,_,rfl⟩:=hy
   cases hj
theorem fill4 (a b c d e f g h i j k l:CV):fillA (fun i=>some (i*3,3)) (repl 4 [.d (.bool false),.d .nilsl,.d .nilsl]) [(0,.agg [a,b,c]),(1,.agg [d,e,f]),(2,.agg [g,h,i]),(3,.agg [j,k,l])]=some [a,b,c,d,e,f,g,h,i,j,k,l]:=by kernel_rfl
theorem sgA_pos (x:Rat):0≤sgA (decide (x.num<0)) (natO x.num.natAbs)↔0≤x:=by
 unfold sgA;rw [natO_d,← Rat.num_nonneg]
 by_cases h0:x.num.natAbs=0
 ·rw [if_pos ((dig_nil (by decide)).2 h0)];omega
 ·rw [if_neg (dig_ne h0)]
  by_cases hn:x.num<0
  ·rw [decide_eq_true hn,if_pos rfl];omega
  ·rw [decide_eq_false hn,if_neg (by decide)];omega
theorem sgA_le (x:Rat):sgA (decide (x.num<0)) (natO x.num.natAbs)≤0↔x≤0:=by
 have h2:0≤-x↔x≤0:=by constructor <;> intro h <;> grind
 unfold sgA;rw [natO_d,← h2,← Rat.num_nonneg,Rat.neg_num]
 by_cases h0:x.num.natAbs=0
 ·rw [if_pos ((dig_nil (by decide)).2 h0)];omega
 ·rw [if_neg (dig_ne h0)]
  by_cases hn:x.num<0
  ·rw [decide_eq_true hn,if_pos rfl];omega
  ·rw [decide_eq_false hn,if_neg (by decide)];omega
theorem iv_mul_step (G:List (List DV))(a b:Iv)(ha:a.sz 10000000)(hb:b.sz 10000000)(la:a.1≤a.2)(lb:b.1≤b.2)
 (r1:a.1<0→a.2≤0→CallsP Tryz.prog G 23 [ivV a.neg,ivV b] (ivV (a.neg.mul b)))
 (r2:¬ (a.1<0∧a.2≤0)→b.1<0→b.2≤0→CallsP Tryz.prog G 23 [ivV a,ivV b.neg] (ivV (a.mul b.neg))) :
 CallsP Tryz.prog G 23 [ivV a,ivV b] (ivV (a.mul b)):=by
 obtain⟨a1,a2⟩:=a
 obtain⟨b1,b2⟩:=b
 have sz:∀ {x:Rat},szR x 10000000→szR x 10000000000:=fun h=>szR_mono h (by decide)
 have g1:=num_Sign_ok G (decide (a1.num<0)) (natO a1.num.natAbs) (denO a1.den)
 have g2:=num_Sign_ok G (decide (a2.num<0)) (natO a2.num.natAbs) (denO a2.den)
 have g3:=num_Sign_ok G (decide (b1.num<0)) (natO b1.num.natAbs) (denO b1.den)
 have g4:=num_Sign_ok G (decide (b2.num<0)) (natO b2.num.natAbs) (denO b2.den)
 have p1:=sgA_pos a1
 have p2:=sgA_le a2
 have p3:=sgA_pos b1
 have p4:=sgA_le b2
 by_cases c0:0≤a1∧0≤b1
 ·have m1:=rat_Mul G a1 b1 (sz ha.1) (sz hb.1)
  have m2:=rat_Mul G a2 b2 (sz ha.2) (sz hb.2)
  rw [Iv.mul_pos la lb c0.1 c0.2]
  have q1:=p1.2 c0.1
  have q3:=p3.2 c0.2
  generalize sgA (decide (a1.num<0)) (natO a1.num.natAbs)=s1 at *
  generalize sgA (decide (b1.num<0)) (natO b1.num.natAbs)=s3 at *
  simp only at m1 m2 ⊢
  generalize a1*b1=u1 at *
  generalize a2*b2=u2 at *
  refine CallsP.enc Go.Proofs.Tryz.func23 rfl (fun lv=>iv_dArg lv _ _ _ _ _ _) fun _=>AW.q ?_
  refine AW.seqK fun K hK=>AW.block (AW.sr fun K1 hK1=>?_)
  simp
  refine CallDo.p 3 9 g1 ?_
  simp [q1]
  refine CallDo.p 3 9 g3 ?_
  simp [q3]
  repeat refine and_o ?_
  apply hK1
  refine AW.cy (AW.seqK fun K1 hK1=>?_)
  refine AW.drawP mixed (by kernel_rfl) rfl ?_
  simp
  refine CallDo.p 3 9 m1 ?_
  simp
  refine CallDo.p 3 9 m2 ?_
  simp [bIv]
  refine⟨by kernel_rfl,?_⟩
  repeat refine and_o ?_
  apply hK1
  exact AW.ret (FinC.iv (κ:=0) (t:=4) (k:=2) ⟨rfl,rfl⟩ (by simp) (by simp [setSeg]))
 by_cases c1:a1<0∧a2≤0
 ·have m1:=r1 c1.1 c1.2
  have n1:=iv_Neg G (a1,a2)
  have n2:=iv_Neg G (Iv.mul (Iv.neg (a1,a2)) (b1,b2))
  rw [Iv.mul_negl] at n2
  have q1:¬ 0≤sgA (decide (a1.num<0)) (natO a1.num.natAbs):=fun h=>absurd (p1.1 h) (Rat.not_le.2 c1.1)
  have q2:=p2.2 c1.2
  have q1':sgA (decide (a1.num<0)) (natO a1.num.natAbs)<0:=by omega
  generalize sgA (decide (a1.num<0)) (natO a1.num.natAbs)=s1 at *
  generalize sgA (decide (a2.num<0)) (natO a2.num.natAbs)=s2 at *
  generalize Iv.mul (Iv.neg (a1,a2)) (b1,b2)=u at *
  generalize Iv.mul (a1,a2) (b1,b2)=v at *
  generalize Iv.neg (a1,a2)=na at *
  refine CallsP.enc Go.Proofs.Tryz.func23 rfl (fun lv=>iv_dArg lv _ _ _ _ _ _) fun _=>AW.q ?_
  refine AW.seqK fun K hK=>AW.block (AW.sr fun K1 hK1=>?_)
  simp
  refine CallDo.p 3 9 g1 ?_
  simp [q1]
  repeat refine and_o ?_
  apply hK1
  refine AW.cn (AW.sr fun K1 hK1=>?_)
  simp
  refine CallDo.p 3 9 g1 ?_
  simp [q1']
  refine CallDo.p 3 9 g2 ?_
  simp [q2]
  repeat refine and_o ?_
  apply hK1
  refine AW.cy (AW.seqK fun K1 hK1=>?_)
  refine AW.drawP mixed (by kernel_rfl) rfl ?_
  simp
  refine CallDo.p 3 9 n1 ?_
  simp
  refine CallDo.p 3 9 m1 ?_
  simp
  refine CallDo.p 3 9 n2 ?_
  simp
  refine⟨by kernel_rfl,?_⟩
  repeat refine and_o ?_
  apply hK1
  exact AW.ret (FinC.iv (κ:=0) (t:=4) (k:=2) ⟨rfl,rfl⟩ (by simp) (by simp [setSeg]))
 have q1n:¬ 0≤a1→a1<0:=fun h=>Rat.not_le.1 h
 have s1n:a1<0→sgA (decide (a1.num<0)) (natO a1.num.natAbs)<0:=fun h=>by
  have:¬ 0≤sgA (decide (a1.num<0)) (natO a1.num.natAbs):=fun h'=>absurd (p1.1 h') (Rat.not_le.2 h)
  omega
 have s3n:b1<0→sgA (decide (b1.num<0)) (natO b1.num.natAbs)<0:=fun h=>by
  have:¬ 0≤sgA (decide (b1.num<0)) (natO b1.num.natAbs):=fun h'=>absurd (p3.1 h') (Rat.not_le.2 h)
  omega
 by_cases c2:b1<0∧b2≤0
 ·have m1:=r2 c1 c2.1 c2.2
  have n1:=iv_Neg G (b1,b2)
  have n2:=iv_Neg G (Iv.mul (a1,a2) (Iv.neg (b1,b2)))
  rw [Iv.mul_negr] at n2
  have q3':=s3n c2.1
  have q3:¬ 0≤sgA (decide (b1.num<0)) (natO b1.num.natAbs):=by omega
  have q4:=p4.2 c2.2
  by_cases h1:0≤a1
  ·have q1:=p1.2 h1
   have q1':¬ sgA (decide (a1.num<0)) (natO a1.num.natAbs)<0:=by omega
   generalize sgA (decide (a1.num<0)) (natO a1.num.natAbs)=s1 at *
   generalize sgA (decide (a2.num<0)) (natO a2.num.natAbs)=s2 at *
   generalize sgA (decide (b1.num<0)) (natO b1.num.natAbs)=s3 at *
   generalize sgA (decide (b2.num<0)) (natO b2.num.natAbs)=s4 at *
   generalize Iv.mul (a1,a2) (Iv.neg (b1,b2))=u at *
   generalize Iv.mul (a1,a2) (b1,b2)=v at *
   generalize Iv.neg (b1,b2)=nb at *
   refine CallsP.enc Go.Proofs.Tryz.func23 rfl (fun lv=>iv_dArg lv _ _ _ _ _ _) fun _=>AW.q ?_
   refine AW.seqK fun K hK=>AW.block (AW.sr fun K1 hK1=>?_)
   simp
   refine CallDo.p 3 9 g1 ?_
   simp [q1]
   refine CallDo.p 3 9 g3 ?_
   simp [q3]
   repeat refine and_o ?_
   apply hK1
   refine AW.cn (AW.c1 3 g1 q1' ?_)
   refine AW.cn (AW.sr fun K1 hK1=>?_)
   simp
   refine CallDo.p 3 9 g3 ?_
   simp [q3']
   refine CallDo.p 3 9 g4 ?_
   simp [q4]
   repeat refine and_o ?_
   apply hK1
   refine AW.cy (AW.seqK fun K1 hK1=>?_)
   refine AW.drawP mixed (by kernel_rfl) rfl ?_
   simp
   refine CallDo.p 3 9 n1 ?_
   simp
   refine CallDo.p 3 9 m1 ?_
   simp
   refine CallDo.p 3 9 n2 ?_
   simp
   refine⟨by kernel_rfl,?_⟩
   repeat refine and_o ?_
   apply hK1
   exact AW.ret (FinC.iv (κ:=0) (t:=4) (k:=2) ⟨rfl,rfl⟩ (by simp) (by simp [setSeg]))
  ·have q1':=s1n (q1n h1)
   have q1:¬ 0≤sgA (decide (a1.num<0)) (natO a1.num.natAbs):=by omega
   have q2:¬ sgA (decide (a2.num<0)) (natO a2.num.natAbs)≤0:=fun h=>c1 ⟨q1n h1,p2.1 h⟩
   generalize sgA (decide (a1.num<0)) (natO a1.num.natAbs)=s1 at *
   generalize sgA (decide (a2.num<0)) (natO a2.num.natAbs)=s2 at *
   generalize sgA (decide (b1.num<0)) (natO b1.num.natAbs)=s3 at *
   generalize sgA (decide (b2.num<0)) (natO b2.num.natAbs)=s4 at *
   generalize Iv.mul (a1,a2) (Iv.neg (b1,b2))=u at *
   generalize Iv.mul (a1,a2) (b1,b2)=v at *
   generalize Iv.neg (b1,b2)=nb at *
   refine CallsP.enc Go.Proofs.Tryz.func23 rfl (fun lv=>iv_dArg lv _ _ _ _ _ _) fun _=>AW.q ?_
   refine AW.seqK fun K hK=>AW.block (AW.sr fun K1 hK1=>?_)
   simp
   refine CallDo.p 3 9 g1 ?_
   simp [q1]
   repeat refine and_o ?_
   apply hK1
   refine AW.cn (AW.sr fun K1 hK1=>?_)
   simp
   refine CallDo.p 3 9 g1 ?_
   simp [q1']
   refine CallDo.p 3 9 g2 ?_
   simp [q2]
   repeat refine and_o ?_
   apply hK1
   refine AW.cn (AW.sr fun K1 hK1=>?_)
   simp
   refine CallDo.p 3 9 g3 ?_
   simp [q3']
   refine CallDo.p 3 9 g4 ?_
   simp [q4]
   repeat refine and_o ?_
   apply hK1
   refine AW.cy (AW.seqK fun K1 hK1=>?_)
   refine AW.drawP mixed (by kernel_rfl) rfl ?_
   simp
   refine CallDo.p 3 9 n1 ?_
   simp
   refine CallDo.p 3 9 m1 ?_
   simp
   refine CallDo.p 3 9 n2 ?_
   simp
   refine⟨by kernel_rfl,?_⟩
   repeat refine and_o ?_
   apply hK1
   exact AW.ret (FinC.iv (κ:=0) (t:=4) (k:=2) ⟨rfl,rfl⟩ (by simp) (by simp [setSeg]))
 have hm:Iv.mul (a1,a2) (b1,b2)=hull4 (a1*b1) (a1*b2) (a2*b1) (a2*b2):=rfl
 have m1:=rat_Mul G a1 b1 (sz ha.1) (sz hb.1)
 have m2:=rat_Mul G a1 b2 (sz ha.1) (sz hb.2)
 have m3:=rat_Mul G a2 b1 (sz ha.2) (sz hb.1)
 have m4:=rat_Mul G a2 b2 (sz ha.2) (sz hb.2)
 have zz:∀ {x y:Rat},szR x 10000000→szR y 10000000→szR (x*y) 10000000000:=fun h h'=>szR_mono (szR_mul h h') (by decide)
 have hh:=hull_ok G (a1*b1) (a1*b2) (a2*b1) (a2*b2) (zz ha.1 hb.1) (zz ha.1 hb.2) (zz ha.2 hb.1) (zz ha.2 hb.2)
 rw [hm]
 generalize hull4 (a1*b1) (a1*b2) (a2*b1) (a2*b2)=v at *
 generalize a1*b1=u1 at *
 generalize a1*b2=u2 at *
 generalize a2*b1=u3 at *
 generalize a2*b2=u4 at *
 by_cases h1:0≤a1
 ·have h3:b1<0:=Rat.not_le.1 fun h=>c0 ⟨h1,h⟩
  have q1:=p1.2 h1
  have q1':¬ sgA (decide (a1.num<0)) (natO a1.num.natAbs)<0:=by omega
  have q3':=s3n h3
  have q3:¬ 0≤sgA (decide (b1.num<0)) (natO b1.num.natAbs):=by omega
  have q4:¬ sgA (decide (b2.num<0)) (natO b2.num.natAbs)≤0:=fun h=>c2 ⟨h3,p4.1 h⟩
  generalize sgA (decide (a1.num<0)) (natO a1.num.natAbs)=s1 at *
  generalize sgA (decide (b1.num<0)) (natO b1.num.natAbs)=s3 at *
  generalize sgA (decide (b2.num<0)) (natO b2.num.natAbs)=s4 at *
  refine CallsP.enc Go.Proofs.Tryz.func23 rfl (fun lv=>iv_dArg lv _ _ _ _ _ _) fun _=>AW.q ?_
  refine AW.seqK fun K hK=>AW.block (AW.sr fun K1 hK1=>?_)
  simp
  refine CallDo.p 3 9 g1 ?_
  simp [q1]
  refine CallDo.p 3 9 g3 ?_
  simp [q3]
  repeat refine and_o ?_
  apply hK1
  refine AW.cn (AW.c1 3 g1 q1' ?_)
  refine AW.cn (AW.sr fun K1 hK1=>?_)
  simp
  refine CallDo.p 3 9 g3 ?_
  simp [q3']
  refine CallDo.p 3 9 g4 ?_
  simp [q4]
  repeat refine and_o ?_
  apply hK1
  refine AW.cn (AW.skip (hK _ _ (AW.seqK fun K hK=>?_)))
  refine AW.drawP mixed (by kernel_rfl) rfl ?_
  simp
  refine CallDo.p 3 9 m1 ?_
  simp
  refine CallDo.p 3 9 m2 ?_
  simp
  refine CallDo.p 3 9 m3 ?_
  simp
  refine CallDo.p 3 9 m4 ?_
  simp [fill4]
  refine CallDo.frz4 (T:=30) 4 9 3 (w:=u1) (x:=u2) (y:=u3) (z:=u4) ?_ hh ?_ ?_ ?_ ?_
  ·simp [numD,nC_nD]
  ·simp
  ·simp
  ·decide
  simp
  refine⟨by kernel_rfl,?_⟩
  repeat refine and_o ?_
  apply hK
  exact AW.ret (FinC.iv (κ:=0) (t:=4) (k:=2) ⟨rfl,rfl⟩ (by simp) (by simp [setSeg]))
 have q1':=s1n (q1n h1)
 have q1:¬ 0≤sgA (decide (a1.num<0)) (natO a1.num.natAbs):=by omega
 have q2:¬ sgA (decide (a2.num<0)) (natO a2.num.natAbs)≤0:=fun h=>c1 ⟨q1n h1,p2.1 h⟩
 by_cases h3:b1<0
 ·have q3':=s3n h3
  have q4:¬ sgA (decide (b2.num<0)) (natO b2.num.natAbs)≤0:=fun h=>c2 ⟨h3,p4.1 h⟩
  generalize sgA (decide (a1.num<0)) (natO a1.num.natAbs)=s1 at *
  generalize sgA (decide (a2.num<0)) (natO a2.num.natAbs)=s2 at *
  generalize sgA (decide (b1.num<0)) (natO b1.num.natAbs)=s3 at *
  generalize sgA (decide (b2.num<0)) (natO b2.num.natAbs)=s4 at *
  refine CallsP.enc Go.Proofs.Tryz.func23 rfl (fun lv=>iv_dArg lv _ _ _ _ _ _) fun _=>AW.q ?_
  refine AW.seqK fun K hK=>AW.block (AW.sr fun K1 hK1=>?_)
  simp
  refine CallDo.p 3 9 g1 ?_
  simp [q1]
  repeat refine and_o ?_
  apply hK1
  refine AW.cn (AW.sr fun K1 hK1=>?_)
  simp
  refine CallDo.p 3 9 g1 ?_
  simp [q1']
  refine CallDo.p 3 9 g2 ?_
  simp [q2]
  repeat refine and_o ?_
  apply hK1
  refine AW.cn (AW.sr fun K1 hK1=>?_)
  simp
  refine CallDo.p 3 9 g3 ?_
  simp [q3']
  refine CallDo.p 3 9 g4 ?_
  simp [q4]
  repeat refine and_o ?_
  apply hK1
  refine AW.cn (AW.skip (hK _ _ (AW.seqK fun K hK=>?_)))
  refine AW.drawP mixed (by kernel_rfl) rfl ?_
  simp
  refine CallDo.p 3 9 m1 ?_
  simp
  refine CallDo.p 3 9 m2 ?_
  simp
  refine CallDo.p 3 9 m3 ?_
  simp
  refine CallDo.p 3 9 m4 ?_
  simp [fill4]
  refine CallDo.frz4 (T:=30) 4 9 3 (w:=u1) (x:=u2) (y:=u3) (z:=u4) ?_ hh ?_ ?_ ?_ ?_
  ·simp [numD,nC_nD]
  ·simp
  ·simp
  ·decide
  simp
  refine⟨by kernel_rfl,?_⟩
  repeat refine and_o ?_
  apply hK
  exact AW.ret (FinC.iv (κ:=0) (t:=4) (k:=2) ⟨rfl,rfl⟩ (by simp) (by simp [setSeg]))
 ·have q3':¬ sgA (decide (b1.num<0)) (natO b1.num.natAbs)<0:=by
   have:=p3.2 (Rat.not_lt.1 h3)
   omega
  generalize sgA (decide (a1.num<0)) (natO a1.num.natAbs)=s1 at *
  generalize sgA (decide (a2.num<0)) (natO a2.num.natAbs)=s2 at *
  generalize sgA (decide (b1.num<0)) (natO b1.num.natAbs)=s3 at *
  refine CallsP.enc Go.Proofs.Tryz.func23 rfl (fun lv=>iv_dArg lv _ _ _ _ _ _) fun _=>AW.q ?_
  refine AW.seqK fun K hK=>AW.block (AW.sr fun K1 hK1=>?_)
  simp
  refine CallDo.p 3 9 g1 ?_
  simp [q1]
  repeat refine and_o ?_
  apply hK1
  refine AW.cn (AW.sr fun K1 hK1=>?_)
  simp
  refine CallDo.p 3 9 g1 ?_
  simp [q1']
  refine CallDo.p 3 9 g2 ?_
  simp [q2]
  repeat refine and_o ?_
  apply hK1
  refine AW.cn (AW.c1 3 g3 q3' ?_)
  refine AW.cn (AW.skip (hK _ _ (AW.seqK fun K hK=>?_)))
  refine AW.drawP mixed (by kernel_rfl) rfl ?_
  simp
  refine CallDo.p 3 9 m1 ?_
  simp
  refine CallDo.p 3 9 m2 ?_
  simp
  refine CallDo.p 3 9 m3 ?_
  simp
  refine CallDo.p 3 9 m4 ?_
  simp [fill4]
  refine CallDo.frz4 (T:=30) 4 9 3 (w:=u1) (x:=u2) (y:=u3) (z:=u4) ?_ hh ?_ ?_ ?_ ?_
  ·simp [numD,nC_nD]
  ·simp
  ·simp
  ·decide
  simp
  refine⟨by kernel_rfl,?_⟩
  repeat refine and_o ?_
  apply hK
  exact AW.ret (FinC.iv (κ:=0) (t:=4) (k:=2) ⟨rfl,rfl⟩ (by simp) (by simp [setSeg]))
theorem iv_Mul (G:List (List DV))(a b:Iv)(ha:a.sz 10000000)(hb:b.sz 10000000)(la:a.1≤a.2)(lb:b.1≤b.2) :
 CallsP Tryz.prog G 23 [ivV a,ivV b] (ivV (a.mul b)):=by
 have sn:∀ {a:Iv},a.sz 10000000→a.neg.sz 10000000:=fun h=>⟨szR_neg h.2,szR_neg h.1⟩
 have ln:∀ {a:Iv},a.1≤a.2→a.neg.1≤a.neg.2:=fun h=>Rat.neg_le_neg h
 have nn:∀ {a:Iv},a.2≤0→¬ a.neg.1<0:=fun {a} h h'=>by
  have:-a.2<0:=h'
  grind
 refine iv_mul_step G a b ha hb la lb (fun h1 h2=>?_) (fun h0 h1 h2=>?_)
 ·refine iv_mul_step G a.neg b (sn ha) hb (ln la) lb (fun h3 _=>absurd h3 (nn h2)) (fun _ h4 h5=>?_)
  exact iv_mul_step G a.neg b.neg (sn ha) (sn hb) (ln la) (ln lb) (fun h3 _=>absurd h3 (nn h2)) (fun _ h3 _=>absurd h3 (nn h5))
 ·exact iv_mul_step G a b.neg ha (sn hb) la (ln lb) (fun h3 h4=>absurd ⟨h3,h4⟩ h0) (fun _ h3 _=>absurd h3 (nn h2))
def ofE (lo hi:List UInt8):Int:=if ratE lo≠0 then ratE lo else if ratE hi≠0 then ratE hi else if ratP lo≤ratP hi then 0 else 7
def ofI (lo hi:List UInt8):Iv:=if ofE lo hi=0 then (ratP lo,ratP hi) else (0,0)
theorem ofI_sz (lo hi:List UInt8):(ofI lo hi).sz 300:=by
 unfold ofI;split
 ·exact⟨ratP_sz lo,ratP_sz hi⟩
 ·exact⟨szR_zero _ (by decide),szR_zero _ (by decide)⟩
theorem szB {x:Rat}(h:szR x 300):szR x 10000000000:=szR_mono h (by decide)
theorem of_ok (m:Int)(lo hi:List UInt8):CallsP Tryz.prog (GG m) 6 [.agg [.d (.str lo),.d (.str hi)]] (.tup [ivV (ofI lo hi),.c (.d (.int .i64 (ofE lo hi)))]):=by
 have c1:=rat_Parse m lo
 have c2:=rat_Parse m hi
 have c3:=iv_From (GG m) (ratP lo) (ratP hi) (szB (ratP_sz lo)) (szB (ratP_sz hi))
 by_cases h1:ratE lo=0
 rotate_left
 ·have e:ofE lo hi=ratE lo:=if_pos h1
  have e2:ofI lo hi=(0,0):=by unfold ofI;rw [e,if_neg h1]
  rw [e2,e]
  generalize ratE lo=n at *
  generalize ratP lo=r at *
  refine CallsP.enc Go.Proofs.Tryz.func6 rfl (fun lv=>iv_dArg2 lv _ _ _ _ _ _ _ rfl) fun _=>AW.q ?_
  refine AW.c0 2 c1 ?_
  refine AW.seqK fun K hK=>AW.f1 h1 ?_
  refine AW.fy (by simp [h1] <;> omega) (AW.f1 @bIv0 ?_)
  exact AW.ret (FinC.iv2 (κ:=0) (t:=2) (k:=1) (u:=3) ⟨rfl,rfl⟩ (by simp) (by simp [setSeg]) (by simp))
 by_cases h2:ratE hi=0
 rotate_left
 ·have e:ofE lo hi=ratE hi:=by unfold ofE;rw [if_neg (not_not_intro h1),if_pos h2]
  have e2:ofI lo hi=(0,0):=by unfold ofI;rw [e,if_neg h2]
  rw [e2,e]
  rw [h1] at c1
  generalize ratE hi=n at *
  generalize ratP lo=r at *
  generalize ratP hi=r2 at *
  refine CallsP.enc Go.Proofs.Tryz.func6 rfl (fun lv=>iv_dArg2 lv _ _ _ _ _ _ _ rfl) fun _=>AW.q ?_
  refine AW.c0 2 c1 ?_
  refine AW.seqK fun K hK=>AW.q ?_
  refine AW.cn (AW.skip (hK _ _ (AW.c0 3 c2 ?_)))
  refine AW.seqK fun K hK=>AW.f1 h2 ?_
  refine AW.fy (by simp [h2] <;> omega) (AW.f1 @bIv0 ?_)
  exact AW.ret (FinC.iv2 (κ:=0) (t:=2) (k:=1) (u:=3) ⟨rfl,rfl⟩ (by simp) (by simp [setSeg]) (by simp))
 have e:ofE lo hi=if ratP lo≤ratP hi then 0 else 7:=by unfold ofE;rw [if_neg (not_not_intro h1),if_neg (not_not_intro h2)]
 have e2:ofI lo hi=fromI (ratP lo) (ratP hi):=by
  unfold ofI fromI;rw [e];split <;> simp_all
 rw [e2,e]
 rw [h1] at c1
 rw [h2] at c2
 generalize (if ratP lo≤ratP hi then (0:Int) else 7)=n at *
 generalize fromI (ratP lo) (ratP hi)=v at *
 generalize ratP lo=r at *
 generalize ratP hi=r2 at *
 refine CallsP.enc Go.Proofs.Tryz.func6 rfl (fun lv=>iv_dArg2 lv _ _ _ _ _ _ _ rfl) fun _=>AW.q ?_
 refine AW.c0 2 c1 ?_
 refine AW.seqK fun K hK=>AW.q ?_
 refine AW.cn (AW.skip (hK _ _ (AW.c0 3 c2 ?_)))
 refine AW.seqK fun K hK=>AW.seqK fun K1 hK1=>AW.rP ?_
 simp
 repeat refine and_o ?_
 apply hK1
 refine AW.cn (AW.skip ?_)
 simp
 repeat refine and_o ?_
 apply hK
 refine AW.c1 4 c3 @setSeg.eq_1 ?_
 exact AW.ret (FinC.iv2 (κ:=0) (t:=2) (k:=1) (u:=3) ⟨rfl,rfl⟩ (by simp) (by simp [setSeg]) (by simp))
abbrev rivV (a:Iv):AV:=.agg [.d (.int .i64 (rsg a.1)),rC (rtop a.1),rC (rbot a.1),.d (.int .i64 (rsg a.2)),rC (rtop a.2),rC (rbot a.2)]
def rD:Option (List Nat)→DV
 | none=>.nilsl
 | some l=>.sl (dK .i64 l)
theorem rC_rD (o:Option (List Nat)):rC o=.d (rD o):=by cases o <;> rfl
theorem bRI (b p q b' p' q':CV):buildA Tryz.prog 40 [0,1] [.agg [b,p,q],.agg [b',p',q']]=some (.agg [b,p,q,b',p',q'],[],[],True):=by kernel_rfl
theorem bRI0:buildA Tryz.prog 40 [] []=some (rivV (0,0),[],[],True):=by kernel_rfl
theorem loadRI (b p q b' p' q':CV):loadA Tryz.prog 40 [b,p,q,b',p',q']=some (.agg [b,p,q,b',p',q']):=by kernel_rfl
@[simp] theorem riv_dArg2 (lv:Key→LB)(s s':Int)(p q p' q':Option (List Nat))(n:DV)(hn:n.isScal=true):dRes lv (.tup [.agg [.d (.int .i64 s),rC p,rC q,.d (.int .i64 s'),rC p',rC q'],.c (.d n)])=some (.tup [.agg [.d (.int .i64 s),rC p,rC q,.d (.int .i64 s'),rC p',rC q'],.c (.d n)],[]):=by
 simp only [rC_rD];rfl
@[simp] theorem riv_pure (s s':Int)(p q p' q':Option (List Nat)):(AV.agg [.d (.int .i64 s),rC p,rC q,.d (.int .i64 s'),rC p',rC q']).pure=true:=by
 simp only [rC_rD];rfl
@[simp] theorem riv_pure2 (s s':Int)(p q p' q':Option (List Nat))(n:DV):(AV.tup [.agg [.d (.int .i64 s),rC p,rC q,.d (.int .i64 s'),rC p',rC q'],.c (.d n)]).pure=true:=by
 simp only [rC_rD];rfl
theorem FinC.riv2 {c:Ctx}{fn:Func}{t k u:Nat}{s:LSt}{κ:Nat}{a:Iv}{y:CV}(hr:c.P=Tryz.prog∧fn.results=#[.cell t 40,.tmp u]) (ht:s.fr t=.c (.ptr k 0))
 (hk:s.lv k=.cells true false 40 [.d (.int .i64 (rsg a.1)),rC (rtop a.1),rC (rbot a.1),.d (.int .i64 (rsg a.2)),rC (rtop a.2),rC (rbot a.2)]) (hy:s.fr u=.c y):FinC c fn (.tup [rivV a,.c y]) .ret s κ:=
 FinC.cell2 hr.2 ht hk (by rw [hr.1,List.drop_zero,loadRI]) hy rfl rfl
theorem szC {x:Rat}(h:szR x 300):szR x 20000:=szR_mono h (by decide)
theorem szD {x:Rat}(h:szR x 300):szR x 10000:=szR_mono h (by decide)
theorem riv_From (G:List (List DV))(x y:Rat)(hx:szR x 20000)(hy:szR y 20000):CallsP Tryz.prog G 56 [refV x,refV y] (.tup [rivV (fromI x y),.c (.d (.int .i64 (if x≤y then 0 else 7)))]):=by
 have c1:=r_Cmp_ok G x y hx hy
 by_cases h:x≤y
 ·have h':¬ 0<cmpR x y:=by have:=cmpR_le.2 h;omega
  rw [if_pos h,show fromI x y=(x,y) from if_pos h]
  generalize cmpR x y=n at *
  refine CallsP.enc Go.Proofs.Tryz.func56 rfl (fun lv=>riv_dArg2 lv _ _ _ _ _ _ _ rfl) fun _=>AW.q ?_
  refine AW.seqK fun K hK=>AW.c1 3 c1 h' ?_
  refine AW.fn (by simp [h'] <;> omega) (AW.skip (hK _ _ (AW.f1 @bRI ?_)))
  exact AW.ret (FinC.riv2 (κ:=0) (t:=4) (k:=2) (u:=5) ⟨rfl,rfl⟩ (by simp) (by simp [setSeg]) (by simp))
 ·have h':0<cmpR x y:=cmpR_pos.2 (Rat.not_le.1 h)
  rw [if_neg h,show fromI x y=(0,0) from if_neg h]
  generalize cmpR x y=n at *
  refine CallsP.enc Go.Proofs.Tryz.func56 rfl (fun lv=>riv_dArg2 lv _ _ _ _ _ _ _ rfl) fun _=>AW.q ?_
  refine AW.seqK fun K hK=>AW.c1 3 c1 h' ?_
  refine AW.fy (by simp [h'] <;> omega) (AW.f1 bRI0 ?_)
  exact AW.ret (FinC.riv2 (κ:=0) (t:=4) (k:=2) (u:=5) ⟨rfl,rfl⟩ (by simp) (by simp [setSeg]) (by simp))
theorem rof_ok (G:List (List DV))(lo hi:List UInt8):CallsP Tryz.prog G 7 [.agg [.d (.str lo),.d (.str hi)]] (.tup [rivV (ofI lo hi),.c (.d (.int .i64 (ofE lo hi)))]):=by
 have c1:=r_Parse_ok G lo
 have c2:=r_Parse_ok G hi
 have c3:=riv_From G (ratP lo) (ratP hi) (szC (ratP_sz lo)) (szC (ratP_sz hi))
 by_cases h1:ratE lo=0
 rotate_left
 ·have e:ofE lo hi=ratE lo:=if_pos h1
  have e2:ofI lo hi=(0,0):=by unfold ofI;rw [e,if_neg h1]
  rw [e2,e]
  generalize ratE lo=n at *
  generalize ratP lo=r at *
  refine CallsP.enc Go.Proofs.Tryz.func7 rfl (fun lv=>riv_dArg2 lv _ _ _ _ _ _ _ rfl) fun _=>AW.q ?_
  refine AW.c0 2 c1 ?_
  refine AW.seqK fun K hK=>AW.f1 h1 ?_
  refine AW.fy (by simp [h1] <;> omega) (AW.f1 bRI0 ?_)
  exact AW.ret (FinC.riv2 (κ:=0) (t:=2) (k:=1) (u:=3) ⟨rfl,rfl⟩ (by simp) (by simp [setSeg]) (by simp))
 by_cases h2:ratE hi=0
 rotate_left
 ·have e:ofE lo hi=ratE hi:=by unfold ofE;rw [if_neg (not_not_intro h1),if_pos h2]
  have e2:ofI lo hi=(0,0):=by unfold ofI;rw [e,if_neg h2]
  rw [e2,e]
  rw [h1] at c1
  generalize ratE hi=n at *
  generalize ratP lo=r at *
  generalize ratP hi=r2 at *
  refine CallsP.enc Go.Proofs.Tryz.func7 rfl (fun lv=>riv_dArg2 lv _ _ _ _ _ _ _ rfl) fun _=>AW.q ?_
  refine AW.c0 2 c1 ?_
  refine AW.seqK fun K hK=>AW.q ?_
  refine AW.cn (AW.skip (hK _ _ (AW.c0 3 c2 ?_)))
  refine AW.seqK fun K hK=>AW.f1 h2 ?_
  refine AW.fy (by simp [h2] <;> omega) (AW.f1 bRI0 ?_)
  exact AW.ret (FinC.riv2 (κ:=0) (t:=2) (k:=1) (u:=3) ⟨rfl,rfl⟩ (by simp) (by simp [setSeg]) (by simp))
 have e:ofE lo hi=if ratP lo≤ratP hi then 0 else 7:=by unfold ofE;rw [if_neg (not_not_intro h1),if_neg (not_not_intro h2)]
 have e2:ofI lo hi=fromI (ratP lo) (ratP hi):=by
  unfold ofI fromI;rw [e];split <;> simp_all
 rw [e2,e]
 rw [h1] at c1
 rw [h2] at c2
 generalize (if ratP lo≤ratP hi then (0:Int) else 7)=n at *
 generalize fromI (ratP lo) (ratP hi)=v at *
 generalize ratP lo=r at *
 generalize ratP hi=r2 at *
 refine CallsP.enc Go.Proofs.Tryz.func7 rfl (fun lv=>riv_dArg2 lv _ _ _ _ _ _ _ rfl) fun _=>AW.q ?_
 refine AW.c0 2 c1 ?_
 refine AW.seqK fun K hK=>AW.q ?_
 refine AW.cn (AW.skip (hK _ _ (AW.c0 3 c2 ?_)))
 refine AW.seqK fun K hK=>AW.seqK fun K1 hK1=>AW.rP ?_
 simp
 repeat refine and_o ?_
 apply hK1
 refine AW.cn (AW.skip ?_)
 simp
 repeat refine and_o ?_
 apply hK
 refine AW.c1 4 c3 @setSeg.eq_1 ?_
 exact AW.ret (FinC.riv2 (κ:=0) (t:=2) (k:=1) (u:=3) ⟨rfl,rfl⟩ (by simp) (by simp [setSeg]) (by simp))
theorem upd_hl {lv:Key→LB}{k:Key}(h:lv k=.hole):upd lv k .hole=lv:=by
 funext j
 simp_all
theorem ixA' {P:Program}{T:TypeId}{lv:Key→LB}{o:Option (List (List DV))}{k:Int}{sz:Nat}{e:List DV}(h:(slT P T).map (·.2)=some sz) (h0:0≤k) (hi:k<(sO o).length) (he:(sO o).getD k.toNat []=e) (hs:e.length=sz) :
 stepIndexAddr P T lv (slA o) (.c (.d (.int .i64 k)))=some (.c (.d (.ptr e)),[],[],True):=by
 obtain⟨i,rfl⟩:∃ i:Nat,k=i:=⟨k.toNat,by omega⟩
 have hi':i<(sO o).length:=by omega
 have e1:(sO o)[i]=e:=by rw [← he,Int.toNat_natCast,List.getD_eq_getElem?_getD,List.getElem?_eq_getElem hi'];rfl
 rw [ix_slA h hi' (by rw [e1];exact hs),e1]
abbrev Sp:=List UInt8 × List UInt8
@[simp] theorem sp_pure (a b:List UInt8):(AV.agg [.d (.str a),.d (.str b)]).pure=true:=rfl
def spD (s:Sp):List DV:=[.str s.1,.str s.2]
def bxO (b:Option (List Sp)):Option (List (List DV)):=b.map (·.map spD)
def bxL (b:Option (List Sp)):List Sp:=b.getD []
theorem bxO_len (b:Option (List Sp)):(sO (bxO b)).length=(bxL b).length:=by cases b <;> simp [bxO,bxL,sO]
theorem lpBx (lv:Key→LB)(b:Option (List Sp)):lenP Tryz.prog 71 lv (.c (scC (bxO b)))=some (.c (.d (.int .i64 (bxL b).length)),[],[],True):=by
 rw [← bxO_len];exact lenP_slA (by simp)
theorem ixBx (lv:Key→LB)(b:Option (List Sp)){i:Nat}(hi:i<(bxL b).length):stepIndexAddr Tryz.prog 71 lv (.c (scC (bxO b))) (.c (.d (.int .i64 (i:Int))))=some (.c (.d (.ptr (spD (bxL b)[i]))),[],[],True):=by
 refine ixA' (sz:=2) (by simp) (by omega) (by rw [bxO_len];omega) ?_ rfl
 cases b with
 | none=>cases hi
 | some l=>
  have hi':i<l.length:=hi
  rw [Int.toNat_natCast]
  show (l.map spD).getD i []=spD l[i]
  rw [List.getD_eq_getElem?_getD,List.getElem?_map,List.getElem?_eq_getElem hi'];rfl
@[simp] theorem scC_pure' (o:Option (List (List DV))):(AV.c (scC o)).pure=true:=by cases o <;> rfl
@[simp] theorem scC_ren' (o:Option (List (List DV)))(g:Key→Key):(scC o).ren g=scC o:=by cases o <;> rfl
@[simp] theorem scC_flat1' (o:Option (List (List DV))):(AV.c (scC o)).flat1=true:=by cases o <;> rfl
@[simp] theorem scC_noTup (o:Option (List (List DV))):(AV.c (scC o)).noTup=true:=rfl
def ivD (a:Iv):List DV:=[.bool (decide (a.1.num<0)),nD (natO a.1.num.natAbs),nD (denO a.1.den),.bool (decide (a.2.num<0)),nD (natO a.2.num.natAbs),nD (denO a.2.den)]
theorem ivD_map (a:Iv):(ivD a).map CV.d=[.d (.bool (decide (a.1.num<0))),nC (natO a.1.num.natAbs),nC (denO a.1.den),.d (.bool (decide (a.2.num<0))),nC (natO a.2.num.natAbs),nC (denO a.2.den)]:=by simp only [nC_nD];rfl
def iK (l:List Iv):List CV:=(l.map ivD).flatten.map CV.d
def iB (l:List Iv):LB:=if l=[] then .hole else .cells true false 32 (iK l)
def iS (l:List Iv):AV:=if l=[] then .c (.d .nilsl) else .c (.lsl 0 0 l.length 6)
def iO (l:List Iv):Option (List (List DV)):=if l=[] then none else some (l.map ivD)
theorem flat_len6 {l:List (List DV)}{z:Nat}(h:∀ e∈l,e.length=z):l.flatten.length=l.length*z:=by
 induction l with
 | nil=>simp
 | cons a l ih=>
  rw [List.flatten_cons,List.length_append,ih fun e he=>h e (List.mem_cons_of_mem _ he),h a (List.mem_cons_self ..),List.length_cons,Nat.succ_mul];omega
theorem iK_len (l:List Iv):(iK l).length=l.length*6:=by
 unfold iK;rw [List.length_map,flat_len6 (z:=6) (by intro e he;obtain⟨a,_,rfl⟩:=List.mem_map.1 he;rfl),List.length_map]
theorem iK_snoc (l:List Iv)(a:Iv):iK l++[.d (.bool (decide (a.1.num<0))),nC (natO a.1.num.natAbs),nC (denO a.1.den),.d (.bool (decide (a.2.num<0))),nC (natO a.2.num.natAbs),nC (denO a.2.den)]=iK (l++[a]):=by
 unfold iK;rw [← ivD_map];simp
theorem iB_snoc (l:List Iv)(a:Iv):iB (l++[a])=.cells true false 32 (iK (l++[a])):=by
 unfold iB;rw [if_neg (by simp)]
theorem iS_snoc (l:List Iv)(a:Iv):iS (l++[a])=.c (.lsl 0 0 (l.length+1) 6):=by
 unfold iS;rw [if_neg (by simp)];simp
theorem iK_ren (l:List Iv)(g:Key→Key):(iK l).map (CV.ren g)=iK l:=by
 unfold iK;rw [List.map_map];rfl
theorem bsIv (lv:Key→LB)(κ:Key)(h:lv κ=.hole)(a b c d e f:CV):stepBuildSlice Tryz.prog 133 1 [0] lv κ [.agg [a,b,c,d,e,f]]=some (.c (.lsl κ 0 1 6),[(κ,.cells true false 32 [a,b,c,d,e,f])],[],True):=by
 unfold stepBuildSlice;rw [h];kernel_rfl
def bxE:List Sp→Int→Int
 | [],w=>w
 | s::l,w=>if ofE s.1 s.2=7 then bxE l 7 else if ofE s.1 s.2≠0 then ofE s.1 s.2 else bxE l w
def bxI (l:List Sp):List Iv:=l.map fun s=>ofI s.1 s.2
theorem FinD.tmp2' {c:Ctx}{fn:Func}{x X Y:AV}{t u:Nat}{s:LSt}{κ:Nat}{ks:List Key}(hr:fn.results=#[.tmp t,.tmp u]) (hx:s.fr t=X) (hy:s.fr u=Y) (hn:X.noTup=true) (hm:Y.noTup=true) (hd:dRes s.lv (.tup [X,Y])=some (x,ks)):FinD c fn x .ret s κ:=
 ⟨.tup [X,Y],ks,by rw [hr];simp [resA,resL,resV,hx,hy,hn,hm],hd⟩
theorem FinD.tmp3' {c:Ctx}{fn:Func}{x X Y Z:AV}{t u v:Nat}{s:LSt}{κ:Nat}{ks:List Key}(hr:fn.results=#[.tmp t,.tmp u,.tmp v]) (hx:s.fr t=X) (hy:s.fr u=Y) (hz:s.fr v=Z) (hn:X.noTup=true) (hm:Y.noTup=true) (ho:Z.noTup=true) (hd:dRes s.lv (.tup [X,Y,Z])=some (x,ks)):FinD c fn x .ret s κ:=
 ⟨.tup [X,Y,Z],ks,by rw [hr];simp [resA,resL,resV,hx,hy,hz,hn,hm,ho],hd⟩
theorem dRes2 {lv:Key→LB}{x:CV}{x':AV}{ks:List Key}{e:Int}(h:dRes lv (.c x)=some (x',ks)):dRes lv (.tup [.c x,.c (.d (.int .i64 e))])=some (.tup [x',.c (.d (.int .i64 e))],ks):=by
 have h:dArg lv (.c x)=some (x',ks):=h
 have he:dArg lv (AV.c (CV.d (DV.int IntKind.i64 e)))=some (.c (.d (.int .i64 e)),[]):=rfl
 simp [dRes,dArgs,h,he]
theorem dRes_iK {lv:Key→LB}{k:Key}{own fz:Bool}{T:TypeId}{l:List Iv}(h:lv k=.cells own fz T (iK l)) (hl:l.length≤9223372036854775807) (h0:l≠[]):dRes lv (.c (.lsl k 0 l.length 6))=some (.c (scC (iO l)),[k]):=by
 have:=dRes_sl (es:=l.map ivD) (sz:=6) h (by intro e he;obtain⟨a,_,rfl⟩:=List.mem_map.1 he;rfl) (by rw [List.length_map];exact hl)
 rw [List.length_map] at this
 rw [this];unfold iO;rw [if_neg h0];rfl
theorem take_bxI {L:List Sp}{i:Nat}(h:i<L.length):bxI (L.take (i+1))=bxI (L.take i)++[ofI L[i].1 L[i].2]:=by
 rw [List.take_add_one,List.getElem?_eq_getElem h];unfold bxI;rw [List.map_append];rfl
theorem boxed_ok (m:Int)(b:Option (List Sp))(hb:(bxL b).length≤1048576):CallsP Tryz.prog (GG m) 103 [.c (scC (bxO b))] (.tup [.c (scC (if bxE (bxL b) 0=0 then iO (bxI (bxL b)) else none)),.c (.d (.int .i64 (bxE (bxL b) 0)))]):=by
 have hlp:=fun lv=>lpBx lv b
 have hix:=fun lv {i:Nat}(hi:i<(bxL b).length)=>ixBx lv b hi
 refine CallsP.ed Go.Proofs.Tryz.func103 rfl fun _=>AW.q ?_
 refine AW.q ?_
 refine AW.q ?_
 refine AW.seqK fun K hK=>AW.f1 hlp ?_
 refine AW.block ?_
 refine AW.loopV (fun (d:Nat × Int)=>⟨frOf [(4,iS (bxI ((bxL b).take d.1))),(5,.c (.d (.int .i64 d.2))),(10,.c (scC (bxO b))),(11,.c (.d (.int .i64 (bxL b).length))),(12,.c (.d (.int .i64 d.1)))],upd (fun _=>.hole) 0 (iB (bxI ((bxL b).take d.1)))⟩) 1
  (fun d=>d.1≤(bxL b).length∧bxE ((bxL b).drop d.1) d.2=bxE (bxL b) 0) (fun d=>(bxL b).length - d.1) (0,0) (Le.mk2 _ (by simp only [List.take_zero,bxI,List.map_nil,iB,if_true];exact (upd_hl rfl).symm) (by simp [iS,bxI])) ⟨Nat.zero_le _,rfl⟩ ?_
 rintro⟨i,w⟩ ⟨hi,hb2⟩
 try simp only at hi hb2 ⊢
 refine AW.q ?_
 refine AW.seqK fun K2 hK2=>?_
 by_cases hlt:i<(bxL b).length
 ·have hlt':(i:Int)<((bxL b).length:Int):=by omega
  have hx:=fun lv=>hix lv hlt
  have hnx:=take_bxI hlt
  have hll:(bxI ((bxL b).take i)).length=i:=by unfold bxI;rw [List.length_map,List.length_take];omega
  have f12:=w64 (n:=(i:Int)+1) (by omega) (by omega)
  have hd:(bxL b).drop i=(bxL b)[i]::(bxL b).drop (i+1):=List.drop_eq_getElem_cons hlt
  rw [hd] at hb2
  have hof:=of_ok m (bxL b)[i].1 (bxL b)[i].2
  generalize (bxL b)[i]=s at *
  generalize bxI ((bxL b).take i)=l at *
  refine AW.fy (by simp [hlt'] <;> omega) (AW.skip (hK2 _ _ (AW.seqK fun K5 hK5=>AW.block (AW.sr fun K6 hK6=>?_))))
  simp [hx,spD]
  repeat refine and_o ?_
  apply hK6
  refine AW.c1 10 hof @setSeg.eq_1 ?_
  refine AW.seqK fun K6 hK6=>AW.q ?_
  by_cases h7:ofE s.1 s.2=7
  ·have hb1:bxE (s::(bxL b).drop (i+1)) w=bxE ((bxL b).drop (i+1)) 7:=if_pos h7
   have hE:=h7
   refine AW.fy (by simp [h7] <;> omega) (AW.l0 (hK6 _ _ ?_))
   by_cases hl:l=[]
   ·subst hl
    refine AW.rP ?_
    simp [iB,iS,bsIv,srcA,keyOf,setSeg,-stepBuildSlice]
    repeat refine and_o ?_
    apply hK5
    refine AW.rP ?_
    simp [f12]
    exact⟨i+1,7,Le.keys [(0,13,iB ([]++[ofI s.1 s.2]))] 19 _ (by rw [hnx];rfl) rfl (by simp) (by simp) (by simp) (by
     intro e he
     simp only [List.mem_cons,List.not_mem_nil,or_false] at he
     subst he
     rw [iB_snoc]
     simp [iK,ivD_map]) (by rw [hnx,iS_snoc];simp [kmap,hE]),⟨by omega,hb1.symm.trans hb2⟩,by omega⟩
   ·have hzb:iB l=.cells true false 32 (iK l):=if_neg hl
    have hzs:iS l=.c (.lsl 0 0 l.length 6):=if_neg hl
    have hzl:=iK_len l
    refine AW.rP ?_
    simp [hzb,hzs,bsIv,srcA,keyOf,hzl,setSeg,-stepBuildSlice]
    repeat refine and_o ?_
    apply hK5
    refine AW.rP ?_
    simp [f12]
    exact⟨i+1,7,Le.keys [(0,13,iB (l++[ofI s.1 s.2]))] 19 _ (by rw [hnx];rfl) rfl (by simp) (by simp) (by simp) (by
     intro e he
     simp only [List.mem_cons,List.not_mem_nil,or_false] at he
     subst he
     rw [iB_snoc,← iK_snoc]
     simp [iK_ren]) (by rw [hnx,iS_snoc];simp [kmap,hE]),⟨by omega,hb1.symm.trans hb2⟩,by omega⟩
  by_cases h0:ofE s.1 s.2=0
  ·have hb1:bxE (s::(bxL b).drop (i+1)) w=bxE ((bxL b).drop (i+1)) w:=by rw [bxE,if_neg h7,if_neg (not_not_intro h0)]
   have hE:=h0
   refine AW.fn (by simp [h7] <;> omega) (AW.q ?_)
   refine AW.fn (by simp [h0] <;> omega) (AW.skip (hK6 _ _ ?_))
   by_cases hl:l=[]
   ·subst hl
    refine AW.rP ?_
    simp [iB,iS,bsIv,srcA,keyOf,setSeg,-stepBuildSlice]
    repeat refine and_o ?_
    apply hK5
    refine AW.rP ?_
    simp [f12]
    exact⟨i+1,w,Le.keys [(0,13,iB ([]++[ofI s.1 s.2]))] 19 _ (by rw [hnx];rfl) rfl (by simp) (by simp) (by simp) (by
     intro e he
     simp only [List.mem_cons,List.not_mem_nil,or_false] at he
     subst he
     rw [iB_snoc]
     simp [iK,ivD_map]) (by rw [hnx,iS_snoc];simp [kmap,hE]),⟨by omega,hb1.symm.trans hb2⟩,by omega⟩
   ·have hzb:iB l=.cells true false 32 (iK l):=if_neg hl
    have hzs:iS l=.c (.lsl 0 0 l.length 6):=if_neg hl
    have hzl:=iK_len l
    refine AW.rP ?_
    simp [hzb,hzs,bsIv,srcA,keyOf,hzl,setSeg,-stepBuildSlice]
    repeat refine and_o ?_
    apply hK5
    refine AW.rP ?_
    simp [f12]
    exact⟨i+1,w,Le.keys [(0,13,iB (l++[ofI s.1 s.2]))] 19 _ (by rw [hnx];rfl) rfl (by simp) (by simp) (by simp) (by
     intro e he
     simp only [List.mem_cons,List.not_mem_nil,or_false] at he
     subst he
     rw [iB_snoc,← iK_snoc]
     simp [iK_ren]) (by rw [hnx,iS_snoc];simp [kmap,hE]),⟨by omega,hb1.symm.trans hb2⟩,by omega⟩
  ·have hb1:bxE (s::(bxL b).drop (i+1)) w=ofE s.1 s.2:=by rw [bxE,if_neg h7,if_pos h0]
   have hbe:bxE (bxL b) 0=ofE s.1 s.2:=hb2.symm.trans hb1
   refine AW.fn (by simp [h7] <;> omega) (AW.q ?_)
   refine AW.fy (by simp [h0] <;> omega) (AW.q ?_)
   rw [hbe,if_neg h0]
   exact AW.ret (κ:=0) (FinD.tmp2' (κ:=0) (X:=.c (.d .nilsl)) (Y:=.c (.d (.int .i64 (ofE s.1 s.2)))) (ks:=[]) rfl (by simp) (by simp) rfl rfl rfl)
 have hlt':¬ (i:Int)<((bxL b).length:Int):=by omega
 have hie:i=(bxL b).length:=by omega
 subst hie
 have hw:bxE (bxL b) 0=w:=by rw [← hb2,List.drop_length];rfl
 rw [List.take_length]
 refine AW.fn (by simp [hlt'] <;> omega) (AW.exit (hK _ _ (AW.seqK fun K hK=>AW.q ?_)))
 by_cases h0:w=0
 ·subst h0
  refine AW.cn (AW.skip (hK _ _ (AW.q ?_)))
  rw [hw,if_pos rfl]
  by_cases hl:bxI (bxL b)=[]
  ·rw [hl]
   exact AW.ret (κ:=0) (FinD.tmp2' (κ:=0) (X:=.c (.d .nilsl)) (Y:=.c (.d (.int .i64 0))) (ks:=[]) rfl (by simp [iS,hl]) (by simp) rfl rfl rfl)
  ·have hzb:iB (bxI (bxL b))=.cells true false 32 (iK (bxI (bxL b))):=if_neg hl
   have hzs:iS (bxI (bxL b))=.c (.lsl 0 0 (bxI (bxL b)).length 6):=if_neg hl
   exact AW.ret (κ:=0) (FinD.tmp2' (κ:=0) (Y:=.c (.d (.int .i64 0))) rfl (by simp [hzs]) (by simp) rfl rfl (dRes2 (e:=0) (dRes_iK (k:=0) (own:=true) (fz:=false) (T:=32) (by simp [hzb]) (by simp [bxI];omega) hl)))
 ·refine AW.fy (by simp [h0] <;> omega) (AW.q ?_)
  rw [hw,if_neg h0]
  exact AW.ret (κ:=0) (FinD.tmp2' (κ:=0) (X:=.c (.d .nilsl)) (Y:=.c (.d (.int .i64 w))) (ks:=[]) rfl (by simp) (by simp) rfl rfl rfl)
def rivD (a:Iv):List DV:=[.int .i64 (rsg a.1),rD (rtop a.1),rD (rbot a.1),.int .i64 (rsg a.2),rD (rtop a.2),rD (rbot a.2)]
theorem rivD_map (a:Iv):(rivD a).map CV.d=[.d (.int .i64 (rsg a.1)),rC (rtop a.1),rC (rbot a.1),.d (.int .i64 (rsg a.2)),rC (rtop a.2),rC (rbot a.2)]:=by simp only [rC_rD];rfl
def riK (l:List Iv):List CV:=(l.map rivD).flatten.map CV.d
def riB (l:List Iv):LB:=if l=[] then .hole else .cells true false 40 (riK l)
def riS (l:List Iv):AV:=if l=[] then .c (.d .nilsl) else .c (.lsl 0 0 l.length 6)
def riO (l:List Iv):Option (List (List DV)):=if l=[] then none else some (l.map rivD)
theorem riK_len (l:List Iv):(riK l).length=l.length*6:=by
 unfold riK;rw [List.length_map,flat_len6 (z:=6) (by intro e he;obtain⟨a,_,rfl⟩:=List.mem_map.1 he;rfl),List.length_map]
theorem riK_snoc (l:List Iv)(a:Iv):riK l++[.d (.int .i64 (rsg a.1)),rC (rtop a.1),rC (rbot a.1),.d (.int .i64 (rsg a.2)),rC (rtop a.2),rC (rbot a.2)]=riK (l++[a]):=by
 unfold riK;rw [← rivD_map];simp
theorem riB_snoc (l:List Iv)(a:Iv):riB (l++[a])=.cells true false 40 (riK (l++[a])):=by
 unfold riB;rw [if_neg (by simp)]
theorem riS_snoc (l:List Iv)(a:Iv):riS (l++[a])=.c (.lsl 0 0 (l.length+1) 6):=by
 unfold riS;rw [if_neg (by simp)];simp
theorem riK_ren (l:List Iv)(g:Key→Key):(riK l).map (CV.ren g)=riK l:=by
 unfold riK;rw [List.map_map];rfl
theorem bsRI (lv:Key→LB)(κ:Key)(h:lv κ=.hole)(a b c d e f:CV):stepBuildSlice Tryz.prog 137 1 [0] lv κ [.agg [a,b,c,d,e,f]]=some (.c (.lsl κ 0 1 6),[(κ,.cells true false 40 [a,b,c,d,e,f])],[],True):=by
 unfold stepBuildSlice;rw [h];kernel_rfl
theorem dRes_riK {lv:Key→LB}{k:Key}{own fz:Bool}{T:TypeId}{l:List Iv}(h:lv k=.cells own fz T (riK l)) (hl:l.length≤9223372036854775807) (h0:l≠[]):dRes lv (.c (.lsl k 0 l.length 6))=some (.c (scC (riO l)),[k]):=by
 have:=dRes_sl (es:=l.map rivD) (sz:=6) h (by intro e he;obtain⟨a,_,rfl⟩:=List.mem_map.1 he;rfl) (by rw [List.length_map];exact hl)
 rw [List.length_map] at this
 rw [this];unfold riO;rw [if_neg h0];rfl
def chE (s:Sp):Int:=if ratE s.1=0 then ratE s.2 else ratE s.1
def fE:List Sp→Int
 | []=>0
 | s::l=>if chE s≠0 then chE s else fE l
def gE:List Sp→Int
 | []=>0
 | s::l=>if ofE s.1 s.2≠0 then ofE s.1 s.2 else gE l
def rbE (l:List Sp):Int:=if fE l≠0 then fE l else gE l
theorem rboxed_ok (G:List (List DV))(b:Option (List Sp))(hb:(bxL b).length≤1048576):CallsP Tryz.prog G 105 [.c (scC (bxO b))] (.tup [.c (scC (if rbE (bxL b)=0 then riO (bxI (bxL b)) else none)),.c (.d (.int .i64 (rbE (bxL b))))]):=by
 have hlp:=fun lv=>lpBx lv b
 have hix:=fun lv {i:Nat}(hi:i<(bxL b).length)=>ixBx lv b hi
 refine CallsP.ed Go.Proofs.Tryz.func105 rfl fun _=>AW.q ?_
 refine AW.seqK fun K hK=>AW.q ?_
 refine AW.block ?_
 refine AW.loopV (fun (i:Nat)=>⟨frOf [(0,.c (scC (bxO b))),(4,.c (.d (.int .i64 i)))],fun _=>.hole⟩) 0
  (fun i=>i≤(bxL b).length∧fE ((bxL b).drop i)=fE (bxL b)) (fun i=>(bxL b).length - i) 0 (Le.mk2 _) ⟨Nat.zero_le _,rfl⟩ ?_
 rintro i ⟨hi,hb2⟩
 try simp only at hi hb2 ⊢
 refine AW.seqK fun K3 hK3=>AW.f1 hlp ?_
 by_cases hlt:i<(bxL b).length
 ·have hlt':(i:Int)<((bxL b).length:Int):=by omega
  have hx:=fun lv=>hix lv hlt
  have f12:=w64 (n:=(i:Int)+1) (by omega) (by omega)
  have hd:(bxL b).drop i=(bxL b)[i]::(bxL b).drop (i+1):=List.drop_eq_getElem_cons hlt
  rw [hd] at hb2
  have c1:=r_rCheck_ok G (bxL b)[i].1
  have c2:=r_rCheck_ok G (bxL b)[i].2
  generalize (bxL b)[i]=s at *
  refine AW.fy (by simp [hlt'] <;> omega) (AW.skip (hK3 _ _ (AW.seqK fun K5 hK5=>AW.block (AW.sr fun K6 hK6=>?_))))
  simp [hx,spD]
  refine CallDo.p 3 9 c1 ?_
  simp
  repeat refine and_o ?_
  apply hK6
  refine AW.seqK fun K6 hK6=>AW.q ?_
  by_cases h1:ratE s.1=0
  ·refine AW.fy (by simp [h1] <;> omega) (AW.rP ?_)
   simp [hx,spD]
   refine CallDo.p 3 9 c2 ?_
   simp
   repeat refine and_o ?_
   apply hK6
   refine AW.q ?_
   by_cases h2:ratE s.2=0
   ·refine AW.fn (by simp [h2] <;> omega) (AW.skip (hK5 _ _ (AW.rP ?_)))
    simp [f12]
    have hc:chE s=0:=by unfold chE;rw [if_pos h1];exact h2
    exact⟨i+1,Le.mk2 _,⟨by omega,by rw [← hb2,fE,if_neg (not_not_intro hc)]⟩,by omega⟩
   ·have hc:chE s=ratE s.2:=by unfold chE;rw [if_pos h1]
    have hbe:fE (bxL b)=ratE s.2:=by rw [← hb2,fE,if_pos (by rw [hc];exact h2),hc]
    have hre0:rbE (bxL b)=ratE s.2:=by unfold rbE;rw [hbe,if_pos h2]
    refine AW.fy (by simp [h2] <;> omega) (AW.q ?_)
    rw [hre0,if_neg h2]
    exact AW.ret (κ:=0) (FinD.tmp2' (κ:=0) (X:=.c (.d .nilsl)) (Y:=.c (.d (.int .i64 (ratE s.2)))) (ks:=[]) rfl (by simp) (by simp) rfl rfl rfl)
  ·refine AW.fn (by simp [h1] <;> omega) (AW.skip (hK6 _ _ (AW.q ?_)))
   have hc:chE s=ratE s.1:=by unfold chE;rw [if_neg h1]
   have hbe:fE (bxL b)=ratE s.1:=by rw [← hb2,fE,if_pos (by rw [hc];exact h1),hc]
   have hre0:rbE (bxL b)=ratE s.1:=by unfold rbE;rw [hbe,if_pos h1]
   refine AW.fy (by simp [h1] <;> omega) (AW.q ?_)
   rw [hre0,if_neg h1]
   exact AW.ret (κ:=0) (FinD.tmp2' (κ:=0) (X:=.c (.d .nilsl)) (Y:=.c (.d (.int .i64 (ratE s.1)))) (ks:=[]) rfl (by simp) (by simp) rfl rfl rfl)
 have hlt':¬ (i:Int)<((bxL b).length:Int):=by omega
 have hie:i=(bxL b).length:=by omega
 subst hie
 have hf0:fE (bxL b)=0:=by rw [← hb2,List.drop_length];rfl
 have hre:rbE (bxL b)=gE (bxL b):=by unfold rbE;rw [hf0];rfl
 refine AW.fn (by simp [hlt'] <;> omega) (AW.exit (hK _ _ (AW.q ?_)))
 refine AW.seqK fun K hK=>AW.q ?_
 refine AW.block ?_
 refine AW.loopV (fun (i:Nat)=>⟨frOf [(0,.c (scC (bxO b))),(6,riS (bxI ((bxL b).take i))),(7,.c (.d (.int .i64 i)))],upd (fun _=>.hole) 0 (riB (bxI ((bxL b).take i)))⟩) 1
  (fun i=>i≤(bxL b).length∧gE ((bxL b).drop i)=gE (bxL b)) (fun i=>(bxL b).length - i) 0 (Le.mk2 _ (by simp only [List.take_zero,bxI,List.map_nil,riB,if_true];exact (upd_hl rfl).symm) (by simp [riS,bxI])) ⟨Nat.zero_le _,rfl⟩ ?_
 rintro i ⟨hi,hb2⟩
 try simp only at hi hb2 ⊢
 refine AW.seqK fun K4 hK4=>AW.f1 hlp ?_
 by_cases hlt:i<(bxL b).length
 ·have hlt':(i:Int)<((bxL b).length:Int):=by omega
  have hx:=fun lv=>hix lv hlt
  have hnx:=take_bxI hlt
  have hll:(bxI ((bxL b).take i)).length=i:=by unfold bxI;rw [List.length_map,List.length_take];omega
  have f12:=w64 (n:=(i:Int)+1) (by omega) (by omega)
  have hd:(bxL b).drop i=(bxL b)[i]::(bxL b).drop (i+1):=List.drop_eq_getElem_cons hlt
  rw [hd] at hb2
  have hof:=rof_ok G (bxL b)[i].1 (bxL b)[i].2
  generalize (bxL b)[i]=s at *
  generalize bxI ((bxL b).take i)=l at *
  refine AW.fy (by simp [hlt'] <;> omega) (AW.skip (hK4 _ _ (AW.seqK fun K6 hK6=>AW.block (AW.sr fun K7 hK7=>?_))))
  simp [hx,spD]
  refine CallDo.p 10 9 hof ?_
  simp [setSeg]
  repeat refine and_o ?_
  apply hK7
  refine AW.seqK fun K7 hK7=>AW.q ?_
  by_cases h0:ofE s.1 s.2=0
  ·refine AW.fn (by simp [h0] <;> omega) (AW.skip (hK7 _ _ ?_))
   have hg:gE ((bxL b).drop (i+1))=gE (bxL b):=by rw [← hb2,gE,if_neg (not_not_intro h0)]
   by_cases hl:l=[]
   ·subst hl
    refine AW.rP ?_
    simp [riB,riS,bsRI,srcA,keyOf,setSeg,-stepBuildSlice]
    repeat refine and_o ?_
    apply hK6
    refine AW.rP ?_
    simp [f12]
    exact⟨i+1,Le.keys [(0,13,riB ([]++[ofI s.1 s.2]))] 19 _ (by rw [hnx];rfl) rfl (by simp) (by simp) (by simp) (by
     intro e he
     simp only [List.mem_cons,List.not_mem_nil,or_false] at he
     subst he
     rw [riB_snoc]
     simp [riK,rivD_map]) (by rw [hnx,riS_snoc];simp [kmap]),⟨by omega,hg⟩,by omega⟩
   ·have hzb:riB l=.cells true false 40 (riK l):=if_neg hl
    have hzs:riS l=.c (.lsl 0 0 l.length 6):=if_neg hl
    have hzl:=riK_len l
    refine AW.rP ?_
    simp [hzb,hzs,bsRI,srcA,keyOf,hzl,setSeg,-stepBuildSlice]
    repeat refine and_o ?_
    apply hK6
    refine AW.rP ?_
    simp [f12]
    exact⟨i+1,Le.keys [(0,13,riB (l++[ofI s.1 s.2]))] 19 _ (by rw [hnx];rfl) rfl (by simp) (by simp) (by simp) (by
     intro e he
     simp only [List.mem_cons,List.not_mem_nil,or_false] at he
     subst he
     rw [riB_snoc,← riK_snoc]
     simp [riK_ren]) (by rw [hnx,riS_snoc];simp [kmap]),⟨by omega,hg⟩,by omega⟩
  ·have hbe:gE (bxL b)=ofE s.1 s.2:=by rw [← hb2,gE,if_pos h0]
   refine AW.fy (by simp [h0] <;> omega) (AW.q ?_)
   rw [hre,hbe,if_neg h0]
   exact AW.ret (κ:=0) (FinD.tmp2' (κ:=0) (X:=.c (.d .nilsl)) (Y:=.c (.d (.int .i64 (ofE s.1 s.2)))) (ks:=[]) rfl (by simp) (by simp) rfl rfl rfl)
 have hlt':¬ (i:Int)<((bxL b).length:Int):=by omega
 have hie:i=(bxL b).length:=by omega
 subst hie
 have hg0:gE (bxL b)=0:=by rw [← hb2,List.drop_length];rfl
 rw [List.take_length]
 refine AW.fn (by simp [hlt'] <;> omega) (AW.exit (hK _ _ (AW.q ?_)))
 rw [hre,hg0,if_pos rfl]
 by_cases hl:bxI (bxL b)=[]
 ·rw [hl]
  exact AW.ret (κ:=0) (FinD.tmp2' (κ:=0) (X:=.c (.d .nilsl)) (Y:=.c (.d (.int .i64 0))) (ks:=[]) rfl (by simp [riS,hl]) (by simp) rfl rfl rfl)
 ·have hzb:riB (bxI (bxL b))=.cells true false 40 (riK (bxI (bxL b))):=if_neg hl
  have hzs:riS (bxI (bxL b))=.c (.lsl 0 0 (bxI (bxL b)).length 6):=if_neg hl
  exact AW.ret (κ:=0) (FinD.tmp2' (κ:=0) (Y:=.c (.d (.int .i64 0))) rfl (by simp [hzs]) (by simp) rfl rfl (dRes2 (e:=0) (dRes_riK (k:=0) (own:=true) (fz:=false) (T:=40) (by simp [hzb]) (by simp [bxI];omega) hl)))
theorem iO_len (l:List Iv):(sO (iO l)).length=l.length:=by unfold iO;split <;> simp_all [sO]
theorem lpIv (lv:Key→LB)(l:List Iv):lenP Tryz.prog 133 lv (.c (scC (iO l)))=some (.c (.d (.int .i64 l.length)),[],[],True):=by
 rw [← iO_len l];exact lenP_slA (by simp)
theorem ixIv (lv:Key→LB)(l:List Iv){i:Nat}(hi:i<l.length):stepIndexAddr Tryz.prog 133 lv (.c (scC (iO l))) (.c (.d (.int .i64 (i:Int))))=some (.c (.d (.ptr (ivD l[i]))),[],[],True):=by
 refine ixA' (sz:=6) (by simp) (by omega) (by rw [iO_len];omega) ?_ rfl
 have hl:l≠[]:=by intro e;subst e;cases hi
 rw [Int.toNat_natCast]
 unfold iO;rw [if_neg hl]
 show (l.map ivD).getD i []=ivD l[i]
 rw [List.getD_eq_getElem?_getD,List.getElem?_map,List.getElem?_eq_getElem hi];rfl
theorem nD_C (o:Option (List Nat)):CV.d (nD o)=nC o:=(nC_nD o).symm
def wdS:List Iv→Nat→Int→Rat→Int
 | [],_,best,_=>best
 | a::l,i,best,most=>if most<a.2 - a.1 then wdS l (i+1) i (a.2 - a.1) else wdS l (i+1) best most
def Iv.z (a:Iv):Prop:=szR a.1 300∧szR a.2 300
theorem Iv.z_sub {a:Iv}(h:a.z):szR (a.2 - a.1) 601:=by
 rw [Rat.sub_eq_add_neg];exact szR_add h.2 (szR_neg h.1)
theorem bxI_z (l:List Sp):∀ a∈bxI l,a.z:=by
 intro a ha
 obtain⟨s,_,rfl⟩:=List.mem_map.1 ha
 exact ofI_sz s.1 s.2
theorem width_ok (G:List (List DV))(a:Iv)(h:a.z):CallsP Tryz.prog G 161 [ivV a] (ratV (a.2 - a.1)):=by
 have c1:=rat_Sub G a.2 a.1 (szB h.2) (szB h.1)
 obtain⟨a1,a2⟩:=a
 simp only at c1
 refine CallsP.enc Go.Proofs.Tryz.func161 rfl (fun lv=>nC_dArg lv _ _ _) fun _=>AW.q ?_
 refine AW.c1 4 c1 @setSeg.eq_1 ?_
 exact AW.ret (FinC.num (κ:=0) (t:=2) (k:=1) ⟨rfl,rfl⟩ (by simp) (by simp [setSeg]))
theorem widest_ok (m:Int)(l:List Iv)(hl:l.length≤1048576)(hz:∀ a∈l,a.z):CallsP Tryz.prog (GG m) 106 [.c (scC (iO l))] (.c (.d (.int .i64 (wdS l 0 (-1) 0)))):=by
 have hlp:=fun lv=>lpIv lv l
 have ci:=rat_Int (GG m) 0 (by decide) (by decide)
 refine CallsP.en0 Go.Proofs.Tryz.func106 rfl fun _=>AW.q ?_
 refine AW.c0 0 ci ?_
 refine AW.seqK fun K hK=>AW.f1 hlp ?_
 refine AW.block ?_
 refine AW.loopV (fun (d:Nat × Int × Rat)=>⟨frOf [(3,.c (.d (.int .i64 d.2.1))),(4,.c (.ptr 0 0)),(9,.c (scC (iO l))),(10,.c (.d (.int .i64 l.length))),(11,.c (.d (.int .i64 d.1)))],upd (fun _=>.hole) 0 (.cells true false 30 [.d (.bool (decide (d.2.2.num<0))),nC (natO d.2.2.num.natAbs),nC (denO d.2.2.den)])⟩) 1
  (fun d=>d.1≤l.length∧szR d.2.2 601∧wdS (l.drop d.1) d.1 d.2.1 d.2.2=wdS l 0 (-1) 0) (fun d=>l.length - d.1) (0,-1,0) (Le.mk2 _) ⟨Nat.zero_le _,szR_zero _ (by decide),rfl⟩ ?_
 rintro⟨i,best,most⟩ ⟨hi,hm,hw⟩
 try simp only at hi hm hw ⊢
 refine AW.q ?_
 refine AW.seqK fun K2 hK2=>?_
 by_cases hlt:i<l.length
 ·have hlt':(i:Int)<(l.length:Int):=by omega
  have hx:=fun lv=>ixIv lv l hlt
  have hza:=hz _ (List.getElem_mem hlt)
  have f12:=w64 (n:=(i:Int)+1) (by omega) (by omega)
  rw [List.drop_eq_getElem_cons hlt] at hw
  generalize l[i]=a at *
  have c1:=width_ok (GG m) a hza
  have hsw:=Iv.z_sub hza
  have c2:=rat_Cmp (GG m) (a.2 - a.1) most (szR_mono hsw (by decide)) (szR_mono hm (by decide))
  refine AW.fy (by simp [hlt'] <;> omega) (AW.skip (hK2 _ _ (AW.seqK fun K5 hK5=>AW.block (AW.sr fun K6 hK6=>?_))))
  simp [hx,ivD,nD_C]
  repeat refine and_o ?_
  apply hK6
  refine AW.c1 10 c1 @setSeg.eq_1 ?_
  refine AW.c1 20 c2 @setSeg.eq_1 ?_
  by_cases hc:most<a.2 - a.1
  ·have hc':0<cmpR (a.2 - a.1) most:=cmpR_pos.2 hc
   refine AW.fy (by simp [hc'] <;> omega) (AW.dl1 mixed @setSeg.eq_1 (hK5 _ _ ?_))
   refine AW.rP ?_
   simp [f12]
   exact⟨i+1,i,a.2 - a.1,Le.keys [(0,0,.cells true false 30 [.d (.bool (decide ((a.2 - a.1).num<0))),nC (natO (a.2 - a.1).num.natAbs),nC (denO (a.2 - a.1).den)])] 19 _ rfl rfl (by simp) (by simp) (by simp) (by simp) (by simp [kmap]),⟨by omega,hsw,by rw [← hw,wdS,if_pos hc]⟩,by omega⟩
  ·have hc':¬ 0<cmpR (a.2 - a.1) most:=fun h=>hc (cmpR_pos.1 h)
   refine AW.fn (by simp [hc'] <;> omega) (AW.skip (hK5 _ _ (AW.rP ?_)))
   simp [f12]
   exact⟨i+1,best,most,Le.keys [(0,0,.cells true false 30 [.d (.bool (decide (most.num<0))),nC (natO most.num.natAbs),nC (denO most.den)])] 19 _ rfl rfl (by simp) (by simp) (by simp) (by simp) (by simp [kmap]),⟨by omega,hm,by rw [← hw,wdS,if_neg hc]⟩,by omega⟩
 have hlt':¬ (i:Int)<(l.length:Int):=by omega
 have hie:i=l.length:=by omega
 subst hie
 rw [List.drop_length] at hw
 have hw':best=wdS l 0 (-1) 0:=hw
 refine AW.fn (by simp [hlt'] <;> omega) (AW.exit (hK _ _ (AW.q ?_)))
 rw [← hw']
 exact AW.r0 (FinP.rt rfl 2 (by simp))
@[simp] theorem scT_pure (o:Option (List (List DV)))(n:DV):(AV.tup [AV.c (scC o),AV.c (.d n)]).pure=true:=by cases o <;> rfl
def wdR (l:List Sp):Int × Int:=if bxE l 0≠0 then (0,bxE l 0) else if wdS (bxI l) 0 (-1) 0<0 then (0,4) else (wdS (bxI l) 0 (-1) 0,0)
theorem bxI_len (l:List Sp):(bxI l).length=l.length:=by simp [bxI]
theorem Widest_ok (m:Int)(b:Option (List Sp))(hb:(bxL b).length≤1048576):CallsP Tryz.prog (GG m) 43 [.c (scC (bxO b))] (.tup [.c (.d (.int .i64 (wdR (bxL b)).1)),.c (.d (.int .i64 (wdR (bxL b)).2))]):=by
 have c1:=boxed_ok m b hb
 have c2:=widest_ok m (bxI (bxL b)) (by rw [bxI_len];exact hb) (bxI_z _)
 by_cases h0:bxE (bxL b) 0=0
 rotate_left
 ·have e:wdR (bxL b)=(0,bxE (bxL b) 0):=if_pos h0
  rw [e]
  rw [if_neg h0] at c1
  generalize bxE (bxL b) 0=n at *
  refine CallsP.en Go.Proofs.Tryz.func43 rfl fun _=>AW.q ?_
  refine AW.c0 1 c1 ?_
  refine AW.seqK fun K hK=>AW.q ?_
  refine AW.fy (by simp [h0] <;> omega) (AW.q ?_)
  exact AW.ret (κ:=0) (FinP.t2 rfl 9)
 rw [h0,if_pos rfl] at c1
 have e:wdR (bxL b)=if wdS (bxI (bxL b)) 0 (-1) 0<0 then (0,4) else (wdS (bxI (bxL b)) 0 (-1) 0,0):=by unfold wdR;rw [if_neg (not_not_intro h0)]
 rw [e]
 generalize iO (bxI (bxL b))=o at *
 generalize wdS (bxI (bxL b)) 0 (-1) 0=n at *
 by_cases hn:n<0
 ·rw [if_pos hn]
  refine CallsP.en Go.Proofs.Tryz.func43 rfl fun _=>AW.q ?_
  refine AW.c0 1 c1 ?_
  refine AW.seqK fun K hK=>AW.q ?_
  refine AW.cn (AW.skip (hK _ _ (AW.c0 1 c2 ?_)))
  refine AW.seqK fun K hK=>AW.q ?_
  refine AW.fy (by simp [hn] <;> omega) (AW.q ?_)
  exact AW.ret (κ:=0) (FinP.t2 rfl 9)
 ·rw [if_neg hn]
  refine CallsP.en Go.Proofs.Tryz.func43 rfl fun _=>AW.q ?_
  refine AW.c0 1 c1 ?_
  refine AW.seqK fun K hK=>AW.q ?_
  refine AW.cn (AW.skip (hK _ _ (AW.c0 1 c2 ?_)))
  refine AW.seqK fun K hK=>AW.q ?_
  refine AW.fn (by simp [hn] <;> omega) (AW.skip (hK _ _ (AW.q ?_)))
  exact AW.ret (κ:=0) (FinP.t2 rfl 9)
theorem srcA_sl' {lv:Key→LB}{sz:Nat}{es:List (List DV)}(h:∀ e∈es,e.length=sz):srcA lv sz (.c (.d (.sl es)))=some (es.length,es.flatten.map CV.d):=by
 have:es.all (·.length == sz)=true:=List.all_eq_true.2 fun e he=>by simpa using h e he
 show (if es.all (·.length == sz)=true then _ else _)=_
 rw [if_pos this]
theorem flat_ren' (es:List (List DV))(g:Key→Key):(es.flatten.map CV.d).map (CV.ren g)=es.flatten.map CV.d:=by
 rw [List.map_map];rfl
theorem flat_like' (E:TypeId)(es:List (List DV))(g:Key→Key):(LB.cells true false E (es.flatten.map CV.d)).like (.cells true false E (es.flatten.map CV.d)) g:=LB.like_cells.2 ⟨rfl,rfl,(flat_ren' es g).symm,id⟩
def spK (l:List Sp):List CV:=(l.map spD).flatten.map CV.d
theorem cloneSp_ok (G:List (List DV))(l:List Sp)(hl:l.length≤1048576):CallsS Tryz.prog G 104 [.c (.d (.sl (l.map spD)))] [] (.ret (.c (.lsl 1000 0 l.length 2)) [] [.cells true false 24 (spK l)]):=by
 have e2:∀ es,stepBin Tryz.prog .eql 71 (.c (.d (.sl es))) (.c (.d .nilsl))=some (.c (.d (.bool false)),[],[],True):=fun es=>by kernel_rfl
 have hlen:(l.map spD).length=l.length:=List.length_map ..
 have h:∀ e∈l.map spD,e.length=2:=by intro e he;obtain⟨s,_,rfl⟩:=List.mem_map.1 he;rfl
 unfold spK
 rw [← hlen] at hl ⊢
 generalize l.map spD=es at *
 have hsrc:∀ lv,srcA lv 2 (.c (.d (.sl es)))=some (es.length,es.flatten.map CV.d):=fun lv=>srcA_sl' h
 refine CallsS.enn Go.Proofs.Tryz.func104 rfl fun _=>AW.q ?_
 refine AW.seqK fun K hK=>AW.f1 e2 ?_
 refine AW.cn (AW.skip (hK _ _ (AW.sr fun K hK=>?_)))
 simp [hsrc,repl,fillA,keyOf,-List.map_flatten]
 repeat refine and_o ?_
 apply hK
 refine AW.ret (κ:=0) ⟨[(1000,1,.cells true false 24 (es.flatten.map CV.d))],9,lvOf_n1 _,by simp,by simp,by simp,?_,rfl,?_⟩
 ·intro e he
  rw [List.mem_singleton.1 he]
  exact flat_like' 24 es _
 ·show resA _ _ [.tmp 2]=_
  simp [resA,resL,resV,kmap]
def splR (l:List Sp)(i:Int)(at_:List UInt8):Option (List Sp) × Option (List Sp) × Int:=
 if bxE l 0≠0 then (none,none,bxE l 0)
 else if i<0∨(l.length:Int)≤i then (none,none,7)
 else if ratE at_≠0 then (none,none,ratE at_)
 else if ratP at_≤((bxI l).getD i.toNat (0,0)).1∨((bxI l).getD i.toNat (0,0)).2≤ratP at_ then (none,none,7)
 else (some (l.set i.toNat ((l.getD i.toNat ([],[])).1,at_)),some (l.set i.toNat (at_,(l.getD i.toNat ([],[])).2)),0)
theorem spK_cons (s:Sp)(l:List Sp):spK (s::l)=.d (.str s.1)::.d (.str s.2)::spK l:=rfl
theorem spK_len:∀ l:List Sp,(spK l).length=l.length*2
 | []=>rfl
 | s::l=>by rw [spK_cons,List.length_cons,List.length_cons,spK_len l,List.length_cons];omega
theorem spK_set1 (v:List UInt8):∀ (l:List Sp) (k:Nat),k<l.length→setSeg (spK l) (k*2+1) [.d (.str v)]=spK (l.set k ((l.getD k ([],[])).1,v))
 | [],k,h=>by cases h
 | s::l,0,_=>by simp [spK_cons,setSeg]
 | s::l,k+1,h=>by
  have ih:=spK_set1 v l k (by simpa using h)
  rw [List.set_cons_succ,List.getD_cons_succ,spK_cons,spK_cons,← ih,show (k+1)*2+1=(k*2+1)+1+1 by omega]
  simp [setSeg,show (k*2+1)+1+1+1=(k*2+1+1)+1+1 by omega]
theorem spK_set0 (v:List UInt8):∀ (l:List Sp) (k:Nat),k<l.length→setSeg (spK l) (k*2) [.d (.str v)]=spK (l.set k (v,(l.getD k ([],[])).2))
 | [],k,h=>by cases h
 | s::l,0,_=>by simp [spK_cons,setSeg]
 | s::l,k+1,h=>by
  have ih:=spK_set0 v l k (by simpa using h)
  rw [List.set_cons_succ,List.getD_cons_succ,spK_cons,spK_cons,← ih,show (k+1)*2=k*2+1+1 by omega]
  simp [setSeg,show k*2+1+1+1=(k*2+1)+1+1 by omega]
theorem spK_ren (l:List Sp)(g:Key→Key):(spK l).map (CV.ren g)=spK l:=by
 unfold spK;rw [List.map_map];rfl
theorem fixC (T:TypeId)(cs:List CV):LB.fix true (.cells true false T cs)=.cells true false T cs:=rfl
theorem dRes_spK {lv:Key→LB}{k n:Nat}{own fz:Bool}{T:TypeId}{l:List Sp}(h:lv k=.cells own fz T (spK l)) (hn:n=l.length) (hl:l.length≤9223372036854775807):dRes lv (.c (.lsl k 0 n 2))=some (.c (scC (bxO (some l))),[k]):=by
 have:=dRes_sl (es:=l.map spD) (sz:=2) h (by intro e he;obtain⟨a,_,rfl⟩:=List.mem_map.1 he;rfl) (by rw [List.length_map];exact hl)
 rw [List.length_map] at this
 rw [hn,this];rfl
theorem dRes3 {lv:Key→LB}{x y:CV}{x' y':AV}{ks js:List Key}{e:Int}(h:dRes lv (.c x)=some (x',ks)) (h':dRes lv (.c y)=some (y',js)):dRes lv (.tup [.c x,.c y,.c (.d (.int .i64 e))])=some (.tup [x',y',.c (.d (.int .i64 e))],ks++js):=by
 have h:dArg lv (.c x)=some (x',ks):=h
 have h':dArg lv (.c y)=some (y',js):=h'
 have he:dArg lv (AV.c (CV.d (DV.int IntKind.i64 e)))=some (.c (.d (.int .i64 e)),[]):=rfl
 simp [dRes,dArgs,h,h',he]
theorem splR_1 {l:List Sp}{i:Int}{t:List UInt8}(h:bxE l 0≠0):splR l i t=(none,none,bxE l 0):=if_pos h
theorem splR_2 {l:List Sp}{i:Int}{t:List UInt8}(h:bxE l 0=0) (h1:i<0∨(l.length:Int)≤i):splR l i t=(none,none,7):=by
 unfold splR;rw [if_neg (not_not_intro h),if_pos h1]
theorem splR_3 {l:List Sp}{i:Int}{t:List UInt8}(h:bxE l 0=0) (h1:¬ (i<0∨(l.length:Int)≤i)) (h2:ratE t≠0):splR l i t=(none,none,ratE t):=by
 unfold splR;rw [if_neg (not_not_intro h),if_neg h1,if_pos h2]
theorem splR_4 {l:List Sp}{k:Nat}{t:List UInt8}{a:Iv}(h:bxE l 0=0) (hk:k<l.length) (h2:ratE t=0) (ha:(bxI l)[k]'(by rw [bxI_len];exact hk)=a) (h3:ratP t≤a.1∨a.2≤ratP t):splR l (k:Int) t=(none,none,7):=by
 have hg:(bxI l).getD k (0,0)=a:=by rw [List.getD_eq_getElem?_getD,List.getElem?_eq_getElem (by rw [bxI_len];exact hk)];exact ha
 unfold splR;rw [if_neg (not_not_intro h),if_neg (by omega),if_neg (not_not_intro h2),Int.toNat_natCast,hg,if_pos h3]
theorem splR_5 {l:List Sp}{k:Nat}{t:List UInt8}{a:Iv}(h:bxE l 0=0) (hk:k<l.length) (h2:ratE t=0) (ha:(bxI l)[k]'(by rw [bxI_len];exact hk)=a) (h3:¬ (ratP t≤a.1∨a.2≤ratP t)) :
 splR l (k:Int) t=(some (l.set k ((l.getD k ([],[])).1,t)),some (l.set k (t,(l.getD k ([],[])).2)),0):=by
 have hg:(bxI l).getD k (0,0)=a:=by rw [List.getD_eq_getElem?_getD,List.getElem?_eq_getElem (by rw [bxI_len];exact hk)];exact ha
 unfold splR;rw [if_neg (not_not_intro h),if_neg (by omega),if_neg (not_not_intro h2),Int.toNat_natCast,hg,if_neg h3]
abbrev splA (r:Option (List Sp) × Option (List Sp) × Int):AV:=.tup [.c (scC (bxO r.1)),.c (scC (bxO r.2.1)),.c (.d (.int .i64 r.2.2))]
theorem Split_ok (m:Int)(b:Option (List Sp))(i:Int)(t:List UInt8)(hb:(bxL b).length≤1048576):CallsP Tryz.prog (GG m) 41 [.c (scC (bxO b)),.c (.d (.int .i64 i)),.c (.d (.str t))] (splA (splR (bxL b) i t)):=by
 have c1:=boxed_ok m b hb
 have c2:=rat_Parse m t
 by_cases h0:bxE (bxL b) 0=0
 rotate_left
 ·rw [splR_1 h0]
  rw [if_neg h0] at c1
  show CallsP Tryz.prog (GG m) 41 _ (.tup [.c (.d .nilsl),.c (.d .nilsl),.c (.d (.int .i64 (bxE (bxL b) 0)))])
  generalize bxE (bxL b) 0=n at *
  refine CallsP.en Go.Proofs.Tryz.func41 rfl fun _=>AW.q ?_
  refine AW.c0 1 c1 ?_
  refine AW.seqK fun K hK=>AW.q ?_
  refine AW.fy (by simp [h0] <;> omega) (AW.q ?_)
  exact AW.ret (κ:=0) (FinP.t3 rfl 9)
 rw [h0,if_pos rfl] at c1
 have hlp:=fun lv=>lpIv lv (bxI (bxL b))
 rw [bxI_len] at hlp
 by_cases hi:i<0∨((bxL b).length:Int)≤i
 ·rw [splR_2 h0 hi]
  show CallsP Tryz.prog (GG m) 41 _ (.tup [.c (.d .nilsl),.c (.d .nilsl),.c (.d (.int .i64 7))])
  generalize iO (bxI (bxL b))=o at *
  by_cases h1:i<0
  ·refine CallsP.en Go.Proofs.Tryz.func41 rfl fun _=>AW.q ?_
   refine AW.c0 1 c1 ?_
   refine AW.seqK fun K hK=>AW.q ?_
   refine AW.cn (AW.skip (hK _ _ (AW.seqK fun K hK=>AW.f2 hlp h1 ?_)))
   refine AW.fy (by simp [h1] <;> omega) (AW.q ?_)
   exact AW.ret (κ:=0) (FinP.t3 rfl 9)
  ·have h2:((bxL b).length:Int)≤i:=hi.resolve_left h1
   refine CallsP.en Go.Proofs.Tryz.func41 rfl fun _=>AW.q ?_
   refine AW.c0 1 c1 ?_
   refine AW.seqK fun K hK=>AW.q ?_
   refine AW.cn (AW.skip (hK _ _ (AW.seqK fun K hK=>AW.f3 hlp h1 h2 ?_)))
   refine AW.fy (by simp [h1,h2] <;> omega) (AW.q ?_)
   exact AW.ret (κ:=0) (FinP.t3 rfl 9)
 obtain⟨k,rfl⟩:∃ k:Nat,i=k:=⟨i.toNat,by omega⟩
 have hk:k<(bxL b).length:=by omega
 have hk':k<(bxI (bxL b)).length:=by rw [bxI_len];exact hk
 have h1:¬ (k:Int)<0:=by omega
 have h2:¬ ((bxL b).length:Int)≤(k:Int):=by omega
 by_cases he:ratE t=0
 rotate_left
 ·rw [splR_3 h0 hi he]
  show CallsP Tryz.prog (GG m) 41 _ (.tup [.c (.d .nilsl),.c (.d .nilsl),.c (.d (.int .i64 (ratE t)))])
  generalize iO (bxI (bxL b))=o at *
  generalize ratE t=n at *
  generalize ratP t=x at *
  refine CallsP.en Go.Proofs.Tryz.func41 rfl fun _=>AW.q ?_
  refine AW.c0 1 c1 ?_
  refine AW.seqK fun K hK=>AW.q ?_
  refine AW.cn (AW.skip (hK _ _ (AW.seqK fun K hK=>AW.f3 hlp h1 h2 ?_)))
  refine AW.fn (by simp [h1,h2] <;> omega) (AW.skip (hK _ _ (AW.c0 2 c2 ?_)))
  refine AW.seqK fun K hK=>AW.q ?_
  refine AW.fy (by simp [he] <;> omega) (AW.q ?_)
  exact AW.ret (κ:=0) (FinP.t3 rfl 9)
 rw [he] at c2
 have hx:=fun lv=>ixIv lv (bxI (bxL b)) hk'
 have hza:=bxI_z (bxL b) _ (List.getElem_mem hk')
 have hs4:=@splR_4 (bxL b) k t _ h0 hk he rfl
 have hs5:=@splR_5 (bxL b) k t _ h0 hk he rfl
 have hxz:=ratP_sz t
 generalize (bxI (bxL b))[k]=a at *
 have d1:=rat_Cmp (GG m) (ratP t) a.1 (szB hxz) (szB hza.1)
 have d2:=rat_Cmp (GG m) (ratP t) a.2 (szB hxz) (szB hza.2)
 by_cases hc:ratP t≤a.1∨a.2≤ratP t
 ·rw [hs4 hc]
  show CallsP Tryz.prog (GG m) 41 _ (.tup [.c (.d .nilsl),.c (.d .nilsl),.c (.d (.int .i64 7))])
  by_cases e1:ratP t≤a.1
  ·have e1':cmpR (ratP t) a.1≤0:=cmpR_le.2 e1
   generalize cmpR (ratP t) a.1=n1 at *
   generalize iO (bxI (bxL b))=o at *
   refine CallsP.en Go.Proofs.Tryz.func41 rfl fun _=>AW.q ?_
   refine AW.c0 1 c1 ?_
   refine AW.seqK fun K hK=>AW.q ?_
   refine AW.cn (AW.skip (hK _ _ (AW.seqK fun K hK=>AW.f3 hlp h1 h2 ?_)))
   refine AW.fn (by simp [h1,h2] <;> omega) (AW.skip (hK _ _ (AW.c0 2 c2 ?_)))
   refine AW.seqK fun K hK=>AW.q ?_
   refine AW.cn (AW.skip (hK _ _ (AW.seqK fun K hK=>AW.seqK fun K1 hK1=>?_)))
   refine AW.drawP mixed (by kernel_rfl) rfl ?_
   simp [hlp,hx,ivD,nD_C,h1,h2,setSeg]
   refine CallDo.p 10 9 d1 ?_
   simp [e1']
   refine⟨by kernel_rfl,?_⟩
   repeat refine and_o ?_
   apply hK1
   refine AW.fy (by simp [e1'] <;> omega) (AW.q ?_)
   exact AW.ret (κ:=0) (FinP.t3 rfl 9)
  ·have e2:a.2≤ratP t:=hc.resolve_left e1
   have e1':¬ cmpR (ratP t) a.1≤0:=fun h=>e1 (cmpR_le.1 h)
   have e2':0≤cmpR (ratP t) a.2:=cmpR_ge.2 e2
   generalize cmpR (ratP t) a.1=n1 at *
   generalize cmpR (ratP t) a.2=n2 at *
   generalize iO (bxI (bxL b))=o at *
   refine CallsP.en Go.Proofs.Tryz.func41 rfl fun _=>AW.q ?_
   refine AW.c0 1 c1 ?_
   refine AW.seqK fun K hK=>AW.q ?_
   refine AW.cn (AW.skip (hK _ _ (AW.seqK fun K hK=>AW.f3 hlp h1 h2 ?_)))
   refine AW.fn (by simp [h1,h2] <;> omega) (AW.skip (hK _ _ (AW.c0 2 c2 ?_)))
   refine AW.seqK fun K hK=>AW.q ?_
   refine AW.cn (AW.skip (hK _ _ (AW.seqK fun K hK=>AW.seqK fun K1 hK1=>?_)))
   refine AW.drawP mixed (by kernel_rfl) rfl ?_
   simp [hlp,hx,ivD,nD_C,h1,h2,setSeg]
   refine CallDo.p 10 9 d1 ?_
   simp [e1',hx,ivD,nD_C,setSeg]
   refine CallDo.p 10 9 d2 ?_
   simp [e2']
   refine⟨by kernel_rfl,?_⟩
   repeat refine and_o ?_
   apply hK1
   refine AW.fy (by simp [e1',e2'] <;> omega) (AW.q ?_)
   exact AW.ret (κ:=0) (FinP.t3 rfl 9)
 rw [hs5 hc]
 have e1':¬ cmpR (ratP t) a.1≤0:=fun h=>hc (.inl (cmpR_le.1 h))
 have e2':¬ 0≤cmpR (ratP t) a.2:=fun h=>hc (.inr (cmpR_ge.1 h))
 generalize cmpR (ratP t) a.1=n1 at *
 generalize cmpR (ratP t) a.2=n2 at *
 obtain⟨l,rfl⟩:∃ l,b=some l:=by
  cases b with
  | none=>cases hk
  | some l=>exact⟨l,rfl⟩
 have c3:=cloneSp_ok (GG m) l hb
 have hk:k<l.length:=hk
 have hl:l.length≤1048576:=hb
 have s1:=spK_set1 t l k hk
 have s0:=spK_set0 t l k hk
 have hlen:=spK_len l
 show CallsP Tryz.prog (GG m) 41 [.c (.d (.sl (l.map spD))),.c (.d (.int .i64 (k:Int))),.c (.d (.str t))] _
 have c1:CallsP Tryz.prog (GG m) 103 [.c (.d (.sl (l.map spD)))] (.tup [.c (scC (iO (bxI (bxL (some l))))),.c (.d (.int .i64 0))]):=c1
 generalize iO (bxI (bxL (some l)))=o at *
 refine CallsP.ed Go.Proofs.Tryz.func41 rfl fun _=>AW.q ?_
 refine AW.c0 1 c1 ?_
 refine AW.seqK fun K hK=>AW.q ?_
 refine AW.cn (AW.skip (hK _ _ (AW.seqK fun K hK=>AW.f3 hlp h1 h2 ?_)))
 refine AW.fn (by simp [h1,h2] <;> omega) (AW.skip (hK _ _ (AW.c0 2 c2 ?_)))
 refine AW.seqK fun K hK=>AW.q ?_
 refine AW.cn (AW.skip (hK _ _ (AW.seqK fun K hK=>AW.seqK fun K1 hK1=>?_)))
 refine AW.drawP mixed (by kernel_rfl) rfl ?_
 simp [hlp,hx,ivD,nD_C,h1,h2,setSeg]
 refine CallDo.p 10 9 d1 ?_
 simp [e1',hx,ivD,nD_C,setSeg]
 refine CallDo.p 10 9 d2 ?_
 simp [e2']
 refine⟨by kernel_rfl,?_⟩
 repeat refine and_o ?_
 apply hK1
 refine AW.fn (by simp [e1',e2'] <;> omega) (AW.skip (hK _ _ (AW.sr fun K hK=>?_)))
 simp
 refine CallDo.newN 30 9 [21] [.cells true false 24 (spK l)] c3 (by simp) (by simp) (by simp) rfl (by simp) (by simp) (by simp) ?_
 simp [backW,keyMap,spK_ren,fixC]
 refine CallDo.newN 30 9 [22] [.cells true false 24 (spK l)] c3 (by simp) (by simp) (by simp) rfl (by simp) (by simp) (by simp) ?_
 simp [backW,keyMap,spK_ren,fixC]
 repeat refine and_o ?_
 apply hK
 refine AW.sr fun K hK=>?_
 simp [hlen,s1,s0]
 repeat refine and_o ?_
 apply hK
 refine AW.q ?_
 simp only [List.getD_eq_getElem?_getD]
 have hbl:bxL (some l)=l:=rfl
 exact AW.ret (κ:=0) (FinD.tmp3' (κ:=0) (X:=.c (.lsl 21 0 l.length 2)) (Y:=.c (.lsl 22 0 l.length 2)) (Z:=.c (.d (.int .i64 0))) rfl (by simp) (by simp) (by simp) rfl rfl rfl
  (dRes3 (e:=0) (dRes_spK (k:=21) (own:=true) (fz:=false) (T:=24) (by simp [hbl]) (by simp [hbl]) (by simp [hbl];omega)) (dRes_spK (k:=22) (own:=true) (fz:=false) (T:=24) (by simp [hbl]) (by simp [hbl]) (by simp [hbl];omega))))
theorem riO_len (l:List Iv):(sO (riO l)).length=l.length:=by unfold riO;split <;> simp_all [sO]
theorem lpRI (lv:Key→LB)(l:List Iv):lenP Tryz.prog 137 lv (.c (scC (riO l)))=some (.c (.d (.int .i64 l.length)),[],[],True):=by
 rw [← riO_len l];exact lenP_slA (by simp)
theorem ixRI (lv:Key→LB)(l:List Iv){i:Nat}(hi:i<l.length):stepIndexAddr Tryz.prog 137 lv (.c (scC (riO l))) (.c (.d (.int .i64 (i:Int))))=some (.c (.d (.ptr (rivD l[i]))),[],[],True):=by
 refine ixA' (sz:=6) (by simp) (by omega) (by rw [riO_len];omega) ?_ rfl
 have hl:l≠[]:=by intro e;subst e;cases hi
 rw [Int.toNat_natCast]
 unfold riO;rw [if_neg hl]
 show (l.map rivD).getD i []=rivD l[i]
 rw [List.getD_eq_getElem?_getD,List.getElem?_map,List.getElem?_eq_getElem hi];rfl
theorem rD_C (o:Option (List Nat)):CV.d (rD o)=rC o:=(rC_rD o).symm
theorem r_Sign_ok (G:List (List DV))(x:Rat):CallsP Tryz.prog G 65 [refV x] (.c (.d (.int .i64 (rsg x)))):=by
 refine CallsP.en Go.Proofs.Tryz.func65 rfl fun _=>AW.q ?_
 refine AW.q ?_
 exact AW.r0 (FinP.rt rfl 2 (by simp))
theorem rwidth_ok (G:List (List DV))(a:Iv)(h:a.z):CallsP Tryz.prog G 162 [rivV a] (refV (a.2 - a.1)):=by
 have c1:=r_Sub_ok G a.2 a.1 (szD h.2) (szD h.1)
 obtain⟨a1,a2⟩:=a
 simp only at c1
 refine CallsP.enc Go.Proofs.Tryz.func162 rfl (fun lv=>rC_dRes lv _ _ _) fun _=>AW.q ?_
 refine AW.c1 4 c1 @setSeg.eq_1 ?_
 exact AW.ret (FinC.ref (k:=1) rfl (by simp) (by simp [setSeg]) rfl)
theorem rsg_pos {x:Rat}:0<rsg x↔0<x:=by
 have hn:0<x.num↔0<x:=by
  constructor
  ·intro h;refine Rat.not_le.1 fun h2=>?_;have h3:=Rat.le_antisymm h2 (Rat.num_nonneg.1 (by omega));rw [h3] at h;exact absurd h (by decide)
  ·intro h;have h1:=Rat.num_nonneg.2 (Rat.le_of_lt h);have h2:x.num≠0:=fun e=>by rw [Rat.num_eq_zero.1 e] at h;exact absurd h (by decide)
   omega
 unfold rsg
 by_cases h:x.num=0
 ·rw [if_pos h];constructor
  ·intro h';omega
  ·intro h';have:=hn.2 h';omega
 ·rw [if_neg h]
  split
  ·constructor
   ·intro h';omega
   ·intro h';have:=hn.2 h';omega
  ·constructor
   ·intro _;exact hn.1 (by omega)
   ·intro _;omega
def rwI (l:List Iv)(i:Nat)(best:Int):Prop:=∃ most,wdS (l.drop i) i best most=wdS l 0 (-1) 0∧(best = -1∧most=0∨∃ (b:Nat) (hb:b<l.length),best=(b:Int)∧most=l[b].2 - l[b].1∧0<most)
theorem rwI_0 (l:List Iv):rwI l 0 (-1):=⟨0,rfl,.inl ⟨rfl,rfl⟩⟩
theorem rwI_end {l:List Iv}{best:Int}(h:rwI l l.length best):best=wdS l 0 (-1) 0:=by
 obtain⟨most,h,_⟩:=h
 rw [List.drop_length] at h;exact h
theorem rat_lt_trans {a b c:Rat}(h:a<b) (h':b<c):a<c:=Rat.not_le.1 fun h2=>Rat.not_le.2 h (Rat.le_trans (Rat.le_of_lt h') h2)
theorem rwI_step {l:List Iv}{i:Nat}{best:Int}(h:rwI l i best) (hi:i<l.length) :
 (best = -1∧(0<l[i].2 - l[i].1→rwI l (i+1) i)∧(¬ 0<l[i].2 - l[i].1→rwI l (i+1) (-1))) ∨
 ∃ (b:Nat) (hb:b<l.length),best=(b:Int)∧0<l[b].2 - l[b].1∧(l[b].2 - l[b].1<l[i].2 - l[i].1→rwI l (i+1) i)∧(¬ l[b].2 - l[b].1<l[i].2 - l[i].1→rwI l (i+1) b):=by
 obtain⟨most,h,hb⟩:=h
 rw [List.drop_eq_getElem_cons hi] at h
 rcases hb with ⟨rfl,rfl⟩|⟨b,hb,rfl,rfl,h0⟩
 ·exact .inl ⟨rfl,fun hp=>⟨l[i].2 - l[i].1,by rw [← h,wdS,if_pos hp],.inr ⟨i,hi,rfl,rfl,hp⟩⟩,fun hp=>⟨0,by rw [← h,wdS,if_neg hp],.inl ⟨rfl,rfl⟩⟩⟩
 ·exact .inr ⟨b,hb,rfl,h0,fun hp=>⟨l[i].2 - l[i].1,by rw [← h,wdS,if_pos hp],.inr ⟨i,hi,rfl,rfl,rat_lt_trans h0 hp⟩⟩,fun hp=>⟨l[b].2 - l[b].1,by rw [← h,wdS,if_neg hp],.inr ⟨b,hb,rfl,rfl,h0⟩⟩⟩
theorem rwidest_ok (G:List (List DV))(l:List Iv)(hl:l.length≤1048576)(hz:∀ a∈l,a.z):CallsP Tryz.prog G 107 [.c (scC (riO l))] (.c (.d (.int .i64 (wdS l 0 (-1) 0)))):=by
 have hlp:=fun lv=>lpRI lv l
 refine CallsP.en0 Go.Proofs.Tryz.func107 rfl fun _=>AW.q ?_
 refine AW.q ?_
 refine AW.seqK fun K hK=>AW.q ?_
 refine AW.block ?_
 refine AW.loopV (fun (d:Nat × Int)=>⟨frOf [(0,.c (scC (riO l))),(3,.c (.d (.int .i64 d.2))),(4,.c (.d (.int .i64 d.1)))],fun _=>.hole⟩) 0
  (fun d=>d.1≤l.length∧rwI l d.1 d.2) (fun d=>l.length - d.1) (0,-1) (Le.mk2 _) ⟨Nat.zero_le _,rwI_0 l⟩ ?_
 rintro⟨i,best⟩ ⟨hi,hw⟩
 try simp only at hi hw ⊢
 refine AW.seqK fun K3 hK3=>AW.f1 hlp ?_
 by_cases hlt:i<l.length
 ·have hlt':(i:Int)<(l.length:Int):=by omega
  have hx:=fun lv=>ixRI lv l hlt
  have hza:=hz _ (List.getElem_mem hlt)
  have f12:=w64 (n:=(i:Int)+1) (by omega) (by omega)
  have hst:=rwI_step hw hlt
  have hstb:∀ (b:Nat) (hb:b<l.length),(∀ lv,stepIndexAddr Tryz.prog 137 lv (.c (scC (riO l))) (.c (.d (.int .i64 (b:Int))))=some (.c (.d (.ptr (rivD l[b]))),[],[],True))∧l[b].z:=fun b hb=>⟨fun lv=>ixRI lv l hb,hz _ (List.getElem_mem hb)⟩
  generalize l[i]=a at *
  have c1:=rwidth_ok G a hza
  have c2:=r_Sign_ok G (a.2 - a.1)
  have hsw:=Iv.z_sub hza
  refine AW.fy (by simp [hlt'] <;> omega) (AW.skip (hK3 _ _ (AW.seqK fun K5 hK5=>AW.block (AW.seqK fun K6 hK6=>?_))))
  rcases hst with ⟨rfl,hs1,hs2⟩|⟨b,hb,rfl,hb0,hs1,hs2⟩
  ·by_cases hp:0<a.2 - a.1
   ·have hp':0<rsg (a.2 - a.1):=rsg_pos.2 hp
    have hn:=hs1 hp
    refine AW.drawP mixed (by kernel_rfl) rfl ?_
    simp [hx,rivD,rD_C]
    refine CallDo.p 10 9 c1 ?_
    simp [c2]
    refine CallDo.p 10 9 c2 ?_
    simp [hp']
    refine⟨by kernel_rfl,?_⟩
    repeat refine and_o ?_
    apply hK6
    refine AW.fy (by simp [hp'] <;> omega) (AW.l0 (hK5 _ _ ?_))
    refine AW.rP ?_
    simp [f12]
    exact⟨i+1,i,Le.mk2 _,⟨by omega,hn⟩,by omega⟩
   ·have hp':¬ 0<rsg (a.2 - a.1):=fun h=>hp (rsg_pos.1 h)
    have hn:=hs2 hp
    refine AW.drawP mixed (by kernel_rfl) rfl ?_
    simp [hx,rivD,rD_C]
    refine CallDo.p 10 9 c1 ?_
    simp [c2]
    refine CallDo.p 10 9 c2 ?_
    simp [hp']
    refine⟨by kernel_rfl,?_⟩
    repeat refine and_o ?_
    apply hK6
    refine AW.fn (by simp [hp'] <;> omega) (AW.skip (hK5 _ _ (AW.rP ?_)))
    simp [f12]
    exact⟨i+1,-1,Le.mk2 _,⟨by omega,hn⟩,by omega⟩
  ·obtain⟨hxb,hzb⟩:=hstb b hb
   have hbn:¬ (b:Int)<0:=by omega
   generalize l[b]=a2 at *
   have c3:=rwidth_ok G a2 hzb
   have c4:=r_Cmp_ok G (a.2 - a.1) (a2.2 - a2.1) (szR_mono hsw (by decide)) (szR_mono (Iv.z_sub hzb) (by decide))
   by_cases hp:0<a.2 - a.1
   ·have hp':0<rsg (a.2 - a.1):=rsg_pos.2 hp
    by_cases hc:a2.2 - a2.1<a.2 - a.1
    ·have hc':0<cmpR (a.2 - a.1) (a2.2 - a2.1):=cmpR_pos.2 hc
     have hn:=hs1 hc
     refine AW.drawP mixed (by kernel_rfl) rfl ?_
     simp [hx,rivD,rD_C]
     refine CallDo.p 10 9 c1 ?_
     simp [c2]
     refine CallDo.p 10 9 c2 ?_
     simp [hp',hbn,hx,rivD,rD_C]
     refine CallDo.p 10 9 c1 ?_
     simp [hxb,rivD,rD_C]
     refine CallDo.p 10 9 c3 ?_
     simp [c4]
     refine CallDo.p 10 9 c4 ?_
     simp [hc']
     refine⟨by kernel_rfl,?_⟩
     repeat refine and_o ?_
     apply hK6
     refine AW.fy (by simp [hp',hbn,hc'] <;> omega) (AW.l0 (hK5 _ _ ?_))
     refine AW.rP ?_
     simp [f12]
     exact⟨i+1,i,Le.mk2 _,⟨by omega,hn⟩,by omega⟩
    ·have hc':¬ 0<cmpR (a.2 - a.1) (a2.2 - a2.1):=fun h=>hc (cmpR_pos.1 h)
     have hn:=hs2 hc
     refine AW.drawP mixed (by kernel_rfl) rfl ?_
     simp [hx,rivD,rD_C]
     refine CallDo.p 10 9 c1 ?_
     simp [c2]
     refine CallDo.p 10 9 c2 ?_
     simp [hp',hbn,hx,rivD,rD_C]
     refine CallDo.p 10 9 c1 ?_
     simp [hxb,rivD,rD_C]
     refine CallDo.p 10 9 c3 ?_
     simp [c4]
     refine CallDo.p 10 9 c4 ?_
     simp [hc']
     refine⟨by kernel_rfl,?_⟩
     repeat refine and_o ?_
     apply hK6
     refine AW.fn (by simp [hp',hbn,hc'] <;> omega) (AW.skip (hK5 _ _ (AW.rP ?_)))
     simp [f12]
     exact⟨i+1,b,Le.mk2 _,⟨by omega,hn⟩,by omega⟩
   ·have hp':¬ 0<rsg (a.2 - a.1):=fun h=>hp (rsg_pos.1 h)
    have hn:=hs2 (fun h=>hp (rat_lt_trans hb0 h))
    refine AW.drawP mixed (by kernel_rfl) rfl ?_
    simp [hx,rivD,rD_C]
    refine CallDo.p 10 9 c1 ?_
    simp [c2]
    refine CallDo.p 10 9 c2 ?_
    simp [hp']
    refine⟨by kernel_rfl,?_⟩
    repeat refine and_o ?_
    apply hK6
    refine AW.fn (by simp [hp'] <;> omega) (AW.skip (hK5 _ _ (AW.rP ?_)))
    simp [f12]
    exact⟨i+1,b,Le.mk2 _,⟨by omega,hn⟩,by omega⟩
 have hlt':¬ (i:Int)<(l.length:Int):=by omega
 have hie:i=l.length:=by omega
 subst hie
 have hw':=rwI_end hw
 refine AW.fn (by simp [hlt'] <;> omega) (AW.exit (hK _ _ (AW.q ?_)))
 rw [← hw']
 exact AW.r0 (FinP.rt rfl 2 (by simp))
theorem ratE_7 (r:List UInt8):ratE r≠7:=by
 unfold ratE parseE
 (repeat' split) <;> decide
theorem of_ch0 {s:Sp}(h:ofE s.1 s.2=0∨ofE s.1 s.2=7):chE s=0:=by
 have h1:=ratE_7 s.1
 have h2:=ratE_7 s.2
 unfold ofE at h
 unfold chE
 by_cases e1:ratE s.1=0
 ·rw [if_pos e1]
  rw [if_neg (not_not_intro e1)] at h
  by_cases e2:ratE s.2=0
  ·exact e2
  ·rw [if_pos e2] at h;rcases h with h|h
   ·exact h
   ·exact absurd h h2
 ·rw [if_pos e1] at h;rcases h with h|h
  ·exact absurd h e1
  ·exact absurd h h1
theorem of_ch {s:Sp}(h:ofE s.1 s.2≠0) (h7:ofE s.1 s.2≠7):chE s=ofE s.1 s.2:=by
 unfold ofE at *
 unfold chE
 by_cases e1:ratE s.1=0
 ·rw [if_pos e1]
  rw [if_neg (not_not_intro e1)] at h h7 ⊢
  by_cases e2:ratE s.2=0
  ·rw [if_neg (not_not_intro e2)] at h h7
   split at h <;> simp_all
  ·rw [if_pos e2]
 ·rw [if_neg e1,if_pos e1]
theorem bxE_fg:∀ (l:List Sp) (w:Int),w=0∨w=7→bxE l w=if fE l≠0 then fE l else if w=7 then 7 else gE l
 | [],w,hw=>by
  rcases hw with rfl|rfl <;> rfl
 | s::l,w,hw=>by
  by_cases h7:ofE s.1 s.2=7
  ·have hc:=of_ch0 (.inr h7)
   have e1:fE (s::l)=fE l:=by rw [fE,if_neg (not_not_intro hc)]
   have e2:gE (s::l)=7:=by rw [gE,if_pos (by rw [h7];decide),h7]
   rw [bxE,if_pos h7,bxE_fg l 7 (.inr rfl),e1,e2,if_pos rfl]
   simp
  ·by_cases h0:ofE s.1 s.2=0
   ·have hc:=of_ch0 (.inl h0)
    rw [bxE,if_neg h7,if_neg (not_not_intro h0),bxE_fg l w hw,fE,if_neg (not_not_intro hc),gE,if_neg (not_not_intro h0)]
   ·have hc:=of_ch h0 h7
    have e1:fE (s::l)=ofE s.1 s.2:=by rw [fE,if_pos (by rw [hc];exact h0),hc]
    rw [bxE,if_neg h7,if_pos h0,e1,if_pos h0]
theorem rbE_eq (l:List Sp):rbE l=bxE l 0:=by
 rw [bxE_fg l 0 (.inl rfl),if_neg (show ¬ (0:Int)=7 by decide)];rfl
theorem rboxed_ok' (G:List (List DV))(b:Option (List Sp))(hb:(bxL b).length≤1048576):CallsP Tryz.prog G 105 [.c (scC (bxO b))] (.tup [.c (scC (if bxE (bxL b) 0=0 then riO (bxI (bxL b)) else none)),.c (.d (.int .i64 (bxE (bxL b) 0)))]):=by
 have h:=rboxed_ok G b hb
 rw [rbE_eq] at h;exact h
theorem rWidest_ok (G:List (List DV))(b:Option (List Sp))(hb:(bxL b).length≤1048576):CallsP Tryz.prog G 44 [.c (scC (bxO b))] (.tup [.c (.d (.int .i64 (wdR (bxL b)).1)),.c (.d (.int .i64 (wdR (bxL b)).2))]):=by
 have c1:=rboxed_ok' G b hb
 have c2:=rwidest_ok G (bxI (bxL b)) (by rw [bxI_len];exact hb) (bxI_z _)
 by_cases h0:bxE (bxL b) 0=0
 rotate_left
 ·have e:wdR (bxL b)=(0,bxE (bxL b) 0):=if_pos h0
  rw [e]
  rw [if_neg h0] at c1
  generalize bxE (bxL b) 0=n at *
  refine CallsP.en Go.Proofs.Tryz.func44 rfl fun _=>AW.q ?_
  refine AW.c0 1 c1 ?_
  refine AW.seqK fun K hK=>AW.q ?_
  refine AW.fy (by simp [h0] <;> omega) (AW.q ?_)
  exact AW.ret (κ:=0) (FinP.t2 rfl 9)
 rw [h0,if_pos rfl] at c1
 have e:wdR (bxL b)=if wdS (bxI (bxL b)) 0 (-1) 0<0 then (0,4) else (wdS (bxI (bxL b)) 0 (-1) 0,0):=by unfold wdR;rw [if_neg (not_not_intro h0)]
 rw [e]
 generalize riO (bxI (bxL b))=o at *
 generalize wdS (bxI (bxL b)) 0 (-1) 0=n at *
 by_cases hn:n<0
 ·rw [if_pos hn]
  refine CallsP.en Go.Proofs.Tryz.func44 rfl fun _=>AW.q ?_
  refine AW.c0 1 c1 ?_
  refine AW.seqK fun K hK=>AW.q ?_
  refine AW.cn (AW.skip (hK _ _ (AW.seqK fun K hK=>AW.c1 2 c2 hn ?_)))
  refine AW.fy (by simp [hn] <;> omega) (AW.q ?_)
  exact AW.ret (κ:=0) (FinP.t2 rfl 9)
 ·rw [if_neg hn]
  refine CallsP.en Go.Proofs.Tryz.func44 rfl fun _=>AW.q ?_
  refine AW.c0 1 c1 ?_
  refine AW.seqK fun K hK=>AW.q ?_
  refine AW.cn (AW.skip (hK _ _ (AW.seqK fun K hK=>AW.c1 2 c2 hn ?_)))
  refine AW.fn (by simp [hn] <;> omega) (AW.skip (hK _ _ (AW.c0 2 c2 ?_)))
  exact AW.ret (κ:=0) (FinP.t2 rfl 9)
theorem rSplit_ok (G:List (List DV))(b:Option (List Sp))(i:Int)(t:List UInt8)(hb:(bxL b).length≤1048576):CallsP Tryz.prog G 42 [.c (scC (bxO b)),.c (.d (.int .i64 i)),.c (.d (.str t))] (splA (splR (bxL b) i t)):=by
 have c1:=rboxed_ok' G b hb
 have c2:=r_Parse_ok G t
 by_cases h0:bxE (bxL b) 0=0
 rotate_left
 ·rw [splR_1 h0]
  rw [if_neg h0] at c1
  show CallsP Tryz.prog G 42 _ (.tup [.c (.d .nilsl),.c (.d .nilsl),.c (.d (.int .i64 (bxE (bxL b) 0)))])
  generalize bxE (bxL b) 0=n at *
  refine CallsP.en Go.Proofs.Tryz.func42 rfl fun _=>AW.q ?_
  refine AW.c0 1 c1 ?_
  refine AW.seqK fun K hK=>AW.f1 h0 ?_
  refine AW.fn (by simp [h0] <;> omega) (AW.skip (hK _ _ (AW.seqK fun K hK=>AW.q ?_)))
  refine AW.fy (by simp [h0] <;> omega) (AW.q ?_)
  exact AW.ret (κ:=0) (FinP.t3 rfl 9)
 rw [h0,if_pos rfl] at c1
 have hlp:=fun lv=>lpRI lv (bxI (bxL b))
 rw [bxI_len] at hlp
 by_cases hi:i<0∨((bxL b).length:Int)≤i
 ·rw [splR_2 h0 hi]
  show CallsP Tryz.prog G 42 _ (.tup [.c (.d .nilsl),.c (.d .nilsl),.c (.d (.int .i64 7))])
  generalize riO (bxI (bxL b))=o at *
  by_cases h1:i<0
  ·refine CallsP.en Go.Proofs.Tryz.func42 rfl fun _=>AW.q ?_
   refine AW.c0 1 c1 ?_
   refine AW.seqK fun K hK=>AW.f2 hlp h1 ?_
   refine AW.fy (by simp [h1] <;> omega) (AW.l0 (hK _ _ ?_))
   refine AW.seqK fun K hK=>AW.q ?_
   refine AW.cy (AW.q ?_)
   exact AW.ret (κ:=0) (FinP.t3 rfl 9)
  ·have h2:((bxL b).length:Int)≤i:=hi.resolve_left h1
   refine CallsP.en Go.Proofs.Tryz.func42 rfl fun _=>AW.q ?_
   refine AW.c0 1 c1 ?_
   refine AW.seqK fun K hK=>AW.f3 hlp h1 h2 ?_
   refine AW.fy (by simp [h1,h2] <;> omega) (AW.l0 (hK _ _ ?_))
   refine AW.seqK fun K hK=>AW.q ?_
   refine AW.cy (AW.q ?_)
   exact AW.ret (κ:=0) (FinP.t3 rfl 9)
 obtain⟨k,rfl⟩:∃ k:Nat,i=k:=⟨i.toNat,by omega⟩
 have hk:k<(bxL b).length:=by omega
 have hk':k<(bxI (bxL b)).length:=by rw [bxI_len];exact hk
 have h1:¬ (k:Int)<0:=by omega
 have h2:¬ ((bxL b).length:Int)≤(k:Int):=by omega
 by_cases he:ratE t=0
 rotate_left
 ·rw [splR_3 h0 hi he]
  show CallsP Tryz.prog G 42 _ (.tup [.c (.d .nilsl),.c (.d .nilsl),.c (.d (.int .i64 (ratE t)))])
  generalize riO (bxI (bxL b))=o at *
  generalize ratE t=n at *
  generalize ratP t=x at *
  refine CallsP.en Go.Proofs.Tryz.func42 rfl fun _=>AW.q ?_
  refine AW.c0 1 c1 ?_
  refine AW.seqK fun K hK=>AW.f3 hlp h1 h2 ?_
  refine AW.fn (by simp [h1,h2] <;> omega) (AW.skip (hK _ _ (AW.seqK fun K hK=>AW.q ?_)))
  refine AW.cn (AW.skip (hK _ _ (AW.c0 2 c2 ?_)))
  refine AW.seqK fun K hK=>AW.d1 mixed he ?_
  refine AW.fn (by simp [he] <;> omega) (AW.skip (hK _ _ (AW.seqK fun K hK=>AW.q ?_)))
  refine AW.fy (by simp [he] <;> omega) (AW.q ?_)
  exact AW.ret (κ:=0) (FinP.t3 rfl 9)
 rw [he] at c2
 have hx:=fun lv=>ixRI lv (bxI (bxL b)) hk'
 have hza:=bxI_z (bxL b) _ (List.getElem_mem hk')
 have hs4:=@splR_4 (bxL b) k t _ h0 hk he rfl
 have hs5:=@splR_5 (bxL b) k t _ h0 hk he rfl
 have hxz:=ratP_sz t
 generalize (bxI (bxL b))[k]=a at *
 have d1:=r_Cmp_ok G (ratP t) a.1 (szC hxz) (szC hza.1)
 have d2:=r_Cmp_ok G (ratP t) a.2 (szC hxz) (szC hza.2)
 by_cases hc:ratP t≤a.1∨a.2≤ratP t
 ·rw [hs4 hc]
  show CallsP Tryz.prog G 42 _ (.tup [.c (.d .nilsl),.c (.d .nilsl),.c (.d (.int .i64 7))])
  by_cases e1:ratP t≤a.1
  ·have e1':cmpR (ratP t) a.1≤0:=cmpR_le.2 e1
   generalize cmpR (ratP t) a.1=n1 at *
   generalize riO (bxI (bxL b))=o at *
   refine CallsP.en Go.Proofs.Tryz.func42 rfl fun _=>AW.q ?_
   refine AW.c0 1 c1 ?_
   refine AW.seqK fun K hK=>AW.f3 hlp h1 h2 ?_
   refine AW.fn (by simp [h1,h2] <;> omega) (AW.skip (hK _ _ (AW.seqK fun K hK=>AW.q ?_)))
   refine AW.cn (AW.skip (hK _ _ (AW.c0 2 c2 ?_)))
   refine AW.seqK fun K hK=>AW.seqK fun K1 hK1=>?_
   refine AW.drawP mixed (by kernel_rfl) rfl ?_
   simp [hx,rivD,rD_C,setSeg]
   refine CallDo.p 10 9 d1 ?_
   simp [e1']
   refine⟨by kernel_rfl,?_⟩
   repeat refine and_o ?_
   apply hK1
   refine AW.fy (by simp [e1'] <;> omega) (AW.l0 (hK _ _ ?_))
   refine AW.seqK fun K hK=>AW.q ?_
   refine AW.cy (AW.q ?_)
   exact AW.ret (κ:=0) (FinP.t3 rfl 9)
  ·have e2:a.2≤ratP t:=hc.resolve_left e1
   have e1':¬ cmpR (ratP t) a.1≤0:=fun h=>e1 (cmpR_le.1 h)
   have e2':0≤cmpR (ratP t) a.2:=cmpR_ge.2 e2
   generalize cmpR (ratP t) a.1=n1 at *
   generalize cmpR (ratP t) a.2=n2 at *
   generalize riO (bxI (bxL b))=o at *
   refine CallsP.en Go.Proofs.Tryz.func42 rfl fun _=>AW.q ?_
   refine AW.c0 1 c1 ?_
   refine AW.seqK fun K hK=>AW.f3 hlp h1 h2 ?_
   refine AW.fn (by simp [h1,h2] <;> omega) (AW.skip (hK _ _ (AW.seqK fun K hK=>AW.q ?_)))
   refine AW.cn (AW.skip (hK _ _ (AW.c0 2 c2 ?_)))
   refine AW.seqK fun K hK=>AW.seqK fun K1 hK1=>?_
   refine AW.drawP mixed (by kernel_rfl) rfl ?_
   simp [hx,rivD,rD_C,setSeg]
   refine CallDo.p 10 9 d1 ?_
   simp [e1',hx,rivD,rD_C,setSeg]
   refine CallDo.p 10 9 d2 ?_
   simp [e2']
   refine⟨by kernel_rfl,?_⟩
   repeat refine and_o ?_
   apply hK1
   refine AW.fy (by simp [e1',e2'] <;> omega) (AW.l0 (hK _ _ ?_))
   refine AW.seqK fun K hK=>AW.q ?_
   refine AW.cy (AW.q ?_)
   exact AW.ret (κ:=0) (FinP.t3 rfl 9)
 rw [hs5 hc]
 have e1':¬ cmpR (ratP t) a.1≤0:=fun h=>hc (.inl (cmpR_le.1 h))
 have e2':¬ 0≤cmpR (ratP t) a.2:=fun h=>hc (.inr (cmpR_ge.1 h))
 generalize cmpR (ratP t) a.1=n1 at *
 generalize cmpR (ratP t) a.2=n2 at *
 obtain⟨l,rfl⟩:∃ l,b=some l:=by
  cases b with
  | none=>cases hk
  | some l=>exact⟨l,rfl⟩
 have hk:k<l.length:=hk
 have hl:l.length≤1048576:=hb
 have s1:=spK_set1 t l k hk
 have s0:=spK_set0 t l k hk
 have hlen:=spK_len l
 have hsrc:∀ lv,srcA lv 2 (.c (.d (.sl (l.map spD))))=some (l.length,spK l):=fun lv=>by
  have:=srcA_sl' (lv:=lv) (sz:=2) (es:=l.map spD) (by intro e he;obtain⟨s,_,rfl⟩:=List.mem_map.1 he;rfl)
  rw [List.length_map] at this;exact this
 show CallsP Tryz.prog G 42 [.c (.d (.sl (l.map spD))),.c (.d (.int .i64 (k:Int))),.c (.d (.str t))] _
 have c1:CallsP Tryz.prog G 105 [.c (.d (.sl (l.map spD)))] (.tup [.c (scC (riO (bxI (bxL (some l))))),.c (.d (.int .i64 0))]):=c1
 generalize riO (bxI (bxL (some l)))=o at *
 refine CallsP.ed Go.Proofs.Tryz.func42 rfl fun _=>AW.q ?_
 refine AW.c0 1 c1 ?_
 refine AW.seqK fun K hK=>AW.f3 hlp h1 h2 ?_
 refine AW.fn (by simp [h1,h2] <;> omega) (AW.skip (hK _ _ (AW.seqK fun K hK=>AW.q ?_)))
 refine AW.cn (AW.skip (hK _ _ (AW.c0 2 c2 ?_)))
 refine AW.seqK fun K hK=>AW.seqK fun K1 hK1=>?_
 refine AW.drawP mixed (by kernel_rfl) rfl ?_
 simp [hx,rivD,rD_C,setSeg]
 refine CallDo.p 10 9 d1 ?_
 simp [e1',hx,rivD,rD_C,setSeg]
 refine CallDo.p 10 9 d2 ?_
 simp [e2']
 refine⟨by kernel_rfl,?_⟩
 repeat refine and_o ?_
 apply hK1
 refine AW.fn (by simp [e1',e2'] <;> omega) (AW.skip (hK _ _ (AW.seqK fun K hK=>AW.q ?_)))
 refine AW.cn (AW.skip (hK _ _ (AW.sr fun K hK=>?_)))
 simp [hsrc,repl,fillA,keyOf]
 repeat refine and_o ?_
 apply hK
 refine AW.sr fun K hK=>?_
 simp [hlen,s1,s0]
 repeat refine and_o ?_
 apply hK
 refine AW.q ?_
 simp only [List.getD_eq_getElem?_getD]
 have hbl:bxL (some l)=l:=rfl
 exact AW.ret (κ:=0) (FinD.tmp3' (κ:=0) (X:=.c (.lsl 11 0 l.length 2)) (Y:=.c (.lsl 13 0 l.length 2)) (Z:=.c (.d (.int .i64 0))) rfl (by simp) (by simp) (by simp) rfl rfl rfl
  (dRes3 (e:=0) (dRes_spK (k:=11) (own:=true) (fz:=false) (T:=24) (by simp [hbl]) (by simp [hbl]) (by simp [hbl];omega)) (dRes_spK (k:=13) (own:=true) (fz:=false) (T:=24) (by simp [hbl]) (by simp [hbl]) (by simp [hbl];omega))))
end Go.Am
namespace Go.Am
open Go.Proofs
theorem SpecOK.more {P:Program}{G:List (List DV)}{sp:Tb Spec}{ft:TypeId}(h:SpecOK P G sp ft) (f0:Nat) (g0:List AV→Option AV) (hg:∀ us x,g0 us=some x→∀ lv,AllOk lv→CallG P G f0 us lv (.ret x lv)):SpecOK P G (setS f0 (.pure g0) sp) ft where
 pure:=by
  intro f g us x hf hx lv ho
  rw [setS_get] at hf
  split at hf
  ·rename_i e;subst e;cases hf;exact hg us x hx lv ho
  ·exact h.pure f g us x hf hx lv ho
 caughtR:=by
  intro f hf
  rw [setS_get] at hf
  split at hf
  ·cases hf
  ·exact h.caughtR f hf
 caughtP:=by
  intro f hf
  rw [setS_get] at hf
  split at hf
  ·cases hf
  ·exact h.caughtP f hf
 selfN:=by
  intro f T hf
  rw [setS_get] at hf
  split at hf
  ·cases hf
  ·exact h.selfN f T hf
 selfP:=by
  intro f T hf
  rw [setS_get] at hf
  split at hf
  ·cases hf
  ·exact h.selfP f T hf
end Go.Am
namespace Go.Am
open Go.Proofs N
def unD:List (List DV)→Option (List Nat)
 | []=>some []
 | e::l=>match e with
  | [.int .u32 (.ofNat n)]=>(unD l).map (n::·)
  | _=>none
theorem unD_ok:∀ {es:List (List DV)}{l:List Nat},unD es=some l→es=dK .u32 l
 | [],l,h=>by cases h;rfl
 | e::es,l,h=>by
  unfold unD at h
  split at h
  ·obtain⟨m,hm,rfl⟩:=Option.map_eq_some_iff.1 h
   rw [unD_ok hm];rfl
  ·cases h
def unK:AV→Option (Option (List Nat))
 | .c (.d .nilsl)=>some none
 | .c (.d (.sl es))=>(unD es).map some
 | _=>none
theorem unK_ok {x:AV}{o:Option (List Nat)}(h:unK x=some o):x=nK .u32 o:=by
 unfold unK at h
 split at h
 ·cases h;rfl
 ·obtain⟨m,hm,rfl⟩:=Option.map_eq_some_iff.1 h
  rw [unD_ok hm];rfl
 ·cases h
def canB:List Nat→Bool
 | []=>true
 | d::l=>Nat.blt d 4294967296 && (match l with|[]=>Nat.blt 0 d|_=>true) && canB l
theorem canB_ok:∀ {l:List Nat},canB l=true→can 4294967296 l
 | [],_=>⟨fun d h=>by (cases h),fun x h=>by (cases h)⟩
 | d::l,h=>by
  simp only [canB,Bool.and_eq_true] at h
  obtain⟨⟨h1,h2⟩,h3⟩:=h
  obtain⟨g1,g2⟩:=canB_ok h3
  refine⟨ok_cons.2 ⟨Nat.le_of_ble_eq_true h1,g1⟩,fun x hx=>?_⟩
  cases l with
  | nil=>
   have:d=x:=by simpa using hx
   have h2':0<d:=Nat.le_of_ble_eq_true h2
   omega
  | cons e l=>exact g2 x (by simpa using hx)
def nOK (o:Option (List Nat)):Bool:=canB (dO o) && Nat.ble (dO o).length 1000000
theorem nOK_ok {o:Option (List Nat)}(h:nOK o=true):can 4294967296 (dO o)∧(dO o).length≤1000000:=by
 simp only [nOK,Bool.and_eq_true] at h
 exact⟨canB_ok h.1,Nat.le_of_ble_eq_true h.2⟩
def numA (x:AV):Option (Option (List Nat)):=(unK x).bind fun o=>bif nOK o then some o else none
theorem numA_ok {x:AV}{o:Option (List Nat)}(h:numA x=some o):x=nK .u32 o∧can 4294967296 (dO o)∧(dO o).length≤1000000:=by
 obtain⟨o',h1,h2⟩:=Option.bind_eq_some_iff.1 h
 cases hb:nOK o' with
 | false=>rw [hb] at h2;cases h2
 | true=>
  rw [hb] at h2
  simp only [cond_true,Option.some.injEq] at h2
  subst h2
  exact⟨unK_ok h1,nOK_ok hb⟩
def sp2 (f:Option (List Nat)→Option (List Nat)→Option AV):List AV→Option AV
 | [x,y]=>(numA x).bind fun a=>(numA y).bind fun b=>f a b
 | _=>none
def sp1 (f:Option (List Nat)→Option AV):List AV→Option AV
 | [x]=>(numA x).bind fun a=>f a
 | _=>none
theorem sp2_ok {m:Int}{g:FuncId}{f:Option (List Nat)→Option (List Nat)→Option AV}(hf:∀ a b x,can 4294967296 (dO a)→can 4294967296 (dO b)→(dO a).length≤1000000→(dO b).length≤1000000→f a b=some x→CallsP Tryz.prog (GG m) g [nK .u32 a,nK .u32 b] x∧x.pure=true)
 {us:List AV}{x:AV}(h:sp2 f us=some x) (lv:Key→LB):CallG Tryz.prog (GG m) g us lv (.ret x lv):=by
 unfold sp2 at h
 split at h
 ·obtain⟨a,ha,g1⟩:=Option.bind_eq_some_iff.1 h
  obtain⟨b,hb,g2⟩:=Option.bind_eq_some_iff.1 g1
  obtain⟨rfl,a1,a2⟩:=numA_ok ha
  obtain⟨rfl,b1,b2⟩:=numA_ok hb
  obtain⟨h1,h2⟩:=hf a b x a1 b1 a2 b2 g2
  exact CallG.of_CallsP (fun u hu=>by simp only [List.mem_cons,List.not_mem_nil,or_false] at hu;rcases hu with rfl|rfl <;> exact nK_pure _ _) h2 h1
 ·cases h
theorem sp1_ok {m:Int}{g:FuncId}{f:Option (List Nat)→Option AV}(hf:∀ a x,can 4294967296 (dO a)→(dO a).length≤1000000→f a=some x→CallsP Tryz.prog (GG m) g [nK .u32 a] x∧x.pure=true)
 {us:List AV}{x:AV}(h:sp1 f us=some x) (lv:Key→LB):CallG Tryz.prog (GG m) g us lv (.ret x lv):=by
 unfold sp1 at h
 split at h
 ·obtain⟨a,ha,g1⟩:=Option.bind_eq_some_iff.1 h
  obtain⟨rfl,a1,a2⟩:=numA_ok ha
  obtain⟨h1,h2⟩:=hf a x a1 a2 g1
  exact CallG.of_CallsP (fun u hu=>by simp only [List.mem_cons,List.not_mem_nil,or_false] at hu;rcases hu with rfl;exact nK_pure _ _) h2 h1
 ·cases h
def gMul:=sp2 fun a b=>some (nK .u32 (some (dig 4294967296 (val 4294967296 (dO a)*val 4294967296 (dO b)))))
def gAdd:=sp2 fun a b=>some (nK .u32 (some (dig 4294967296 (val 4294967296 (dO a)+val 4294967296 (dO b)))))
def gSub:=sp2 fun a b=>bif Nat.ble (val 4294967296 (dO b)) (val 4294967296 (dO a)) then some (nK .u32 (some (dig 4294967296 (val 4294967296 (dO a) - val 4294967296 (dO b))))) else none
def gCmp:=sp2 fun a b=>some (.c (.d (.int .i64 (cmpN (val 4294967296 (dO a)) (val 4294967296 (dO b))))))
def gIs1:=sp1 fun a=>some (.c (.d (.bool (Nat.beq (val 4294967296 (dO a)) 1))))
theorem gMul_ok (m:Int){us:List AV}{x:AV}(h:gMul us=some x) (lv:Key→LB):CallG Tryz.prog (GG m) 130 us lv (.ret x lv):=
 sp2_ok (fun a b x _ _ h1 h2 h=>by cases h;exact⟨exact_mul_ok _ a b (by omega) (by omega),nK_pure _ _⟩) h lv
theorem gAdd_ok (m:Int){us:List AV}{x:AV}(h:gAdd us=some x) (lv:Key→LB):CallG Tryz.prog (GG m) 132 us lv (.ret x lv):=
 sp2_ok (fun a b x _ _ h1 h2 h=>by cases h;exact⟨exact_add_ok _ a b (by omega) (by omega),nK_pure _ _⟩) h lv
theorem gSub_ok (m:Int){us:List AV}{x:AV}(h:gSub us=some x) (lv:Key→LB):CallG Tryz.prog (GG m) 134 us lv (.ret x lv):=
 sp2_ok (fun a b x _ _ h1 h2 h=>by
  cases hb:Nat.ble (val 4294967296 (dO b)) (val 4294967296 (dO a)) with
  | false=>rw [hb] at h;cases h
  | true=>
   rw [hb] at h;cases h
   exact⟨exact_sub_ok _ a b (by omega) (Nat.le_of_ble_eq_true hb),nK_pure _ _⟩) h lv
theorem gCmp_ok (m:Int){us:List AV}{x:AV}(h:gCmp us=some x) (lv:Key→LB):CallG Tryz.prog (GG m) 133 us lv (.ret x lv):=
 sp2_ok (fun a b x h3 h4 h1 h2 h=>by cases h;exact⟨exact_cmp_ok h3 h4,rfl⟩) h lv
theorem gIs1_ok (m:Int){us:List AV}{x:AV}(h:gIs1 us=some x) (lv:Key→LB):CallG Tryz.prog (GG m) 93 us lv (.ret x lv):=
 sp1_ok (fun a x h3 h1 h=>by
  cases h
  have:=exact_is1_ok (GG m) a h3
  rw [show decide (val 4294967296 (dO a)=1)=Nat.beq (val 4294967296 (dO a)) 1 by cases e:Nat.beq (val 4294967296 (dO a)) 1 with|true=>simp [Nat.eq_of_beq_eq_true e]|false=>simp [Nat.ne_of_beq_eq_false e]] at this
  exact⟨this,rfl⟩) h lv
def gMade:List AV→Option AV
 | [.c (.d (.bool neg)),x,y]=>(numA x).bind fun p=>(numA y).bind fun q=>bif Nat.blt 0 (val 4294967296 (dO q)) then some (ratV (mkRat (sgI neg (val 4294967296 (dO p))) (val 4294967296 (dO q)))) else none
 | _=>none
theorem gMade_ok (m:Int){us:List AV}{x:AV}(h:gMade us=some x) (lv:Key→LB):CallG Tryz.prog (GG m) 90 us lv (.ret x lv):=by
 unfold gMade at h
 split at h
 ·rename_i neg x' y'
  obtain⟨p,hp,g1⟩:=Option.bind_eq_some_iff.1 h
  obtain⟨q,hq,g2⟩:=Option.bind_eq_some_iff.1 g1
  clear h g1
  obtain⟨rfl,a1,a2⟩:=numA_ok hp
  obtain⟨rfl,b1,b2⟩:=numA_ok hq
  cases hb:Nat.blt 0 (val 4294967296 (dO q)) with
  | false=>rw [hb] at g2;cases g2
  | true=>
   rw [hb] at g2;cases g2
   have hv:0<val 4294967296 (dO q):=Nat.le_of_ble_eq_true hb
   have hq0:dO q≠[]:=fun e=>by rw [e] at hv;exact absurd hv (by decide)
   have:=rat_made (GG m) neg p q a1 b1 hq0 (by omega) (by omega)
   rw [nK_nC,nK_nC]
   exact CallG.of_CallsP (fun u hu=>by
    simp only [List.mem_cons,List.not_mem_nil,or_false] at hu
    rcases hu with rfl|rfl|rfl <;> simp) (by simp) this
 ·cases h
def gShl:List AV→Option AV
 | [x,.c (.d (.int .i64 (.ofNat k)))]=>(numA x).bind fun a=>bif Nat.ble k 1000000 then some (if dO a=[] then nK .u32 none else nK .u32 (some (dig 4294967296 (val 4294967296 (dO a)*2 ^ k)))) else none
 | _=>none
theorem gShl_ok (m:Int){us:List AV}{x:AV}(h:gShl us=some x) (lv:Key→LB):CallG Tryz.prog (GG m) 206 us lv (.ret x lv):=by
 unfold gShl at h
 split at h
 ·rename_i x' k
  obtain⟨a,ha,g1⟩:=Option.bind_eq_some_iff.1 h
  clear h
  obtain⟨rfl,a1,a2⟩:=numA_ok ha
  cases hb:Nat.ble k 1000000 with
  | false=>rw [hb] at g1;cases g1
  | true=>
   rw [hb] at g1;cases g1
   have hk:=Nat.le_of_ble_eq_true hb
   exact CallG.of_CallsP (fun u hu=>by
    simp only [List.mem_cons,List.not_mem_nil,or_false] at hu
    rcases hu with rfl|rfl
    ·exact nK_pure _ _
    ·rfl) (by split <;> exact nK_pure _ _) (exact_shl_ok (GG m) a k (by omega) (by omega))
 ·cases h
def gBits:=sp1 fun a=>some (.c (.d (.int .i64 (blen (val 4294967296 (dO a))))))
theorem gBits_ok (m:Int){us:List AV}{x:AV}(h:gBits us=some x) (lv:Key→LB):CallG Tryz.prog (GG m) 236 us lv (.ret x lv):=
 sp1_ok (fun a x h3 h1 h=>by cases h;exact⟨exact_bits_ok (GG m) a h3 (by omega),rfl⟩) h lv
def gDiv:=sp2 fun a b=>bif Nat.blt 0 (val 4294967296 (dO b)) then some (.tup [nK .u32 (divQ a b),nK .u32 (divR a b)]) else none
theorem gDiv_ok (m:Int){us:List AV}{x:AV}(h:gDiv us=some x) (lv:Key→LB):CallG Tryz.prog (GG m) 150 us lv (.ret x lv):=
 sp2_ok (fun a b x h3 h4 h1 h2 h=>by
  cases hb:Nat.blt 0 (val 4294967296 (dO b)) with
  | false=>rw [hb] at h;cases h
  | true=>
   rw [hb] at h;cases h
   have hv:0<val 4294967296 (dO b):=Nat.le_of_ble_eq_true hb
   exact⟨exact_div_ok _ a b h3 h4 (fun e=>by rw [e] at hv;exact absurd hv (by decide)) (by omega),tup2_pure _ _⟩) h lv
def gOf:List AV→Option AV
 | [.c (.d (.int .u64 (.ofNat n)))]=>bif Nat.blt n 18446744073709551616 then some (nK .u32 (some (dig 4294967296 n))) else none
 | _=>none
theorem gOf_ok (m:Int){us:List AV}{x:AV}(h:gOf us=some x) (lv:Key→LB):CallG Tryz.prog (GG m) 92 us lv (.ret x lv):=by
 unfold gOf at h
 split at h
 ·rename_i n
  cases hb:Nat.blt n 18446744073709551616 with
  | false=>rw [hb] at h;cases h
  | true=>
   rw [hb] at h;cases h
   exact CallG.of_CallsP (fun u hu=>by
    simp only [List.mem_cons,List.not_mem_nil,or_false] at hu
    rcases hu with rfl;rfl) (nK_pure _ _) (exact_of_ok (GG m) n (Nat.le_of_ble_eq_true hb))
 ·cases h
def gSmall:List AV→Option AV
 | [x,.c (.d (.int .u32 (.ofNat b)))]=>(numA x).bind fun a=>bif Nat.blt 0 b then some (.tup [nK .u32 (some (dig 4294967296 (val 4294967296 (dO a) / b))),.c (.d (.int .u32 ((val 4294967296 (dO a) % b:Nat):Int)))]) else none
 | _=>none
theorem gSmall_ok (m:Int){us:List AV}{x:AV}(h:gSmall us=some x) (lv:Key→LB):CallG Tryz.prog (GG m) 177 us lv (.ret x lv):=by
 unfold gSmall at h
 split at h
 ·rename_i x' b
  obtain⟨a,ha,g1⟩:=Option.bind_eq_some_iff.1 h
  clear h
  obtain⟨rfl,a1,a2⟩:=numA_ok ha
  cases hb:Nat.blt 0 b with
  | false=>rw [hb] at g1;cases g1
  | true=>
   rw [hb] at g1;cases g1
   have hb':0<b:=Nat.le_of_ble_eq_true hb
   exact CallG.of_CallsP (fun u hu=>by
    simp only [List.mem_cons,List.not_mem_nil,or_false] at hu
    rcases hu with rfl|rfl
    ·exact nK_pure _ _
    ·rfl) rfl (exact_small_ok (GG m) a b (by omega) (by omega))
 ·cases h
end Go.Am
namespace Go.Am
open Go.Proofs
noncomputable def forceDD {β:Type}(d:DV) (k:DV→β):β:=
 DV.casesOn (motive_1:=fun _=>β) d (fun b=>forceBool b fun b=>k (.bool b)) (fun q n=>forceInt n fun n=>k (.int q n)) (fun s=>forceL forceByte s fun s=>k (.str s)) (k .nilp) (fun cs=>k (.ptr cs)) (k .nilsl)
  (fun es=>forceL (forceL forceD) es fun es=>k (.sl es)) (fun cs=>k (.agg cs)) (k .nilIface) (fun t v=>k (.iface t v)) (k .nilFunc) (fun f a b=>k (.func f a b)) (k .nilmap)
theorem forceDD_eq {β:Type}(d:DV) (k:DV→β):forceDD d k=k d:=by
 cases d <;> simp only [forceDD] <;> first|exact forceBool_eq _ _|exact forceInt_eq _ _|exact forceL_eq _ forceByte_eq _ _|exact forceL_eq _ (forceL_eq _ forceD_eq) _ _|rfl
noncomputable def forceCC {β:Type}(x:CV) (k:CV→β):β:=
 CV.casesOn (motive:=fun _=>β) x (fun d=>forceDD d fun d=>k (.d d)) (fun a b=>k (.ptr a b)) (fun a b c d=>k (.lsl a b c d)) (fun a=>k (.mapr a)) (fun f a b=>k (.func f a b)) (fun t r=>k (.ifc t r)) (k .junk)
theorem forceCC_eq {β:Type}(x:CV) (k:CV→β):forceCC x k=k x:=by cases x <;> simp only [forceCC,forceDD_eq]
noncomputable def forceAA0 {β:Type}(x:AV) (k:AV→β):β:=
 AV.casesOn (motive_1:=fun _=>β) x (fun c=>forceCC c fun c=>k (.c c)) (fun l=>forceL forceCC l fun l=>k (.agg l)) (fun l=>k (.tup l)) (k .undef) (k .junk)
theorem forceAA0_eq {β:Type}(x:AV) (k:AV→β):forceAA0 x k=k x:=by cases x <;> simp only [forceAA0,forceCC_eq,forceL_eq _ forceCC_eq]
noncomputable def forceAA {β:Type}(x:AV) (k:AV→β):β:=
 AV.casesOn (motive_1:=fun _=>β) x (fun c=>forceCC c fun c=>k (.c c)) (fun l=>forceL forceCC l fun l=>k (.agg l)) (fun l=>forceL forceAA0 l fun l=>k (.tup l)) (k .undef) (k .junk)
theorem forceAA_eq {β:Type}(x:AV) (k:AV→β):forceAA x k=k x:=by cases x <;> simp only [forceAA,forceCC_eq,forceL_eq _ forceCC_eq,forceL_eq _ forceAA0_eq]
noncomputable def gF (g:List AV→Option AV)(us:List AV):Option AV:=Option.rec (motive:=fun _=>Option AV) none (fun x=>forceAA x some) (g us)
theorem gF_eq (g:List AV→Option AV)(us:List AV):gF g us=g us:=by
 unfold gF;cases g us with
 | none=>rfl
 | some x=>exact forceAA_eq _ _
theorem SpecOK.f {P:Program}{G:List (List DV)}{sp:Tb Spec}{ft:TypeId}(h:SpecOK P G sp ft) (f0:Nat) (g0:List AV→Option AV) (hg:∀ {us x},g0 us=some x→∀ lv,CallG P G f0 us lv (.ret x lv)):SpecOK P G (setS f0 (.pure (gF g0)) sp) ft:=
 h.more f0 (gF g0) fun us x hx lv _=>hg (by rw [gF_eq] at hx;exact hx) lv
noncomputable def spW:Tb Spec:=setS 130 (.pure (gF gMul)) (setS 132 (.pure (gF gAdd)) (setS 134 (.pure (gF gSub)) (setS 133 (.pure (gF gCmp)) (setS 93 (.pure (gF gIs1)) (setS 90 (.pure (gF gMade)) (setS 206 (.pure (gF gShl)) (setS 236 (.pure (gF gBits)) (setS 150 (.pure (gF gDiv)) (setS 92 (.pure (gF gOf)) (setS 177 (.pure (gF gSmall)) (setS 91 (.pure (gF gRead)) spA)))))))))))
theorem spW_ok (m:Int):SpecOK Tryz.prog (GG m) spW 0:=
 ((((((((((((spA_ok m).f 91 gRead (gRead_ok m)).f 177 gSmall (gSmall_ok m)).f 92 gOf (gOf_ok m)).f 150 gDiv (gDiv_ok m)).f 236 gBits (gBits_ok m)).f 206 gShl (gShl_ok m)).f 90 gMade (gMade_ok m)).f 93 gIs1 (gIs1_ok m)).f 133 gCmp (gCmp_ok m)).f 134 gSub (gSub_ok m)).f 132 gAdd (gAdd_ok m)).f 130 gMul (gMul_ok m)
end Go.Am
namespace Go.Am
open Go.Proofs N
def eqNL:List Nat→List Nat→Bool
 | [],[]=>true
 | a::l,b::m=>Nat.beq a b && eqNL l m
 | _,_=>false
theorem eqNL_eq:∀ {l m:List Nat},eqNL l m=true→l=m
 | [],[],_=>rfl
 | a::l,b::m,h=>by
  simp only [eqNL,Bool.and_eq_true] at h
  rw [Nat.eq_of_beq_eq_true h.1,eqNL_eq h.2]
 | [],_::_,h=>by cases h
 | _::_,[],h=>by cases h
def eqO:Option (List Nat)→Option (List Nat)→Bool
 | none,none=>true
 | some l,some m=>eqNL l m
 | _,_=>false
theorem eqO_eq {o p:Option (List Nat)}(h:eqO o p=true):o=p:=by
 cases o <;> cases p <;> first|rfl|cases h|exact congrArg some (eqNL_eq h)
def eqB2 (a b:Bool):Bool:=match a with|true=>b|false=>!b
theorem eqB2_eq {a b:Bool}(h:eqB2 a b=true):a=b:=by cases a <;> cases b <;> first|rfl|cases h
def rdQ (neg:Bool)(po qo:Option (List Nat)):Rat:=mkRat (sgI neg (val 4294967296 (dO po))) (match qo with|none=>1|some l=>val 4294967296 l)
def okQ (neg:Bool)(po qo:Option (List Nat))(x:Rat):Bool:=eqB2 neg (decide (x.num<0)) && (eqO po (natO x.num.natAbs) && (eqO qo (denO x.den) && (Nat.ble (dO po).length 1000 && Nat.ble (dO qo).length 1000)))
def unQ (a p q:CV):Option Rat:=match a with
 | .d (.bool neg)=>(unK (.c p)).bind fun po=>(unK (.c q)).bind fun qo=>bif okQ neg po qo (rdQ neg po qo) then some (rdQ neg po qo) else none
 | _=>none
theorem unQ_ok {a p q:CV}{x:Rat}(h:unQ a p q=some x):a=.d (.bool (decide (x.num<0)))∧p=nC (natO x.num.natAbs)∧q=nC (denO x.den)∧szR x 1000:=by
 unfold unQ at h
 split at h
 ·rename_i neg
  obtain⟨po,h1,k1⟩:=Option.bind_eq_some_iff.1 h
  obtain⟨qo,h2,k2⟩:=Option.bind_eq_some_iff.1 k1
  have e1:=unK_ok h1
  have e2:=unK_ok h2
  rw [nK_nC] at e1 e2
  cases hb:okQ neg po qo (rdQ neg po qo) with
  | false=>rw [hb] at k2;cases k2
  | true=>
   rw [hb] at k2
   simp only [cond_true,Option.some.injEq] at k2
   rw [k2] at hb
   simp only [okQ,Bool.and_eq_true] at hb
   obtain⟨b1,b2,b3,b4,b5⟩:=hb
   have c1:=eqB2_eq b1
   have c2:=eqO_eq b2
   have c3:=eqO_eq b3
   have d4:=Nat.le_of_ble_eq_true b4
   have d5:=Nat.le_of_ble_eq_true b5
   injection e1 with e1
   injection e2 with e2
   refine⟨by rw [c1],by rw [e1,c2],by rw [e2,c3],?_,?_⟩
   ·rw [c2,natO_len] at d4;exact d4
   ·rw [c3] at d5
    unfold denO at d5
    split at d5
    ·rename_i hd;rw [hd,nl_one];decide
    ·exact d5
 ·cases h
def unR:AV→Option Rat
 | .agg [a,p,q]=>unQ a p q
 | _=>none
theorem unR_ok {v:AV}{x:Rat}(h:unR v=some x):v=ratV x∧szR x 1000:=by
 unfold unR at h
 split at h
 ·obtain⟨rfl,rfl,rfl,hs⟩:=unQ_ok h
  exact⟨rfl,hs⟩
 ·cases h
def leQ (x y:Rat):Bool:=decide (x≤y)
def unI:AV→Option Iv
 | .agg [a,p,q,a',p',q']=>(unQ a p q).bind fun x=>(unQ a' p' q').bind fun y=>bif leQ x y then some (x,y) else none
 | _=>none
theorem unI_ok {v:AV}{a:Iv}(h:unI v=some a):v=ivV a∧a.sz 1000∧a.1≤a.2:=by
 unfold unI at h
 split at h
 ·obtain⟨x,h1,k1⟩:=Option.bind_eq_some_iff.1 h
  obtain⟨y,h2,k2⟩:=Option.bind_eq_some_iff.1 k1
  obtain⟨rfl,rfl,rfl,hs⟩:=unQ_ok h1
  obtain⟨rfl,rfl,rfl,hs'⟩:=unQ_ok h2
  cases hb:leQ x y with
  | false=>rw [hb] at k2;cases k2
  | true=>rw [hb] at k2;cases k2;exact⟨rfl,⟨hs,hs'⟩,of_decide_eq_true hb⟩
 ·cases h
theorem ratV_pure (x:Rat):(ratV x).pure=true:=nmA_pure _ _ _
theorem ivV_pure (a:Iv):(ivV a).pure=true:=iv_pure _ _ _ _ _ _
def q1 (f:Rat→Option AV):List AV→Option AV
 | [x]=>(unR x).bind f
 | _=>none
def q2 (f:Rat→Rat→Option AV):List AV→Option AV
 | [x,y]=>(unR x).bind fun a=>(unR y).bind fun b=>f a b
 | _=>none
def qi (f:Rat→Int→Option AV):List AV→Option AV
 | [x,.c (.d (.int .i64 n))]=>(unR x).bind fun a=>f a n
 | _=>none
def v1 (f:Iv→Option AV):List AV→Option AV
 | [x]=>(unI x).bind f
 | _=>none
def v2 (f:Iv→Iv→Option AV):List AV→Option AV
 | [x,y]=>(unI x).bind fun a=>(unI y).bind fun b=>f a b
 | _=>none
def vi (f:Iv→Int→Option AV):List AV→Option AV
 | [x,.c (.d (.int .i64 n))]=>(unI x).bind fun a=>f a n
 | _=>none
def vq (f:Iv→Rat→Option AV):List AV→Option AV
 | [x,y]=>(unI x).bind fun a=>(unR y).bind fun b=>f a b
 | _=>none
section
variable {m:Int}{g:FuncId}{us:List AV}{x:AV}
theorem q1_ok {f:Rat→Option AV}(hf:∀ a x,szR a 1000→f a=some x→CallsP Tryz.prog (GG m) g [ratV a] x∧x.pure=true) (h:q1 f us=some x) (lv:Key→LB):CallG Tryz.prog (GG m) g us lv (.ret x lv):=by
 unfold q1 at h;split at h
 ·obtain⟨a,ha,k1⟩:=Option.bind_eq_some_iff.1 h
  obtain⟨rfl,sa⟩:=unR_ok ha
  obtain⟨h1,h2⟩:=hf a x sa k1
  exact CallG.of_CallsP (fun u hu=>by simp only [List.mem_cons,List.not_mem_nil,or_false] at hu;subst hu;exact ratV_pure a) h2 h1
 ·cases h
theorem q2_ok {f:Rat→Rat→Option AV}(hf:∀ a b x,szR a 1000→szR b 1000→f a b=some x→CallsP Tryz.prog (GG m) g [ratV a,ratV b] x∧x.pure=true) (h:q2 f us=some x) (lv:Key→LB):CallG Tryz.prog (GG m) g us lv (.ret x lv):=by
 unfold q2 at h;split at h
 ·obtain⟨a,ha,k1⟩:=Option.bind_eq_some_iff.1 h
  obtain⟨b,hb,k2⟩:=Option.bind_eq_some_iff.1 k1
  obtain⟨rfl,sa⟩:=unR_ok ha
  obtain⟨rfl,sb⟩:=unR_ok hb
  obtain⟨h1,h2⟩:=hf a b x sa sb k2
  exact CallG.of_CallsP (fun u hu=>by simp only [List.mem_cons,List.not_mem_nil,or_false] at hu;rcases hu with rfl|rfl;exact ratV_pure a;exact ratV_pure b) h2 h1
 ·cases h
theorem qi_ok {f:Rat→Int→Option AV}(hf:∀ a n x,szR a 1000→f a n=some x→CallsP Tryz.prog (GG m) g [ratV a,.c (.d (.int .i64 n))] x∧x.pure=true) (h:qi f us=some x) (lv:Key→LB):CallG Tryz.prog (GG m) g us lv (.ret x lv):=by
 unfold qi at h;split at h
 ·rename_i n
  obtain⟨a,ha,k1⟩:=Option.bind_eq_some_iff.1 h
  obtain⟨rfl,sa⟩:=unR_ok ha
  obtain⟨h1,h2⟩:=hf a n x sa k1
  exact CallG.of_CallsP (fun u hu=>by simp only [List.mem_cons,List.not_mem_nil,or_false] at hu;rcases hu with rfl|rfl;exact ratV_pure a;rfl) h2 h1
 ·cases h
theorem v2_ok {f:Iv→Iv→Option AV}(hf:∀ a b x,a.sz 1000→b.sz 1000→a.1≤a.2→b.1≤b.2→f a b=some x→CallsP Tryz.prog (GG m) g [ivV a,ivV b] x∧x.pure=true) (h:v2 f us=some x) (lv:Key→LB):CallG Tryz.prog (GG m) g us lv (.ret x lv):=by
 unfold v2 at h;split at h
 ·obtain⟨a,ha,k1⟩:=Option.bind_eq_some_iff.1 h
  obtain⟨b,hb,k2⟩:=Option.bind_eq_some_iff.1 k1
  obtain⟨rfl,sa,la⟩:=unI_ok ha
  obtain⟨rfl,sb,lb⟩:=unI_ok hb
  obtain⟨h1,h2⟩:=hf a b x sa sb la lb k2
  exact CallG.of_CallsP (fun u hu=>by simp only [List.mem_cons,List.not_mem_nil,or_false] at hu;rcases hu with rfl|rfl;exact ivV_pure a;exact ivV_pure b) h2 h1
 ·cases h
theorem vi_ok {f:Iv→Int→Option AV}(hf:∀ a n x,a.sz 1000→a.1≤a.2→f a n=some x→CallsP Tryz.prog (GG m) g [ivV a,.c (.d (.int .i64 n))] x∧x.pure=true) (h:vi f us=some x) (lv:Key→LB):CallG Tryz.prog (GG m) g us lv (.ret x lv):=by
 unfold vi at h;split at h
 ·rename_i n
  obtain⟨a,ha,k1⟩:=Option.bind_eq_some_iff.1 h
  obtain⟨rfl,sa,la⟩:=unI_ok ha
  obtain⟨h1,h2⟩:=hf a n x sa la k1
  exact CallG.of_CallsP (fun u hu=>by simp only [List.mem_cons,List.not_mem_nil,or_false] at hu;rcases hu with rfl|rfl;exact ivV_pure a;rfl) h2 h1
 ·cases h
theorem vq_ok {f:Iv→Rat→Option AV}(hf:∀ a b x,a.sz 1000→szR b 1000→a.1≤a.2→f a b=some x→CallsP Tryz.prog (GG m) g [ivV a,ratV b] x∧x.pure=true) (h:vq f us=some x) (lv:Key→LB):CallG Tryz.prog (GG m) g us lv (.ret x lv):=by
 unfold vq at h;split at h
 ·obtain⟨a,ha,k1⟩:=Option.bind_eq_some_iff.1 h
  obtain⟨b,hb,k2⟩:=Option.bind_eq_some_iff.1 k1
  obtain⟨rfl,sa,la⟩:=unI_ok ha
  obtain⟨rfl,sb⟩:=unR_ok hb
  obtain⟨h1,h2⟩:=hf a b x sa sb la k2
  exact CallG.of_CallsP (fun u hu=>by simp only [List.mem_cons,List.not_mem_nil,or_false] at hu;rcases hu with rfl|rfl;exact ivV_pure a;exact ratV_pure b) h2 h1
 ·cases h
end
theorem szK {x:Rat}{L:Nat}(h:szR x 1000) (hL:1000≤L:=by decide):szR x L:=szR_mono h hL
theorem szI {a:Iv}{L:Nat}(h:a.sz 1000) (hL:1000≤L:=by decide):a.sz L:=Iv.sz_mono h hL
abbrev iA (n:Int):AV:=.c (.d (.int .i64 n))
theorem tupR_pure (x:Rat)(n:Int):(AV.tup [ratV x,iA n]).pure=true:=tup_num_pure _ _ _ _
noncomputable def spX:Tb Spec:=
 setS 72 (.pure (gF (q2 fun a b=>some (ratV (a+b))))) <|
 setS 74 (.pure (gF (q2 fun a b=>some (ratV (a - b))))) <|
 setS 75 (.pure (gF (q2 fun a b=>some (ratV (a*b))))) <|
 setS 99 (.pure (gF (q2 fun a b=>some (iA (cmpR a b))))) <|
 setS 79 (.pure (gF (q2 fun a b=>some (ratV (minR a b))))) <|
 setS 78 (.pure (gF (q2 fun a b=>some (ratV (maxR a b))))) <|
 setS 125 (.pure (gF (q2 fun a b=>some (.tup [ratV (a / b),iA (if b=0 then 8 else 0)])))) <|
 setS 70 (.pure (gF (q1 fun a=>some (ratV (-a))))) <|
 setS 101 (.pure (gF (q1 fun a=>some (ratV (absQ a))))) <|
 setS 83 (.pure (gF (qi fun a n=>some (ratV (downR a n))))) <|
 setS 84 (.pure (gF (qi fun a n=>some (ratV (upR a n))))) <|
 setS 19 (.pure (gF (v2 fun a b=>some (ivV (a.add b))))) <|
 setS 21 (.pure (gF (v2 fun a b=>some (ivV (a.sub b))))) <|
 setS 23 (.pure (gF (v2 fun a b=>some (ivV (a.mul b))))) <|
 setS 28 (.pure (gF (v2 fun a b=>some (ivV (a.join b))))) <|
 setS 30 (.pure (gF (vi fun a n=>some (ivV (downR a.1 n,upR a.2 n))))) <|
 setS 34 (.pure (gF (vq fun a b=>some (.c (.d (.bool (decide (a.has b)))))))) spW
theorem spX_ok (m:Int):SpecOK Tryz.prog (GG m) spX 0:=
 (((((((((((((((((spW_ok m).f _ _ (vq_ok fun a b x sa sb la h=>by cases h;exact⟨iv_Has _ a b (szI sa) (szK sb),rfl⟩)).f _ _ (vi_ok fun a n x sa la h=>by cases h;exact⟨iv_Out _ a n (szI sa),ivV_pure _⟩)).f _ _
  (v2_ok fun a b x sa sb la lb h=>by cases h;exact⟨iv_Join _ a b (szI sa) (szI sb),ivV_pure _⟩)).f _ _
  (v2_ok fun a b x sa sb la lb h=>by cases h;exact⟨iv_Mul _ a b (szI sa) (szI sb) la lb,ivV_pure _⟩)).f _ _
  (v2_ok fun a b x sa sb la lb h=>by cases h;exact⟨iv_Sub _ a b (szI sa) (szI sb),ivV_pure _⟩)).f _ _
  (v2_ok fun a b x sa sb la lb h=>by cases h;exact⟨iv_Add _ a b (szI sa) (szI sb),ivV_pure _⟩)).f _ _
  (qi_ok fun a n x sa h=>by cases h;exact⟨rat_Up _ a n (szK sa),ratV_pure _⟩)).f _ _
  (qi_ok fun a n x sa h=>by cases h;exact⟨rat_Down _ a n (szK sa),ratV_pure _⟩)).f _ _
  (q1_ok fun a x sa h=>by cases h;exact⟨rat_Ab _ a,ratV_pure _⟩)).f _ _
  (q1_ok fun a x sa h=>by cases h;exact⟨rat_Neg _ a,ratV_pure _⟩)).f _ _
  (q2_ok fun a b x sa sb h=>by cases h;exact⟨rat_Quo _ a b (szK sa) (szK sb),tupR_pure _ _⟩)).f _ _
  (q2_ok fun a b x sa sb h=>by cases h;exact⟨rat_Max _ a b (szK sa) (szK sb),ratV_pure _⟩)).f _ _
  (q2_ok fun a b x sa sb h=>by cases h;exact⟨rat_Min _ a b (szK sa) (szK sb),ratV_pure _⟩)).f _ _
  (q2_ok fun a b x sa sb h=>by cases h;exact⟨rat_Cmp _ a b (szK sa) (szK sb),rfl⟩)).f _ _
  (q2_ok fun a b x sa sb h=>by cases h;exact⟨rat_Mul _ a b (szK sa) (szK sb),ratV_pure _⟩)).f _ _
  (q2_ok fun a b x sa sb h=>by cases h;exact⟨rat_Sub _ a b (szK sa) (szK sb),ratV_pure _⟩)).f _ _
  (q2_ok fun a b x sa sb h=>by cases h;exact⟨rat_Add _ a b (szK sa) (szK sb),ratV_pure _⟩)
theorem evX_ok (m:Int)(n:Nat):CallOK Tryz.prog (GG m) (evK Tryz.prog (GG m) spX 0 n):=evK_ok mixed (spX_ok m) n
end Go.Am
namespace Go.Am
open Go.Am.Ty Go.Proofs N
def decU (n:Nat):List UInt8:=if n=0 then [48] else (dig 10 n).reverse.map fun d=>UInt8.ofNat (48+d)
def eqB:List UInt8→List UInt8→Bool
 | [],[]=>true
 | a::l,b::m=>Nat.beq a.toNat b.toNat && eqB l m
 | _,_=>false
theorem eqB_eq:∀ {l m:List UInt8},eqB l m=true→l=m
 | [],[],_=>rfl
 | a::l,b::m,h=>by
  simp only [eqB,Bool.and_eq_true] at h
  rw [UInt8.toNat_inj.1 (Nat.eq_of_beq_eq_true h.1),eqB_eq h.2]
 | [],_::_,h=>by cases h
 | _::_,[],h=>by cases h
noncomputable def smT (G:List (List DV)):Bool:=(List.range 100).all fun i=>match finK (evK Tryz.prog G spX 0 40 255 [.c (.d (.int .i64 (.ofNat i)))] .leaf 0 [] kDone .pan) with
 | some (.c (.d (.str s)))=>eqB s (decU i)
 | _=>false
theorem smT_ok (m:Int):smT (GG m)=true:=by kernel_rfl
theorem small_ok (m:Int)(i:Nat)(hi:i<100):CallsP Tryz.prog (GG m) 255 [.c (.d (.int .i64 i))] (.c (.d (.str (decU i)))):=by
 have h:=List.all_eq_true.1 (smT_ok m) i (List.mem_range.2 hi)
 split at h
 ·rename_i s hs
  have:=CallsP.of_ev (evX_ok m 40) hs
  rw [eqB_eq h] at this
  exact this
 ·cases h
theorem bool2_ok (G:List (List DV))(b:Bool):CallsP Tryz.prog G 276 [.c (.d (.bool b))] (.c (.d (.int .i64 (if b then 1 else 0)))):=by
 cases b with
 | true=>
  refine CallsP.en Go.Proofs.Tryz.func276 rfl fun _=>AW.q ?_
  refine AW.seqK fun K hK=>AW.q ?_
  refine AW.cy (AW.q ?_)
  exact AW.r0 (FinP.rt rfl 2 (by simp))
 | false=>
  refine CallsP.en Go.Proofs.Tryz.func276 rfl fun _=>AW.q ?_
  refine AW.seqK fun K hK=>AW.q ?_
  refine AW.cn (AW.skip (hK _ _ (AW.q ?_)))
  exact AW.r0 (FinP.rt rfl 2 (by simp))
theorem log10Pow2_ok (G:List (List DV))(x:Nat)(hx:x≤64):CallsP Tryz.prog G 274 [.c (.d (.int .i64 x))] (.c (.d (.int .i64 ((x*78913 / 262144:Nat):Int)))):=by
 have w1:=w64 (n:=(x:Int)*78913) (by omega) (by omega)
 have e1:Int.fdiv ((x:Int)*78913) 262144=((x*78913 / 262144:Nat):Int):=by rw [Int.fdiv_eq_ediv_of_nonneg _ (by omega)];omega
 refine CallsP.en Go.Proofs.Tryz.func274 rfl fun _=>AW.q ?_
 refine AW.sr fun K hK=>?_
 simp [w1,IntKind.bits,e1,-Int.natCast_ediv]
 repeat refine and_o ?_
 apply hK
 exact AW.r0 (FinP.rt rfl 2 (by simp))
theorem bits_Len64_ok (G:List (List DV))(n:Nat)(hn:n<4294967296):CallsP Tryz.prog G 275 [.c (.d (.int .u64 n))] (.c (.d (.int .i64 (blen n)))):=by
 have h0:¬ (4294967296:Int)≤n:=by omega
 have w16:IntKind.i64.wrap 16=16:=w64 (by omega) (by omega)
 refine CallsP.en Go.Proofs.Tryz.func275 rfl fun _=>AW.q ?_
 refine AW.seqK fun K hK=>AW.f1 h0 ?_
 refine AW.fn (by simp [h0] <;> omega) (AW.skip (hK _ _ (AW.seqK fun K hK=>AW.q ?_)))
 have step2:∀ (x m:Nat) (fr:Nat→AV) (κ:Nat),x<65536→m≤16→blen n=m+blen x→fr 0=.c (.d (.int .u64 x))→fr 2=.c (.d (.int .i64 m))→K ⟨fr,fun _=>.hole⟩ κ:=by
  intro x m fr κ hx hm hb f0 f2
  repeat refine and_o ?_
  apply hK
  refine AW.seqK fun K hK=>AW.f1 f0 ?_
  have step3:∀ (x m:Nat) (fr:Nat→AV) (κ:Nat),x<256→m≤24→blen n=m+blen x→fr 0=.c (.d (.int .u64 x))→fr 2=.c (.d (.int .i64 m))→K ⟨fr,fun _=>.hole⟩ κ:=by
   intro x m fr κ hx hm hb f0 f2
   repeat refine and_o ?_
   apply hK
   refine AW.seqK fun K hK=>?_
   have e1:IntKind.u8.wrap (x:Int)=x:=wrap_in ⟨by simp only [loK];omega,by simp only [hiK];omega⟩
   have hbl:blen x≤8:=by
    by_cases h0:x=0
    ·subst h0;decide
    ·have:=blen_le h0
     apply Classical.byContradiction
     intro hc
     have h9:2 ^ 8≤2 ^ (blen x - 1):=Nat.pow_le_pow_right (by decide) (by omega)
     omega
   refine AW.rP ?_
   simp [f0,f2,e1]
   rw [len8 (x:=x) (hx:=hx)]
   ·have e2:=w64 (n:=(blen x:Int)) (by omega) (by omega)
    have e3:=w64 (n:=(m:Int)+blen x) (by omega) (by omega)
    rw [e2,e3]
    repeat refine and_o ?_
    apply hK
    exact AW.r0 (FinP.rt rfl 0 (by simp [hb]))
   ·kernel_rfl
  by_cases h:256≤x
  ·refine AW.fy (by simp [h] <;> omega) ?_
   have e1:Int.fdiv (x:Int) 256=((x / 256:Nat):Int):=by rw [Int.fdiv_eq_ediv_of_nonneg _ (by omega)];omega
   have e2:=w64 (n:=(m:Int)+8) (by omega) (by omega)
   refine AW.sr fun K1 hK1=>?_
   simp [f0,IntKind.bits,e1,-Int.natCast_ediv]
   repeat refine and_o ?_
   apply hK1
   refine AW.rP ?_
   simp [f2,e2]
   refine step3 (x / 256) (m+8) _ _ (by omega) (by omega) ?_ (by simp) (by simp)
   have:=blen_shift (n:=x) (k:=8) (by omega)
   rw [hb,this];simp;omega
  ·refine AW.fn (by simp [h] <;> omega) (AW.skip ?_)
   simp
   exact step3 x m _ _ (by omega) (by omega) hb (by simp [f0]) (by simp [f2])
 by_cases h:65536≤n
 ·refine AW.fy (by simp [h] <;> omega) ?_
  have e1:Int.fdiv (n:Int) 65536=((n / 65536:Nat):Int):=by rw [Int.fdiv_eq_ediv_of_nonneg _ (by omega)];omega
  refine AW.sr fun K1 hK1=>?_
  simp [IntKind.bits,e1,-Int.natCast_ediv]
  repeat refine and_o ?_
  apply hK1
  refine AW.rP ?_
  simp [w16]
  refine step2 (n / 65536) 16 _ _ (by omega) (by omega) ?_ (by simp) (by simp)
  have:=blen_shift (n:=n) (k:=16) (by omega)
  rw [this];simp;omega
 ·refine AW.fn (by simp [h] <;> omega) (AW.skip ?_)
  simp
  exact step2 n 0 _ _ (by omega) (by omega) (by simp) (by simp) (by simp)
def tblP:List DV:=[.int .u64 1,.int .u64 10,.int .u64 100,.int .u64 1000,.int .u64 10000,.int .u64 100000,.int .u64 1000000,.int .u64 10000000,.int .u64 100000000,.int .u64 1000000000,.int .u64 10000000000,.int .u64 100000000000,.int .u64 1000000000000,.int .u64 10000000000000,.int .u64 100000000000000,.int .u64 1000000000000000,.int .u64 10000000000000000,.int .u64 100000000000000000,.int .u64 1000000000000000000,.int .u64 10000000000000000000]
theorem GGp (m:Int):(GG m)[2]?=some tblP:=rfl
theorem ixP {l:Nat}(h:l≤9):∃ rest,∀ lv:Key→LB,stepIndexAddr Tryz.prog 319 lv (.c (.d (.ptr tblP))) (.c (.d (.int .i64 (l:Int))))=some (.c (.d (.ptr (.int .u64 ((10 ^ l:Nat):Int)::rest))),[],[],True):=by
 have ha:arT Tryz.prog 319=some (20,123,1):=by kernel_rfl
 have key:∀ (l:Nat) (rest:List DV),l<20→tblP.drop l=.int .u64 ((10 ^ l:Nat):Int)::rest→∃ rest,∀ lv:Key→LB,stepIndexAddr Tryz.prog 319 lv (.c (.d (.ptr tblP))) (.c (.d (.int .i64 (l:Int))))=some (.c (.d (.ptr (.int .u64 ((10 ^ l:Nat):Int)::rest))),[],[],True):=by
  intro l rest g2 g3
  refine⟨rest,fun lv=>?_⟩
  unfold stepIndexAddr
  rw [ha]
  show some (AV.c (.d (.ptr (tblP.drop ((l:Int).toNat*1)))),([]:List (Key × LB)),([]:List Key),(0≤(l:Int)∧(l:Int)<((20:Nat):Int)∧(l:Int).toNat*1≤tblP.length))=_
  rw [Int.toNat_natCast,Nat.mul_one,g3,eq_true (show 0≤(l:Int)∧(l:Int)<((20:Nat):Int)∧l≤tblP.length from ⟨by omega,by omega,by show l≤20;omega⟩)]
 have h:l=0∨l=1∨l=2∨l=3∨l=4∨l=5∨l=6∨l=7∨l=8∨l=9:=by omega
 rcases h with rfl|rfl|rfl|rfl|rfl|rfl|rfl|rfl|rfl|rfl <;> exact key _ _ (by decide) rfl
def ndig (n:Nat):Nat:=(dig 10 n).length
theorem ndig_of {n k:Nat}(h1:10 ^ k≤n) (h2:n<10 ^ (k+1)):ndig n=k+1:=by
 have g1:=dig_len_le (B:=10) (by decide) h2
 have g2:=dig_lt (B:=10) (n:=n) (by decide)
 have g3:k<(dig 10 n).length:=(Nat.pow_lt_pow_iff_right (a:=10) (by decide)).1 (Nat.lt_of_le_of_lt h1 g2)
 unfold ndig;omega
theorem ndig_lt (n:Nat):n<10 ^ ndig n:=dig_lt (by decide)
theorem l10:∀ b,b≤30→1≤b→2 ^ b≤10 ^ (b*78913 / 262144+1)∧b*78913 / 262144≤9∧(b*78913 / 262144=0∨10 ^ (b*78913 / 262144 - 1)≤2 ^ (b - 1)):=by decide
theorem numDigits_n {n:Nat}(h0:n≠0) (hn:n<1000000000):blen n*78913 / 262144≤9∧ndig n=blen n*78913 / 262144+if 10 ^ (blen n*78913 / 262144)≤n then 1 else 0:=by
 have b1:1≤blen n:=by unfold blen;rw [if_neg h0];omega
 have b2:blen n≤30:=by
  have:=blen_le h0
  apply Classical.byContradiction
  intro hc
  have h9:2 ^ 30≤2 ^ (blen n - 1):=Nat.pow_le_pow_right (by decide) (by omega)
  omega
 obtain⟨g1,g2,g3⟩:=l10 (blen n) b2 b1
 have g4:=blen_lt n
 have g5:=blen_le h0
 generalize blen n*78913 / 262144=l at *
 refine⟨g2,?_⟩
 split
 ·rename_i h;exact ndig_of h (by omega)
 ·rename_i h
  have h:n<10 ^ l:=Nat.not_le.1 h
  cases l with
  | zero=>exact absurd h (by simpa using h0)
  | succ l=>
   rcases g3 with g3|g3
   ·omega
   ·rw [Nat.add_zero];exact ndig_of (by simp only [Nat.add_sub_cancel] at g3;omega) h
theorem numDigits_ok (m:Int)(n:Nat)(h0:n≠0)(hn:n<1000000000):CallsP Tryz.prog (GG m) 256 [.c (.d (.int .u64 n))] (.c (.d (.int .i64 (ndig n)))):=by
 have c1:=bits_Len64_ok (GG m) n (by omega)
 have hb:blen n≤64:=by
  have:=blen_le h0
  apply Classical.byContradiction
  intro hc
  have h9:2 ^ 64≤2 ^ (blen n - 1):=Nat.pow_le_pow_right (by decide) (by omega)
  omega
 have c2:=log10Pow2_ok (GG m) (blen n) hb
 obtain⟨hl,hd⟩:=numDigits_n h0 hn
 rw [hd]
 generalize blen n*78913 / 262144=l at *
 generalize blen n=b at *
 obtain⟨rest,hx⟩:=ixP hl
 have hg:=GGp m
 have c3:=bool2_ok (GG m) (decide (((10 ^ l:Nat):Int)≤n))
 have hc:decide (((10 ^ l:Nat):Int)≤(n:Int))=decide (10 ^ l≤n):=decide_eq_decide.2 (by omega)
 rw [hc] at c3
 have hv:(if decide (10 ^ l≤n)=true then (1:Int) else 0)=((if 10 ^ l≤n then 1 else 0:Nat):Int):=by by_cases h:10 ^ l≤n <;> simp [h]
 rw [hv] at c3
 have hu:(if 10 ^ l≤n then 1 else 0:Nat)≤1:=by split <;> omega
 generalize (if 10 ^ l≤n then 1 else 0:Nat)=u at *
 have w:=w64 (n:=(l:Int)+u) (by omega) (by omega)
 rw [← hc] at c3
 generalize ((10 ^ l:Nat):Int)=t at *
 refine CallsP.en Go.Proofs.Tryz.func256 rfl fun _=>AW.q ?_
 refine AW.sr fun K hK=>?_
 simp
 refine CallDo.p 0 9 c1 ?_
 simp
 refine CallDo.p 0 9 c2 ?_
 simp
 repeat refine and_o ?_
 apply hK
 refine AW.c3 0 c3 hg hx w ?_
 exact AW.r0 (FinP.rt rfl 2 (by simp))
def dB (d:Nat):CV:=.d (.int .u8 ((48+d:Nat):Int))
@[simp] theorem dB_pure (d:Nat):(dB d).pure=true:=rfl
def dL:Nat→Nat→List Nat
 | 0,_=>[]
 | k+1,n=>dL k (n / 10)++[n % 10]
theorem tb0 (f:List UInt8){x a:Nat}(hx:x<100) (ha:a=2*x) (hf:(List.range 100).all (fun i=>(f[2*i]?.getD 0).toNat == 48+i / 10)=true):CV.d (.int .u8 ((f[a]?.getD 0).toNat:Int))=dB (x / 10):=by
 subst ha
 have:=List.all_eq_true.1 hf x (List.mem_range.2 hx)
 unfold dB
 rw [show (f[2*x]?.getD 0).toNat=48+x / 10 by simpa using this]
theorem tb1 (f:List UInt8){x a:Nat}(hx:x<100) (ha:a=2*x+1) (hf:(List.range 100).all (fun i=>(f[2*i+1]?.getD 0).toNat == 48+i % 10)=true):CV.d (.int .u8 ((f[a]?.getD 0).toNat:Int))=dB (x % 10):=by
 subst ha
 have:=List.all_eq_true.1 hf x (List.mem_range.2 hx)
 unfold dB
 rw [show (f[2*x+1]?.getD 0).toNat=48+x % 10 by simpa using this]
theorem fb3 (G:List (List DV))(n:Nat)(hn:n<1000)(c0 c1 c2:CV)(r:List CV) :
 CallsS Tryz.prog G 257 [.c (.lsl 0 0 3 1),.c (.d (.int .u64 n))] [.cells false false 299 (c0::c1::c2::r)]
  (.ret (.tup []) [.cells false false 299 ((dL 3 n).map dB++r)] []):=by
 have wl:∀ k:Nat,k<1000→IntKind.i64.wrap (k:Int)=k:=fun k h=>w64 (by omega) (by omega)
 have wl0:IntKind.i64.wrap 0=0:=wl 0 (by decide)
 have wl1:IntKind.i64.wrap 1=1:=wl 1 (by decide)
 have wl2:IntKind.i64.wrap 2=2:=wl 2 (by decide)
 have wl3:IntKind.i64.wrap 3=3:=wl 3 (by decide)
 have wl4:IntKind.i64.wrap 4=4:=wl 4 (by decide)
 have wl5:IntKind.i64.wrap 5=5:=wl 5 (by decide)
 have wl6:IntKind.i64.wrap 6=6:=wl 6 (by decide)
 have wl7:IntKind.i64.wrap 7=7:=wl 7 (by decide)
 have wl8:IntKind.i64.wrap 8=8:=wl 8 (by decide)
 have w12:IntKind.u32.wrap (n:Int)=n:=wu32 (by omega) (by omega)
 obtain⟨v,hv⟩:∃ q,n / 100=q:=⟨_,rfl⟩
 obtain⟨p5,hp5⟩:∃ q,n % 100=q:=⟨_,rfl⟩
 have dv:(n:Int).tdiv 100=(v:Int):=by rw [Int.tdiv_eq_ediv_of_nonneg (by omega)];omega
 have dp5:(n:Int).tmod 100=(p5:Int):=by rw [Int.tmod_eq_emod_of_nonneg (by omega)];omega
 have ev:IntKind.u32.wrap (v:Int)=v:=wu32 (by omega) (by omega)
 obtain⟨p5a,hp5a⟩:∃ a,p5*2=a:=⟨_,rfl⟩
 obtain⟨p5b,hp5b⟩:∃ a,p5a+1=a:=⟨_,rfl⟩
 have p51:IntKind.u32.wrap ((p5:Int)*2)=(p5a:Int):=by rw [wu32 (by omega) (by omega)];omega
 have p52:IntKind.u32.wrap ((p5a:Int)+1)=(p5b:Int):=by rw [wu32 (by omega) (by omega)];omega
 have p53:(p5a:Int)<200:=by omega
 have p54:(p5b:Int)<200:=by omega
 have w48:IntKind.u32.wrap (48+(v:Int))=((48+v:Nat):Int):=by rw [wu32 (by omega) (by omega)];omega
 have w49:IntKind.u8.wrap ((48+v:Nat):Int)=((48+v:Nat):Int):=wrap_in ⟨by simp only [loK];omega,by simp only [hiK];omega⟩
 refine CallsS.en1 Go.Proofs.Tryz.func257 rfl fun _=>AW.q ?_
 refine AW.seqK fun K hK=>AW.block ?_
 refine AW.loopV (fun (_:Unit)=>⟨frOf [(0,.c (.lsl 0 0 3 1)),(1,.c (.d (.int .u64 n))),(4,.c (.d (.int .i64 3)))],upd (fun _=>.hole) 0 (.cells false false 299 (c0::c1::c2::r))⟩) 1000 (fun _=>True) (fun _=>0) () (Le.mk2 _) trivial ?_
 rintro _ -
 refine AW.seqK fun K2 hK2=>AW.q ?_
 refine AW.cn (AW.exit (hK _ _ (AW.f1 w12 ?_)))
 refine AW.seqK fun K hK=>AW.q ?_
 refine AW.cn (AW.skip (hK _ _ (AW.seqK fun K hK=>AW.q ?_)))
 refine AW.cy (AW.f2 dp5 p51 ?_)
 refine AW.sr fun K1 hK1=>?_
 simp [dv,ev]
 repeat refine and_o ?_
 apply hK1
 refine AW.seqK fun K1 hK1=>?_
 refine AW.drawP mixed (by kernel_rfl) rfl ?_
 simp [p52,p53,p54,wl0,wl1,wl2,wl3,wl4,wl5,wl6,wl7,wl8,setSeg]
 rw [tb0 _ (x:=p5) (a:=p5a) (by omega) (by omega),tb1 _ (x:=p5) (a:=p5b) (by omega) (by omega)]
 rotate_left
 ·kernel_rfl
 ·kernel_rfl
 repeat refine and_o ?_
 refine⟨by kernel_rfl,?_⟩
 repeat refine and_o ?_
 apply hK1
 refine AW.rP ?_
 simp [wl0,wl1,wl2,wl3,wl4,wl5,wl6,wl7,wl8]
 repeat refine and_o ?_
 apply hK
 refine AW.q ?_
 refine AW.cy (AW.rP ?_)
 simp [w48,w49,setSeg]
 repeat refine and_o ?_
 have ed:dL 3 n=[v,p5 / 10,p5 % 10]:=by
  show [n / 10 / 10 % 10,n / 10 % 10,n % 10]=_
  simp only [List.cons.injEq,and_true]
  refine⟨?_,?_,?_⟩ <;> omega
 refine FinS.none (.inl rfl) rfl (by simp) ?_
 rw [ed]
 have e48:CV.d (.int .u8 (IntKind.u8.wrap (48+(v:Int))))=dB v:=by unfold dB;rw [← w49];rfl
 simp [e48]
theorem fb4 (G:List (List DV))(n:Nat)(hn:n<10000)(c0 c1 c2 c3:CV)(r:List CV) :
 CallsS Tryz.prog G 257 [.c (.lsl 0 0 4 1),.c (.d (.int .u64 n))] [.cells false false 299 (c0::c1::c2::c3::r)]
  (.ret (.tup []) [.cells false false 299 ((dL 4 n).map dB++r)] []):=by
 have wl:∀ k:Nat,k<1000→IntKind.i64.wrap (k:Int)=k:=fun k h=>w64 (by omega) (by omega)
 have wl0:IntKind.i64.wrap 0=0:=wl 0 (by decide)
 have wl1:IntKind.i64.wrap 1=1:=wl 1 (by decide)
 have wl2:IntKind.i64.wrap 2=2:=wl 2 (by decide)
 have wl3:IntKind.i64.wrap 3=3:=wl 3 (by decide)
 have wl4:IntKind.i64.wrap 4=4:=wl 4 (by decide)
 have wl5:IntKind.i64.wrap 5=5:=wl 5 (by decide)
 have wl6:IntKind.i64.wrap 6=6:=wl 6 (by decide)
 have wl7:IntKind.i64.wrap 7=7:=wl 7 (by decide)
 have wl8:IntKind.i64.wrap 8=8:=wl 8 (by decide)
 have w12:IntKind.u32.wrap (n:Int)=n:=wu32 (by omega) (by omega)
 obtain⟨t,ht⟩:∃ q,n / 10000=q:=⟨_,rfl⟩
 obtain⟨s,hs⟩:∃ q,n % 10000=q:=⟨_,rfl⟩
 have dt:(n:Int).tdiv 10000=(t:Int):=by rw [Int.tdiv_eq_ediv_of_nonneg (by omega)];omega
 have ds:(n:Int).tmod 10000=(s:Int):=by rw [Int.tmod_eq_emod_of_nonneg (by omega)];omega
 have et:IntKind.u32.wrap (t:Int)=t:=wu32 (by omega) (by omega)
 obtain⟨p1,hp1⟩:∃ q,s / 100=q:=⟨_,rfl⟩
 obtain⟨p0,hp0⟩:∃ q,s % 100=q:=⟨_,rfl⟩
 have dp1:(s:Int).tdiv 100=(p1:Int):=by rw [Int.tdiv_eq_ediv_of_nonneg (by omega)];omega
 have dp0:(s:Int).tmod 100=(p0:Int):=by rw [Int.tmod_eq_emod_of_nonneg (by omega)];omega
 have ep1:IntKind.u32.wrap (p1:Int)=p1:=wu32 (by omega) (by omega)
 obtain⟨p0a,hp0a⟩:∃ a,p0*2=a:=⟨_,rfl⟩
 obtain⟨p0b,hp0b⟩:∃ a,p0a+1=a:=⟨_,rfl⟩
 have p01:IntKind.u32.wrap ((p0:Int)*2)=(p0a:Int):=by rw [wu32 (by omega) (by omega)];omega
 have p02:IntKind.u32.wrap ((p0a:Int)+1)=(p0b:Int):=by rw [wu32 (by omega) (by omega)];omega
 have p03:(p0a:Int)<200:=by omega
 have p04:(p0b:Int)<200:=by omega
 obtain⟨p1a,hp1a⟩:∃ a,p1*2=a:=⟨_,rfl⟩
 obtain⟨p1b,hp1b⟩:∃ a,p1a+1=a:=⟨_,rfl⟩
 have p11:IntKind.u32.wrap ((p1:Int)*2)=(p1a:Int):=by rw [wu32 (by omega) (by omega)];omega
 have p12:IntKind.u32.wrap ((p1a:Int)+1)=(p1b:Int):=by rw [wu32 (by omega) (by omega)];omega
 have p13:(p1a:Int)<200:=by omega
 have p14:(p1b:Int)<200:=by omega
 refine CallsS.en1 Go.Proofs.Tryz.func257 rfl fun _=>AW.q ?_
 refine AW.seqK fun K hK=>AW.block ?_
 refine AW.loopV (fun (_:Unit)=>⟨frOf [(0,.c (.lsl 0 0 4 1)),(1,.c (.d (.int .u64 n))),(4,.c (.d (.int .i64 4)))],upd (fun _=>.hole) 0 (.cells false false 299 (c0::c1::c2::c3::r))⟩) 1000 (fun _=>True) (fun _=>0) () (Le.mk2 _) trivial ?_
 rintro _ -
 refine AW.seqK fun K2 hK2=>AW.q ?_
 refine AW.cn (AW.exit (hK _ _ (AW.f1 w12 ?_)))
 refine AW.seqK fun K hK=>AW.q ?_
 refine AW.cy (AW.f1 ds ?_)
 refine AW.f2 dt et ?_
 refine AW.f5 dp1 dp0 ep1 p11 p01 ?_
 refine AW.seqK fun K1 hK1=>?_
 refine AW.drawP mixed (by kernel_rfl) rfl ?_
 simp [p02,p03,p04,wl0,wl1,wl2,wl3,wl4,wl5,wl6,wl7,wl8,setSeg]
 rw [tb0 _ (x:=p0) (a:=p0a) (by omega) (by omega),tb1 _ (x:=p0) (a:=p0b) (by omega) (by omega)]
 rotate_left
 ·kernel_rfl
 ·kernel_rfl
 repeat refine and_o ?_
 refine⟨by kernel_rfl,?_⟩
 repeat refine and_o ?_
 apply hK1
 refine AW.seqK fun K1 hK1=>?_
 refine AW.drawP mixed (by kernel_rfl) rfl ?_
 simp [p12,p13,p14,wl0,wl1,wl2,wl3,wl4,wl5,wl6,wl7,wl8,setSeg]
 rw [tb0 _ (x:=p1) (a:=p1a) (by omega) (by omega),tb1 _ (x:=p1) (a:=p1b) (by omega) (by omega)]
 rotate_left
 ·kernel_rfl
 ·kernel_rfl
 repeat refine and_o ?_
 refine⟨by kernel_rfl,?_⟩
 repeat refine and_o ?_
 apply hK1
 refine AW.rP ?_
 simp [wl0,wl1,wl2,wl3,wl4,wl5,wl6,wl7,wl8]
 repeat refine and_o ?_
 apply hK
 refine AW.seqK fun K hK=>AW.q ?_
 refine AW.cn (AW.skip (hK _ _ (AW.q ?_)))
 refine AW.cn (AW.skip ?_)
 have ed:dL 4 n=[p1 / 10,p1 % 10,p0 / 10,p0 % 10]:=by
  show [n / 10 / 10 / 10 % 10,n / 10 / 10 % 10,n / 10 % 10,n % 10]=_
  simp only [List.cons.injEq,and_true]
  refine⟨?_,?_,?_,?_⟩ <;> omega
 refine FinS.none (.inl rfl) rfl (by simp) ?_
 rw [ed]
 simp
theorem fb5 (G:List (List DV))(n:Nat)(hn:n<100000)(c0 c1 c2 c3 c4:CV)(r:List CV) :
 CallsS Tryz.prog G 257 [.c (.lsl 0 0 5 1),.c (.d (.int .u64 n))] [.cells false false 299 (c0::c1::c2::c3::c4::r)]
  (.ret (.tup []) [.cells false false 299 ((dL 5 n).map dB++r)] []):=by
 have wl:∀ k:Nat,k<1000→IntKind.i64.wrap (k:Int)=k:=fun k h=>w64 (by omega) (by omega)
 have wl0:IntKind.i64.wrap 0=0:=wl 0 (by decide)
 have wl1:IntKind.i64.wrap 1=1:=wl 1 (by decide)
 have wl2:IntKind.i64.wrap 2=2:=wl 2 (by decide)
 have wl3:IntKind.i64.wrap 3=3:=wl 3 (by decide)
 have wl4:IntKind.i64.wrap 4=4:=wl 4 (by decide)
 have wl5:IntKind.i64.wrap 5=5:=wl 5 (by decide)
 have wl6:IntKind.i64.wrap 6=6:=wl 6 (by decide)
 have wl7:IntKind.i64.wrap 7=7:=wl 7 (by decide)
 have wl8:IntKind.i64.wrap 8=8:=wl 8 (by decide)
 have w12:IntKind.u32.wrap (n:Int)=n:=wu32 (by omega) (by omega)
 obtain⟨t,ht⟩:∃ q,n / 10000=q:=⟨_,rfl⟩
 obtain⟨s,hs⟩:∃ q,n % 10000=q:=⟨_,rfl⟩
 have dt:(n:Int).tdiv 10000=(t:Int):=by rw [Int.tdiv_eq_ediv_of_nonneg (by omega)];omega
 have ds:(n:Int).tmod 10000=(s:Int):=by rw [Int.tmod_eq_emod_of_nonneg (by omega)];omega
 have et:IntKind.u32.wrap (t:Int)=t:=wu32 (by omega) (by omega)
 obtain⟨p1,hp1⟩:∃ q,s / 100=q:=⟨_,rfl⟩
 obtain⟨p0,hp0⟩:∃ q,s % 100=q:=⟨_,rfl⟩
 have dp1:(s:Int).tdiv 100=(p1:Int):=by rw [Int.tdiv_eq_ediv_of_nonneg (by omega)];omega
 have dp0:(s:Int).tmod 100=(p0:Int):=by rw [Int.tmod_eq_emod_of_nonneg (by omega)];omega
 have ep1:IntKind.u32.wrap (p1:Int)=p1:=wu32 (by omega) (by omega)
 obtain⟨p0a,hp0a⟩:∃ a,p0*2=a:=⟨_,rfl⟩
 obtain⟨p0b,hp0b⟩:∃ a,p0a+1=a:=⟨_,rfl⟩
 have p01:IntKind.u32.wrap ((p0:Int)*2)=(p0a:Int):=by rw [wu32 (by omega) (by omega)];omega
 have p02:IntKind.u32.wrap ((p0a:Int)+1)=(p0b:Int):=by rw [wu32 (by omega) (by omega)];omega
 have p03:(p0a:Int)<200:=by omega
 have p04:(p0b:Int)<200:=by omega
 obtain⟨p1a,hp1a⟩:∃ a,p1*2=a:=⟨_,rfl⟩
 obtain⟨p1b,hp1b⟩:∃ a,p1a+1=a:=⟨_,rfl⟩
 have p11:IntKind.u32.wrap ((p1:Int)*2)=(p1a:Int):=by rw [wu32 (by omega) (by omega)];omega
 have p12:IntKind.u32.wrap ((p1a:Int)+1)=(p1b:Int):=by rw [wu32 (by omega) (by omega)];omega
 have p13:(p1a:Int)<200:=by omega
 have p14:(p1b:Int)<200:=by omega
 have w48:IntKind.u32.wrap (48+(t:Int))=((48+t:Nat):Int):=by rw [wu32 (by omega) (by omega)];omega
 have w49:IntKind.u8.wrap ((48+t:Nat):Int)=((48+t:Nat):Int):=wrap_in ⟨by simp only [loK];omega,by simp only [hiK];omega⟩
 refine CallsS.en1 Go.Proofs.Tryz.func257 rfl fun _=>AW.q ?_
 refine AW.seqK fun K hK=>AW.block ?_
 refine AW.loopV (fun (_:Unit)=>⟨frOf [(0,.c (.lsl 0 0 5 1)),(1,.c (.d (.int .u64 n))),(4,.c (.d (.int .i64 5)))],upd (fun _=>.hole) 0 (.cells false false 299 (c0::c1::c2::c3::c4::r))⟩) 1000 (fun _=>True) (fun _=>0) () (Le.mk2 _) trivial ?_
 rintro _ -
 refine AW.seqK fun K2 hK2=>AW.q ?_
 refine AW.cn (AW.exit (hK _ _ (AW.f1 w12 ?_)))
 refine AW.seqK fun K hK=>AW.q ?_
 refine AW.cy (AW.f1 ds ?_)
 refine AW.f2 dt et ?_
 refine AW.f5 dp1 dp0 ep1 p11 p01 ?_
 refine AW.seqK fun K1 hK1=>?_
 refine AW.drawP mixed (by kernel_rfl) rfl ?_
 simp [p02,p03,p04,wl0,wl1,wl2,wl3,wl4,wl5,wl6,wl7,wl8,setSeg]
 rw [tb0 _ (x:=p0) (a:=p0a) (by omega) (by omega),tb1 _ (x:=p0) (a:=p0b) (by omega) (by omega)]
 rotate_left
 ·kernel_rfl
 ·kernel_rfl
 repeat refine and_o ?_
 refine⟨by kernel_rfl,?_⟩
 repeat refine and_o ?_
 apply hK1
 refine AW.seqK fun K1 hK1=>?_
 refine AW.drawP mixed (by kernel_rfl) rfl ?_
 simp [p12,p13,p14,wl0,wl1,wl2,wl3,wl4,wl5,wl6,wl7,wl8,setSeg]
 rw [tb0 _ (x:=p1) (a:=p1a) (by omega) (by omega),tb1 _ (x:=p1) (a:=p1b) (by omega) (by omega)]
 rotate_left
 ·kernel_rfl
 ·kernel_rfl
 repeat refine and_o ?_
 refine⟨by kernel_rfl,?_⟩
 repeat refine and_o ?_
 apply hK1
 refine AW.rP ?_
 simp [wl0,wl1,wl2,wl3,wl4,wl5,wl6,wl7,wl8]
 repeat refine and_o ?_
 apply hK
 refine AW.seqK fun K hK=>AW.q ?_
 refine AW.cn (AW.skip (hK _ _ (AW.q ?_)))
 refine AW.cy (AW.rP ?_)
 simp [w48,w49,setSeg]
 repeat refine and_o ?_
 have ed:dL 5 n=[t,p1 / 10,p1 % 10,p0 / 10,p0 % 10]:=by
  show [n / 10 / 10 / 10 / 10 % 10,n / 10 / 10 / 10 % 10,n / 10 / 10 % 10,n / 10 % 10,n % 10]=_
  simp only [List.cons.injEq,and_true]
  refine⟨?_,?_,?_,?_,?_⟩ <;> omega
 refine FinS.none (.inl rfl) rfl (by simp) ?_
 rw [ed]
 have e48:CV.d (.int .u8 (IntKind.u8.wrap (48+(t:Int))))=dB t:=by unfold dB;rw [← w49];rfl
 simp [e48]
theorem fb6 (G:List (List DV))(n:Nat)(hn:n<1000000)(c0 c1 c2 c3 c4 c5:CV)(r:List CV) :
 CallsS Tryz.prog G 257 [.c (.lsl 0 0 6 1),.c (.d (.int .u64 n))] [.cells false false 299 (c0::c1::c2::c3::c4::c5::r)]
  (.ret (.tup []) [.cells false false 299 ((dL 6 n).map dB++r)] []):=by
 have wl:∀ k:Nat,k<1000→IntKind.i64.wrap (k:Int)=k:=fun k h=>w64 (by omega) (by omega)
 have wl0:IntKind.i64.wrap 0=0:=wl 0 (by decide)
 have wl1:IntKind.i64.wrap 1=1:=wl 1 (by decide)
 have wl2:IntKind.i64.wrap 2=2:=wl 2 (by decide)
 have wl3:IntKind.i64.wrap 3=3:=wl 3 (by decide)
 have wl4:IntKind.i64.wrap 4=4:=wl 4 (by decide)
 have wl5:IntKind.i64.wrap 5=5:=wl 5 (by decide)
 have wl6:IntKind.i64.wrap 6=6:=wl 6 (by decide)
 have wl7:IntKind.i64.wrap 7=7:=wl 7 (by decide)
 have wl8:IntKind.i64.wrap 8=8:=wl 8 (by decide)
 have w12:IntKind.u32.wrap (n:Int)=n:=wu32 (by omega) (by omega)
 obtain⟨t,ht⟩:∃ q,n / 10000=q:=⟨_,rfl⟩
 obtain⟨s,hs⟩:∃ q,n % 10000=q:=⟨_,rfl⟩
 have dt:(n:Int).tdiv 10000=(t:Int):=by rw [Int.tdiv_eq_ediv_of_nonneg (by omega)];omega
 have ds:(n:Int).tmod 10000=(s:Int):=by rw [Int.tmod_eq_emod_of_nonneg (by omega)];omega
 have et:IntKind.u32.wrap (t:Int)=t:=wu32 (by omega) (by omega)
 obtain⟨p1,hp1⟩:∃ q,s / 100=q:=⟨_,rfl⟩
 obtain⟨p0,hp0⟩:∃ q,s % 100=q:=⟨_,rfl⟩
 have dp1:(s:Int).tdiv 100=(p1:Int):=by rw [Int.tdiv_eq_ediv_of_nonneg (by omega)];omega
 have dp0:(s:Int).tmod 100=(p0:Int):=by rw [Int.tmod_eq_emod_of_nonneg (by omega)];omega
 have ep1:IntKind.u32.wrap (p1:Int)=p1:=wu32 (by omega) (by omega)
 obtain⟨p0a,hp0a⟩:∃ a,p0*2=a:=⟨_,rfl⟩
 obtain⟨p0b,hp0b⟩:∃ a,p0a+1=a:=⟨_,rfl⟩
 have p01:IntKind.u32.wrap ((p0:Int)*2)=(p0a:Int):=by rw [wu32 (by omega) (by omega)];omega
 have p02:IntKind.u32.wrap ((p0a:Int)+1)=(p0b:Int):=by rw [wu32 (by omega) (by omega)];omega
 have p03:(p0a:Int)<200:=by omega
 have p04:(p0b:Int)<200:=by omega
 obtain⟨p1a,hp1a⟩:∃ a,p1*2=a:=⟨_,rfl⟩
 obtain⟨p1b,hp1b⟩:∃ a,p1a+1=a:=⟨_,rfl⟩
 have p11:IntKind.u32.wrap ((p1:Int)*2)=(p1a:Int):=by rw [wu32 (by omega) (by omega)];omega
 have p12:IntKind.u32.wrap ((p1a:Int)+1)=(p1b:Int):=by rw [wu32 (by omega) (by omega)];omega
 have p13:(p1a:Int)<200:=by omega
 have p14:(p1b:Int)<200:=by omega
 obtain⟨v,hv⟩:∃ q,t / 100=q:=⟨_,rfl⟩
 obtain⟨p5,hp5⟩:∃ q,t % 100=q:=⟨_,rfl⟩
 have dv:(t:Int).tdiv 100=(v:Int):=by rw [Int.tdiv_eq_ediv_of_nonneg (by omega)];omega
 have dp5:(t:Int).tmod 100=(p5:Int):=by rw [Int.tmod_eq_emod_of_nonneg (by omega)];omega
 have ev:IntKind.u32.wrap (v:Int)=v:=wu32 (by omega) (by omega)
 obtain⟨p5a,hp5a⟩:∃ a,p5*2=a:=⟨_,rfl⟩
 obtain⟨p5b,hp5b⟩:∃ a,p5a+1=a:=⟨_,rfl⟩
 have p51:IntKind.u32.wrap ((p5:Int)*2)=(p5a:Int):=by rw [wu32 (by omega) (by omega)];omega
 have p52:IntKind.u32.wrap ((p5a:Int)+1)=(p5b:Int):=by rw [wu32 (by omega) (by omega)];omega
 have p53:(p5a:Int)<200:=by omega
 have p54:(p5b:Int)<200:=by omega
 refine CallsS.en1 Go.Proofs.Tryz.func257 rfl fun _=>AW.q ?_
 refine AW.seqK fun K hK=>AW.block ?_
 refine AW.loopV (fun (_:Unit)=>⟨frOf [(0,.c (.lsl 0 0 6 1)),(1,.c (.d (.int .u64 n))),(4,.c (.d (.int .i64 6)))],upd (fun _=>.hole) 0 (.cells false false 299 (c0::c1::c2::c3::c4::c5::r))⟩) 1000 (fun _=>True) (fun _=>0) () (Le.mk2 _) trivial ?_
 rintro _ -
 refine AW.seqK fun K2 hK2=>AW.q ?_
 refine AW.cn (AW.exit (hK _ _ (AW.f1 w12 ?_)))
 refine AW.seqK fun K hK=>AW.q ?_
 refine AW.cy (AW.f1 ds ?_)
 refine AW.f2 dt et ?_
 refine AW.f5 dp1 dp0 ep1 p11 p01 ?_
 refine AW.seqK fun K1 hK1=>?_
 refine AW.drawP mixed (by kernel_rfl) rfl ?_
 simp [p02,p03,p04,wl0,wl1,wl2,wl3,wl4,wl5,wl6,wl7,wl8,setSeg]
 rw [tb0 _ (x:=p0) (a:=p0a) (by omega) (by omega),tb1 _ (x:=p0) (a:=p0b) (by omega) (by omega)]
 rotate_left
 ·kernel_rfl
 ·kernel_rfl
 repeat refine and_o ?_
 refine⟨by kernel_rfl,?_⟩
 repeat refine and_o ?_
 apply hK1
 refine AW.seqK fun K1 hK1=>?_
 refine AW.drawP mixed (by kernel_rfl) rfl ?_
 simp [p12,p13,p14,wl0,wl1,wl2,wl3,wl4,wl5,wl6,wl7,wl8,setSeg]
 rw [tb0 _ (x:=p1) (a:=p1a) (by omega) (by omega),tb1 _ (x:=p1) (a:=p1b) (by omega) (by omega)]
 rotate_left
 ·kernel_rfl
 ·kernel_rfl
 repeat refine and_o ?_
 refine⟨by kernel_rfl,?_⟩
 repeat refine and_o ?_
 apply hK1
 refine AW.rP ?_
 simp [wl0,wl1,wl2,wl3,wl4,wl5,wl6,wl7,wl8]
 repeat refine and_o ?_
 apply hK
 refine AW.seqK fun K hK=>AW.q ?_
 refine AW.cy (AW.f2 dp5 p51 ?_)
 refine AW.sr fun K1 hK1=>?_
 simp [dv,ev]
 repeat refine and_o ?_
 apply hK1
 refine AW.seqK fun K1 hK1=>?_
 refine AW.drawP mixed (by kernel_rfl) rfl ?_
 simp [p52,p53,p54,wl0,wl1,wl2,wl3,wl4,wl5,wl6,wl7,wl8,setSeg]
 rw [tb0 _ (x:=p5) (a:=p5a) (by omega) (by omega),tb1 _ (x:=p5) (a:=p5b) (by omega) (by omega)]
 rotate_left
 ·kernel_rfl
 ·kernel_rfl
 repeat refine and_o ?_
 refine⟨by kernel_rfl,?_⟩
 repeat refine and_o ?_
 apply hK1
 refine AW.rP ?_
 simp [wl0,wl1,wl2,wl3,wl4,wl5,wl6,wl7,wl8]
 repeat refine and_o ?_
 apply hK
 refine AW.q ?_
 refine AW.cn (AW.skip ?_)
 have ed:dL 6 n=[p5 / 10,p5 % 10,p1 / 10,p1 % 10,p0 / 10,p0 % 10]:=by
  show [n / 10 / 10 / 10 / 10 / 10 % 10,n / 10 / 10 / 10 / 10 % 10,n / 10 / 10 / 10 % 10,n / 10 / 10 % 10,n / 10 % 10,n % 10]=_
  simp only [List.cons.injEq,and_true]
  refine⟨?_,?_,?_,?_,?_,?_⟩ <;> omega
 refine FinS.none (.inl rfl) rfl (by simp) ?_
 rw [ed]
 simp
theorem fb7 (G:List (List DV))(n:Nat)(hn:n<10000000)(c0 c1 c2 c3 c4 c5 c6:CV)(r:List CV) :
 CallsS Tryz.prog G 257 [.c (.lsl 0 0 7 1),.c (.d (.int .u64 n))] [.cells false false 299 (c0::c1::c2::c3::c4::c5::c6::r)]
  (.ret (.tup []) [.cells false false 299 ((dL 7 n).map dB++r)] []):=by
 have wl:∀ k:Nat,k<1000→IntKind.i64.wrap (k:Int)=k:=fun k h=>w64 (by omega) (by omega)
 have wl0:IntKind.i64.wrap 0=0:=wl 0 (by decide)
 have wl1:IntKind.i64.wrap 1=1:=wl 1 (by decide)
 have wl2:IntKind.i64.wrap 2=2:=wl 2 (by decide)
 have wl3:IntKind.i64.wrap 3=3:=wl 3 (by decide)
 have wl4:IntKind.i64.wrap 4=4:=wl 4 (by decide)
 have wl5:IntKind.i64.wrap 5=5:=wl 5 (by decide)
 have wl6:IntKind.i64.wrap 6=6:=wl 6 (by decide)
 have wl7:IntKind.i64.wrap 7=7:=wl 7 (by decide)
 have wl8:IntKind.i64.wrap 8=8:=wl 8 (by decide)
 have w12:IntKind.u32.wrap (n:Int)=n:=wu32 (by omega) (by omega)
 obtain⟨t,ht⟩:∃ q,n / 10000=q:=⟨_,rfl⟩
 obtain⟨s,hs⟩:∃ q,n % 10000=q:=⟨_,rfl⟩
 have dt:(n:Int).tdiv 10000=(t:Int):=by rw [Int.tdiv_eq_ediv_of_nonneg (by omega)];omega
 have ds:(n:Int).tmod 10000=(s:Int):=by rw [Int.tmod_eq_emod_of_nonneg (by omega)];omega
 have et:IntKind.u32.wrap (t:Int)=t:=wu32 (by omega) (by omega)
 obtain⟨p1,hp1⟩:∃ q,s / 100=q:=⟨_,rfl⟩
 obtain⟨p0,hp0⟩:∃ q,s % 100=q:=⟨_,rfl⟩
 have dp1:(s:Int).tdiv 100=(p1:Int):=by rw [Int.tdiv_eq_ediv_of_nonneg (by omega)];omega
 have dp0:(s:Int).tmod 100=(p0:Int):=by rw [Int.tmod_eq_emod_of_nonneg (by omega)];omega
 have ep1:IntKind.u32.wrap (p1:Int)=p1:=wu32 (by omega) (by omega)
 obtain⟨p0a,hp0a⟩:∃ a,p0*2=a:=⟨_,rfl⟩
 obtain⟨p0b,hp0b⟩:∃ a,p0a+1=a:=⟨_,rfl⟩
 have p01:IntKind.u32.wrap ((p0:Int)*2)=(p0a:Int):=by rw [wu32 (by omega) (by omega)];omega
 have p02:IntKind.u32.wrap ((p0a:Int)+1)=(p0b:Int):=by rw [wu32 (by omega) (by omega)];omega
 have p03:(p0a:Int)<200:=by omega
 have p04:(p0b:Int)<200:=by omega
 obtain⟨p1a,hp1a⟩:∃ a,p1*2=a:=⟨_,rfl⟩
 obtain⟨p1b,hp1b⟩:∃ a,p1a+1=a:=⟨_,rfl⟩
 have p11:IntKind.u32.wrap ((p1:Int)*2)=(p1a:Int):=by rw [wu32 (by omega) (by omega)];omega
 have p12:IntKind.u32.wrap ((p1a:Int)+1)=(p1b:Int):=by rw [wu32 (by omega) (by omega)];omega
 have p13:(p1a:Int)<200:=by omega
 have p14:(p1b:Int)<200:=by omega
 obtain⟨v,hv⟩:∃ q,t / 100=q:=⟨_,rfl⟩
 obtain⟨p5,hp5⟩:∃ q,t % 100=q:=⟨_,rfl⟩
 have dv:(t:Int).tdiv 100=(v:Int):=by rw [Int.tdiv_eq_ediv_of_nonneg (by omega)];omega
 have dp5:(t:Int).tmod 100=(p5:Int):=by rw [Int.tmod_eq_emod_of_nonneg (by omega)];omega
 have ev:IntKind.u32.wrap (v:Int)=v:=wu32 (by omega) (by omega)
 obtain⟨p5a,hp5a⟩:∃ a,p5*2=a:=⟨_,rfl⟩
 obtain⟨p5b,hp5b⟩:∃ a,p5a+1=a:=⟨_,rfl⟩
 have p51:IntKind.u32.wrap ((p5:Int)*2)=(p5a:Int):=by rw [wu32 (by omega) (by omega)];omega
 have p52:IntKind.u32.wrap ((p5a:Int)+1)=(p5b:Int):=by rw [wu32 (by omega) (by omega)];omega
 have p53:(p5a:Int)<200:=by omega
 have p54:(p5b:Int)<200:=by omega
 have w48:IntKind.u32.wrap (48+(v:Int))=((48+v:Nat):Int):=by rw [wu32 (by omega) (by omega)];omega
 have w49:IntKind.u8.wrap ((48+v:Nat):Int)=((48+v:Nat):Int):=wrap_in ⟨by simp only [loK];omega,by simp only [hiK];omega⟩
 refine CallsS.en1 Go.Proofs.Tryz.func257 rfl fun _=>AW.q ?_
 refine AW.seqK fun K hK=>AW.block ?_
 refine AW.loopV (fun (_:Unit)=>⟨frOf [(0,.c (.lsl 0 0 7 1)),(1,.c (.d (.int .u64 n))),(4,.c (.d (.int .i64 7)))],upd (fun _=>.hole) 0 (.cells false false 299 (c0::c1::c2::c3::c4::c5::c6::r))⟩) 1000 (fun _=>True) (fun _=>0) () (Le.mk2 _) trivial ?_
 rintro _ -
 refine AW.seqK fun K2 hK2=>AW.q ?_
 refine AW.cn (AW.exit (hK _ _ (AW.f1 w12 ?_)))
 refine AW.seqK fun K hK=>AW.q ?_
 refine AW.cy (AW.f1 ds ?_)
 refine AW.f2 dt et ?_
 refine AW.f5 dp1 dp0 ep1 p11 p01 ?_
 refine AW.seqK fun K1 hK1=>?_
 refine AW.drawP mixed (by kernel_rfl) rfl ?_
 simp [p02,p03,p04,wl0,wl1,wl2,wl3,wl4,wl5,wl6,wl7,wl8,setSeg]
 rw [tb0 _ (x:=p0) (a:=p0a) (by omega) (by omega),tb1 _ (x:=p0) (a:=p0b) (by omega) (by omega)]
 rotate_left
 ·kernel_rfl
 ·kernel_rfl
 repeat refine and_o ?_
 refine⟨by kernel_rfl,?_⟩
 repeat refine and_o ?_
 apply hK1
 refine AW.seqK fun K1 hK1=>?_
 refine AW.drawP mixed (by kernel_rfl) rfl ?_
 simp [p12,p13,p14,wl0,wl1,wl2,wl3,wl4,wl5,wl6,wl7,wl8,setSeg]
 rw [tb0 _ (x:=p1) (a:=p1a) (by omega) (by omega),tb1 _ (x:=p1) (a:=p1b) (by omega) (by omega)]
 rotate_left
 ·kernel_rfl
 ·kernel_rfl
 repeat refine and_o ?_
 refine⟨by kernel_rfl,?_⟩
 repeat refine and_o ?_
 apply hK1
 refine AW.rP ?_
 simp [wl0,wl1,wl2,wl3,wl4,wl5,wl6,wl7,wl8]
 repeat refine and_o ?_
 apply hK
 refine AW.seqK fun K hK=>AW.q ?_
 refine AW.cy (AW.f2 dp5 p51 ?_)
 refine AW.sr fun K1 hK1=>?_
 simp [dv,ev]
 repeat refine and_o ?_
 apply hK1
 refine AW.seqK fun K1 hK1=>?_
 refine AW.drawP mixed (by kernel_rfl) rfl ?_
 simp [p52,p53,p54,wl0,wl1,wl2,wl3,wl4,wl5,wl6,wl7,wl8,setSeg]
 rw [tb0 _ (x:=p5) (a:=p5a) (by omega) (by omega),tb1 _ (x:=p5) (a:=p5b) (by omega) (by omega)]
 rotate_left
 ·kernel_rfl
 ·kernel_rfl
 repeat refine and_o ?_
 refine⟨by kernel_rfl,?_⟩
 repeat refine and_o ?_
 apply hK1
 refine AW.rP ?_
 simp [wl0,wl1,wl2,wl3,wl4,wl5,wl6,wl7,wl8]
 repeat refine and_o ?_
 apply hK
 refine AW.q ?_
 refine AW.cy (AW.rP ?_)
 simp [w48,w49,setSeg]
 repeat refine and_o ?_
 have ed:dL 7 n=[v,p5 / 10,p5 % 10,p1 / 10,p1 % 10,p0 / 10,p0 % 10]:=by
  show [n / 10 / 10 / 10 / 10 / 10 / 10 % 10,n / 10 / 10 / 10 / 10 / 10 % 10,n / 10 / 10 / 10 / 10 % 10,n / 10 / 10 / 10 % 10,n / 10 / 10 % 10,n / 10 % 10,n % 10]=_
  simp only [List.cons.injEq,and_true]
  refine⟨?_,?_,?_,?_,?_,?_,?_⟩ <;> omega
 refine FinS.none (.inl rfl) rfl (by simp) ?_
 rw [ed]
 have e48:CV.d (.int .u8 (IntKind.u8.wrap (48+(v:Int))))=dB v:=by unfold dB;rw [← w49];rfl
 simp [e48]
theorem fb8 (G:List (List DV))(n:Nat)(hn:n<100000000)(c0 c1 c2 c3 c4 c5 c6 c7:CV)(r:List CV) :
 CallsS Tryz.prog G 257 [.c (.lsl 0 0 8 1),.c (.d (.int .u64 n))] [.cells false false 299 (c0::c1::c2::c3::c4::c5::c6::c7::r)]
  (.ret (.tup []) [.cells false false 299 ((dL 8 n).map dB++r)] []):=by
 have wl:∀ k:Nat,k<1000→IntKind.i64.wrap (k:Int)=k:=fun k h=>w64 (by omega) (by omega)
 have wl0:IntKind.i64.wrap 0=0:=wl 0 (by decide)
 have wl1:IntKind.i64.wrap 1=1:=wl 1 (by decide)
 have wl2:IntKind.i64.wrap 2=2:=wl 2 (by decide)
 have wl3:IntKind.i64.wrap 3=3:=wl 3 (by decide)
 have wl4:IntKind.i64.wrap 4=4:=wl 4 (by decide)
 have wl5:IntKind.i64.wrap 5=5:=wl 5 (by decide)
 have wl6:IntKind.i64.wrap 6=6:=wl 6 (by decide)
 have wl7:IntKind.i64.wrap 7=7:=wl 7 (by decide)
 have wl8:IntKind.i64.wrap 8=8:=wl 8 (by decide)
 obtain⟨u,hu⟩:∃ q,n / 100000000=q:=⟨_,rfl⟩
 obtain⟨z,hz⟩:∃ q,n % 100000000=q:=⟨_,rfl⟩
 have du:(n:Int).tdiv 100000000=(u:Int):=by rw [Int.tdiv_eq_ediv_of_nonneg (by omega)];omega
 have dz:(n:Int).tmod 100000000=(z:Int):=by rw [Int.tmod_eq_emod_of_nonneg (by omega)];omega
 have eu:IntKind.u64.wrap (u:Int)=u:=wu64 (by omega) (by omega)
 obtain⟨y,hy⟩:∃ q,z / 10000=q:=⟨_,rfl⟩
 obtain⟨x,hx⟩:∃ q,z % 10000=q:=⟨_,rfl⟩
 have dy:(z:Int).tdiv 10000=(y:Int):=by rw [Int.tdiv_eq_ediv_of_nonneg (by omega)];omega
 have dx:(z:Int).tmod 10000=(x:Int):=by rw [Int.tmod_eq_emod_of_nonneg (by omega)];omega
 have ey:IntKind.u32.wrap (y:Int)=y:=wu32 (by omega) (by omega)
 obtain⟨p1,hp1⟩:∃ q,x / 100=q:=⟨_,rfl⟩
 obtain⟨p0,hp0⟩:∃ q,x % 100=q:=⟨_,rfl⟩
 have dp1:(x:Int).tdiv 100=(p1:Int):=by rw [Int.tdiv_eq_ediv_of_nonneg (by omega)];omega
 have dp0:(x:Int).tmod 100=(p0:Int):=by rw [Int.tmod_eq_emod_of_nonneg (by omega)];omega
 have ep1:IntKind.u32.wrap (p1:Int)=p1:=wu32 (by omega) (by omega)
 obtain⟨p3,hp3⟩:∃ q,y / 100=q:=⟨_,rfl⟩
 obtain⟨p2,hp2⟩:∃ q,y % 100=q:=⟨_,rfl⟩
 have dp3:(y:Int).tdiv 100=(p3:Int):=by rw [Int.tdiv_eq_ediv_of_nonneg (by omega)];omega
 have dp2:(y:Int).tmod 100=(p2:Int):=by rw [Int.tmod_eq_emod_of_nonneg (by omega)];omega
 have ep3:IntKind.u32.wrap (p3:Int)=p3:=wu32 (by omega) (by omega)
 obtain⟨p0a,hp0a⟩:∃ a,p0*2=a:=⟨_,rfl⟩
 obtain⟨p0b,hp0b⟩:∃ a,p0a+1=a:=⟨_,rfl⟩
 have p01:IntKind.u32.wrap ((p0:Int)*2)=(p0a:Int):=by rw [wu32 (by omega) (by omega)];omega
 have p02:IntKind.u32.wrap ((p0a:Int)+1)=(p0b:Int):=by rw [wu32 (by omega) (by omega)];omega
 have p03:(p0a:Int)<200:=by omega
 have p04:(p0b:Int)<200:=by omega
 obtain⟨p1a,hp1a⟩:∃ a,p1*2=a:=⟨_,rfl⟩
 obtain⟨p1b,hp1b⟩:∃ a,p1a+1=a:=⟨_,rfl⟩
 have p11:IntKind.u32.wrap ((p1:Int)*2)=(p1a:Int):=by rw [wu32 (by omega) (by omega)];omega
 have p12:IntKind.u32.wrap ((p1a:Int)+1)=(p1b:Int):=by rw [wu32 (by omega) (by omega)];omega
 have p13:(p1a:Int)<200:=by omega
 have p14:(p1b:Int)<200:=by omega
 obtain⟨p2a,hp2a⟩:∃ a,p2*2=a:=⟨_,rfl⟩
 obtain⟨p2b,hp2b⟩:∃ a,p2a+1=a:=⟨_,rfl⟩
 have p21:IntKind.u32.wrap ((p2:Int)*2)=(p2a:Int):=by rw [wu32 (by omega) (by omega)];omega
 have p22:IntKind.u32.wrap ((p2a:Int)+1)=(p2b:Int):=by rw [wu32 (by omega) (by omega)];omega
 have p23:(p2a:Int)<200:=by omega
 have p24:(p2b:Int)<200:=by omega
 obtain⟨p3a,hp3a⟩:∃ a,p3*2=a:=⟨_,rfl⟩
 obtain⟨p3b,hp3b⟩:∃ a,p3a+1=a:=⟨_,rfl⟩
 have p31:IntKind.u32.wrap ((p3:Int)*2)=(p3a:Int):=by rw [wu32 (by omega) (by omega)];omega
 have p32:IntKind.u32.wrap ((p3a:Int)+1)=(p3b:Int):=by rw [wu32 (by omega) (by omega)];omega
 have p33:(p3a:Int)<200:=by omega
 have p34:(p3b:Int)<200:=by omega
 have wz:IntKind.u32.wrap (z:Int)=z:=wu32 (by omega) (by omega)
 have w12:IntKind.u32.wrap (u:Int)=u:=wu32 (by omega) (by omega)
 refine CallsS.en1 Go.Proofs.Tryz.func257 rfl fun _=>AW.q ?_
 refine AW.seqK fun K hK=>AW.block ?_
 refine AW.loopV (fun (b:Int × Int × List CV)=>⟨frOf [(0,.c (.lsl 0 0 8 1)),(1,.c (.d (.int .u64 b.1))),(4,.c (.d (.int .i64 b.2.1)))],upd (fun _=>.hole) 0 (.cells false false 299 b.2.2)⟩) 1000 (fun b=>b=((n:Int),8,(c0::c1::c2::c3::c4::c5::c6::c7::r))∨b=((u:Int),0,(dB (p3 / 10)::dB (p3 % 10)::dB (p2 / 10)::dB (p2 % 10)::dB (p1 / 10)::dB (p1 % 10)::dB (p0 / 10)::dB (p0 % 10)::r))) (fun b=>b.2.1.toNat) ((n:Int),8,(c0::c1::c2::c3::c4::c5::c6::c7::r)) (Le.mk2 _) (.inl rfl) ?_
 rintro b (rfl|rfl)
 ·refine AW.seqK fun K2 hK2=>AW.q ?_
  refine AW.cy (AW.skip (hK2 _ _ (AW.block (AW.f2 dz wz ?_))))
  refine AW.f2 du eu ?_
  refine AW.f3 dy dx ey ?_
  refine AW.f5 dp1 dp0 ep1 p11 p01 ?_
  refine AW.f5 dp3 dp2 ep3 p31 p21 ?_
  refine AW.seqK fun K5 hK5=>?_
  refine AW.drawP mixed (by kernel_rfl) rfl ?_
  simp [p02,p03,p04,wl0,wl1,wl2,wl3,wl4,wl5,wl6,wl7,wl8,setSeg]
  rw [tb0 _ (x:=p0) (a:=p0a) (by omega) (by omega),tb1 _ (x:=p0) (a:=p0b) (by omega) (by omega)]
  rotate_left
  ·kernel_rfl
  ·kernel_rfl
  repeat refine and_o ?_
  refine⟨by kernel_rfl,?_⟩
  repeat refine and_o ?_
  apply hK5
  refine AW.seqK fun K5 hK5=>?_
  refine AW.drawP mixed (by kernel_rfl) rfl ?_
  simp [p12,p13,p14,wl0,wl1,wl2,wl3,wl4,wl5,wl6,wl7,wl8,setSeg]
  rw [tb0 _ (x:=p1) (a:=p1a) (by omega) (by omega),tb1 _ (x:=p1) (a:=p1b) (by omega) (by omega)]
  rotate_left
  ·kernel_rfl
  ·kernel_rfl
  repeat refine and_o ?_
  refine⟨by kernel_rfl,?_⟩
  repeat refine and_o ?_
  apply hK5
  refine AW.seqK fun K5 hK5=>?_
  refine AW.drawP mixed (by kernel_rfl) rfl ?_
  simp [p22,p23,p24,wl0,wl1,wl2,wl3,wl4,wl5,wl6,wl7,wl8,setSeg]
  rw [tb0 _ (x:=p2) (a:=p2a) (by omega) (by omega),tb1 _ (x:=p2) (a:=p2b) (by omega) (by omega)]
  rotate_left
  ·kernel_rfl
  ·kernel_rfl
  repeat refine and_o ?_
  refine⟨by kernel_rfl,?_⟩
  repeat refine and_o ?_
  apply hK5
  refine AW.seqK fun K5 hK5=>?_
  refine AW.drawP mixed (by kernel_rfl) rfl ?_
  simp [p32,p33,p34,wl0,wl1,wl2,wl3,wl4,wl5,wl6,wl7,wl8,setSeg]
  rw [tb0 _ (x:=p3) (a:=p3a) (by omega) (by omega),tb1 _ (x:=p3) (a:=p3b) (by omega) (by omega)]
  rotate_left
  ·kernel_rfl
  ·kernel_rfl
  repeat refine and_o ?_
  refine⟨by kernel_rfl,?_⟩
  repeat refine and_o ?_
  apply hK5
  refine AW.rP ?_
  simp [wl0,wl1,wl2,wl3,wl4,wl5,wl6,wl7,wl8]
  refine⟨(u:Int),0,(dB (p3 / 10)::dB (p3 % 10)::dB (p2 / 10)::dB (p2 % 10)::dB (p1 / 10)::dB (p1 % 10)::dB (p0 / 10)::dB (p0 % 10)::r),Le.mk2 _,.inr ⟨rfl,rfl,rfl⟩,by decide⟩
 refine AW.seqK fun K2 hK2=>AW.q ?_
 refine AW.cn (AW.exit (hK _ _ (AW.f1 w12 ?_)))
 refine AW.seqK fun K hK=>AW.q ?_
 refine AW.cn (AW.skip (hK _ _ (AW.seqK fun K hK=>AW.q ?_)))
 refine AW.cn (AW.skip (hK _ _ (AW.q ?_)))
 refine AW.cn (AW.skip ?_)
 have ed:dL 8 n=[p3 / 10,p3 % 10,p2 / 10,p2 % 10,p1 / 10,p1 % 10,p0 / 10,p0 % 10]:=by
  show [n / 10 / 10 / 10 / 10 / 10 / 10 / 10 % 10,n / 10 / 10 / 10 / 10 / 10 / 10 % 10,n / 10 / 10 / 10 / 10 / 10 % 10,n / 10 / 10 / 10 / 10 % 10,n / 10 / 10 / 10 % 10,n / 10 / 10 % 10,n / 10 % 10,n % 10]=_
  simp only [List.cons.injEq,and_true]
  refine⟨?_,?_,?_,?_,?_,?_,?_,?_⟩ <;> omega
 refine FinS.none (.inl rfl) rfl (by simp) ?_
 rw [ed]
 simp
theorem fb9 (G:List (List DV))(n:Nat)(hn:n<1000000000)(c0 c1 c2 c3 c4 c5 c6 c7 c8:CV)(r:List CV) :
 CallsS Tryz.prog G 257 [.c (.lsl 0 0 9 1),.c (.d (.int .u64 n))] [.cells false false 299 (c0::c1::c2::c3::c4::c5::c6::c7::c8::r)]
  (.ret (.tup []) [.cells false false 299 ((dL 9 n).map dB++r)] []):=by
 have wl:∀ k:Nat,k<1000→IntKind.i64.wrap (k:Int)=k:=fun k h=>w64 (by omega) (by omega)
 have wl0:IntKind.i64.wrap 0=0:=wl 0 (by decide)
 have wl1:IntKind.i64.wrap 1=1:=wl 1 (by decide)
 have wl2:IntKind.i64.wrap 2=2:=wl 2 (by decide)
 have wl3:IntKind.i64.wrap 3=3:=wl 3 (by decide)
 have wl4:IntKind.i64.wrap 4=4:=wl 4 (by decide)
 have wl5:IntKind.i64.wrap 5=5:=wl 5 (by decide)
 have wl6:IntKind.i64.wrap 6=6:=wl 6 (by decide)
 have wl7:IntKind.i64.wrap 7=7:=wl 7 (by decide)
 have wl8:IntKind.i64.wrap 8=8:=wl 8 (by decide)
 obtain⟨u,hu⟩:∃ q,n / 100000000=q:=⟨_,rfl⟩
 obtain⟨z,hz⟩:∃ q,n % 100000000=q:=⟨_,rfl⟩
 have du:(n:Int).tdiv 100000000=(u:Int):=by rw [Int.tdiv_eq_ediv_of_nonneg (by omega)];omega
 have dz:(n:Int).tmod 100000000=(z:Int):=by rw [Int.tmod_eq_emod_of_nonneg (by omega)];omega
 have eu:IntKind.u64.wrap (u:Int)=u:=wu64 (by omega) (by omega)
 obtain⟨y,hy⟩:∃ q,z / 10000=q:=⟨_,rfl⟩
 obtain⟨x,hx⟩:∃ q,z % 10000=q:=⟨_,rfl⟩
 have dy:(z:Int).tdiv 10000=(y:Int):=by rw [Int.tdiv_eq_ediv_of_nonneg (by omega)];omega
 have dx:(z:Int).tmod 10000=(x:Int):=by rw [Int.tmod_eq_emod_of_nonneg (by omega)];omega
 have ey:IntKind.u32.wrap (y:Int)=y:=wu32 (by omega) (by omega)
 obtain⟨p1,hp1⟩:∃ q,x / 100=q:=⟨_,rfl⟩
 obtain⟨p0,hp0⟩:∃ q,x % 100=q:=⟨_,rfl⟩
 have dp1:(x:Int).tdiv 100=(p1:Int):=by rw [Int.tdiv_eq_ediv_of_nonneg (by omega)];omega
 have dp0:(x:Int).tmod 100=(p0:Int):=by rw [Int.tmod_eq_emod_of_nonneg (by omega)];omega
 have ep1:IntKind.u32.wrap (p1:Int)=p1:=wu32 (by omega) (by omega)
 obtain⟨p3,hp3⟩:∃ q,y / 100=q:=⟨_,rfl⟩
 obtain⟨p2,hp2⟩:∃ q,y % 100=q:=⟨_,rfl⟩
 have dp3:(y:Int).tdiv 100=(p3:Int):=by rw [Int.tdiv_eq_ediv_of_nonneg (by omega)];omega
 have dp2:(y:Int).tmod 100=(p2:Int):=by rw [Int.tmod_eq_emod_of_nonneg (by omega)];omega
 have ep3:IntKind.u32.wrap (p3:Int)=p3:=wu32 (by omega) (by omega)
 obtain⟨p0a,hp0a⟩:∃ a,p0*2=a:=⟨_,rfl⟩
 obtain⟨p0b,hp0b⟩:∃ a,p0a+1=a:=⟨_,rfl⟩
 have p01:IntKind.u32.wrap ((p0:Int)*2)=(p0a:Int):=by rw [wu32 (by omega) (by omega)];omega
 have p02:IntKind.u32.wrap ((p0a:Int)+1)=(p0b:Int):=by rw [wu32 (by omega) (by omega)];omega
 have p03:(p0a:Int)<200:=by omega
 have p04:(p0b:Int)<200:=by omega
 obtain⟨p1a,hp1a⟩:∃ a,p1*2=a:=⟨_,rfl⟩
 obtain⟨p1b,hp1b⟩:∃ a,p1a+1=a:=⟨_,rfl⟩
 have p11:IntKind.u32.wrap ((p1:Int)*2)=(p1a:Int):=by rw [wu32 (by omega) (by omega)];omega
 have p12:IntKind.u32.wrap ((p1a:Int)+1)=(p1b:Int):=by rw [wu32 (by omega) (by omega)];omega
 have p13:(p1a:Int)<200:=by omega
 have p14:(p1b:Int)<200:=by omega
 obtain⟨p2a,hp2a⟩:∃ a,p2*2=a:=⟨_,rfl⟩
 obtain⟨p2b,hp2b⟩:∃ a,p2a+1=a:=⟨_,rfl⟩
 have p21:IntKind.u32.wrap ((p2:Int)*2)=(p2a:Int):=by rw [wu32 (by omega) (by omega)];omega
 have p22:IntKind.u32.wrap ((p2a:Int)+1)=(p2b:Int):=by rw [wu32 (by omega) (by omega)];omega
 have p23:(p2a:Int)<200:=by omega
 have p24:(p2b:Int)<200:=by omega
 obtain⟨p3a,hp3a⟩:∃ a,p3*2=a:=⟨_,rfl⟩
 obtain⟨p3b,hp3b⟩:∃ a,p3a+1=a:=⟨_,rfl⟩
 have p31:IntKind.u32.wrap ((p3:Int)*2)=(p3a:Int):=by rw [wu32 (by omega) (by omega)];omega
 have p32:IntKind.u32.wrap ((p3a:Int)+1)=(p3b:Int):=by rw [wu32 (by omega) (by omega)];omega
 have p33:(p3a:Int)<200:=by omega
 have p34:(p3b:Int)<200:=by omega
 have wz:IntKind.u32.wrap (z:Int)=z:=wu32 (by omega) (by omega)
 have w12:IntKind.u32.wrap (u:Int)=u:=wu32 (by omega) (by omega)
 have w48:IntKind.u32.wrap (48+(u:Int))=((48+u:Nat):Int):=by rw [wu32 (by omega) (by omega)];omega
 have w49:IntKind.u8.wrap ((48+u:Nat):Int)=((48+u:Nat):Int):=wrap_in ⟨by simp only [loK];omega,by simp only [hiK];omega⟩
 refine CallsS.en1 Go.Proofs.Tryz.func257 rfl fun _=>AW.q ?_
 refine AW.seqK fun K hK=>AW.block ?_
 refine AW.loopV (fun (b:Int × Int × List CV)=>⟨frOf [(0,.c (.lsl 0 0 9 1)),(1,.c (.d (.int .u64 b.1))),(4,.c (.d (.int .i64 b.2.1)))],upd (fun _=>.hole) 0 (.cells false false 299 b.2.2)⟩) 1000 (fun b=>b=((n:Int),9,(c0::c1::c2::c3::c4::c5::c6::c7::c8::r))∨b=((u:Int),1,(c0::dB (p3 / 10)::dB (p3 % 10)::dB (p2 / 10)::dB (p2 % 10)::dB (p1 / 10)::dB (p1 % 10)::dB (p0 / 10)::dB (p0 % 10)::r))) (fun b=>b.2.1.toNat) ((n:Int),9,(c0::c1::c2::c3::c4::c5::c6::c7::c8::r)) (Le.mk2 _) (.inl rfl) ?_
 rintro b (rfl|rfl)
 ·refine AW.seqK fun K2 hK2=>AW.q ?_
  refine AW.cy (AW.skip (hK2 _ _ (AW.block (AW.f2 dz wz ?_))))
  refine AW.f2 du eu ?_
  refine AW.f3 dy dx ey ?_
  refine AW.f5 dp1 dp0 ep1 p11 p01 ?_
  refine AW.f5 dp3 dp2 ep3 p31 p21 ?_
  refine AW.seqK fun K5 hK5=>?_
  refine AW.drawP mixed (by kernel_rfl) rfl ?_
  simp [p02,p03,p04,wl0,wl1,wl2,wl3,wl4,wl5,wl6,wl7,wl8,setSeg]
  rw [tb0 _ (x:=p0) (a:=p0a) (by omega) (by omega),tb1 _ (x:=p0) (a:=p0b) (by omega) (by omega)]
  rotate_left
  ·kernel_rfl
  ·kernel_rfl
  repeat refine and_o ?_
  refine⟨by kernel_rfl,?_⟩
  repeat refine and_o ?_
  apply hK5
  refine AW.seqK fun K5 hK5=>?_
  refine AW.drawP mixed (by kernel_rfl) rfl ?_
  simp [p12,p13,p14,wl0,wl1,wl2,wl3,wl4,wl5,wl6,wl7,wl8,setSeg]
  rw [tb0 _ (x:=p1) (a:=p1a) (by omega) (by omega),tb1 _ (x:=p1) (a:=p1b) (by omega) (by omega)]
  rotate_left
  ·kernel_rfl
  ·kernel_rfl
  repeat refine and_o ?_
  refine⟨by kernel_rfl,?_⟩
  repeat refine and_o ?_
  apply hK5
  refine AW.seqK fun K5 hK5=>?_
  refine AW.drawP mixed (by kernel_rfl) rfl ?_
  simp [p22,p23,p24,wl0,wl1,wl2,wl3,wl4,wl5,wl6,wl7,wl8,setSeg]
  rw [tb0 _ (x:=p2) (a:=p2a) (by omega) (by omega),tb1 _ (x:=p2) (a:=p2b) (by omega) (by omega)]
  rotate_left
  ·kernel_rfl
  ·kernel_rfl
  repeat refine and_o ?_
  refine⟨by kernel_rfl,?_⟩
  repeat refine and_o ?_
  apply hK5
  refine AW.seqK fun K5 hK5=>?_
  refine AW.drawP mixed (by kernel_rfl) rfl ?_
  simp [p32,p33,p34,wl0,wl1,wl2,wl3,wl4,wl5,wl6,wl7,wl8,setSeg]
  rw [tb0 _ (x:=p3) (a:=p3a) (by omega) (by omega),tb1 _ (x:=p3) (a:=p3b) (by omega) (by omega)]
  rotate_left
  ·kernel_rfl
  ·kernel_rfl
  repeat refine and_o ?_
  refine⟨by kernel_rfl,?_⟩
  repeat refine and_o ?_
  apply hK5
  refine AW.rP ?_
  simp [wl0,wl1,wl2,wl3,wl4,wl5,wl6,wl7,wl8]
  refine⟨(u:Int),1,(c0::dB (p3 / 10)::dB (p3 % 10)::dB (p2 / 10)::dB (p2 % 10)::dB (p1 / 10)::dB (p1 % 10)::dB (p0 / 10)::dB (p0 % 10)::r),Le.mk2 _,.inr ⟨rfl,rfl,rfl⟩,by decide⟩
 refine AW.seqK fun K2 hK2=>AW.q ?_
 refine AW.cn (AW.exit (hK _ _ (AW.f1 w12 ?_)))
 refine AW.seqK fun K hK=>AW.q ?_
 refine AW.cn (AW.skip (hK _ _ (AW.seqK fun K hK=>AW.q ?_)))
 refine AW.cn (AW.skip (hK _ _ (AW.q ?_)))
 refine AW.cy (AW.rP ?_)
 simp [w48,w49,setSeg]
 repeat refine and_o ?_
 have ed:dL 9 n=[u,p3 / 10,p3 % 10,p2 / 10,p2 % 10,p1 / 10,p1 % 10,p0 / 10,p0 % 10]:=by
  show [n / 10 / 10 / 10 / 10 / 10 / 10 / 10 / 10 % 10,n / 10 / 10 / 10 / 10 / 10 / 10 / 10 % 10,n / 10 / 10 / 10 / 10 / 10 / 10 % 10,n / 10 / 10 / 10 / 10 / 10 % 10,n / 10 / 10 / 10 / 10 % 10,n / 10 / 10 / 10 % 10,n / 10 / 10 % 10,n / 10 % 10,n % 10]=_
  simp only [List.cons.injEq,and_true]
  refine⟨?_,?_,?_,?_,?_,?_,?_,?_,?_⟩ <;> omega
 refine FinS.none (.inl rfl) rfl (by simp) ?_
 rw [ed]
 have e48:CV.d (.int .u8 (IntKind.u8.wrap (48+(u:Int))))=dB u:=by unfold dB;rw [← w49];rfl
 simp [e48]
def dgT (k n:Nat):List UInt8:=(dL k n).map fun d=>UInt8.ofNat (48+d)
theorem dL_len:∀ (k n:Nat),(dL k n).length=k
 | 0,_=>rfl
 | k+1,n=>by simp [dL,dL_len k]
theorem dL_lt:∀ (k n:Nat),∀ d∈dL k n,d<10
 | 0,_,d,h=>by cases h
 | k+1,n,d,h=>by
  simp only [dL,List.mem_append,List.mem_singleton] at h
  rcases h with h|rfl
  ·exact dL_lt k _ d h
  ·omega
theorem dgT_len (k n:Nat):(dgT k n).length=k:=by simp [dgT,dL_len]
theorem dB_bytes (k n:Nat):(dL k n).map dB=bytesA (dgT k n):=by
 unfold dgT bytesA
 rw [List.map_map]
 refine List.map_congr_left fun d hd=>?_
 have:=dL_lt k n d hd
 simp only [Function.comp,dB]
 rw [UInt8.toNat_ofNat',Nat.mod_eq_of_lt (by omega)]
theorem dig_step {n:Nat}(h:n≠0):dig 10 n=n % 10::dig 10 (n / 10):=by
 refine (dig_of (by decide) ?_ ?_).symm
 ·have hc:=dig_can (B:=10) (by decide) (n / 10)
  refine⟨ok_cons.2 ⟨Nat.mod_lt _ (by decide),hc.1⟩,fun x hx=>?_⟩
  cases hd:dig 10 (n / 10) with
  | nil=>
   rw [hd] at hx
   have h0:=(dig_nil (by decide)).1 hd
   simp at hx
   omega
  | cons a l=>
   rw [hd] at hx
   exact hc.2 x (by rw [hd];simpa using hx)
 ·show n % 10+10*val 10 (dig 10 (n / 10))=n
  rw [dig_val (by decide)];omega
theorem dL_dig:∀ (k n:Nat),ndig n=k→dL k n=(dig 10 n).reverse
 | 0,n,h=>by
  have:dig 10 n=[]:=List.length_eq_zero_iff.1 h
  rw [this];rfl
 | k+1,n,h=>by
  have h0:n≠0:=by
   intro e;subst e;cases h
  have hs:=dig_step h0
  have h1:ndig (n / 10)=k:=by
   unfold ndig at h ⊢
   rw [hs,List.length_cons] at h;omega
  rw [hs,List.reverse_cons,← dL_dig k _ h1];rfl
theorem decU_dgT {n:Nat}(h:n≠0):decU n=dgT (ndig n) n:=by
 unfold decU dgT;rw [if_neg h,dL_dig _ _ rfl]
theorem fb_ok (G:List (List DV))(k n:Nat)(h1:3≤k)(h2:k≤9)(hn:n<10 ^ k) :
 CallsS Tryz.prog G 257 [.c (.lsl 0 0 k 1),.c (.d (.int .u64 n))] [.cells false false 299 [.d (.int .u8 0),.d (.int .u8 0),.d (.int .u8 0),.d (.int .u8 0),.d (.int .u8 0),.d (.int .u8 0),.d (.int .u8 0),.d (.int .u8 0),.d (.int .u8 0),.d (.int .u8 0),.d (.int .u8 0),.d (.int .u8 0),.d (.int .u8 0),.d (.int .u8 0),.d (.int .u8 0),.d (.int .u8 0),.d (.int .u8 0),.d (.int .u8 0),.d (.int .u8 0),.d (.int .u8 0),.d (.int .u8 0),.d (.int .u8 0),.d (.int .u8 0),.d (.int .u8 0)]]
  (.ret (.tup []) [.cells false false 299 (bytesA (dgT k n)++List.replicate (24 - k) (.d (.int .u8 0)))] []):=by
 rw [← dB_bytes]
 have h:k=3∨k=4∨k=5∨k=6∨k=7∨k=8∨k=9:=by omega
 rcases h with rfl|rfl|rfl|rfl|rfl|rfl|rfl
 ·exact fb3 G n hn _ _ _ (List.replicate 21 _)
 ·exact fb4 G n hn _ _ _ _ (List.replicate 20 _)
 ·exact fb5 G n hn _ _ _ _ _ (List.replicate 19 _)
 ·exact fb6 G n hn _ _ _ _ _ _ (List.replicate 18 _)
 ·exact fb7 G n hn _ _ _ _ _ _ _ (List.replicate 17 _)
 ·exact fb8 G n hn _ _ _ _ _ _ _ _ (List.replicate 16 _)
 ·exact fb9 G n hn _ _ _ _ _ _ _ _ _ (List.replicate 15 _)
theorem bytesA_pure (l:List UInt8):∀ x∈bytesA l,x.pure=true:=by
 intro x hx
 simp only [bytesA,List.mem_map] at hx
 obtain⟨b,_,rfl⟩:=hx
 rfl
theorem fmtUint_ok (m:Int)(n:Nat)(hn:n<1000000000):CallsP Tryz.prog (GG m) 229 [.c (.d (.int .u64 n)),.c (.d (.int .i64 10))] (.c (.d (.str (decU n)))):=by
 by_cases hs:n<100
 ·have hs':(n:Int)<100:=by omega
  have h1:=small_ok m n hs
  have w1:=w64 (n:=(n:Int)) (by omega) (by omega)
  refine CallsP.en Go.Proofs.Tryz.func229 rfl fun _=>AW.q ?_
  refine AW.seqK fun K hK=>AW.q ?_
  refine AW.cy (AW.seqK fun K1 hK1=>AW.f1 hs' ?_)
  refine AW.fy (by simp [hs'] <;> omega) (AW.c1 0 h1 w1 ?_)
  exact AW.r0 (FinP.rt rfl 4 (by simp))
 have hs':¬ (n:Int)<100:=by omega
 have h0:n≠0:=by omega
 have h1:=numDigits_ok m n h0 hn
 have hd:=decU_dgT h0
 have k1:3≤ndig n:=by
  have:=ndig_lt n
  apply Classical.byContradiction
  intro hc
  have h9:10 ^ ndig n≤10 ^ 2:=Nat.pow_le_pow_right (by decide) (by omega)
  omega
 have k2:ndig n≤9:=dig_len_le (by decide) hn
 have hnd:=ndig_lt n
 rw [hd]
 refine CallsP.en Go.Proofs.Tryz.func229 rfl fun _=>AW.q ?_
 refine AW.seqK fun K hK=>AW.q ?_
 refine AW.cy (AW.seqK fun K1 hK1=>AW.f1 hs' ?_)
 refine AW.fn (by simp [hs'] <;> omega) (AW.skip (hK1 _ _ (AW.q ?_)))
 refine AW.c0 1 h1 ?_
 have hfb:=fun G=>fb_ok G (ndig n) n k1 k2 hnd
 have hlt:dgT (ndig n) n=dgT (ndig n) n:=rfl
 have hln:=dgT_len (ndig n) n
 generalize ndig n=k at *
 generalize dgT k n=t at *
 subst hln
 have hk1:(0:Int)≤(t.length:Int):=by omega
 have hk2:(t.length:Int)≤24:=by omega
 refine AW.seqK fun K1 hK1=>?_
 refine AW.regionX ?_
 refine ChX.run 1 rfl ?_
 simp []
 refine ChX.stepN (x:=.c (.lsl 0 0 t.length 1)) (us:=[]) (rds:=[0]) 1 rfl rfl ?_ ?_
 ·simp [Am.stepN,Op.operands,bnds,nSlice]
  omega
 refine ChX.run 2 rfl ?_
 simp []
 have hz:∀ x∈([.d (.int .u8 0),.d (.int .u8 0),.d (.int .u8 0),.d (.int .u8 0),.d (.int .u8 0),.d (.int .u8 0),.d (.int .u8 0),.d (.int .u8 0),.d (.int .u8 0),.d (.int .u8 0),.d (.int .u8 0),.d (.int .u8 0),.d (.int .u8 0),.d (.int .u8 0),.d (.int .u8 0),.d (.int .u8 0),.d (.int .u8 0),.d (.int .u8 0),.d (.int .u8 0),.d (.int .u8 0),.d (.int .u8 0),.d (.int .u8 0),.d (.int .u8 0),.d (.int .u8 0)]:List CV),x.pure=true:=by decide
 have hz':∀ x∈bytesA t++List.replicate (24 - t.length) (CV.d (.int .u8 0)),x.pure=true:=by
  intro x hx
  rcases List.mem_append.1 hx with h|h
  ·exact bytesA_pure t x h
  ·rw [List.eq_of_mem_replicate h];rfl
 refine CallP.pass1 1 9 0 (own:=true) (T:=299) (cs:=[.d (.int .u8 0),.d (.int .u8 0),.d (.int .u8 0),.d (.int .u8 0),.d (.int .u8 0),.d (.int .u8 0),.d (.int .u8 0),.d (.int .u8 0),.d (.int .u8 0),.d (.int .u8 0),.d (.int .u8 0),.d (.int .u8 0),.d (.int .u8 0),.d (.int .u8 0),.d (.int .u8 0),.d (.int .u8 0),.d (.int .u8 0),.d (.int .u8 0),.d (.int .u8 0),.d (.int .u8 0),.d (.int .u8 0),.d (.int .u8 0),.d (.int .u8 0),.d (.int .u8 0)]) (by simp) hz hz' (hfb _) rfl rfl (by
  intro i h h'
  match i,h with
  | 0,_=>exact .inr (.inl ⟨_,_,_,rfl,rfl⟩)
  | 1,_=>exact .inl ⟨rfl,rfl⟩) (by simp) (by decide) ?_
 simp
 refine ChX.done ?_
 repeat refine and_o ?_
 apply hK1
 refine AW.seqK fun K1 hK1=>?_
 refine AW.regionX ?_
 refine ChX.run 1 rfl ?_
 simp []
 refine ChX.stepN (x:=.c (.lsl 0 0 t.length 1)) (us:=[]) (rds:=[0]) 1 rfl rfl ?_ ?_
 ·simp [Am.stepN,Op.operands,bnds,nSlice,bytesA_length]
  omega
 refine ChX.convBs (κ:=0) (off:=0) (own:=true) (fz:=false) (T':=299) (e:=5) (cs:=bytesA t++List.replicate (24 - t.length) (CV.d (.int .u8 0))) (l:=t) 1 rfl rfl rfl (by simp) (by simp) (by rw [List.drop_zero,List.take_append_of_le_length (by rw [bytesA_length];exact Nat.le_refl _),List.take_of_length_le (by rw [bytesA_length];exact Nat.le_refl _)]) (by omega) (by simp) Tryz.underlying5 (by simp) ?_
 refine ChX.run 1 rfl ?_
 simp []
 refine ChX.done ?_
 repeat refine and_o ?_
 apply hK1
 exact AW.r0 (FinP.rt (t:=4) rfl 9 (by simp))
theorem SimW.of_sim {c:Ctx}{r:Option Nat}{ops:Array Oper}{o:Oper}{s s1:LSt}(hg:o.guard=none) (hdf:∀ cl,o.op≠.defer cl) (h:Sim c o s s1):SimW c r ops o s s1:=by
 intro F β a w K Q hs hK
 have hw:wantA ops o.guard s.fr=some true:=by unfold wantA;rw [hg]
 rw [wantA_sound hs hw]
 simp only [if_true]
 exact wpIn_fen hdf (h F β a w K Q hs hK)
theorem SimW.callG {c:Ctx}{r:Option Nat}{ops:Array Oper}{o:Oper}{s:LSt}{cl:Call}{f:FuncId}{fs cs:List AV}{x:AV}{lv':Key→LB}(hd:∀ d,o.dst=some d→d<c.n) (hg:o.guard=none) (ho:o.op=.call cl)
 (ht:tgtC c.P (s.val c.G) cl.callee=some (f,fs,cs)) (hf:isFn c.P f=true) (hok:AllOk s.lv) (hc:CallG c.P c.G f (fs++cl.args.toList.map (s.val c.G)++cs) s.lv (.ret x lv')):SimW c r ops o s (LSt.put ⟨s.fr,lv'⟩ o.dst x):=
 SimW.of_sim hg (fun cl' e=>by rw [ho] at e;cases e) (CallG.sim hd ho ht hf hok hc)
def bdC (k n:Nat):LB:=.cells false false 232 [.ptr 1 0,.lsl k 0 n 1]
def byC (l:List UInt8):LB:=.cells false false 5 (bytesA l)
theorem infoU8:∃ i z,Tryz.prog.info? 5=some i∧i.zero=some z∧z.cells.size=1∧i.bytes=1:=by
 have h:(Tryz.prog.info? 5).map (fun i=>(i.zero.map (·.cells.size),i.bytes))=some (some 1,1):=by kernel_rfl
 obtain⟨i,h1,h2⟩:=Option.map_eq_some_iff.1 h
 simp only [Prod.mk.injEq] at h2
 obtain⟨z,h3,h4⟩:=Option.map_eq_some_iff.1 h2.1
 exact⟨i,z,h1,h3,h4,h2.2⟩
theorem app_u8 (lv:Key→LB)(l s:List UInt8)(h2:lv 2=.cells false false 5 (bytesA l))(h3:lv 3=.hole)(hs:l.length+s.length≤100000000000) :
 nAppendS Tryz.prog 230 9 lv 3 (.c (.lsl 2 0 l.length 1)) (.c (.d (.str s)))=some (.c (.lsl 3 0 (l.length+s.length) 1),[(2,.dead),(3,.cells false false 5 (bytesA l++bytesA s))],[]):=by
 obtain⟨i,z,i1,i2,i3,i4⟩:=infoU8
 have hn:=bytesA_length l
 unfold nAppendS
 simp only [h3,h2]
 simp [i1,i2,i3,i4,hn]
 omega
theorem app_nil (lv:Key→LB)(s:List UInt8)(h3:lv 2=.hole)(hs:s.length≤100000000000) :
 nAppendS Tryz.prog 230 9 lv 2 (.c (.d .nilsl)) (.c (.d (.str s)))=some (.c (.lsl 2 0 s.length 1),[(2,if s.length=0 then .nils else .cells true false 5 (bytesA s))],[]):=by
 obtain⟨i,z,i1,i2,i3,i4⟩:=infoU8
 unfold nAppendS
 simp only [h3]
 simp [i1,i2,i3,i4]
 omega
theorem ws_used (m:Int)(lv:Key→LB)(l s:List UInt8)(hok:AllOk lv)(h1:lv 1=bdC 2 l.length)(h2:lv 2=byC l)(h3:lv 3=.hole)(hs:l.length+s.length≤100000000000) :
 CallG Tryz.prog (GG m) 180 [.c (.ptr 1 0),.c (.d (.str s))] lv
  (.ret (.tup [.c (.d (.int .i64 s.length)),.c (.d .nilIface)]) (upd (upd (upd lv 2 .dead) 3 (byC (l++s))) 1 (bdC 3 (l.length+s.length)))):=by
 refine CallG.of_AW (κ:=3) Go.Proofs.Tryz.func180 rfl (by show 2≤_;decide) ?_
 rintro⟨_,Gc,w0,F0,W0,_,lv0,β0⟩ rfl rfl rfl rfl
 refine AW.seqK fun K hK=>AW.rP ?_
 simp
 repeat refine and_o ?_
 apply hK
 refine AW.seqK fun K hK=>?_
 have h1:lv0 1=.cells false false 232 [.ptr 1 0,.lsl 2 0 l.length 1]:=h1
 have h2:lv0 2=.cells false false 5 (bytesA l):=h2
 have h3:lv0 3=.hole:=h3
 refine AW.regionS' ⟨_,⟨_,SimW.plain (x:=.c (.ptr 1 0)) (vc:=True) (κ:=9) (by intro d hd;cases hd;show (_:Nat)<19;decide) rfl rfl trivial rfl,_,SimW.callG (f:=234) (fs:=[]) (cs:=[]) (by intro d hd;cases hd;show (_:Nat)<19;decide) rfl rfl rfl (by simp) hok (self_used m lv0 1 0 232 _ _ h1 rfl),rfl⟩,?_⟩
 repeat refine and_o ?_
 apply hK
 refine AW.seqK fun K hK=>?_
 refine AW.regionX ?_
 refine ChX.run 6 rfl ?_
 simp [h1,h2,h3]
 have hn:=bytesA_length l
 have happ:bytesA l++bytesA s=bytesA (l++s):=by simp [bytesA]
 refine ChX.stepN (x:=.c (.lsl 3 0 (l.length+s.length) 1)) (us:=[(2,.dead),(3,.cells false false 5 (bytesA (l++s)))]) (rds:=[]) 4 rfl rfl ?_ ?_
 ·show nAppendS Tryz.prog 230 9 lv0 3 (.c (.lsl 2 0 l.length 1)) (.c (.d (.str s)))=_
  rw [← happ]
  exact app_u8 lv0 l s h2 h3 hs
 refine ChX.run 3 rfl ?_
 simp [updL,h1,setSeg]
 refine ChX.done ?_
 repeat refine and_o ?_
 apply hK
 refine AW.q ?_
 exact AW.ret (show FinG _ _ _ .ret _ _ from ⟨by simp [Tryz.f180,resA,resL,resV],rfl⟩)
theorem ws_first (m:Int)(lv:Key→LB)(s:List UInt8)(hok:AllOk lv)(h1:lv 1=.cells false false 232 [.d .nilp,.d .nilsl])(h2:lv 2=.hole)(hs:s.length≤100000000000)(h0:s≠[]) :
 CallG Tryz.prog (GG m) 180 [.c (.ptr 1 0),.c (.d (.str s))] lv
  (.ret (.tup [.c (.d (.int .i64 s.length)),.c (.d .nilIface)]) (upd (upd (upd lv 1 (.cells false false 232 [.ptr 1 0,.d .nilsl])) 2 (.cells true false 5 (bytesA s))) 1 (bdC 2 s.length))):=by
 refine CallG.of_AW (κ:=2) Go.Proofs.Tryz.func180 rfl (by show 2≤_;decide) ?_
 rintro⟨_,Gc,w0,F0,W0,_,lv0,β0⟩ rfl rfl rfl rfl
 have hl0:¬ s.length=0:=fun h=>h0 (List.length_eq_zero_iff.1 h)
 refine AW.q ?_
 refine AW.seqK fun K hK=>?_
 have h1:lv0 1=.cells false false 232 [.d .nilp,.d .nilsl]:=h1
 have h2:lv0 2=.hole:=h2
 refine AW.regionS' ⟨_,⟨_,SimW.plain (x:=.c (.ptr 1 0)) (vc:=True) (κ:=9) (by intro d hd;cases hd;show (_:Nat)<19;decide) rfl rfl trivial rfl,_,SimW.callG (f:=234) (fs:=[]) (cs:=[]) (by intro d hd;cases hd;show (_:Nat)<19;decide) rfl rfl rfl (by simp) hok (self_fresh m lv0 1 0 232 _ _ rfl h1 rfl),rfl⟩,?_⟩
 repeat refine and_o ?_
 apply hK
 refine AW.seqK fun K hK=>?_
 refine AW.regionX ?_
 refine ChX.run 6 rfl ?_
 simp [h1,h2,setSeg]
 refine ChX.stepN (x:=.c (.lsl 2 0 s.length 1)) (us:=[(2,.cells true false 5 (bytesA s))]) (rds:=[]) 3 rfl rfl ?_ ?_
 ·have:=app_nil (upd lv0 1 (.cells false false 232 [.ptr 1 0,.d .nilsl])) s (by simp [h2]) hs
  rw [if_neg hl0] at this
  exact this
 refine ChX.run 3 rfl ?_
 simp [updL,h1,setSeg]
 refine ChX.done ?_
 repeat refine and_o ?_
 apply hK
 refine AW.q ?_
 exact AW.ret (show FinG _ _ _ .ret _ _ from ⟨by simp [Tryz.f180,resA,resL,resV],by simp [setSeg,bdC]⟩)
theorem toBytes_A:∀ l:List UInt8,toBytes (bytesA l)=some l
 | []=>rfl
 | b::l=>by
  have hb:b.toNat<256:=b.toNat_lt
  show toBytes (.d (.int .u8 (.ofNat b.toNat))::bytesA l)=_
  unfold toBytes
  simp only [toBytes_A l,hb,if_true,UInt8.ofNat_toNat]
theorem ptrU8:Tryz.prog.underlying 282=some (.pointer 5):=Tryz.underlying282
theorem bs_ok (m:Int)(lv:Key→LB)(l:List UInt8)(h1:lv 1=bdC 2 l.length)(h2:lv 2=byC l)(hl:l.length≤100000000000)(h0:l≠[]) :
 CallG Tryz.prog (GG m) 181 [.c (.ptr 1 0)] lv (.ret (.c (.d (.str l))) (upd lv 2 .dead)):=by
 refine CallG.of_AW (κ:=9) Go.Proofs.Tryz.func181 rfl (by show 1≤_;decide) ?_
 rintro⟨_,Gc,w0,F0,W0,_,lv0,β0⟩ rfl rfl rfl rfl
 have hl0:0<l.length:=List.length_pos_iff.2 h0
 have h1:lv0 1=.cells false false 232 [.ptr 1 0,.lsl 2 0 l.length 1]:=h1
 have h2:lv0 2=.cells false false 5 (bytesA l):=h2
 have hn:=bytesA_length l
 refine AW.q ?_
 refine AW.seqK fun K hK=>?_
 refine AW.drawX mixed (by kernel_rfl) ?_
 refine ChD.run 4 rfl ?_
 simp [h1]
 refine ChD.stepN (x:=.c (.ptr 2 0)) (us:=[]) (rds:=[2]) 9 rfl rfl ?_ ?_
 ·show nData lv0 (.c (.lsl 2 0 l.length 1))=_
  simp [nData,h2,hl0]
 refine ChD.run 5 rfl ?_
 simp [h1,h2,updL]
 refine⟨by omega,?_⟩
 refine ChD.stepN (x:=.c (.d (.str l))) (us:=[(2,.dead)]) (rds:=[]) 9 rfl rfl ?_ ?_
 ·show nString Tryz.prog 282 (updL lv0 []) (.c (.ptr 2 0)) (.c (.d (.int .i64 (l.length:Int))))=_
  have hc1:Tryz.prog.cellsOf 5=1:=by kernel_rfl
  have htk:(bytesA l).take ((l.length:Int).toNat)=bytesA l:=by rw [Int.toNat_natCast];exact List.take_of_length_le (by omega)
  simp only [nString,updL,List.foldl,h2,ptrU8,hc1,htk,toBytes_A]
  rw [if_pos ⟨trivial,trivial,by omega,by omega⟩,if_pos (by omega)]
 refine ChD.run 1 rfl ?_
 simp
 refine ChD.done ?_
 refine⟨by kernel_rfl,?_⟩
 repeat refine and_o ?_
 apply hK
 exact AW.ret (show FinG _ _ _ .ret _ _ from ⟨by simp [Tryz.f181,resA,resL,resV],by simp [updL]⟩)
theorem dL_add (j:Nat):∀ (k n:Nat),dL (j+k) n=dL j (n / 10 ^ k)++dL k n
 | 0,n=>by simp [dL]
 | k+1,n=>by
  show dL (j+k) (n / 10)++[n % 10]=_
  rw [dL_add j k (n / 10),Nat.div_div_eq_div_mul,show 10*10 ^ k=10 ^ (k+1) by rw [Nat.pow_succ];omega,List.append_assoc];rfl
theorem dL_zero:∀ k:Nat,dL k 0=List.replicate k 0
 | 0=>rfl
 | k+1=>by
  show dL k (0 / 10)++[0 % 10]=_
  rw [Nat.zero_div,dL_zero k,List.replicate_succ']
theorem dL_mod:∀ (k n:Nat),dL k (n % 10 ^ k)=dL k n
 | 0,n=>rfl
 | k+1,n=>by
  show dL k (n % 10 ^ (k+1) / 10)++[n % 10 ^ (k+1) % 10]=dL k (n / 10)++[n % 10]
  rw [show 10 ^ (k+1)=10*10 ^ k by rw [Nat.pow_succ];omega,Nat.mod_mul_right_div_self,dL_mod k (n / 10),Nat.mod_mul_right_mod]
theorem dgT_add (j k n:Nat):dgT (j+k) n=dgT j (n / 10 ^ k)++dgT k n:=by
 unfold dgT;rw [dL_add,List.map_append]
theorem dgT_zero (k:Nat):dgT k 0=List.replicate k 48:=by
 unfold dgT;rw [dL_zero,List.map_replicate];rfl
theorem dgT_mod (k n:Nat):dgT k (n % 10 ^ k)=dgT k n:=by
 unfold dgT;rw [dL_mod]
theorem decU_len {n:Nat}(h:n<1000000000):1≤(decU n).length∧(decU n).length≤9:=by
 by_cases h0:n=0
 ·subst h0;exact⟨by decide,by decide⟩
 ·rw [decU_dgT h0,dgT_len]
  have h2:ndig n≤9:=dig_len_le (by decide) h
  have h1:=ndig_lt n
  refine⟨Nat.one_le_iff_ne_zero.2 fun e=>?_,h2⟩
  rw [e] at h1;omega
theorem dec_pad {n:Nat}(h:n<1000000000):List.replicate (9 - (decU n).length) 48++decU n=dgT 9 n:=by
 by_cases h0:n=0
 ·subst h0;decide
 ·have h2:ndig n≤9:=dig_len_le (by decide) h
  rw [decU_dgT h0,dgT_len]
  conv=>rhs;rw [show 9=(9 - ndig n)+ndig n by omega]
  rw [dgT_add,Nat.div_eq_of_lt (ndig_lt n),dgT_zero]
theorem ndig_step {n:Nat}(h:n≠0):ndig n=ndig (n / 10)+1:=by
 unfold ndig;rw [dig_step h,List.length_cons]
theorem ndig_add (n:Nat):∀ j:Nat,n / 10 ^ j≠0→ndig n=ndig (n / 10 ^ j)+j
 | 0,_=>by simp
 | j+1,h=>by
  have e:n / 10 ^ (j+1)=n / 10 ^ j / 10:=by rw [Nat.div_div_eq_div_mul,Nat.pow_succ]
  have h1:n / 10 ^ j≠0:=by intro e0;rw [e,e0] at h;simp at h
  rw [ndig_add n j h1,ndig_step h1,e];omega
def pts (n:Nat):List (List UInt8):=if n / 1000000000=0 then [decU n] else dgT 9 (n % 1000000000)::pts (n / 1000000000)
termination_by n
decreasing_by
 rename_i h
 exact Nat.div_lt_self (by omega) (by decide)
theorem pts_lo {n:Nat}(h:n / 1000000000=0):pts n=[decU n]:=by rw [pts,if_pos h]
theorem pts_hi {n:Nat}(h:n / 1000000000≠0):pts n=dgT 9 (n % 1000000000)::pts (n / 1000000000):=by rw [pts,if_neg h]
theorem pts_flat (n:Nat)(h:n≠0):(pts n).reverse.flatten=decU n:=by
 induction n using Nat.strongRecOn with
 | _ n ih=>
  by_cases hq:n / 1000000000=0
  ·rw [pts_lo hq];simp
  ·rw [pts_hi hq,List.reverse_cons,List.flatten_append,ih _ (Nat.div_lt_self (by omega) (by decide)) hq,decU_dgT hq,decU_dgT h,ndig_add n 9 hq,dgT_add]
   have:dgT 9 (n % 1000000000)=dgT 9 n:=dgT_mod 9 n
   rw [this];simp
theorem pts_ne (n:Nat):∀ p∈pts n,p≠[]∧p.length≤9:=by
 induction n using Nat.strongRecOn with
 | _ n ih=>
  by_cases hq:n / 1000000000=0
  ·rw [pts_lo hq]
   intro p hp
   rw [List.mem_singleton.1 hp]
   have h:=decU_len (n:=n) (by omega)
   exact⟨fun e=>by rw [e] at h;exact absurd h.1 (by decide),h.2⟩
  ·rw [pts_hi hq]
   intro p hp
   rcases List.mem_cons.1 hp with rfl|hp
   ·refine⟨fun e=>?_,?_⟩
    ·have:=dgT_len 9 (n % 1000000000);rw [e] at this;cases this
    ·rw [dgT_len];exact Nat.le_refl _
   ·exact ih _ (Nat.div_lt_self (by omega) (by decide)) p hp
theorem pts_nil (n:Nat):pts n≠[]:=by
 rw [pts];split <;> simp
theorem flat_len {l:List (List UInt8)}(h:∀ p∈l,p≠[]):l.length≤l.flatten.length:=by
 induction l with
 | nil=>simp
 | cons p l ih=>
  have h1:=List.length_pos_iff.2 (h p (List.mem_cons_self ..))
  have h2:=ih fun q hq=>h q (List.mem_cons_of_mem _ hq)
  simp only [List.flatten_cons,List.length_append,List.length_cons];omega
theorem fmtU_ok (m:Int)(n:Nat)(hn:n<1000000000):CallsP Tryz.prog (GG m) 178 [.c (.d (.int .u64 n)),.c (.d (.int .i64 10))] (.c (.d (.str (decU n)))):=by
 have h1:=fmtUint_ok m n hn
 refine CallsP.en Go.Proofs.Tryz.func178 rfl fun _=>AW.q ?_
 refine AW.c0 1 h1 ?_
 exact AW.r0 (FinP.rt rfl 4 (by simp))
noncomputable def rpT (G:List (List DV)):Bool:=(List.range 9).all fun i=>match finK (evK Tryz.prog G spX 0 60 179 [.c (.d (.str [48])),.c (.d (.int .i64 (.ofNat i)))] .leaf 0 [] kDone .pan) with
 | some (.c (.d (.str s)))=>eqB s (List.replicate i 48)
 | _=>false
theorem rpT_ok (m:Int):rpT (GG m)=true:=by kernel_rfl
theorem repeat_ok (m:Int)(i:Nat)(hi:i<9):CallsP Tryz.prog (GG m) 179 [.c (.d (.str [48])),.c (.d (.int .i64 i))] (.c (.d (.str (List.replicate i 48)))):=by
 have h:=List.all_eq_true.1 (rpT_ok m) i (List.mem_range.2 hi)
 split at h
 ·rename_i s hs
  have:=CallsP.of_ev (evX_ok m 60) hs
  rw [eqB_eq h] at this
  exact this
 ·cases h
theorem upd_hm {lv:Key→LB}{k:Key}(h:lv k=.hole):upd lv k .hole=lv:=by
 funext j
 simp_all
def sK (l:List (List UInt8)):List CV:=l.map fun s=>CV.d (.str s)
def sB (l:List (List UInt8)):LB:=if l=[] then .hole else .cells true false 9 (sK l)
def sS (l:List (List UInt8)):AV:=if l=[] then .c (.d .nilsl) else .c (.lsl 0 0 l.length 1)
theorem sK_len (l:List (List UInt8)):(sK l).length=l.length:=by simp [sK]
theorem sK_ren (l:List (List UInt8))(g:Key→Key):(sK l).map (CV.ren g)=sK l:=by
 unfold sK;rw [List.map_map];rfl
theorem sB_snoc (l:List (List UInt8))(x:List UInt8):sB (l++[x])=.cells true false 9 (sK l++[.d (.str x)]):=by
 unfold sB;rw [if_neg (by simp)];simp [sK]
theorem sS_snoc (l:List (List UInt8))(x:List UInt8):sS (l++[x])=.c (.lsl 0 0 (l.length+1) 1):=by
 unfold sS;rw [if_neg (by simp)];simp
theorem bsS1 (lv:Key→LB)(κ:Key)(h:lv κ=.hole)(a:CV):stepBuildSlice Tryz.prog 224 1 [0] lv κ [.c a]=some (.c (.lsl κ 0 1 1),[(κ,.cells true false 9 [a])],[],True):=by
 unfold stepBuildSlice;rw [h];kernel_rfl
theorem concatT (s t:List UInt8):stepBin Tryz.prog .add 9 (.c (.d (.str s))) (.c (.d (.str t)))=some (.c (.d (.str (s++t))),[],[],s.length+t.length≤9223372036854775807):=by
 simp [stepBin,binS,binSok]
theorem ixS1 (lv:Key→LB){cs:List CV}{n i:Nat}(h:lv 0=.cells false false 9 cs) (hi:i<n):stepIndexAddr Tryz.prog 224 lv (.c (.lsl 0 0 n 1)) (.c (.d (.int .i64 (i:Int))))=some (.c (.ptr 0 i),[],[0],i<n):=by
 simp [stepIndexAddr,h]
theorem ldS1 (lv:Key→LB){cs:List CV}{i:Nat}{s:List UInt8}(h:lv 0=.cells false false 9 cs) (hs:cs[i]?=some (.d (.str s))):stepLoad Tryz.prog 9 lv (.c (.ptr 0 i))=some (.c (.d (.str s)),[],[0],True):=by
 obtain⟨hi,hs⟩:=List.getElem?_eq_some_iff.1 hs
 have hd:cs.drop i=.d (.str s)::cs.drop (i+1):=by rw [List.drop_eq_getElem_cons hi,hs]
 simp [stepLoad,h,hd]
def wJ (A j:Nat):List UInt8:=((pts A).drop j).reverse.flatten
def bdJ (w:List UInt8):LB:=if w=[] then .cells false false 232 [.d .nilp,.d .nilsl] else bdC 2 w.length
def byJ (w:List UInt8):LB:=if w=[] then .hole else byC w
theorem wJ_all (A:Nat)(h:A≠0):wJ A 0=decU A:=by unfold wJ;rw [List.drop_zero,pts_flat A h]
theorem wJ_end (A:Nat):wJ A (pts A).length=[]:=by unfold wJ;rw [List.drop_length];rfl
theorem wJ_step (A j:Nat)(h:j<(pts A).length):wJ A j=wJ A (j+1)++(pts A)[j]:=by
 unfold wJ
 rw [List.drop_eq_getElem_cons h,List.reverse_cons,List.flatten_append];simp
theorem flat_le9:∀ {l:List (List UInt8)},(∀ p∈l,p.length≤9)→l.flatten.length≤9*l.length
 | [],_=>by simp
 | p::l,h=>by
  have h1:=h p (List.mem_cons_self ..)
  have h2:=flat_le9 (l:=l) fun q hq=>h q (List.mem_cons_of_mem _ hq)
  simp only [List.flatten_cons,List.length_append,List.length_cons];omega
theorem wJ_len (A j:Nat):(wJ A j).length≤9*(pts A).length:=by
 unfold wJ
 refine Nat.le_trans (flat_le9 fun p hp=>(pts_ne A p (List.mem_of_mem_drop (List.mem_reverse.1 hp))).2) ?_
 rw [List.length_reverse,List.length_drop];omega
theorem wJ_ne (A j:Nat)(h:j<(pts A).length):wJ A j≠[]:=by
 rw [wJ_step A j h]
 have:=(pts_ne A _ (List.getElem_mem h)).1
 simp [this]
theorem ndig_nl (A:Nat):ndig A≤10*(dig 4294967296 A).length:=by
 refine dig_len_le (by decide) ?_
 rw [Nat.pow_mul]
 exact Nat.lt_of_lt_of_le (dig_lt (by decide)) (Nat.pow_le_pow_left (by decide) _)
theorem pts_count {A:Nat}(h:A≠0):(pts A).length≤10*(dig 4294967296 A).length:=by
 have h1:=flat_len (l:=(pts A).reverse) fun p hp=>(pts_ne A p (List.mem_reverse.1 hp)).1
 rw [List.length_reverse,pts_flat A h,decU_dgT h,dgT_len] at h1
 exact Nat.le_trans h1 (ndig_nl A)
theorem SimW.step {c:Ctx}{r:Option Nat}{ops:Array Oper}{o:Oper}{s:LSt}{κ:Key}{x:AV}{us:List (Key × LB)}{rds:List Key}{vc:Prop}(hd:∀ d,o.dst=some d→d<c.n) (hg:o.guard=none)
 (h:stepF c.P o.op (o.op.operands.toList.map (s.val c.G)) s.lv κ=some (x,us,rds,vc)) (hvc:vc) {s1:LSt}(h1:s1=LSt.put ⟨s.fr,updL s.lv us⟩ o.dst x):SimW c r ops o s s1:=by
 subst h1
 exact SimW.of_eff (EffOK.plain hd (by unfold wantA;rw [hg]) h hvc)
theorem allOk_hole:AllOk (fun _=>.hole):=fun _=>rfl
theorem allOk_upd {lv:Key→LB}{k:Key}{b:LB}(h:AllOk lv) (hb:b.okB=true):AllOk (upd lv k b):=by
 intro j
 unfold upd;split
 ·exact hb
 ·exact h j
theorem bdJ_ok (w:List UInt8):(bdJ w).okB=true:=by unfold bdJ;split <;> rfl
theorem byJ_ok (w:List UInt8):(byJ w).okB=true:=by unfold byJ;split <;> rfl
theorem bytesA_ren (l:List UInt8)(g:Key→Key):(bytesA l).map (CV.ren g)=bytesA l:=by
 unfold bytesA;rw [List.map_map];rfl
theorem nat_text_ok (m:Int)(o:Option (List Nat))(A:Nat)(ho:dO o=(dig 4294967296 A))(hA:(dig 4294967296 A).length≤1000000000):CallsP Tryz.prog (GG m) 119 [nK .u32 o] (.c (.d (.str (decU A)))):=by
 by_cases h0:A=0
 ·subst h0
  have hl:(dO o).length=0:=by rw [ho];rfl
  have hl':((dO o).length:Int)=0:=by omega
  have hd:decU 0=[48]:=rfl
  rw [hd]
  refine CallsP.en Go.Proofs.Tryz.func119 rfl fun _=>AW.q ?_
  refine AW.seqK fun K hK=>AW.f1 hl ?_
  refine AW.cy (AW.q ?_)
  exact AW.r0 (FinP.rt rfl 2 (by simp))
 have hne:(dig 4294967296 A)≠[]:=fun e=>h0 ((dig_nil (by decide)).1 e)
 obtain rfl:o=some (dig 4294967296 A):=by
  cases o with
  | none=>exact absurd ho.symm hne
  | some l=>exact congrArg some ho
 have hl:¬ ((dig 4294967296 A).length:Int)=0:=by
  have:=List.length_pos_iff.2 hne;omega
 have hl0:¬ (dig 4294967296 A).length=0:=by omega
 refine CallsP.en0 Go.Proofs.Tryz.func119 rfl fun _=>AW.q ?_
 refine AW.seqK fun K hK=>AW.f2 hl hl0 ?_
 refine AW.fn (by simp [hl] <;> omega) (AW.skip (hK _ _ (AW.q ?_)))
 refine AW.seqK fun K hK=>AW.block ?_
 refine AW.loopV (fun (d:Nat × List (List UInt8))=>⟨frOf [(0,nK .u32 (some (dig 4294967296 d.1))),(3,sS d.2)],upd (fun _=>.hole) 0 (sB d.2)⟩) 1
  (fun d=>d.1≤A∧d.2++(if d.1=0 then [] else pts d.1)=pts A) (fun d=>d.1) (A,[]) (Le.mk2 _ (by simp only [sB,if_true];exact (upd_hm rfl).symm) (by simp [sS])) ⟨Nat.le_refl _,by rw [if_neg h0];rfl⟩ ?_
 rintro⟨n,p⟩ hi
 obtain⟨hi,hp⟩:=hi
 try simp only at hi hp ⊢
 have hnl:(dig 4294967296 n).length≤1000000000:=Nat.le_trans (dig_len_mono (by decide) hi) hA
 refine AW.seqK fun K3 hK3=>AW.q ?_
 by_cases hn0:n=0
 rotate_left
 ·have hpos:0<(dig 4294967296 n).length:=List.length_pos_iff.2 fun e=>hn0 ((dig_nil (by decide)).1 e)
  have csm:=exact_small_ok (GG m) (some (dig 4294967296 n)) 1000000000 (by decide) (by rw [dO_some];omega)
  rw [dO_some,dig_val (by decide)] at csm
  rw [if_neg hn0] at hp
  have hpl:p.length≤10000000000:=by
   have h1:p.length+(pts n).length=(pts A).length:=by rw [← hp,List.length_append]
   have h2:=pts_count h0
   omega
  have hr:n % 1000000000<1000000000:=Nat.mod_lt _ (by decide)
  have hqn:n / 1000000000<n:=Nat.div_lt_self (by omega) (by decide)
  have hlo:=@pts_lo n
  have hhi:=@pts_hi n
  have hmm:n / 1000000000=0→n % 1000000000=n:=by omega
  generalize n / 1000000000=q at *
  generalize n % 1000000000=r at *
  have cfu:=fmtU_ok m r hr
  have w1:=wu64 (n:=(r:Int)) (by omega) (by omega)
  have hdl:=decU_len hr
  have hpad:=dec_pad hr
  have crp:=repeat_ok m (9 - (decU r).length) (by omega)
  have hsub:(9:Int) - ((decU r).length:Int)=((9 - (decU r).length:Nat):Int):=by omega
  have w2:=w64 (n:=((9 - (decU r).length:Nat):Int)) (by omega) (by omega)
  refine AW.fy (by simp [hpos] <;> omega) (AW.skip (hK3 _ _ (AW.block (AW.c0 10 csm ?_))))
  refine AW.c1 10 cfu w1 ?_
  refine AW.seqK fun K5 hK5=>AW.q ?_
  by_cases hq:q=0
  ·have hps:p++[decU r]++(if q=0 then [] else pts q)=p++pts n:=by rw [if_pos hq,hlo hq,hmm hq];simp
   have hqz:¬ 0<(dig 4294967296 q).length:=by rw [hq];decide
   refine AW.fn (by simp [hqz] <;> omega) (AW.skip (hK5 _ _ (AW.seqK fun K5 hK5=>?_)))
   by_cases hl:p=[]
   ·subst hl
    refine AW.rP ?_
    simp [sB,sS,bsS1,srcA,keyOf,-stepBuildSlice]
    repeat refine and_o ?_
    apply hK5
    refine AW.rP ?_
    simp
    exact⟨q,[]++[decU r],Le.keys [(0,11,sB ([]++[decU r]))] 19 _ rfl rfl (by simp) (by simp) (by simp) (by
     intro e he
     simp only [List.mem_cons,List.not_mem_nil,or_false] at he
     subst he
     rw [sB_snoc]
     simp [sK]) (by rw [sS_snoc];simp [kmap]),⟨by omega,by rw [← hp];exact hps⟩,by omega⟩
   ·have hzb:sB p=.cells true false 9 (sK p):=if_neg hl
    have hzs:sS p=.c (.lsl 0 0 p.length 1):=if_neg hl
    have hzl:=sK_len p
    refine AW.rP ?_
    simp [hzb,hzs,bsS1,srcA,keyOf,hzl,-stepBuildSlice]
    repeat refine and_o ?_
    apply hK5
    refine AW.rP ?_
    simp
    exact⟨q,p++[decU r],Le.keys [(0,11,sB (p++[decU r]))] 19 _ rfl rfl (by simp) (by simp) (by simp) (by
     intro e he
     simp only [List.mem_cons,List.not_mem_nil,or_false] at he
     subst he
     rw [sB_snoc]
     simp [sK_ren]) (by rw [sS_snoc];simp [kmap]),⟨by omega,by rw [← hp];exact hps⟩,by omega⟩
  ·have hps:p++[dgT 9 r]++(if q=0 then [] else pts q)=p++pts n:=by rw [if_neg hq,hhi hq];simp
   have hqz:0<(dig 4294967296 q).length:=List.length_pos_iff.2 fun e=>hq ((dig_nil (by decide)).1 e)
   refine AW.fy (by simp [hqz] <;> omega) (AW.rP ?_)
   simp [hsub,w2]
   refine CallDo.p 10 9 crp ?_
   simp [concatT,hpad]
   repeat refine and_o ?_
   apply hK5
   refine AW.seqK fun K5 hK5=>?_
   by_cases hl:p=[]
   ·subst hl
    refine AW.rP ?_
    simp [sB,sS,bsS1,srcA,keyOf,-stepBuildSlice]
    repeat refine and_o ?_
    apply hK5
    refine AW.rP ?_
    simp
    exact⟨q,[]++[dgT 9 r],Le.keys [(0,11,sB ([]++[dgT 9 r]))] 19 _ rfl rfl (by simp) (by simp) (by simp) (by
     intro e he
     simp only [List.mem_cons,List.not_mem_nil,or_false] at he
     subst he
     rw [sB_snoc]
     simp [sK]) (by rw [sS_snoc];simp [kmap]),⟨by omega,by rw [← hp];exact hps⟩,by omega⟩
   ·have hzb:sB p=.cells true false 9 (sK p):=if_neg hl
    have hzs:sS p=.c (.lsl 0 0 p.length 1):=if_neg hl
    have hzl:=sK_len p
    refine AW.rP ?_
    simp [hzb,hzs,bsS1,srcA,keyOf,hzl,-stepBuildSlice]
    repeat refine and_o ?_
    apply hK5
    refine AW.rP ?_
    simp
    exact⟨q,p++[dgT 9 r],Le.keys [(0,11,sB (p++[dgT 9 r]))] 19 _ rfl rfl (by simp) (by simp) (by simp) (by
     intro e he
     simp only [List.mem_cons,List.not_mem_nil,or_false] at he
     subst he
     rw [sB_snoc]
     simp [sK_ren]) (by rw [sS_snoc];simp [kmap]),⟨by omega,by rw [← hp];exact hps⟩,by omega⟩
 subst hn0
 have hpe:p=pts A:=by rw [← hp];simp
 have hpn:p≠[]:=by rw [hpe];exact pts_nil A
 have hzb:sB p=.cells true false 9 (sK p):=if_neg hpn
 have hzs:sS p=.c (.lsl 0 0 p.length 1):=if_neg hpn
 rw [hzb,hzs,hpe]
 have hplen:(pts A).length≤10000000000:=Nat.le_trans (pts_count h0) (by omega)
 have w1:=w64 (n:=((pts A).length:Int) - 1) (by omega) (by omega)
 refine AW.cn (AW.exit (hK _ _ (AW.q ?_)))
 refine AW.seqK fun K hK=>AW.f1 w1 ?_
 refine AW.block ?_
 refine AW.loopV (fun (j:Nat)=>⟨frOf [(3,.c (.lsl 0 0 (pts A).length 1)),(7,.c (.ptr 1 0)),(8,.c (.d (.int .i64 ((j:Int) - 1))))],upd (upd (upd (fun _=>.hole) 0 (.cells false false 9 (sK (pts A)))) 1 (bdJ (wJ A j))) 2 (byJ (wJ A j))⟩) 3
  (fun j=>j≤(pts A).length) (fun j=>j) (pts A).length ?_ (Nat.le_refl _) ?_
 ·rw [wJ_end]
  simp only [bdJ,byJ,if_true]
  exact Le.keys [(0,0,.cells false false 9 (sK (pts A))),(1,1,.cells false false 232 [.d .nilp,.d .nilsl])] 19 _ (upd_hm rfl) rfl (by simp) (by simp) (by simp) (by
   intro e he
   simp only [List.mem_cons,List.not_mem_nil,or_false] at he
   rcases he with rfl|rfl
   ·simp [sK_ren]
   ·simp [CV.ren]) (by simp [kmap])
 rintro j hj
 try simp only at hj
 refine AW.seqK fun K4 hK4=>AW.q ?_
 cases j with
 | zero=>
  refine AW.cn (AW.exit (hK _ _ (AW.seqK fun K hK=>?_)))
  have hne:wJ A 0≠[]:=wJ_ne A 0 (List.length_pos_iff.2 (pts_nil A))
  have hlim:(wJ A 0).length≤100000000000:=Nat.le_trans (wJ_len A 0) (by omega)
  have hb:bdJ (wJ A 0)=bdC 2 (wJ A 0).length:=if_neg hne
  have hy:byJ (wJ A 0)=byC (wJ A 0):=if_neg hne
  have hd:=wJ_all A h0
  obtain⟨L,hL⟩:∃ L,L=upd (upd (upd (fun _=>LB.hole) 0 (.cells false false 9 (sK (pts A)))) 1 (bdJ (wJ A 0))) 2 (byJ (wJ A 0)):=⟨_,rfl⟩
  have hL1:L 1=bdC 2 (wJ A 0).length:=by rw [hL,← hb];rfl
  have hL2:L 2=byC (wJ A 0):=by rw [hL,← hy];rfl
  have hLk:AllOk L:=by rw [hL];exact allOk_upd (allOk_upd (allOk_upd allOk_hole rfl) (bdJ_ok _)) (byJ_ok _)
  rw [← hL]
  have hcall:=bs_ok m L (wJ A 0) hL1 hL2 hlim hne
  refine AW.regionS' ⟨_,⟨_,SimW.callG (f:=181) (fs:=[]) (cs:=[]) (by intro d hd;cases hd;show (_:Nat)<50;decide) rfl rfl rfl (by simp) (by exact hLk) (by exact hcall),_,SimW.step (x:=.c (.d (.str (wJ A 0)))) (us:=[]) (rds:=[]) (vc:=True) (κ:=19) (by intro d hd;cases hd;show (_:Nat)<50;decide) rfl rfl trivial rfl,rfl⟩,?_⟩
  refine hK _ _ ?_
  rw [← hd]
  exact AW.ret (κ:=0) (FinP.tmp rfl 19 (by simp) rfl (by simp [hL]) rfl)
 | succ i=>
  have e1:((i+1:Nat):Int) - 1=(i:Int):=by omega
  have hi:i<(pts A).length:=hj
  have hi0:(0:Int)≤(i:Int):=by omega
  have hw:=wJ_step A i hi
  have hpn:=pts_ne A _ (List.getElem_mem hi)
  have hsk:(sK (pts A))[i]?=some (.d (.str (pts A)[i])):=by unfold sK;rw [List.getElem?_map,List.getElem?_eq_getElem hi];rfl
  rw [e1]
  refine AW.fy (by simp [hi0] <;> omega) (AW.skip (hK4 _ _ (AW.seqK fun K6 hK6=>AW.block ?_)))
  have hlim:(wJ A (i+1)).length+(pts A)[i].length≤100000000000:=by
   have h1:=wJ_len A i
   rw [hw,List.length_append] at h1
   omega
  have w3:=w64 (n:=(i:Int) - 1) (by omega) (by omega)
  obtain⟨L,hL⟩:∃ L,L=upd (upd (upd (fun _=>LB.hole) 0 (.cells false false 9 (sK (pts A)))) 1 (bdJ (wJ A (i+1)))) 2 (byJ (wJ A (i+1))):=⟨_,rfl⟩
  have hL0:L 0=.cells false false 9 (sK (pts A)):=by rw [hL];rfl
  have hL1:L 1=bdJ (wJ A (i+1)):=by rw [hL];rfl
  have hL2:L 2=byJ (wJ A (i+1)):=by rw [hL];rfl
  have hLk:AllOk L:=by rw [hL];exact allOk_upd (allOk_upd (allOk_upd allOk_hole rfl) (bdJ_ok _)) (byJ_ok _)
  rw [← hL]
  by_cases hwe:wJ A (i+1)=[]
  ·have hb:bdJ (wJ A (i+1))=.cells false false 232 [.d .nilp,.d .nilsl]:=if_pos hwe
   have hy:byJ (wJ A (i+1))=.hole:=if_pos hwe
   rw [hb] at hL1
   rw [hy] at hL2
   have hcall:=ws_first m L (pts A)[i] hLk hL1 hL2 (by omega) hpn.1
   rw [hwe,List.nil_append] at hw
   refine AW.regionS' ⟨_,⟨_,SimW.step (κ:=19) (x:=.c (.lsl 0 0 (pts A).length 1)) (us:=[]) (rds:=[]) (vc:=True) (by intro d hd;cases hd;show (_:Nat)<50;decide) rfl rfl trivial rfl,_,SimW.step (κ:=19) (x:=.c (.d (.int .i64 (i:Int)))) (us:=[]) (rds:=[]) (vc:=True) (by intro d hd;cases hd;show (_:Nat)<50;decide) rfl rfl trivial rfl,
    _,SimW.step (κ:=19) (x:=.c (.ptr 0 i)) (us:=[]) (rds:=[0]) (vc:=i<(pts A).length) (by intro d hd;cases hd;show (_:Nat)<50;decide) rfl (by exact ixS1 L hL0 hi) hi rfl,_,SimW.step (κ:=19) (x:=.c (.d (.str (pts A)[i]))) (us:=[]) (rds:=[0]) (vc:=True) (by intro d hd;cases hd;show (_:Nat)<50;decide) rfl (by exact ldS1 L hL0 hsk) trivial rfl,
    _,SimW.callG (f:=180) (fs:=[]) (cs:=[]) (by intro d hd;cases hd;show (_:Nat)<50;decide) rfl rfl rfl (by simp) (by exact hLk) (by exact hcall),rfl⟩,?_⟩
   refine hK6 _ _ ?_
   refine AW.rP ?_
   simp [w3]
   have hb':bdJ (wJ A i)=bdC 2 (pts A)[i].length:=by unfold bdJ;rw [hw,if_neg hpn.1]
   have hy':byJ (wJ A i)=byC (pts A)[i]:=by unfold byJ;rw [hw,if_neg hpn.1]
   exact⟨i,Le.keys [(0,0,.cells false false 9 (sK (pts A))),(1,1,bdC 2 (pts A)[i].length),(2,2,byC (pts A)[i])] 19 _ (by rw [hb',hy'];rfl) rfl (by simp) (by simp) (by simp [hL]) (by
    intro e he
    simp only [List.mem_cons,List.not_mem_nil,or_false] at he
    rcases he with rfl|rfl|rfl
    ·simp [hL0,sK_ren]
    ·simp [bdC,kmap,CV.ren]
    ·simp [byC,bytesA_ren]) (by simp [kmap]),by omega,by omega⟩
  ·have hb:bdJ (wJ A (i+1))=bdC 2 (wJ A (i+1)).length:=if_neg hwe
   have hy:byJ (wJ A (i+1))=byC (wJ A (i+1)):=if_neg hwe
   rw [hb] at hL1
   rw [hy] at hL2
   have hL3:L 3=.hole:=by rw [hL];rfl
   have hcall:=ws_used m L (wJ A (i+1)) (pts A)[i] hLk hL1 hL2 hL3 hlim
   refine AW.regionS' ⟨_,⟨_,SimW.step (κ:=19) (x:=.c (.lsl 0 0 (pts A).length 1)) (us:=[]) (rds:=[]) (vc:=True) (by intro d hd;cases hd;show (_:Nat)<50;decide) rfl rfl trivial rfl,_,SimW.step (κ:=19) (x:=.c (.d (.int .i64 (i:Int)))) (us:=[]) (rds:=[]) (vc:=True) (by intro d hd;cases hd;show (_:Nat)<50;decide) rfl rfl trivial rfl,
    _,SimW.step (κ:=19) (x:=.c (.ptr 0 i)) (us:=[]) (rds:=[0]) (vc:=i<(pts A).length) (by intro d hd;cases hd;show (_:Nat)<50;decide) rfl (by exact ixS1 L hL0 hi) hi rfl,_,SimW.step (κ:=19) (x:=.c (.d (.str (pts A)[i]))) (us:=[]) (rds:=[0]) (vc:=True) (by intro d hd;cases hd;show (_:Nat)<50;decide) rfl (by exact ldS1 L hL0 hsk) trivial rfl,
    _,SimW.callG (f:=180) (fs:=[]) (cs:=[]) (by intro d hd;cases hd;show (_:Nat)<50;decide) rfl rfl rfl (by simp) (by exact hLk) (by exact hcall),rfl⟩,?_⟩
   refine hK6 _ _ ?_
   refine AW.rP ?_
   simp [w3]
   have hne:¬ wJ A i=[]:=wJ_ne A i hi
   have hb':bdJ (wJ A i)=bdC 2 ((wJ A (i+1)).length+(pts A)[i].length):=by unfold bdJ;rw [if_neg hne,hw,List.length_append]
   have hy':byJ (wJ A i)=byC (wJ A (i+1)++(pts A)[i]):=by unfold byJ;rw [if_neg hne,hw]
   exact⟨i,Le.keys [(0,0,.cells false false 9 (sK (pts A))),(1,1,bdC 2 ((wJ A (i+1)).length+(pts A)[i].length)),(2,3,byC (wJ A (i+1)++(pts A)[i]))] 19 _ (by rw [hb',hy'];rfl) rfl (by simp) (by simp) (by simp [hL]) (by
    intro e he
    simp only [List.mem_cons,List.not_mem_nil,or_false] at he
    rcases he with rfl|rfl|rfl
    ·simp [hL0,sK_ren]
    ·simp [bdC,kmap,CV.ren]
    ·simp [byC,bytesA_ren]) (by simp [kmap]),by omega,by omega⟩
theorem neqNilQ (q:Option (List Nat)):stepBin Tryz.prog .neq 28 (.c (nC q)) (.c (.d .nilsl))=some (.c (.d (.bool q.isSome)),[],[],True):=by
 cases q with
 | none=>kernel_rfl
 | some l=>exact (show ∀ es,stepBin Tryz.prog .neq 28 (.c (.d (.sl es))) (.c (.d .nilsl))=some (.c (.d (.bool true)),[],[],True) from fun es=>by kernel_rfl) _
theorem natT (m:Int)(A:Nat)(h:(dig 4294967296 A).length≤1000000000):CallsP Tryz.prog (GG m) 119 [.c (nC (natO A))] (.c (.d (.str (decU A)))):=by
 rw [← nK_nC];exact nat_text_ok m _ A (natO_d A) h
theorem denT (m:Int)(A:Nat)(h:(dig 4294967296 A).length≤1000000000)(h1:A≠1):CallsP Tryz.prog (GG m) 119 [.c (nC (denO A))] (.c (.d (.str (decU A)))):=by
 rw [← nK_nC];exact nat_text_ok m _ A (by unfold denO;rw [if_neg h1];rfl) h
def ratU (x:Rat):List UInt8:=(if x.num<0 then [45] else [])++decU x.num.natAbs++(if x.den=1 then [] else [47]++decU x.den)
theorem decU_len2 (A:Nat):(decU A).length≤10*(dig 4294967296 A).length+1:=by
 by_cases h:A=0
 ·subst h;decide
 ·rw [decU_dgT h,dgT_len];have:=ndig_nl A;omega
theorem num_Text (m:Int)(x:Rat)(hx:szR x 1000000000):CallsP Tryz.prog (GG m) 53 [ratV x] (.c (.d (.str (ratU x)))):=by
 have c1:=natT m x.num.natAbs hx.1
 have l1:=decU_len2 x.num.natAbs
 have l2:=decU_len2 x.den
 have hx1:(dig 4294967296 x.num.natAbs).length≤1000000000:=hx.1
 have hx2:(dig 4294967296 x.den).length≤1000000000:=hx.2
 have cat:=concatT
 by_cases hd:x.den=1
 ·have e:ratU x=(if x.num<0 then [45] else [])++decU x.num.natAbs:=by unfold ratU;rw [if_pos hd,List.append_nil]
  have hdn:denO x.den=none:=by unfold denO;rw [if_pos hd]
  rw [e]
  show CallsP Tryz.prog (GG m) 53 [.agg [.d (.bool (decide (x.num<0))),nC (natO x.num.natAbs),nC (denO x.den)]] _
  rw [hdn]
  by_cases hn:x.num<0
  ·rw [if_pos hn]
   generalize decU x.num.natAbs=s at *
   refine CallsP.en Go.Proofs.Tryz.func53 rfl fun _=>AW.q ?_
   refine AW.c0 2 c1 ?_
   refine AW.seqK fun K hK=>AW.q ?_
   refine AW.fy (by simp [hn] <;> omega) (AW.l1 cat (hK _ _ ?_))
   refine AW.seqK fun K hK=>AW.f1 @neqNilQ ?_
   refine AW.cn (AW.skip (hK _ _ (AW.q ?_)))
   exact AW.r0 (FinP.rt (t:=2) rfl 9 (by simp))
  ·rw [if_neg hn]
   generalize decU x.num.natAbs=s at *
   refine CallsP.en Go.Proofs.Tryz.func53 rfl fun _=>AW.q ?_
   refine AW.c0 2 c1 ?_
   refine AW.seqK fun K hK=>AW.q ?_
   refine AW.fn (by simp [hn] <;> omega) (AW.skip (hK _ _ (AW.seqK fun K hK=>AW.f1 @neqNilQ ?_)))
   refine AW.cn (AW.skip (hK _ _ (AW.q ?_)))
   exact AW.r0 (FinP.rt (t:=2) rfl 9 (by simp))
 ·have e:ratU x=(if x.num<0 then [45] else [])++decU x.num.natAbs++([47]++decU x.den):=by unfold ratU;rw [if_neg hd]
  have c2:=denT m x.den hx.2 hd
  have hdn:(denO x.den).isSome=true:=by unfold denO;rw [if_neg hd];rfl
  rw [e]
  show CallsP Tryz.prog (GG m) 53 [.agg [.d (.bool (decide (x.num<0))),nC (natO x.num.natAbs),nC (denO x.den)]] _
  generalize denO x.den=q at *
  by_cases hn:x.num<0
  ·rw [if_pos hn]
   generalize decU x.num.natAbs=s at *
   generalize decU x.den=t at *
   refine CallsP.en Go.Proofs.Tryz.func53 rfl fun _=>AW.q ?_
   refine AW.c0 2 c1 ?_
   refine AW.seqK fun K hK=>AW.q ?_
   refine AW.fy (by simp [hn] <;> omega) (AW.l1 cat (hK _ _ ?_))
   refine AW.seqK fun K hK=>AW.f2 @neqNilQ hdn ?_
   refine AW.cy (AW.m1 3 c2 cat (hK _ _ ?_))
   refine AW.q ?_
   exact AW.r0 (FinP.rt (t:=2) rfl 9 (by simp))
  ·rw [if_neg hn]
   generalize decU x.num.natAbs=s at *
   generalize decU x.den=t at *
   refine CallsP.en Go.Proofs.Tryz.func53 rfl fun _=>AW.q ?_
   refine AW.c0 2 c1 ?_
   refine AW.seqK fun K hK=>AW.q ?_
   refine AW.fn (by simp [hn] <;> omega) (AW.skip (hK _ _ (AW.seqK fun K hK=>AW.f2 @neqNilQ hdn ?_)))
   refine AW.cy (AW.m1 3 c2 cat (hK _ _ ?_))
   refine AW.q ?_
   exact AW.r0 (FinP.rt (t:=2) rfl 9 (by simp))
theorem dgT_one (n:Nat)(h:n<10):dgT 1 n=[dgU n]:=by
 show [UInt8.ofNat (48+n % 10)]=_
 rw [Nat.mod_eq_of_lt h];rfl
theorem decU_S (n:Nat):decU n=decS n:=by
 induction n using Nat.strongRecOn with
 | _ n ih=>
  by_cases h0:n=0
  ·subst h0;decide
  by_cases h10:n<10
  ·rw [decS_lt h10,decU_dgT h0,ndig_step h0,Nat.div_eq_of_lt h10]
   exact dgT_one n h10
  ·have hq:n / 10≠0:=by omega
   rw [decS_ge h10,← ih (n / 10) (by omega),decU_dgT h0,decU_dgT hq,ndig_step h0]
   have:=dgT_add (ndig (n / 10)) 1 n
   rw [Nat.pow_one] at this
   rw [this]
   rfl
theorem ratU_S (x:Rat):ratU x=ratS x:=by unfold ratU ratS;simp only [decU_S]
theorem eqSpT (s t s' t':List UInt8):eqT Tryz.prog 20 24 (.agg [.d (.str s),.d (.str t)]) (.agg [.d (.str s'),.d (.str t')])=some ((s == s') && ((t == t') && true)):=by kernel_rfl
theorem neSp (s t:List UInt8):stepBin Tryz.prog .neq 24 (.agg [.d (.str s),.d (.str t)]) (.agg [.d (.str s),.d (.str t)])=some (.c (.d (.bool false)),[],[],True):=by
 simp [stepBin,eqSpT,eqable]
theorem eqSp (s t:List UInt8):stepBin Tryz.prog .eql 24 (.agg [.d (.str s),.d (.str t)]) (.agg [.d (.str s),.d (.str t)])=some (.c (.d (.bool true)),[],[],True):=by
 simp [stepBin,eqSpT,eqable]
theorem bSp (a b:List UInt8):buildA Tryz.prog 24 [0,1] [.c (.d (.str a)),.c (.d (.str b))]=some (.agg [.d (.str a),.d (.str b)],[],[],True):=by kernel_rfl
theorem eqRat (s:List UInt8):stepBin Tryz.prog .eql 22 (.c (.d (.str s))) (.c (.d (.str s)))=some (.c (.d (.bool true)),[],[],True):=by
 simp [stepBin,binS,binSok]
theorem szE {x:Rat}(h:szR x 300):szR x 1000000000:=szR_mono h (by decide)
theorem loadSp (a b:CV):loadA Tryz.prog 24 [a,b]=some (.agg [a,b]):=by kernel_rfl
theorem span_ok (m:Int)(a:Iv)(h:a.z):CallsP Tryz.prog (GG m) 82 [ivV a] (.agg [.d (.str (ratU a.1)),.d (.str (ratU a.2))]):=by
 have c1:=num_Text m a.1 (szE h.1)
 have c2:=num_Text m a.2 (szE h.2)
 obtain⟨a1,a2⟩:=a
 simp only at c1 c2
 generalize ratU a1=s at *
 generalize ratU a2=t at *
 refine CallsP.enc Go.Proofs.Tryz.func82 rfl (fun lv=>rfl) fun _=>AW.q ?_
 refine AW.seqK fun K hK=>?_
 refine AW.drawP mixed (by kernel_rfl) rfl ?_
 simp [setSeg]
 refine CallDo.p 10 9 c1 ?_
 simp [setSeg]
 refine CallDo.p 10 9 c2 ?_
 simp [bSp,setSeg]
 refine⟨by kernel_rfl,?_⟩
 repeat refine and_o ?_
 apply hK
 refine AW.ret (FinC.cell (κ:=0) (T:=24) (t:=2) (k:=1) (off:=0) (own:=true) (fz:=false) (U:=24) (cs:=[.d (.str s),.d (.str t)]) rfl (by simp) (by simp [setSeg]) ?_)
 rw [List.drop_zero];exact loadSp _ _
theorem told0_ok (m:Int):CallsP Tryz.prog (GG m) 27 [ivV (0,0),.c (.d (.str [48])),.c (.d (.str [48]))] (.c (.d (.bool true))):=by
 have c1:=span_ok m (0,0) ⟨szR_zero _ (by decide),szR_zero _ (by decide)⟩
 have hu:ratU 0=[48]:=by decide
 simp only [hu] at c1
 refine CallsP.en Go.Proofs.Tryz.func27 rfl fun _=>AW.q ?_
 refine AW.c2 10 c1 @bSp @eqSp ?_
 exact AW.r0 (FinP.rt rfl 6 (by simp))
theorem num_ok (m:Int)(x:Rat)(h:szR x 300):CallsP Tryz.prog (GG m) 36 [ratV x,refV x] (.c (.d (.bool true))):=by
 have c1:=num_Text m x (szE h)
 have c2:=r_Text_ok (GG m) x (szC h)
 rw [← ratU_S] at c2
 generalize ratU x=s at *
 refine CallsP.en Go.Proofs.Tryz.func36 rfl fun _=>AW.q ?_
 refine AW.seqK fun K hK=>?_
 refine AW.drawP mixed (by kernel_rfl) rfl ?_
 simp
 refine CallDo.p 10 9 c1 ?_
 simp [c2]
 refine CallDo.p 10 9 c2 ?_
 simp [eqRat]
 refine⟨by kernel_rfl,?_⟩
 repeat refine and_o ?_
 apply hK
 exact AW.r0 (FinP.rt rfl 4 (by simp))
theorem same_iv (m:Int)(a:Iv)(h:a.z):CallsP Tryz.prog (GG m) 14 [ivV a,rivV a] (.c (.d (.bool true))):=by
 have c1:=iv_Lo (GG m) a
 have c2:=iv_Hi (GG m) a
 have c3:=num_ok m a.1 h.1
 have c4:=num_ok m a.2 h.2
 obtain⟨a1,a2⟩:=a
 simp only at c1 c2 c3 c4
 refine CallsP.en Go.Proofs.Tryz.func14 rfl fun _=>AW.q ?_
 refine AW.seqK fun K hK=>?_
 refine AW.drawP mixed (by kernel_rfl) rfl ?_
 simp
 refine CallDo.p 10 9 c1 ?_
 simp [c3]
 refine CallDo.p 10 9 c3 ?_
 simp [c2]
 refine CallDo.p 10 9 c2 ?_
 simp [c4]
 refine CallDo.p 10 9 c4 ?_
 simp [c4]
 refine⟨by kernel_rfl,?_⟩
 repeat refine and_o ?_
 apply hK
 exact AW.r0 (FinP.rt rfl 4 (by simp))
theorem alike_ok (m:Int)(a:Iv)(e:Int)(h:a.z)(he:e≠0→a=(0,0)):CallsP Tryz.prog (GG m) 8 [ivV a,.c (.d (.int .i64 e)),rivV a,.c (.d (.int .i64 e))] (.c (.d (.bool true))):=by
 by_cases h0:e=0
 ·subst h0
  have c1:=same_iv m a h
  refine CallsP.en Go.Proofs.Tryz.func8 rfl fun _=>AW.q ?_
  refine AW.c1 10 c1 c1 ?_
  exact AW.r0 (FinP.rt rfl 8 (by simp))
 ·obtain rfl:=he h0
  have c1:=told0_ok m
  refine CallsP.en Go.Proofs.Tryz.func8 rfl fun _=>AW.q ?_
  refine AW.c1 10 c1 h0 ?_
  exact AW.r0 (FinP.rt (t:=8) rfl 9 (by simp [h0]))
theorem equal_sp (G:List (List DV))(b:Option (List Sp))(hb:(bxL b).length≤1048576):CallsP Tryz.prog G 45 [.c (scC (bxO b)),.c (scC (bxO b))] (.c (.d (.bool true))):=by
 have hlp:=fun lv=>lpBx lv b
 have hix:=fun lv {i:Nat}(hi:i<(bxL b).length)=>ixBx lv b hi
 refine CallsP.en0 Go.Proofs.Tryz.func45 rfl fun _=>AW.q ?_
 refine AW.seqK fun K hK=>AW.f1 hlp ?_
 refine AW.cn (AW.skip (hK _ _ (AW.seqK fun K hK=>AW.q ?_)))
 refine AW.block ?_
 refine AW.loopV (fun (i:Nat)=>⟨frOf [(0,.c (scC (bxO b))),(1,.c (scC (bxO b))),(5,.c (.d (.int .i64 i)))],fun _=>.hole⟩) 0
  (fun i=>i≤(bxL b).length) (fun i=>(bxL b).length - i) 0 (Le.mk2 _) (Nat.zero_le _) ?_
 rintro i hi
 try simp only at hi
 refine AW.seqK fun K3 hK3=>AW.f1 hlp ?_
 by_cases hlt:i<(bxL b).length
 ·have hlt':(i:Int)<((bxL b).length:Int):=by omega
  have hx:=fun lv=>hix lv hlt
  have f12:=w64 (n:=(i:Int)+1) (by omega) (by omega)
  generalize (bxL b)[i]=s at *
  refine AW.fy (by simp [hlt'] <;> omega) (AW.skip (hK3 _ _ (AW.seqK fun K5 hK5=>AW.block (AW.seqK fun K6 hK6=>?_))))
  refine AW.drawP mixed (by kernel_rfl) rfl ?_
  simp [hx,spD,neSp]
  refine⟨by kernel_rfl,?_⟩
  repeat refine and_o ?_
  apply hK6
  refine AW.cn (AW.skip (hK5 _ _ (AW.rP ?_)))
  simp [f12]
  exact⟨i+1,Le.mk2 _,by omega,by omega⟩
 have hlt':¬ (i:Int)<((bxL b).length:Int):=by omega
 refine AW.fn (by simp [hlt'] <;> omega) (AW.exit (hK _ _ (AW.q ?_)))
 exact AW.r0 (FinP.rt rfl 4 (by simp))
end Go.Am
namespace Go.Am
open Go.Proofs N
abbrev txA (k:Nat):AV:=.c (.d (.sl [[.int .u32 (.ofNat k)]]))
theorem text_dig (m:Int)(k:Nat)(h1:1≤k)(h2:k≤9):CallsP Tryz.prog (GG m) 119 [txA k] (.c (.d (.str [UInt8.ofNat (48+k)]))):=by
 have h:k=1∨k=2∨k=3∨k=4∨k=5∨k=6∨k=7∨k=8∨k=9:=by omega
 rcases h with rfl|rfl|rfl|rfl|rfl|rfl|rfl|rfl|rfl <;> exact CallsP.of_ev (evX_ok m 40) (by kernel_rfl)
theorem text_nil (m:Int):CallsP Tryz.prog (GG m) 119 [.c (.d .nilsl)] (.c (.d (.str [48]))):=CallsP.of_ev (evX_ok m 40) (by kernel_rfl)
def gText:List AV→Option AV
 | [.c (.d .nilsl)]=>some (.c (.d (.str [48])))
 | [.c (.d (.sl [[.int .u32 (.ofNat k)]]))]=>bif Nat.ble 1 k && Nat.ble k 9 then some (.c (.d (.str [UInt8.ofNat (48+k)]))) else none
 | _=>none
theorem gText_ok (m:Int){us:List AV}{x:AV}(h:gText us=some x) (lv:Key→LB):CallG Tryz.prog (GG m) 119 us lv (.ret x lv):=by
 unfold gText at h
 split at h
 ·cases h
  exact CallG.of_CallsP (fun u hu=>by simp only [List.mem_cons,List.not_mem_nil,or_false] at hu;subst hu;rfl) rfl (text_nil m)
 ·rename_i k
  cases hb:Nat.ble 1 k && Nat.ble k 9 with
  | false=>rw [hb] at h;cases h
  | true=>
   rw [hb] at h;cases h
   simp only [Bool.and_eq_true] at hb
   exact CallG.of_CallsP (fun u hu=>by simp only [List.mem_cons,List.not_mem_nil,or_false] at hu;subst hu;rfl) rfl (text_dig m k (Nat.le_of_ble_eq_true hb.1) (Nat.le_of_ble_eq_true hb.2))
 ·cases h
def gPar:List AV→Option AV
 | [.c (.d (.str s))]=>some (.tup [ratV (ratP s),iA (ratE s)])
 | _=>none
theorem gPar_ok (m:Int){us:List AV}{x:AV}(h:gPar us=some x) (lv:Key→LB):CallG Tryz.prog (GG m) 32 us lv (.ret x lv):=by
 unfold gPar at h
 split at h
 ·rename_i s
  cases h
  exact CallG.of_CallsP (fun u hu=>by simp only [List.mem_cons,List.not_mem_nil,or_false] at hu;subst hu;rfl) (tupR_pure _ _) (rat_Parse m s)
 ·cases h
noncomputable def spY:Tb Spec:=setS 119 (.pure (gF gText)) (setS 32 (.pure (gF gPar)) spX)
theorem evY_ok (m:Int)(n:Nat):CallOK Tryz.prog (GG m) (evK Tryz.prog (GG m) spY 0 n):=evK_ok mixed (((spX_ok m).f _ _ (gPar_ok m)).f _ _ (gText_ok m)) n
end Go.Am
