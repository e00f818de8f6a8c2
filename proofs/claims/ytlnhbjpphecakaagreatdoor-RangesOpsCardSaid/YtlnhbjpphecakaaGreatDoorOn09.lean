/- Helpers: an abstract machine for Go functions, and walks of functions of the program. -/
import Derived.Test.YtlnhbjpphecakaaGreatDoorOn08

set_option linter.all false
set_option maxHeartbeats 8000000
set_option maxRecDepth 100000
namespace Go.Am
open Go.Am.Ty Go.Proofs N
abbrev ivV (a:Iv):AV:=.agg [.d (.bool (decide (a.1.num<0))),nC (natO a.1.num.natAbs),nC (denO a.1.den),.d (.bool (decide (a.2.num<0))),nC (natO a.2.num.natAbs),nC (denO a.2.den)]
theorem bIv (b p q b' p' q':CV):buildA Tryz.prog 32 [0,1] [.agg [b,p,q],.agg [b',p',q']]=some (.agg [b,p,q,b',p',q'],[],[],True):=by kernel_rfl
theorem bIv0:buildA Tryz.prog 32 [] []=some (ivV (0,0),[],[],True):=by kernel_rfl
theorem loadIv (b p q b' p' q':CV):loadA Tryz.prog 32 [b,p,q,b',p',q']=some (.agg [b,p,q,b',p',q']):=by kernel_rfl
theorem nC_nD (o:Option (List Nat)):nC o=.d (nD o):=by cases o <;> rfl
@[simp] theorem nC_rn (g:Key→Key)(o:Option (List Nat)):(nC o).ren g=nC o:=by cases o <;> rfl
@[simp] theorem iv_dArg (lv:Key→LB)(b b':Bool)(p q p' q':Option (List Nat)):dRes lv (.agg [.d (.bool b),nC p,nC q,.d (.bool b'),nC p',nC q'])=some (.agg [.d (.bool b),nC p,nC q,.d (.bool b'),nC p',nC q'],[]):=by
 simp only [nC_nD];rfl
@[simp] theorem iv_dArg2 (lv:Key→LB)(b b':Bool)(p q p' q':Option (List Nat))(n:DV)(hn:n.isScal=true):dRes lv (.tup [.agg [.d (.bool b),nC p,nC q,.d (.bool b'),nC p',nC q'],.c (.d n)])=some (.tup [.agg [.d (.bool b),nC p,nC q,.d (.bool b'),nC p',nC q'],.c (.d n)],[]):=by
 simp only [nC_nD];rfl
@[simp] theorem iv_pure (b b':Bool)(p q p' q':Option (List Nat)):(AV.agg [.d (.bool b),nC p,nC q,.d (.bool b'),nC p',nC q']).pure=true:=by
 simp only [nC_nD];rfl
@[simp] theorem iv_pure2 (b b':Bool)(p q p' q':Option (List Nat))(n:DV):(AV.tup [.agg [.d (.bool b),nC p,nC q,.d (.bool b'),nC p',nC q'],.c (.d n)]).pure=true:=by
 simp only [nC_nD];rfl
theorem FinC.iv {c:Ctx}{fn:Func}{t k:Nat}{s:LSt}{κ:Nat}{a:Iv}(hr:c.P=Tryz.prog∧fn.results=#[.cell t 32]) (ht:s.fr t=.c (.ptr k 0))
 (hk:s.lv k=.cells true false 32 [.d (.bool (decide (a.1.num<0))),nC (natO a.1.num.natAbs),nC (denO a.1.den),.d (.bool (decide (a.2.num<0))),nC (natO a.2.num.natAbs),nC (denO a.2.den)]):FinC c fn (ivV a) .ret s κ:=
 FinC.cell hr.2 ht hk (by rw [hr.1,List.drop_zero,loadIv])
theorem FinC.iv2 {c:Ctx}{fn:Func}{t k u:Nat}{s:LSt}{κ:Nat}{a:Iv}{y:CV}(hr:c.P=Tryz.prog∧fn.results=#[.cell t 32,.tmp u]) (ht:s.fr t=.c (.ptr k 0))
 (hk:s.lv k=.cells true false 32 [.d (.bool (decide (a.1.num<0))),nC (natO a.1.num.natAbs),nC (denO a.1.den),.d (.bool (decide (a.2.num<0))),nC (natO a.2.num.natAbs),nC (denO a.2.den)]) (hy:s.fr u=.c y):FinC c fn (.tup [ivV a,.c y]) .ret s κ:=
 FinC.cell2 hr.2 ht hk (by rw [hr.1,List.drop_zero,loadIv]) hy rfl rfl
def Iv.sz (a:Iv)(L:Nat):Prop:=szR a.1 L∧szR a.2 L
theorem Iv.sz_mono {a:Iv}{L M:Nat}(h:a.sz L) (hm:L≤M):a.sz M:=⟨szR_mono h.1 hm,szR_mono h.2 hm⟩
theorem cmpR_le {x y:Rat}:cmpR x y≤0↔x≤y:=by
 rw [← Rat.not_lt,← cmpR_pos];omega
theorem cmpR_ge {x y:Rat}:0≤cmpR x y↔y≤x:=by
 rw [← Rat.not_lt,← cmpR_neg];omega
theorem iv_Lo (G:List (List DV))(a:Iv):CallsP Tryz.prog G 68 [ivV a] (ratV a.1):=by
 obtain⟨a1,a2⟩:=a
 refine CallsP.enc Go.Proofs.Tryz.func68 rfl (fun lv=>nC_dArg lv _ _ _) fun _=>AW.q ?_
 refine AW.q ?_
 exact AW.ret (FinC.num (κ:=0) (t:=2) (k:=1) ⟨rfl,rfl⟩ (by simp) (by simp [setSeg]))
theorem iv_Hi (G:List (List DV))(a:Iv):CallsP Tryz.prog G 69 [ivV a] (ratV a.2):=by
 obtain⟨a1,a2⟩:=a
 refine CallsP.enc Go.Proofs.Tryz.func69 rfl (fun lv=>nC_dArg lv _ _ _) fun _=>AW.q ?_
 refine AW.q ?_
 exact AW.ret (FinC.num (κ:=0) (t:=2) (k:=1) ⟨rfl,rfl⟩ (by simp) (by simp [setSeg]))
theorem iv_Has (G:List (List DV))(a:Iv)(x:Rat)(ha:a.sz 10000000000)(hx:szR x 10000000000):CallsP Tryz.prog G 34 [ivV a,ratV x] (.c (.d (.bool (decide (a.has x))))):=by
 obtain⟨a1,a2⟩:=a
 have c1:=rat_Cmp G a1 x ha.1 hx
 have c2:=rat_Cmp G a2 x ha.2 hx
 have e1:cmpR a1 x≤0↔a1≤x:=cmpR_le
 have e2:0≤cmpR a2 x↔x≤a2:=cmpR_ge
 by_cases g1:a1≤x
 ·have d1:=e1.2 g1
  by_cases g2:x≤a2
  ·have d2:=e2.2 g2
   rw [show decide (Iv.has (a1,a2) x)=true from decide_eq_true ⟨g1,g2⟩]
   generalize cmpR a1 x=n1 at *
   generalize cmpR a2 x=n2 at *
   refine CallsP.en Go.Proofs.Tryz.func34 rfl fun _=>AW.q ?_
   refine AW.sr fun K hK=>?_
   simp
   refine CallDo.p 2 9 c1 ?_
   simp [d1]
   refine CallDo.p 2 9 c2 ?_
   simp [d2]
   repeat refine and_o ?_
   apply hK
   exact AW.r0 (FinP.rt rfl 4 (by simp))
  ·have d2:¬ 0≤cmpR a2 x:=fun h=>g2 (e2.1 h)
   rw [show decide (Iv.has (a1,a2) x)=false from decide_eq_false fun h=>g2 h.2]
   generalize cmpR a1 x=n1 at *
   generalize cmpR a2 x=n2 at *
   refine CallsP.en Go.Proofs.Tryz.func34 rfl fun _=>AW.q ?_
   refine AW.sr fun K hK=>?_
   simp
   refine CallDo.p 2 9 c1 ?_
   simp [d1]
   refine CallDo.p 2 9 c2 ?_
   simp [d2]
   repeat refine and_o ?_
   apply hK
   exact AW.r0 (FinP.rt rfl 4 (by simp))
 ·have d1:¬ cmpR a1 x≤0:=fun h=>g1 (e1.1 h)
  rw [show decide (Iv.has (a1,a2) x)=false from decide_eq_false fun h=>g1 h.1]
  generalize cmpR a1 x=n1 at *
  refine CallsP.en Go.Proofs.Tryz.func34 rfl fun _=>AW.q ?_
  refine AW.c1 2 c1 d1 ?_
  exact AW.r0 (FinP.rt rfl 4 (by simp))
theorem iv_Add (G:List (List DV))(a b:Iv)(ha:a.sz 10000000000)(hb:b.sz 10000000000):CallsP Tryz.prog G 19 [ivV a,ivV b] (ivV (a.add b)):=by
 have c1:=rat_Add G a.1 b.1 ha.1 hb.1
 have c2:=rat_Add G a.2 b.2 ha.2 hb.2
 unfold Iv.add
 generalize a.1+b.1=r1 at *
 generalize a.2+b.2=r2 at *
 refine CallsP.enc Go.Proofs.Tryz.func19 rfl (fun lv=>iv_dArg lv _ _ _ _ _ _) fun _=>AW.q ?_
 refine AW.seqK fun K hK=>?_
 refine AW.drawP mixed (by kernel_rfl) rfl ?_
 simp
 refine CallDo.p 3 9 c1 ?_
 simp
 refine CallDo.p 3 9 c2 ?_
 simp [bIv]
 refine⟨by kernel_rfl,?_⟩
 repeat refine and_o ?_
 apply hK
 exact AW.ret (FinC.iv (κ:=0) (t:=4) (k:=2) ⟨rfl,rfl⟩ (by simp) (by simp [setSeg]))
theorem iv_Sub (G:List (List DV))(a b:Iv)(ha:a.sz 10000000000)(hb:b.sz 10000000000):CallsP Tryz.prog G 21 [ivV a,ivV b] (ivV (a.sub b)):=by
 have c1:=rat_Sub G a.1 b.2 ha.1 hb.2
 have c2:=rat_Sub G a.2 b.1 ha.2 hb.1
 unfold Iv.sub
 generalize a.1 - b.2=r1 at *
 generalize a.2 - b.1=r2 at *
 refine CallsP.enc Go.Proofs.Tryz.func21 rfl (fun lv=>iv_dArg lv _ _ _ _ _ _) fun _=>AW.q ?_
 refine AW.seqK fun K hK=>?_
 refine AW.drawP mixed (by kernel_rfl) rfl ?_
 simp
 refine CallDo.p 3 9 c1 ?_
 simp
 refine CallDo.p 3 9 c2 ?_
 simp [bIv]
 refine⟨by kernel_rfl,?_⟩
 repeat refine and_o ?_
 apply hK
 exact AW.ret (FinC.iv (κ:=0) (t:=4) (k:=2) ⟨rfl,rfl⟩ (by simp) (by simp [setSeg]))
theorem iv_Join (G:List (List DV))(a b:Iv)(ha:a.sz 10000000000)(hb:b.sz 10000000000):CallsP Tryz.prog G 28 [ivV a,ivV b] (ivV (a.join b)):=by
 have c1:=rat_Min G a.1 b.1 ha.1 hb.1
 have c2:=rat_Max G a.2 b.2 ha.2 hb.2
 unfold Iv.join
 generalize minR a.1 b.1=r1 at *
 generalize maxR a.2 b.2=r2 at *
 refine CallsP.enc Go.Proofs.Tryz.func28 rfl (fun lv=>iv_dArg lv _ _ _ _ _ _) fun _=>AW.q ?_
 refine AW.seqK fun K hK=>?_
 refine AW.drawP mixed (by kernel_rfl) rfl ?_
 simp
 refine CallDo.p 3 9 c1 ?_
 simp
 refine CallDo.p 3 9 c2 ?_
 simp [bIv]
 refine⟨by kernel_rfl,?_⟩
 repeat refine and_o ?_
 apply hK
 exact AW.ret (FinC.iv (κ:=0) (t:=4) (k:=2) ⟨rfl,rfl⟩ (by simp) (by simp [setSeg]))
theorem iv_Out (G:List (List DV))(a:Iv)(bits:Int)(ha:a.sz 10000):CallsP Tryz.prog G 30 [ivV a,.c (.d (.int .i64 bits))] (ivV (downR a.1 bits,upR a.2 bits)):=by
 have c1:=rat_Down G a.1 bits ha.1
 have c2:=rat_Up G a.2 bits ha.2
 generalize downR a.1 bits=r1 at *
 generalize upR a.2 bits=r2 at *
 refine CallsP.enc Go.Proofs.Tryz.func30 rfl (fun lv=>iv_dArg lv _ _ _ _ _ _) fun _=>AW.q ?_
 refine AW.seqK fun K hK=>?_
 refine AW.drawP mixed (by kernel_rfl) rfl ?_
 simp
 refine CallDo.p 2 9 c1 ?_
 simp
 refine CallDo.p 2 9 c2 ?_
 simp [bIv]
 refine⟨by kernel_rfl,?_⟩
 repeat refine and_o ?_
 apply hK
 exact AW.ret (FinC.iv (κ:=0) (t:=4) (k:=1) ⟨rfl,rfl⟩ (by simp) (by simp [setSeg]))
theorem iv_Neg (G:List (List DV))(a:Iv):CallsP Tryz.prog G 15 [ivV a] (ivV a.neg):=by
 have c1:=rat_Neg G a.2
 have c2:=rat_Neg G a.1
 unfold Iv.neg
 generalize -a.2=r1 at *
 generalize -a.1=r2 at *
 refine CallsP.enc Go.Proofs.Tryz.func15 rfl (fun lv=>iv_dArg lv _ _ _ _ _ _) fun _=>AW.q ?_
 refine AW.seqK fun K hK=>?_
 refine AW.drawP mixed (by kernel_rfl) rfl ?_
 simp
 refine CallDo.p 2 9 c1 ?_
 simp
 refine CallDo.p 2 9 c2 ?_
 simp [bIv]
 refine⟨by kernel_rfl,?_⟩
 repeat refine and_o ?_
 apply hK
 exact AW.ret (FinC.iv (κ:=0) (t:=2) (k:=1) ⟨rfl,rfl⟩ (by simp) (by simp [setSeg]))
theorem iv_Size (G:List (List DV))(a:Iv)(ha:a.sz 10000000000):CallsP Tryz.prog G 37 [ivV a] (ratV a.size):=by
 have c1:=rat_Ab G a.1
 have c2:=rat_Ab G a.2
 have c3:=rat_Max G _ _ (szR_ab ha.1) (szR_ab ha.2)
 unfold Iv.size
 generalize maxR (absQ a.1) (absQ a.2)=r at *
 generalize absQ a.1=r1 at *
 generalize absQ a.2=r2 at *
 refine CallsP.enc Go.Proofs.Tryz.func37 rfl (fun lv=>nC_dArg lv _ _ _) fun _=>AW.q ?_
 refine AW.seqK fun K hK=>?_
 refine AW.drawP mixed (by kernel_rfl) rfl ?_
 simp
 refine CallDo.p 2 9 c1 ?_
 simp
 refine CallDo.p 2 9 c2 ?_
 simp
 refine CallDo.p 2 9 c3 ?_
 simp
 refine⟨by kernel_rfl,?_⟩
 repeat refine and_o ?_
 apply hK
 exact AW.ret (FinC.num (κ:=0) (t:=2) (k:=1) ⟨rfl,rfl⟩ (by simp) (by simp [setSeg]))
theorem szR_zero' (L:Nat)(h:1≤L):szR 0 L:=⟨by show nl 0≤_;exact Nat.zero_le _,by show nl 1≤_;rw [nl_one];exact h⟩
theorem iv_Near (G:List (List DV))(a:Iv)(ha:a.sz 10000000000):CallsP Tryz.prog G 39 [ivV a] (ratV a.near):=by
 have c1:=rat_Ab G a.1
 have c2:=rat_Ab G a.2
 have c3:=rat_Min G _ _ (szR_ab ha.1) (szR_ab ha.2)
 have ci:=rat_Int G 0 (by decide) (by decide)
 have ch:=iv_Has G a 0 ha (szR_zero' _ (by decide))
 change CallsP _ _ _ _ (ratV (0:Rat)) at ci
 by_cases h0:a.has 0
 ·have e:a.near=0:=if_pos h0
  rw [decide_eq_true h0] at ch
  rw [e]
  generalize (0:Rat)=o at *
  refine CallsP.enc Go.Proofs.Tryz.func39 rfl (fun lv=>nC_dArg lv _ _ _) fun _=>AW.q ?_
  refine AW.seqK fun K hK=>AW.seqK fun K1 hK1=>?_
  refine AW.drawP mixed (by kernel_rfl) rfl ?_
  simp
  refine CallDo.p 2 9 ci ?_
  simp
  refine CallDo.p 2 9 ch ?_
  simp
  refine⟨by kernel_rfl,?_⟩
  repeat refine and_o ?_
  apply hK1
  refine AW.cy (AW.c0 2 ci ?_)
  exact AW.ret (FinC.num (κ:=0) (t:=2) (k:=1) ⟨rfl,rfl⟩ (by simp) (by simp [setSeg]))
 ·have e:a.near=minR (absQ a.1) (absQ a.2):=if_neg h0
  rw [decide_eq_false h0] at ch
  rw [e]
  generalize (0:Rat)=o at *
  generalize minR (absQ a.1) (absQ a.2)=r at *
  generalize absQ a.1=r1 at *
  generalize absQ a.2=r2 at *
  refine CallsP.enc Go.Proofs.Tryz.func39 rfl (fun lv=>nC_dArg lv _ _ _) fun _=>AW.q ?_
  refine AW.seqK fun K hK=>AW.seqK fun K1 hK1=>?_
  refine AW.drawP mixed (by kernel_rfl) rfl ?_
  simp
  refine CallDo.p 2 9 ci ?_
  simp
  refine CallDo.p 2 9 ch ?_
  simp
  refine⟨by kernel_rfl,?_⟩
  repeat refine and_o ?_
  apply hK1
  refine AW.cn (AW.skip (hK _ _ (AW.seqK fun K hK=>?_)))
  refine AW.drawP mixed (by kernel_rfl) rfl ?_
  simp
  refine CallDo.p 2 9 c1 ?_
  simp
  refine CallDo.p 2 9 c2 ?_
  simp
  refine CallDo.p 2 9 c3 ?_
  simp
  refine⟨by kernel_rfl,?_⟩
  repeat refine and_o ?_
  apply hK
  exact AW.ret (FinC.num (κ:=0) (t:=2) (k:=1) ⟨rfl,rfl⟩ (by simp) (by simp [setSeg]))
theorem iv_Abs (G:List (List DV))(a:Iv)(ha:a.sz 10000000000):CallsP Tryz.prog G 17 [ivV a] (ivV a.abs):=by
 have c1:=iv_Near G a ha
 have c2:=iv_Size G a ha
 unfold Iv.abs
 generalize a.near=r1 at *
 generalize a.size=r2 at *
 refine CallsP.enc Go.Proofs.Tryz.func17 rfl (fun lv=>iv_dArg lv _ _ _ _ _ _) fun _=>AW.q ?_
 refine AW.seqK fun K hK=>?_
 refine AW.drawP mixed (by kernel_rfl) rfl ?_
 simp
 refine CallDo.p 2 9 c1 ?_
 simp
 refine CallDo.p 2 9 c2 ?_
 simp [bIv]
 refine⟨by kernel_rfl,?_⟩
 repeat refine and_o ?_
 apply hK
 exact AW.ret (FinC.iv (κ:=0) (t:=2) (k:=1) ⟨rfl,rfl⟩ (by simp) (by simp [setSeg]))
def fromI (x y:Rat):Iv:=if x≤y then (x,y) else (0,0)
theorem iv_From (G:List (List DV))(x y:Rat)(hx:szR x 10000000000)(hy:szR y 10000000000):CallsP Tryz.prog G 46 [ratV x,ratV y] (.tup [ivV (fromI x y),.c (.d (.int .i64 (if x≤y then 0 else 7)))]):=by
 have c1:=rat_Cmp G x y hx hy
 by_cases h:x≤y
 ·have h':¬ 0<cmpR x y:=by have:=cmpR_le.2 h;omega
  rw [if_pos h,show fromI x y=(x,y) from if_pos h]
  generalize cmpR x y=n at *
  refine CallsP.enc Go.Proofs.Tryz.func46 rfl (fun lv=>iv_dArg2 lv _ _ _ _ _ _ _ rfl) fun _=>AW.q ?_
  refine AW.seqK fun K hK=>AW.c1 3 c1 h' ?_
  refine AW.fn (by simp [h'] <;> omega) (AW.skip (hK _ _ (AW.f1 @bIv ?_)))
  exact AW.ret (FinC.iv2 (κ:=0) (t:=4) (k:=2) (u:=5) ⟨rfl,rfl⟩ (by simp) (by simp [setSeg]) (by simp))
 ·have h':0<cmpR x y:=cmpR_pos.2 (Rat.not_le.1 h)
  rw [if_neg h,show fromI x y=(0,0) from if_neg h]
  generalize cmpR x y=n at *
  refine CallsP.enc Go.Proofs.Tryz.func46 rfl (fun lv=>iv_dArg2 lv _ _ _ _ _ _ _ rfl) fun _=>AW.q ?_
  refine AW.seqK fun K hK=>AW.c1 3 c1 h' ?_
  refine AW.fy (by simp [h'] <;> omega) (AW.f1 bIv0 ?_)
  exact AW.ret (FinC.iv2 (κ:=0) (t:=4) (k:=2) (u:=5) ⟨rfl,rfl⟩ (by simp) (by simp [setSeg]) (by simp))
theorem iv_Meet (G:List (List DV))(a b:Iv)(ha:a.sz 10000000000)(hb:b.sz 10000000000):CallsP Tryz.prog G 25 [ivV a,ivV b] (.tup [ivV (fromI (a.meet b).1 (a.meet b).2),.c (.d (.bool (decide ((a.meet b).1≤(a.meet b).2))))]):=by
 have c1:=rat_Max G a.1 b.1 ha.1 hb.1
 have c2:=rat_Min G a.2 b.2 ha.2 hb.2
 have c3:=iv_From G (a.meet b).1 (a.meet b).2 (szR_max ha.1 hb.1) (szR_min ha.2 hb.2)
 have e:((if (a.meet b).1≤(a.meet b).2 then (0:Int) else 7)=0)↔(a.meet b).1≤(a.meet b).2:=by split <;> simp_all
 have key:∀ (r1 r2:Rat) (r:Iv) (n:Int) (bb:Bool),CallsP Tryz.prog G 78 [ratV a.1,ratV b.1] (ratV r1)→CallsP Tryz.prog G 79 [ratV a.2,ratV b.2] (ratV r2) →
  CallsP Tryz.prog G 46 [ratV r1,ratV r2] (.tup [ivV r,.c (.d (.int .i64 n))])→decide (n=0)=bb→CallsP Tryz.prog G 25 [ivV a,ivV b] (.tup [ivV r,.c (.d (.bool bb))]):=by
  intro r1 r2 r n bb c1 c2 c3 hb
  subst hb
  refine CallsP.enc Go.Proofs.Tryz.func25 rfl (fun lv=>iv_dArg2 lv _ _ _ _ _ _ _ rfl) fun _=>AW.q ?_
  refine AW.seqK fun K hK=>?_
  refine AW.drawP mixed (by kernel_rfl) rfl ?_
  simp
  refine CallDo.p 3 9 c1 ?_
  simp
  refine CallDo.p 3 9 c2 ?_
  simp
  refine CallDo.p 3 9 c3 ?_
  simp
  refine⟨by kernel_rfl,?_⟩
  repeat refine and_o ?_
  apply hK
  refine AW.seqK fun K hK=>AW.l1 @setSeg.eq_1 (hK _ _ ?_)
  exact AW.ret (FinC.iv2 (κ:=0) (t:=4) (k:=2) (u:=5) ⟨rfl,rfl⟩ (by simp) (by simp [setSeg]) (by simp))
 exact key _ _ _ _ _ c1 c2 c3 (decide_eq_decide.2 e)
theorem rat_quo (G:List (List DV))(x y:Rat)(hx:szR x 10000000000)(hy:szR y 10000000000):CallsP Tryz.prog G 60 [ratV x,ratV y] (ratV (x / y)):=by
 have c1:=rat_Quo G x y hx hy
 generalize x / y=r at *
 generalize (if y=0 then (8:Int) else 0)=n at *
 refine CallsP.enc Go.Proofs.Tryz.func60 rfl (fun lv=>nC_dArg lv _ _ _) fun _=>AW.q ?_
 refine AW.c0 3 c1 ?_
 refine AW.f1 @setSeg.eq_1 ?_
 exact AW.ret (FinC.num (κ:=0) (t:=4) (k:=2) ⟨rfl,rfl⟩ (by simp) (by simp [setSeg]))
def numD (x:Rat):List DV:=[.bool (decide (x.num<0)),nD (natO x.num.natAbs),nD (denO x.den)]
abbrev numsA (l:List Rat):AV:=.c (.d (.sl (l.map numD)))
abbrev cmpF:AV:=.c (.d (.func (.func 99) [] []))
theorem lpNums (l:List Rat)(lv:Key→LB):lenP Tryz.prog 87 lv (numsA l)=some (.c (.d (.int .i64 l.length)),[],[],True):=by
 simp [lenP,lenA,keyOf]
theorem ixNums (l:List Rat)(lv:Key→LB)(i:Nat)(x:Rat)(h:l[i]?=some x):stepIndexAddr Tryz.prog 87 lv (numsA l) (.c (.d (.int .i64 (i:Int))))=some (.c (.d (.ptr (numD x))),[],[],True):=by
 obtain⟨hi,e⟩:=List.getElem?_eq_some_iff.1 h
 have hi':(i:Int)<(l.length:Int):=by omega
 simp [hi,e,numD]
def minL (l:List Rat)(m:Rat):Rat:=l.foldl (fun m x=>minR x m) m
def maxL (l:List Rat)(m:Rat):Rat:=l.foldl (fun m x=>maxR m x) m
theorem minR_comm (x y:Rat):minR x y=minR y x:=by unfold minR;split <;> split <;> grind
theorem hull_minL (w x y z:Rat):(minL [x,y,z] w,maxL [x,y,z] w)=hull4 w x y z:=by
 simp only [minL,maxL,List.foldl,hull4,minR_comm z,minR_comm y,minR_comm x]
theorem minL_drop {l:List Rat}{i:Nat}{x m:Rat}(h:l[i]?=some x):minL (l.drop i) m=minL (l.drop (i+1)) (minR x m):=by
 obtain⟨hi,e⟩:=List.getElem?_eq_some_iff.1 h
 rw [List.drop_eq_getElem_cons hi,e];rfl
theorem maxL_drop {l:List Rat}{i:Nat}{x m:Rat}(h:l[i]?=some x):maxL (l.drop i) m=maxL (l.drop (i+1)) (maxR m x):=by
 obtain⟨hi,e⟩:=List.getElem?_eq_some_iff.1 h
 rw [List.drop_eq_getElem_cons hi,e];rfl
theorem minFunc_ok (G:List (List DV))(l:List Rat)(x0:Rat)(h0:l[0]?=some x0)(hn:l.length≤1000)(hs:∀ x∈l,szR x 10000000000) :
 CallsP Tryz.prog G 140 [numsA l,cmpF] (ratV (minL (l.drop 1) x0)):=by
 have hl:0<l.length:=(List.getElem?_eq_some_iff.1 h0).1
 have hl1:¬ (l.length:Int)<1:=by omega
 have e0:l[0]'hl=x0:=(List.getElem?_eq_some_iff.1 h0).2
 generalize hR:minL (l.drop 1) x0=R
 refine CallsP.enc Go.Proofs.Tryz.func140 rfl (fun lv=>nC_dArg lv _ _ _) fun _=>AW.q ?_
 refine AW.seqK fun K hK=>AW.f2 @lpNums hl1 ?_
 refine AW.fn (by simp [hl1] <;> omega) (AW.skip ?_)
 simp
 repeat refine and_o ?_
 apply hK
 refine AW.seqK fun K hK=>AW.rP ?_
 simp [h0,hl,e0,numD,← nC_nD,setSeg]
 repeat refine and_o ?_
 apply hK
 refine AW.seqK fun K hK=>AW.seqK fun K1 hK1=>AW.rP ?_
 simp
 repeat refine and_o ?_
 apply hK1
 refine AW.block ?_
 refine AW.loopV (fun (p:Nat × Rat)=>⟨frOf [(0,numsA l),(1,cmpF),(4,.c (.ptr 0 0)),(5,.c (.ptr 1 0)),(6,.c (.d (.int .i64 (p.1:Int))))],
  upd (upd (fun _=>.hole) 0 (.cells true false 30 [.d (.bool false),.d .nilsl,.d .nilsl])) 1 (.cells true false 30 [.d (.bool (decide (p.2.num<0))),nC (natO p.2.num.natAbs),nC (denO p.2.den)])⟩) 2
  (fun p=>1≤p.1∧p.1≤l.length∧szR p.2 10000000000∧minL (l.drop p.1) p.2=R) (fun p=>l.length - p.1) (1,x0) (Le.mk2 _) ⟨Nat.le_refl _,hl,hs _ (List.mem_of_getElem? h0),hR⟩ ?_
 rintro⟨i,m⟩ ⟨h1,h2,h3,h4⟩
 simp only at h1 h2 h3 h4
 refine AW.seqK fun K2 hK2=>AW.f1 @lpNums ?_
 by_cases hlt:i<l.length
 ·have hlt':(i:Int)<(l.length:Int):=by omega
  obtain⟨x,hx⟩:∃ x,l[i]?=some x:=⟨_,List.getElem?_eq_getElem hlt⟩
  have hxs:=hs _ (List.mem_of_getElem? hx)
  have hix:=fun lv=>ixNums l lv i x hx
  have hc:=rat_Cmp G x m hxs h3
  have f12:=w64 (n:=(i:Int)+1) (by omega) (by omega)
  refine AW.fy (by simp [hlt'] <;> omega) (AW.skip (hK2 _ _ (AW.seqK fun K4 hK4=>AW.block (AW.seqK fun K5 hK5=>?_))))
  refine AW.drawP mixed (by kernel_rfl) rfl ?_
  simp [hix,numD,← nC_nD]
  refine CallDo.p 2 9 hc ?_
  simp [hix,numD,← nC_nD]
  refine⟨by kernel_rfl,?_⟩
  repeat refine and_o ?_
  apply hK5
  by_cases hm:x<m
  ·have hm':=cmpR_neg.2 hm
   refine AW.fy (by simp [hm'] <;> omega) (AW.rP ?_)
   simp [hix,numD,← nC_nD]
   repeat refine and_o ?_
   apply hK4
   refine AW.rP ?_
   simp [f12]
   refine⟨i+1,x,Le.mk2 _ (by simp [setSeg]),⟨by omega,by omega,hxs,?_⟩,by omega⟩
   rw [← h4,minL_drop hx,show minR x m=x from if_pos hm]
  ·have hm':¬ cmpR x m<0:=fun h=>hm (cmpR_neg.1 h)
   refine AW.fn (by simp [hm'] <;> omega) (AW.skip (hK4 _ _ (AW.rP ?_)))
   simp [f12]
   refine⟨i+1,m,Le.mk2 _,⟨by omega,by omega,h3,?_⟩,by omega⟩
   rw [← h4,minL_drop hx,show minR x m=m from if_neg hm]
 ·have hlt':¬ (i:Int)<(l.length:Int):=by omega
  have hd:l.drop i=[]:=List.drop_eq_nil_of_le (by omega)
  rw [hd] at h4
  have h5:m=R:=h4
  refine AW.fn (by simp [hlt'] <;> omega) (AW.exit (hK _ _ (AW.q ?_)))
  subst h5
  exact AW.ret (FinC.num (κ:=0) (t:=4) (k:=0) ⟨rfl,rfl⟩ (by simp) (by simp [setSeg]))
theorem maxFunc_ok (G:List (List DV))(l:List Rat)(x0:Rat)(h0:l[0]?=some x0)(hn:l.length≤1000)(hs:∀ x∈l,szR x 10000000000) :
 CallsP Tryz.prog G 141 [numsA l,cmpF] (ratV (maxL (l.drop 1) x0)):=by
 have hl:0<l.length:=(List.getElem?_eq_some_iff.1 h0).1
 have hl1:¬ (l.length:Int)<1:=by omega
 have e0:l[0]'hl=x0:=(List.getElem?_eq_some_iff.1 h0).2
 generalize hR:maxL (l.drop 1) x0=R
 refine CallsP.enc Go.Proofs.Tryz.func141 rfl (fun lv=>nC_dArg lv _ _ _) fun _=>AW.q ?_
 refine AW.seqK fun K hK=>AW.f2 @lpNums hl1 ?_
 refine AW.fn (by simp [hl1] <;> omega) (AW.skip (hK _ _ (AW.sr fun K hK=>?_)))
 simp [h0,hl,e0,numD,← nC_nD,setSeg]
 repeat refine and_o ?_
 apply hK
 refine AW.seqK fun K hK=>AW.seqK fun K1 hK1=>AW.rP ?_
 simp
 repeat refine and_o ?_
 apply hK1
 refine AW.block ?_
 refine AW.loopV (fun (p:Nat × Rat)=>⟨frOf [(0,numsA l),(1,cmpF),(4,.c (.ptr 0 0)),(5,.c (.ptr 1 0)),(6,.c (.d (.int .i64 (p.1:Int))))],
  upd (upd (fun _=>.hole) 0 (.cells true false 30 [.d (.bool false),.d .nilsl,.d .nilsl])) 1 (.cells true false 30 [.d (.bool (decide (p.2.num<0))),nC (natO p.2.num.natAbs),nC (denO p.2.den)])⟩) 2
  (fun p=>1≤p.1∧p.1≤l.length∧szR p.2 10000000000∧maxL (l.drop p.1) p.2=R) (fun p=>l.length - p.1) (1,x0) (Le.mk2 _) ⟨Nat.le_refl _,hl,hs _ (List.mem_of_getElem? h0),hR⟩ ?_
 rintro⟨i,m⟩ ⟨h1,h2,h3,h4⟩
 simp only at h1 h2 h3 h4
 refine AW.seqK fun K2 hK2=>AW.f1 @lpNums ?_
 by_cases hlt:i<l.length
 ·have hlt':(i:Int)<(l.length:Int):=by omega
  obtain⟨x,hx⟩:∃ x,l[i]?=some x:=⟨_,List.getElem?_eq_getElem hlt⟩
  have hxs:=hs _ (List.mem_of_getElem? hx)
  have hix:=fun lv=>ixNums l lv i x hx
  have hc:=rat_Cmp G x m hxs h3
  have f12:=w64 (n:=(i:Int)+1) (by omega) (by omega)
  refine AW.fy (by simp [hlt'] <;> omega) (AW.skip (hK2 _ _ (AW.seqK fun K4 hK4=>AW.block (AW.seqK fun K5 hK5=>?_))))
  refine AW.drawP mixed (by kernel_rfl) rfl ?_
  simp [hix,numD,← nC_nD]
  refine CallDo.p 2 9 hc ?_
  simp [hix,numD,← nC_nD]
  refine⟨by kernel_rfl,?_⟩
  repeat refine and_o ?_
  apply hK5
  by_cases hm:m<x
  ·have hm':=cmpR_pos.2 hm
   refine AW.fy (by simp [hm'] <;> omega) (AW.rP ?_)
   simp [hix,numD,← nC_nD]
   repeat refine and_o ?_
   apply hK4
   refine AW.rP ?_
   simp [f12]
   refine⟨i+1,x,Le.mk2 _ (by simp [setSeg]),⟨by omega,by omega,hxs,?_⟩,by omega⟩
   rw [← h4,maxL_drop hx,show maxR m x=x from if_pos hm]
  ·have hm':¬ 0<cmpR x m:=fun h=>hm (cmpR_pos.1 h)
   refine AW.fn (by simp [hm'] <;> omega) (AW.skip (hK4 _ _ (AW.rP ?_)))
   simp [f12]
   refine⟨i+1,m,Le.mk2 _,⟨by omega,by omega,h3,?_⟩,by omega⟩
   rw [← h4,maxL_drop hx,show maxR m x=m from if_neg hm]
 ·have hlt':¬ (i:Int)<(l.length:Int):=by omega
  have hd:l.drop i=[]:=List.drop_eq_nil_of_le (by omega)
  rw [hd] at h4
  have h5:m=R:=h4
  refine AW.fn (by simp [hlt'] <;> omega) (AW.exit (hK _ _ (AW.q ?_)))
  subst h5
  exact AW.ret (FinC.num (κ:=0) (t:=4) (k:=0) ⟨rfl,rfl⟩ (by simp) (by simp [setSeg]))
theorem hull_ok (G:List (List DV))(w x y z:Rat)(h1:szR w 10000000000)(h2:szR x 10000000000)(h3:szR y 10000000000)(h4:szR z 10000000000) :
 CallsP Tryz.prog G 76 [numsA [w,x,y,z]] (ivV (hull4 w x y z)):=by
 have hs:∀ u∈[w,x,y,z],szR u 10000000000:=by
  intro u hu
  simp only [List.mem_cons,List.not_mem_nil,or_false] at hu
  rcases hu with rfl|rfl|rfl|rfl <;> assumption
 have c1:=minFunc_ok G [w,x,y,z] w rfl (by simp) hs
 have c2:=maxFunc_ok G [w,x,y,z] w rfl (by simp) hs
 rw [← hull_minL]
 change CallsP _ _ _ _ (ratV (minL [x,y,z] w)) at c1
 change CallsP _ _ _ _ (ratV (maxL [x,y,z] w)) at c2
 generalize minL [x,y,z] w=r1 at *
 generalize maxL [x,y,z] w=r2 at *
 generalize [w,x,y,z]=l at *
 refine CallsP.enc Go.Proofs.Tryz.func76 rfl (fun lv=>iv_dArg lv _ _ _ _ _ _) fun _=>AW.q ?_
 refine AW.sr fun K hK=>?_
 simp
 refine CallDo.p 1 9 c1 ?_
 simp
 refine CallDo.p 1 9 c2 ?_
 simp [bIv]
 repeat refine and_o ?_
 apply hK
 exact AW.ret (FinC.iv (κ:=0) (t:=2) (k:=0) ⟨rfl,rfl⟩ (by simp) (by simp [setSeg]))
theorem CallDo.frz4 {c:Ctx}{f:FuncId}{lv:Key→LB}{K:AV→List (Key × LB)→List Key→Nat→Prop}(κ' kh κb:Key) {T:TypeId}{w x y z:Rat}{X:AV}
 (hk:lv κb=.cells true false T (((numD w++numD x)++(numD y++numD z)).map CV.d)) (hc:CallsP c.P c.G f [numsA [w,x,y,z]] X) (hX:X.pure=true) (hh:lv kh=.hole) (hkh:kh≠κb)
 (hK:K X [(κb,.cells true true T (((numD w++numD x)++(numD y++numD z)).map CV.d))] [kh] κ'):CallDo c f [.c (.lsl κb 0 4 3)] lv K:=by
 refine CallDo.frz κ' kh κb T _ [kh] hc hX hk hh hkh rfl (fun i p q=>?_) (fun a ha j hj=>?_) (by simp) hK
 ·have hi:i=0:=by simp at p;omega
  subst hi
  right
  simp only [List.getElem_cons_zero,dArg,toDV,upd_same]
  rfl
 ·simp only [List.mem_singleton] at ha;subst ha
  simp only [rdA,rdK,List.mem_cons,upd_same] at hj
  rcases hj with rfl|hj
  ·exact .inr rfl
  ·simp only [List.mem_flatMap] at hj
   obtain⟨y,hy,hj⟩:=hj
   simp only [List.mem_map] at hy
   obtain⟨z,_,rfl⟩:=hy
   cases hj
theorem fill4 (a b c d e f g h i j k l:CV):fillA (fun i=>some (i*3,3)) (repl 4 [.d (.bool false),.d .nilsl,.d .nilsl]) [(0,.agg [a,b,c]),(1,.agg [d,e,f]),(2,.agg [g,h,i]),(3,.agg [j,k,l])]=some [a,b,c,d,e,f,g,h,i,j,k,l]:=by kernel_rfl
theorem sgA_pos (x:Rat):0≤sgA (decide (x.num<0)) (natO x.num.natAbs)↔0≤x:=by
 unfold sgA;rw [natO_d,← Rat.num_nonneg]
 by_cases h0:x.num.natAbs=0
 ·rw [if_pos ((dig_nil (by decide)).2 h0)];omega
 ·rw [if_neg (dig_ne h0)]
  by_cases hn:x.num<0
  ·rw [decide_eq_true hn,if_pos rfl];omega
  ·rw [decide_eq_false hn,if_neg (by decide)];omega
theorem sgA_le (x:Rat):sgA (decide (x.num<0)) (natO x.num.natAbs)≤0↔x≤0:=by
 have h2:0≤-x↔x≤0:=by constructor <;> intro h <;> grind
 unfold sgA;rw [natO_d,← h2,← Rat.num_nonneg,Rat.neg_num]
 by_cases h0:x.num.natAbs=0
 ·rw [if_pos ((dig_nil (by decide)).2 h0)];omega
 ·rw [if_neg (dig_ne h0)]
  by_cases hn:x.num<0
  ·rw [decide_eq_true hn,if_pos rfl];omega
  ·rw [decide_eq_false hn,if_neg (by decide)];omega
theorem iv_mul_step (G:List (List DV))(a b:Iv)(ha:a.sz 10000000)(hb:b.sz 10000000)(la:a.1≤a.2)(lb:b.1≤b.2)
 (r1:a.1<0→a.2≤0→CallsP Tryz.prog G 23 [ivV a.neg,ivV b] (ivV (a.neg.mul b)))
 (r2:¬ (a.1<0∧a.2≤0)→b.1<0→b.2≤0→CallsP Tryz.prog G 23 [ivV a,ivV b.neg] (ivV (a.mul b.neg))) :
 CallsP Tryz.prog G 23 [ivV a,ivV b] (ivV (a.mul b)):=by
 obtain⟨a1,a2⟩:=a
 obtain⟨b1,b2⟩:=b
 have sz:∀ {x:Rat},szR x 10000000→szR x 10000000000:=fun h=>szR_mono h (by decide)
 have g1:=num_Sign_ok G (decide (a1.num<0)) (natO a1.num.natAbs) (denO a1.den)
 have g2:=num_Sign_ok G (decide (a2.num<0)) (natO a2.num.natAbs) (denO a2.den)
 have g3:=num_Sign_ok G (decide (b1.num<0)) (natO b1.num.natAbs) (denO b1.den)
 have g4:=num_Sign_ok G (decide (b2.num<0)) (natO b2.num.natAbs) (denO b2.den)
 have p1:=sgA_pos a1
 have p2:=sgA_le a2
 have p3:=sgA_pos b1
 have p4:=sgA_le b2
 by_cases c0:0≤a1∧0≤b1
 ·have m1:=rat_Mul G a1 b1 (sz ha.1) (sz hb.1)
  have m2:=rat_Mul G a2 b2 (sz ha.2) (sz hb.2)
  rw [Iv.mul_pos la lb c0.1 c0.2]
  have q1:=p1.2 c0.1
  have q3:=p3.2 c0.2
  generalize sgA (decide (a1.num<0)) (natO a1.num.natAbs)=s1 at *
  generalize sgA (decide (b1.num<0)) (natO b1.num.natAbs)=s3 at *
  simp only at m1 m2 ⊢
  generalize a1*b1=u1 at *
  generalize a2*b2=u2 at *
  refine CallsP.enc Go.Proofs.Tryz.func23 rfl (fun lv=>iv_dArg lv _ _ _ _ _ _) fun _=>AW.q ?_
  refine AW.seqK fun K hK=>AW.block (AW.sr fun K1 hK1=>?_)
  simp
  refine CallDo.p 3 9 g1 ?_
  simp [q1]
  refine CallDo.p 3 9 g3 ?_
  simp [q3]
  repeat refine and_o ?_
  apply hK1
  refine AW.cy (AW.seqK fun K1 hK1=>?_)
  refine AW.drawP mixed (by kernel_rfl) rfl ?_
  simp
  refine CallDo.p 3 9 m1 ?_
  simp
  refine CallDo.p 3 9 m2 ?_
  simp [bIv]
  refine⟨by kernel_rfl,?_⟩
  repeat refine and_o ?_
  apply hK1
  exact AW.ret (FinC.iv (κ:=0) (t:=4) (k:=2) ⟨rfl,rfl⟩ (by simp) (by simp [setSeg]))
 by_cases c1:a1<0∧a2≤0
 ·have m1:=r1 c1.1 c1.2
  have n1:=iv_Neg G (a1,a2)
  have n2:=iv_Neg G (Iv.mul (Iv.neg (a1,a2)) (b1,b2))
  rw [Iv.mul_negl] at n2
  have q1:¬ 0≤sgA (decide (a1.num<0)) (natO a1.num.natAbs):=fun h=>absurd (p1.1 h) (Rat.not_le.2 c1.1)
  have q2:=p2.2 c1.2
  have q1':sgA (decide (a1.num<0)) (natO a1.num.natAbs)<0:=by omega
  generalize sgA (decide (a1.num<0)) (natO a1.num.natAbs)=s1 at *
  generalize sgA (decide (a2.num<0)) (natO a2.num.natAbs)=s2 at *
  generalize Iv.mul (Iv.neg (a1,a2)) (b1,b2)=u at *
  generalize Iv.mul (a1,a2) (b1,b2)=v at *
  generalize Iv.neg (a1,a2)=na at *
  refine CallsP.enc Go.Proofs.Tryz.func23 rfl (fun lv=>iv_dArg lv _ _ _ _ _ _) fun _=>AW.q ?_
  refine AW.seqK fun K hK=>AW.block (AW.sr fun K1 hK1=>?_)
  simp
  refine CallDo.p 3 9 g1 ?_
  simp [q1]
  repeat refine and_o ?_
  apply hK1
  refine AW.cn (AW.sr fun K1 hK1=>?_)
  simp
  refine CallDo.p 3 9 g1 ?_
  simp [q1']
  refine CallDo.p 3 9 g2 ?_
  simp [q2]
  repeat refine and_o ?_
  apply hK1
  refine AW.cy (AW.seqK fun K1 hK1=>?_)
  refine AW.drawP mixed (by kernel_rfl) rfl ?_
  simp
  refine CallDo.p 3 9 n1 ?_
  simp
  refine CallDo.p 3 9 m1 ?_
  simp
  refine CallDo.p 3 9 n2 ?_
  simp
  refine⟨by kernel_rfl,?_⟩
  repeat refine and_o ?_
  apply hK1
  exact AW.ret (FinC.iv (κ:=0) (t:=4) (k:=2) ⟨rfl,rfl⟩ (by simp) (by simp [setSeg]))
 have q1n:¬ 0≤a1→a1<0:=fun h=>Rat.not_le.1 h
 have s1n:a1<0→sgA (decide (a1.num<0)) (natO a1.num.natAbs)<0:=fun h=>by
  have:¬ 0≤sgA (decide (a1.num<0)) (natO a1.num.natAbs):=fun h'=>absurd (p1.1 h') (Rat.not_le.2 h)
  omega
 have s3n:b1<0→sgA (decide (b1.num<0)) (natO b1.num.natAbs)<0:=fun h=>by
  have:¬ 0≤sgA (decide (b1.num<0)) (natO b1.num.natAbs):=fun h'=>absurd (p3.1 h') (Rat.not_le.2 h)
  omega
 by_cases c2:b1<0∧b2≤0
 ·have m1:=r2 c1 c2.1 c2.2
  have n1:=iv_Neg G (b1,b2)
  have n2:=iv_Neg G (Iv.mul (a1,a2) (Iv.neg (b1,b2)))
  rw [Iv.mul_negr] at n2
  have q3':=s3n c2.1
  have q3:¬ 0≤sgA (decide (b1.num<0)) (natO b1.num.natAbs):=by omega
  have q4:=p4.2 c2.2
  by_cases h1:0≤a1
  ·have q1:=p1.2 h1
   have q1':¬ sgA (decide (a1.num<0)) (natO a1.num.natAbs)<0:=by omega
   generalize sgA (decide (a1.num<0)) (natO a1.num.natAbs)=s1 at *
   generalize sgA (decide (a2.num<0)) (natO a2.num.natAbs)=s2 at *
   generalize sgA (decide (b1.num<0)) (natO b1.num.natAbs)=s3 at *
   generalize sgA (decide (b2.num<0)) (natO b2.num.natAbs)=s4 at *
   generalize Iv.mul (a1,a2) (Iv.neg (b1,b2))=u at *
   generalize Iv.mul (a1,a2) (b1,b2)=v at *
   generalize Iv.neg (b1,b2)=nb at *
   refine CallsP.enc Go.Proofs.Tryz.func23 rfl (fun lv=>iv_dArg lv _ _ _ _ _ _) fun _=>AW.q ?_
   refine AW.seqK fun K hK=>AW.block (AW.sr fun K1 hK1=>?_)
   simp
   refine CallDo.p 3 9 g1 ?_
   simp [q1]
   refine CallDo.p 3 9 g3 ?_
   simp [q3]
   repeat refine and_o ?_
   apply hK1
   refine AW.cn (AW.c1 3 g1 q1' ?_)
   refine AW.cn (AW.sr fun K1 hK1=>?_)
   simp
   refine CallDo.p 3 9 g3 ?_
   simp [q3']
   refine CallDo.p 3 9 g4 ?_
   simp [q4]
   repeat refine and_o ?_
   apply hK1
   refine AW.cy (AW.seqK fun K1 hK1=>?_)
   refine AW.drawP mixed (by kernel_rfl) rfl ?_
   simp
   refine CallDo.p 3 9 n1 ?_
   simp
   refine CallDo.p 3 9 m1 ?_
   simp
   refine CallDo.p 3 9 n2 ?_
   simp
   refine⟨by kernel_rfl,?_⟩
   repeat refine and_o ?_
   apply hK1
   exact AW.ret (FinC.iv (κ:=0) (t:=4) (k:=2) ⟨rfl,rfl⟩ (by simp) (by simp [setSeg]))
  ·have q1':=s1n (q1n h1)
   have q1:¬ 0≤sgA (decide (a1.num<0)) (natO a1.num.natAbs):=by omega
   have q2:¬ sgA (decide (a2.num<0)) (natO a2.num.natAbs)≤0:=fun h=>c1 ⟨q1n h1,p2.1 h⟩
   generalize sgA (decide (a1.num<0)) (natO a1.num.natAbs)=s1 at *
   generalize sgA (decide (a2.num<0)) (natO a2.num.natAbs)=s2 at *
   generalize sgA (decide (b1.num<0)) (natO b1.num.natAbs)=s3 at *
   generalize sgA (decide (b2.num<0)) (natO b2.num.natAbs)=s4 at *
   generalize Iv.mul (a1,a2) (Iv.neg (b1,b2))=u at *
   generalize Iv.mul (a1,a2) (b1,b2)=v at *
   generalize Iv.neg (b1,b2)=nb at *
   refine CallsP.enc Go.Proofs.Tryz.func23 rfl (fun lv=>iv_dArg lv _ _ _ _ _ _) fun _=>AW.q ?_
   refine AW.seqK fun K hK=>AW.block (AW.sr fun K1 hK1=>?_)
   simp
   refine CallDo.p 3 9 g1 ?_
   simp [q1]
   repeat refine and_o ?_
   apply hK1
   refine AW.cn (AW.sr fun K1 hK1=>?_)
   simp
   refine CallDo.p 3 9 g1 ?_
   simp [q1']
   refine CallDo.p 3 9 g2 ?_
   simp [q2]
   repeat refine and_o ?_
   apply hK1
   refine AW.cn (AW.sr fun K1 hK1=>?_)
   simp
   refine CallDo.p 3 9 g3 ?_
   simp [q3']
   refine CallDo.p 3 9 g4 ?_
   simp [q4]
   repeat refine and_o ?_
   apply hK1
   refine AW.cy (AW.seqK fun K1 hK1=>?_)
   refine AW.drawP mixed (by kernel_rfl) rfl ?_
   simp
   refine CallDo.p 3 9 n1 ?_
   simp
   refine CallDo.p 3 9 m1 ?_
   simp
   refine CallDo.p 3 9 n2 ?_
   simp
   refine⟨by kernel_rfl,?_⟩
   repeat refine and_o ?_
   apply hK1
   exact AW.ret (FinC.iv (κ:=0) (t:=4) (k:=2) ⟨rfl,rfl⟩ (by simp) (by simp [setSeg]))
 have hm:Iv.mul (a1,a2) (b1,b2)=hull4 (a1*b1) (a1*b2) (a2*b1) (a2*b2):=rfl
 have m1:=rat_Mul G a1 b1 (sz ha.1) (sz hb.1)
 have m2:=rat_Mul G a1 b2 (sz ha.1) (sz hb.2)
 have m3:=rat_Mul G a2 b1 (sz ha.2) (sz hb.1)
 have m4:=rat_Mul G a2 b2 (sz ha.2) (sz hb.2)
 have zz:∀ {x y:Rat},szR x 10000000→szR y 10000000→szR (x*y) 10000000000:=fun h h'=>szR_mono (szR_mul h h') (by decide)
 have hh:=hull_ok G (a1*b1) (a1*b2) (a2*b1) (a2*b2) (zz ha.1 hb.1) (zz ha.1 hb.2) (zz ha.2 hb.1) (zz ha.2 hb.2)
 rw [hm]
 generalize hull4 (a1*b1) (a1*b2) (a2*b1) (a2*b2)=v at *
 generalize a1*b1=u1 at *
 generalize a1*b2=u2 at *
 generalize a2*b1=u3 at *
 generalize a2*b2=u4 at *
 by_cases h1:0≤a1
 ·have h3:b1<0:=Rat.not_le.1 fun h=>c0 ⟨h1,h⟩
  have q1:=p1.2 h1
  have q1':¬ sgA (decide (a1.num<0)) (natO a1.num.natAbs)<0:=by omega
  have q3':=s3n h3
  have q3:¬ 0≤sgA (decide (b1.num<0)) (natO b1.num.natAbs):=by omega
  have q4:¬ sgA (decide (b2.num<0)) (natO b2.num.natAbs)≤0:=fun h=>c2 ⟨h3,p4.1 h⟩
  generalize sgA (decide (a1.num<0)) (natO a1.num.natAbs)=s1 at *
  generalize sgA (decide (b1.num<0)) (natO b1.num.natAbs)=s3 at *
  generalize sgA (decide (b2.num<0)) (natO b2.num.natAbs)=s4 at *
  refine CallsP.enc Go.Proofs.Tryz.func23 rfl (fun lv=>iv_dArg lv _ _ _ _ _ _) fun _=>AW.q ?_
  refine AW.seqK fun K hK=>AW.block (AW.sr fun K1 hK1=>?_)
  simp
  refine CallDo.p 3 9 g1 ?_
  simp [q1]
  refine CallDo.p 3 9 g3 ?_
  simp [q3]
  repeat refine and_o ?_
  apply hK1
  refine AW.cn (AW.c1 3 g1 q1' ?_)
  refine AW.cn (AW.sr fun K1 hK1=>?_)
  simp
  refine CallDo.p 3 9 g3 ?_
  simp [q3']
  refine CallDo.p 3 9 g4 ?_
  simp [q4]
  repeat refine and_o ?_
  apply hK1
  refine AW.cn (AW.skip (hK _ _ (AW.seqK fun K hK=>?_)))
  refine AW.drawP mixed (by kernel_rfl) rfl ?_
  simp
  refine CallDo.p 3 9 m1 ?_
  simp
  refine CallDo.p 3 9 m2 ?_
  simp
  refine CallDo.p 3 9 m3 ?_
  simp
  refine CallDo.p 3 9 m4 ?_
  simp [fill4]
  refine CallDo.frz4 (T:=30) 4 9 3 (w:=u1) (x:=u2) (y:=u3) (z:=u4) ?_ hh ?_ ?_ ?_ ?_
  ·simp [numD,nC_nD]
  ·simp
  ·simp
  ·decide
  simp
  refine⟨by kernel_rfl,?_⟩
  repeat refine and_o ?_
  apply hK
  exact AW.ret (FinC.iv (κ:=0) (t:=4) (k:=2) ⟨rfl,rfl⟩ (by simp) (by simp [setSeg]))
 have q1':=s1n (q1n h1)
 have q1:¬ 0≤sgA (decide (a1.num<0)) (natO a1.num.natAbs):=by omega
 have q2:¬ sgA (decide (a2.num<0)) (natO a2.num.natAbs)≤0:=fun h=>c1 ⟨q1n h1,p2.1 h⟩
 by_cases h3:b1<0
 ·have q3':=s3n h3
  have q4:¬ sgA (decide (b2.num<0)) (natO b2.num.natAbs)≤0:=fun h=>c2 ⟨h3,p4.1 h⟩
  generalize sgA (decide (a1.num<0)) (natO a1.num.natAbs)=s1 at *
  generalize sgA (decide (a2.num<0)) (natO a2.num.natAbs)=s2 at *
  generalize sgA (decide (b1.num<0)) (natO b1.num.natAbs)=s3 at *
  generalize sgA (decide (b2.num<0)) (natO b2.num.natAbs)=s4 at *
  refine CallsP.enc Go.Proofs.Tryz.func23 rfl (fun lv=>iv_dArg lv _ _ _ _ _ _) fun _=>AW.q ?_
  refine AW.seqK fun K hK=>AW.block (AW.sr fun K1 hK1=>?_)
  simp
  refine CallDo.p 3 9 g1 ?_
  simp [q1]
  repeat refine and_o ?_
  apply hK1
  refine AW.cn (AW.sr fun K1 hK1=>?_)
  simp
  refine CallDo.p 3 9 g1 ?_
  simp [q1']
  refine CallDo.p 3 9 g2 ?_
  simp [q2]
  repeat refine and_o ?_
  apply hK1
  refine AW.cn (AW.sr fun K1 hK1=>?_)
  simp
  refine CallDo.p 3 9 g3 ?_
  simp [q3']
  refine CallDo.p 3 9 g4 ?_
  simp [q4]
  repeat refine and_o ?_
  apply hK1
  refine AW.cn (AW.skip (hK _ _ (AW.seqK fun K hK=>?_)))
  refine AW.drawP mixed (by kernel_rfl) rfl ?_
  simp
  refine CallDo.p 3 9 m1 ?_
  simp
  refine CallDo.p 3 9 m2 ?_
  simp
  refine CallDo.p 3 9 m3 ?_
  simp
  refine CallDo.p 3 9 m4 ?_
  simp [fill4]
  refine CallDo.frz4 (T:=30) 4 9 3 (w:=u1) (x:=u2) (y:=u3) (z:=u4) ?_ hh ?_ ?_ ?_ ?_
  ·simp [numD,nC_nD]
  ·simp
  ·simp
  ·decide
  simp
  refine⟨by kernel_rfl,?_⟩
  repeat refine and_o ?_
  apply hK
  exact AW.ret (FinC.iv (κ:=0) (t:=4) (k:=2) ⟨rfl,rfl⟩ (by simp) (by simp [setSeg]))
 ·have q3':¬ sgA (decide (b1.num<0)) (natO b1.num.natAbs)<0:=by
   have:=p3.2 (Rat.not_lt.1 h3)
   omega
  generalize sgA (decide (a1.num<0)) (natO a1.num.natAbs)=s1 at *
  generalize sgA (decide (a2.num<0)) (natO a2.num.natAbs)=s2 at *
  generalize sgA (decide (b1.num<0)) (natO b1.num.natAbs)=s3 at *
  refine CallsP.enc Go.Proofs.Tryz.func23 rfl (fun lv=>iv_dArg lv _ _ _ _ _ _) fun _=>AW.q ?_
  refine AW.seqK fun K hK=>AW.block (AW.sr fun K1 hK1=>?_)
  simp
  refine CallDo.p 3 9 g1 ?_
  simp [q1]
  repeat refine and_o ?_
  apply hK1
  refine AW.cn (AW.sr fun K1 hK1=>?_)
  simp
  refine CallDo.p 3 9 g1 ?_
  simp [q1']
  refine CallDo.p 3 9 g2 ?_
  simp [q2]
  repeat refine and_o ?_
  apply hK1
  refine AW.cn (AW.c1 3 g3 q3' ?_)
  refine AW.cn (AW.skip (hK _ _ (AW.seqK fun K hK=>?_)))
  refine AW.drawP mixed (by kernel_rfl) rfl ?_
  simp
  refine CallDo.p 3 9 m1 ?_
  simp
  refine CallDo.p 3 9 m2 ?_
  simp
  refine CallDo.p 3 9 m3 ?_
  simp
  refine CallDo.p 3 9 m4 ?_
  simp [fill4]
  refine CallDo.frz4 (T:=30) 4 9 3 (w:=u1) (x:=u2) (y:=u3) (z:=u4) ?_ hh ?_ ?_ ?_ ?_
  ·simp [numD,nC_nD]
  ·simp
  ·simp
  ·decide
  simp
  refine⟨by kernel_rfl,?_⟩
  repeat refine and_o ?_
  apply hK
  exact AW.ret (FinC.iv (κ:=0) (t:=4) (k:=2) ⟨rfl,rfl⟩ (by simp) (by simp [setSeg]))
theorem iv_Mul (G:List (List DV))(a b:Iv)(ha:a.sz 10000000)(hb:b.sz 10000000)(la:a.1≤a.2)(lb:b.1≤b.2) :
 CallsP Tryz.prog G 23 [ivV a,ivV b] (ivV (a.mul b)):=by
 have sn:∀ {a:Iv},a.sz 10000000→a.neg.sz 10000000:=fun h=>⟨szR_neg h.2,szR_neg h.1⟩
 have ln:∀ {a:Iv},a.1≤a.2→a.neg.1≤a.neg.2:=fun h=>Rat.neg_le_neg h
 have nn:∀ {a:Iv},a.2≤0→¬ a.neg.1<0:=fun {a} h h'=>by
  have:-a.2<0:=h'
  grind
 refine iv_mul_step G a b ha hb la lb (fun h1 h2=>?_) (fun h0 h1 h2=>?_)
 ·refine iv_mul_step G a.neg b (sn ha) hb (ln la) lb (fun h3 _=>absurd h3 (nn h2)) (fun _ h4 h5=>?_)
  exact iv_mul_step G a.neg b.neg (sn ha) (sn hb) (ln la) (ln lb) (fun h3 _=>absurd h3 (nn h2)) (fun _ h3 _=>absurd h3 (nn h5))
 ·exact iv_mul_step G a b.neg ha (sn hb) la (ln lb) (fun h3 h4=>absurd ⟨h3,h4⟩ h0) (fun _ h3 _=>absurd h3 (nn h2))
def quoI (a b:Iv):Iv:=if b.has 0 then (0,0) else a.quo b
theorem iv_Quo (G:List (List DV))(a b:Iv)(ha:a.sz 1000000)(hb:b.sz 1000000)(la:a.1≤a.2)(lb:b.1≤b.2) :
 CallsP Tryz.prog G 10 [ivV a,ivV b] (.tup [ivV (quoI a b),.c (.d (.int .i64 (if b.has 0 then 8 else 0)))]):=by
 have sz:∀ {x:Rat},szR x 1000000→szR x 10000000000:=fun h=>szR_mono h (by decide)
 have s1:szR (1:Rat) 1000000:=⟨by show nl 1≤_;rw [nl_one];decide,by show nl 1≤_;rw [nl_one];decide⟩
 have k0:=rat_Int G 0 (by decide) (by decide)
 change CallsP _ _ _ _ (ratV (0:Rat)) at k0
 have k1:=rat_Int G 1 (by decide) (by decide)
 change CallsP _ _ _ _ (ratV (1:Rat)) at k1
 have k2:=iv_Has G b 0 (Iv.sz_mono hb (by decide)) (szR_zero' _ (by decide))
 by_cases h0:b.has 0
 ·rw [if_pos h0,show quoI a b=(0,0) from if_pos h0]
  rw [decide_eq_true h0] at k2
  have bz:buildA Tryz.prog 32 [] []=some (ivV (0,0),[],[],True):=bIv0
  generalize hz:((0:Rat),(0:Rat))=z at *
  generalize (0:Rat)=o at *
  refine CallsP.enc Go.Proofs.Tryz.func10 rfl (fun lv=>iv_dArg2 lv _ _ _ _ _ _ _ rfl) fun _=>AW.q ?_
  refine AW.seqK fun K hK=>AW.seqK fun K1 hK1=>?_
  refine AW.drawP mixed (by kernel_rfl) rfl ?_
  simp
  refine CallDo.p 3 9 k0 ?_
  simp
  refine CallDo.p 3 9 k2 ?_
  simp
  refine⟨by kernel_rfl,?_⟩
  repeat refine and_o ?_
  apply hK1
  refine AW.cy (AW.f1 bz ?_)
  exact AW.ret (FinC.iv2 (κ:=0) (t:=4) (k:=2) (u:=5) ⟨rfl,rfl⟩ (by simp) (by simp [setSeg]) (by simp))
 ·rw [if_neg h0,show quoI a b=a.quo b from if_neg h0]
  rw [decide_eq_false h0] at k2
  have q1:=rat_quo G 1 b.2 (sz s1) (sz hb.2)
  have q2:=rat_quo G 1 b.1 (sz s1) (sz hb.1)
  have up:∀ {x:Rat},szR x 1000000→szR (1 / x) 10000000:=fun h=>szR_mono (szR_div s1 h) (by decide)
  have hle:(1:Rat) / b.2≤1 / b.1:=by
   have hs:0<b.1∨b.2<0:=by
    unfold Iv.has at h0
    grind
   rw [Rat.div_def,Rat.div_def,Rat.one_mul,Rat.one_mul]
   exact inv_anti lb (by rcases hs with h|h;exact .inl h;exact .inr h)
  have q3:=iv_Mul G a (1 / b.2,1 / b.1) (Iv.sz_mono ha (by decide)) ⟨up hb.2,up hb.1⟩ la hle
  change CallsP _ _ _ _ (ivV (a.quo b)) at q3
  generalize a.quo b=v at *
  generalize (1:Rat) / b.2=u1 at *
  generalize (1:Rat) / b.1=u2 at *
  generalize (0:Rat)=o at *
  generalize (1:Rat)=i at *
  refine CallsP.enc Go.Proofs.Tryz.func10 rfl (fun lv=>iv_dArg2 lv _ _ _ _ _ _ _ rfl) fun _=>AW.q ?_
  refine AW.seqK fun K hK=>AW.seqK fun K1 hK1=>?_
  refine AW.drawP mixed (by kernel_rfl) rfl ?_
  simp
  refine CallDo.p 3 9 k0 ?_
  simp
  refine CallDo.p 3 9 k2 ?_
  simp
  refine⟨by kernel_rfl,?_⟩
  repeat refine and_o ?_
  apply hK1
  refine AW.cn (AW.skip (hK _ _ (AW.c0 3 k1 ?_)))
  refine AW.seqK fun K hK=>?_
  refine AW.drawP mixed (by kernel_rfl) rfl ?_
  simp [setSeg]
  refine CallDo.p 4 9 q1 ?_
  simp [setSeg]
  refine CallDo.p 4 9 q2 ?_
  simp [setSeg,bIv]
  refine CallDo.p 4 9 q3 ?_
  simp
  refine⟨by kernel_rfl,?_⟩
  repeat refine and_o ?_
  apply hK
  exact AW.ret (FinC.iv2 (κ:=0) (t:=4) (k:=2) (u:=5) ⟨rfl,rfl⟩ (by simp) (by simp [setSeg]) (by simp))
def ofE (lo hi:List UInt8):Int:=if ratE lo≠0 then ratE lo else if ratE hi≠0 then ratE hi else if ratP lo≤ratP hi then 0 else 7
def ofI (lo hi:List UInt8):Iv:=if ofE lo hi=0 then (ratP lo,ratP hi) else (0,0)
theorem ofE_zero {lo hi:List UInt8}:ofE lo hi=0↔ratE lo=0∧ratE hi=0∧ratP lo≤ratP hi:=by
 unfold ofE;(repeat' split) <;> simp_all
theorem ofI_sz (lo hi:List UInt8):(ofI lo hi).sz 300:=by
 unfold ofI;split
 ·exact⟨ratP_sz lo,ratP_sz hi⟩
 ·exact⟨szR_zero _ (by decide),szR_zero _ (by decide)⟩
theorem ofI_le {lo hi:List UInt8}(h:ofE lo hi=0):(ofI lo hi).1≤(ofI lo hi).2:=by
 unfold ofI;rw [if_pos h];exact (ofE_zero.1 h).2.2
theorem szB {x:Rat}(h:szR x 300):szR x 10000000000:=szR_mono h (by decide)
theorem of_ok (m:Int)(lo hi:List UInt8):CallsP Tryz.prog (GG m) 6 [.agg [.d (.str lo),.d (.str hi)]] (.tup [ivV (ofI lo hi),.c (.d (.int .i64 (ofE lo hi)))]):=by
 have c1:=rat_Parse m lo
 have c2:=rat_Parse m hi
 have c3:=iv_From (GG m) (ratP lo) (ratP hi) (szB (ratP_sz lo)) (szB (ratP_sz hi))
 by_cases h1:ratE lo=0
 rotate_left
 ·have e:ofE lo hi=ratE lo:=if_pos h1
  have e2:ofI lo hi=(0,0):=by unfold ofI;rw [e,if_neg h1]
  rw [e2,e]
  generalize ratE lo=n at *
  generalize ratP lo=r at *
  refine CallsP.enc Go.Proofs.Tryz.func6 rfl (fun lv=>iv_dArg2 lv _ _ _ _ _ _ _ rfl) fun _=>AW.q ?_
  refine AW.c0 2 c1 ?_
  refine AW.seqK fun K hK=>AW.f1 h1 ?_
  refine AW.fy (by simp [h1] <;> omega) (AW.f1 @bIv0 ?_)
  exact AW.ret (FinC.iv2 (κ:=0) (t:=2) (k:=1) (u:=3) ⟨rfl,rfl⟩ (by simp) (by simp [setSeg]) (by simp))
 by_cases h2:ratE hi=0
 rotate_left
 ·have e:ofE lo hi=ratE hi:=by unfold ofE;rw [if_neg (not_not_intro h1),if_pos h2]
  have e2:ofI lo hi=(0,0):=by unfold ofI;rw [e,if_neg h2]
  rw [e2,e]
  rw [h1] at c1
  generalize ratE hi=n at *
  generalize ratP lo=r at *
  generalize ratP hi=r2 at *
  refine CallsP.enc Go.Proofs.Tryz.func6 rfl (fun lv=>iv_dArg2 lv _ _ _ _ _ _ _ rfl) fun _=>AW.q ?_
  refine AW.c0 2 c1 ?_
  refine AW.seqK fun K hK=>AW.q ?_
  refine AW.cn (AW.skip (hK _ _ (AW.c0 3 c2 ?_)))
  refine AW.seqK fun K hK=>AW.f1 h2 ?_
  refine AW.fy (by simp [h2] <;> omega) (AW.f1 @bIv0 ?_)
  exact AW.ret (FinC.iv2 (κ:=0) (t:=2) (k:=1) (u:=3) ⟨rfl,rfl⟩ (by simp) (by simp [setSeg]) (by simp))
 have e:ofE lo hi=if ratP lo≤ratP hi then 0 else 7:=by unfold ofE;rw [if_neg (not_not_intro h1),if_neg (not_not_intro h2)]
 have e2:ofI lo hi=fromI (ratP lo) (ratP hi):=by
  unfold ofI fromI;rw [e];split <;> simp_all
 rw [e2,e]
 rw [h1] at c1
 rw [h2] at c2
 generalize (if ratP lo≤ratP hi then (0:Int) else 7)=n at *
 generalize fromI (ratP lo) (ratP hi)=v at *
 generalize ratP lo=r at *
 generalize ratP hi=r2 at *
 refine CallsP.enc Go.Proofs.Tryz.func6 rfl (fun lv=>iv_dArg2 lv _ _ _ _ _ _ _ rfl) fun _=>AW.q ?_
 refine AW.c0 2 c1 ?_
 refine AW.seqK fun K hK=>AW.q ?_
 refine AW.cn (AW.skip (hK _ _ (AW.c0 3 c2 ?_)))
 refine AW.seqK fun K hK=>AW.seqK fun K1 hK1=>AW.rP ?_
 simp
 repeat refine and_o ?_
 apply hK1
 refine AW.cn (AW.skip ?_)
 simp
 repeat refine and_o ?_
 apply hK
 refine AW.c1 4 c3 @setSeg.eq_1 ?_
 exact AW.ret (FinC.iv2 (κ:=0) (t:=2) (k:=1) (u:=3) ⟨rfl,rfl⟩ (by simp) (by simp [setSeg]) (by simp))
abbrev rivV (a:Iv):AV:=.agg [.d (.int .i64 (rsg a.1)),rC (rtop a.1),rC (rbot a.1),.d (.int .i64 (rsg a.2)),rC (rtop a.2),rC (rbot a.2)]
def rD:Option (List Nat)→DV
 | none=>.nilsl
 | some l=>.sl (dK .i64 l)
theorem rC_rD (o:Option (List Nat)):rC o=.d (rD o):=by cases o <;> rfl
theorem bRI (b p q b' p' q':CV):buildA Tryz.prog 40 [0,1] [.agg [b,p,q],.agg [b',p',q']]=some (.agg [b,p,q,b',p',q'],[],[],True):=by kernel_rfl
theorem bRI0:buildA Tryz.prog 40 [] []=some (rivV (0,0),[],[],True):=by kernel_rfl
theorem loadRI (b p q b' p' q':CV):loadA Tryz.prog 40 [b,p,q,b',p',q']=some (.agg [b,p,q,b',p',q']):=by kernel_rfl
@[simp] theorem riv_dArg2 (lv:Key→LB)(s s':Int)(p q p' q':Option (List Nat))(n:DV)(hn:n.isScal=true):dRes lv (.tup [.agg [.d (.int .i64 s),rC p,rC q,.d (.int .i64 s'),rC p',rC q'],.c (.d n)])=some (.tup [.agg [.d (.int .i64 s),rC p,rC q,.d (.int .i64 s'),rC p',rC q'],.c (.d n)],[]):=by
 simp only [rC_rD];rfl
@[simp] theorem riv_pure (s s':Int)(p q p' q':Option (List Nat)):(AV.agg [.d (.int .i64 s),rC p,rC q,.d (.int .i64 s'),rC p',rC q']).pure=true:=by
 simp only [rC_rD];rfl
@[simp] theorem riv_pure2 (s s':Int)(p q p' q':Option (List Nat))(n:DV):(AV.tup [.agg [.d (.int .i64 s),rC p,rC q,.d (.int .i64 s'),rC p',rC q'],.c (.d n)]).pure=true:=by
 simp only [rC_rD];rfl
theorem FinC.riv2 {c:Ctx}{fn:Func}{t k u:Nat}{s:LSt}{κ:Nat}{a:Iv}{y:CV}(hr:c.P=Tryz.prog∧fn.results=#[.cell t 40,.tmp u]) (ht:s.fr t=.c (.ptr k 0))
 (hk:s.lv k=.cells true false 40 [.d (.int .i64 (rsg a.1)),rC (rtop a.1),rC (rbot a.1),.d (.int .i64 (rsg a.2)),rC (rtop a.2),rC (rbot a.2)]) (hy:s.fr u=.c y):FinC c fn (.tup [rivV a,.c y]) .ret s κ:=
 FinC.cell2 hr.2 ht hk (by rw [hr.1,List.drop_zero,loadRI]) hy rfl rfl
theorem szC {x:Rat}(h:szR x 300):szR x 20000:=szR_mono h (by decide)
theorem riv_From (G:List (List DV))(x y:Rat)(hx:szR x 20000)(hy:szR y 20000):CallsP Tryz.prog G 56 [refV x,refV y] (.tup [rivV (fromI x y),.c (.d (.int .i64 (if x≤y then 0 else 7)))]):=by
 have c1:=r_Cmp_ok G x y hx hy
 by_cases h:x≤y
 ·have h':¬ 0<cmpR x y:=by have:=cmpR_le.2 h;omega
  rw [if_pos h,show fromI x y=(x,y) from if_pos h]
  generalize cmpR x y=n at *
  refine CallsP.enc Go.Proofs.Tryz.func56 rfl (fun lv=>riv_dArg2 lv _ _ _ _ _ _ _ rfl) fun _=>AW.q ?_
  refine AW.seqK fun K hK=>AW.c1 3 c1 h' ?_
  refine AW.fn (by simp [h'] <;> omega) (AW.skip (hK _ _ (AW.f1 @bRI ?_)))
  exact AW.ret (FinC.riv2 (κ:=0) (t:=4) (k:=2) (u:=5) ⟨rfl,rfl⟩ (by simp) (by simp [setSeg]) (by simp))
 ·have h':0<cmpR x y:=cmpR_pos.2 (Rat.not_le.1 h)
  rw [if_neg h,show fromI x y=(0,0) from if_neg h]
  generalize cmpR x y=n at *
  refine CallsP.enc Go.Proofs.Tryz.func56 rfl (fun lv=>riv_dArg2 lv _ _ _ _ _ _ _ rfl) fun _=>AW.q ?_
  refine AW.seqK fun K hK=>AW.c1 3 c1 h' ?_
  refine AW.fy (by simp [h'] <;> omega) (AW.f1 bRI0 ?_)
  exact AW.ret (FinC.riv2 (κ:=0) (t:=4) (k:=2) (u:=5) ⟨rfl,rfl⟩ (by simp) (by simp [setSeg]) (by simp))
theorem rof_ok (G:List (List DV))(lo hi:List UInt8):CallsP Tryz.prog G 7 [.agg [.d (.str lo),.d (.str hi)]] (.tup [rivV (ofI lo hi),.c (.d (.int .i64 (ofE lo hi)))]):=by
 have c1:=r_Parse_ok G lo
 have c2:=r_Parse_ok G hi
 have c3:=riv_From G (ratP lo) (ratP hi) (szC (ratP_sz lo)) (szC (ratP_sz hi))
 by_cases h1:ratE lo=0
 rotate_left
 ·have e:ofE lo hi=ratE lo:=if_pos h1
  have e2:ofI lo hi=(0,0):=by unfold ofI;rw [e,if_neg h1]
  rw [e2,e]
  generalize ratE lo=n at *
  generalize ratP lo=r at *
  refine CallsP.enc Go.Proofs.Tryz.func7 rfl (fun lv=>riv_dArg2 lv _ _ _ _ _ _ _ rfl) fun _=>AW.q ?_
  refine AW.c0 2 c1 ?_
  refine AW.seqK fun K hK=>AW.f1 h1 ?_
  refine AW.fy (by simp [h1] <;> omega) (AW.f1 bRI0 ?_)
  exact AW.ret (FinC.riv2 (κ:=0) (t:=2) (k:=1) (u:=3) ⟨rfl,rfl⟩ (by simp) (by simp [setSeg]) (by simp))
 by_cases h2:ratE hi=0
 rotate_left
 ·have e:ofE lo hi=ratE hi:=by unfold ofE;rw [if_neg (not_not_intro h1),if_pos h2]
  have e2:ofI lo hi=(0,0):=by unfold ofI;rw [e,if_neg h2]
  rw [e2,e]
  rw [h1] at c1
  generalize ratE hi=n at *
  generalize ratP lo=r at *
  generalize ratP hi=r2 at *
  refine CallsP.enc Go.Proofs.Tryz.func7 rfl (fun lv=>riv_dArg2 lv _ _ _ _ _ _ _ rfl) fun _=>AW.q ?_
  refine AW.c0 2 c1 ?_
  refine AW.seqK fun K hK=>AW.q ?_
  refine AW.cn (AW.skip (hK _ _ (AW.c0 3 c2 ?_)))
  refine AW.seqK fun K hK=>AW.f1 h2 ?_
  refine AW.fy (by simp [h2] <;> omega) (AW.f1 bRI0 ?_)
  exact AW.ret (FinC.riv2 (κ:=0) (t:=2) (k:=1) (u:=3) ⟨rfl,rfl⟩ (by simp) (by simp [setSeg]) (by simp))
 have e:ofE lo hi=if ratP lo≤ratP hi then 0 else 7:=by unfold ofE;rw [if_neg (not_not_intro h1),if_neg (not_not_intro h2)]
 have e2:ofI lo hi=fromI (ratP lo) (ratP hi):=by
  unfold ofI fromI;rw [e];split <;> simp_all
 rw [e2,e]
 rw [h1] at c1
 rw [h2] at c2
 generalize (if ratP lo≤ratP hi then (0:Int) else 7)=n at *
 generalize fromI (ratP lo) (ratP hi)=v at *
 generalize ratP lo=r at *
 generalize ratP hi=r2 at *
 refine CallsP.enc Go.Proofs.Tryz.func7 rfl (fun lv=>riv_dArg2 lv _ _ _ _ _ _ _ rfl) fun _=>AW.q ?_
 refine AW.c0 2 c1 ?_
 refine AW.seqK fun K hK=>AW.q ?_
 refine AW.cn (AW.skip (hK _ _ (AW.c0 3 c2 ?_)))
 refine AW.seqK fun K hK=>AW.seqK fun K1 hK1=>AW.rP ?_
 simp
 repeat refine and_o ?_
 apply hK1
 refine AW.cn (AW.skip ?_)
 simp
 repeat refine and_o ?_
 apply hK
 refine AW.c1 4 c3 @setSeg.eq_1 ?_
 exact AW.ret (FinC.riv2 (κ:=0) (t:=2) (k:=1) (u:=3) ⟨rfl,rfl⟩ (by simp) (by simp [setSeg]) (by simp))
attribute [local irreducible] FinC
theorem two_nd (k:Int):(shiftR 1 k).num=((2 ^ (max k 0).toNat:Nat):Int)∧(shiftR 1 k).den=2 ^ (max (-k) 0).toNat:=by
 by_cases hk:k<0
 ·rw [shiftR_neg hk]
  obtain⟨n1,n2⟩:=mkRat_sg (decide ((1:Rat).num<0)) (a:=(1:Rat).num.natAbs) (b:=(1:Rat).den*2 ^ (-k).toNat) (by simp)
  rw [n1,n2]
  have e1:(1:Rat).num.natAbs=1:=rfl
  have e2:(1:Rat).den=1:=rfl
  have e3:(max k 0).toNat=0:=by omega
  have e4:(max (-k) 0).toNat=(-k).toNat:=by omega
  rw [e1,e2,e3,e4,Nat.gcd_one_left,Nat.one_mul]
  exact⟨rfl,Nat.div_one _⟩
 ·rw [shiftR_pos hk]
  obtain⟨n1,n2⟩:=mkRat_sg (decide ((1:Rat).num<0)) (a:=(1:Rat).num.natAbs*2 ^ k.toNat) (b:=(1:Rat).den) (by decide)
  rw [n1,n2]
  have e1:(1:Rat).num.natAbs=1:=rfl
  have e2:(1:Rat).den=1:=rfl
  have e3:(max k 0).toNat=k.toNat:=by omega
  have e4:(max (-k) 0).toNat=0:=by omega
  rw [e1,e2,e3,e4,Nat.gcd_one_right,Nat.one_mul,Nat.div_one]
  exact⟨rfl,rfl⟩
theorem cmpR_lt {x y:Rat}:cmpR x y<0↔x<y:=by
 unfold cmpR
 grind
theorem abs_lt_two (x:Rat)(k:Int):cmpR (absR x) (shiftR 1 k)<0↔x.num.natAbs*2 ^ (max (-k) 0).toNat<x.den*2 ^ (max k 0).toNat:=by
 rw [cmpR_lt,rat_lt]
 obtain⟨a1,a2⟩:=absR_nd x
 obtain⟨b1,b2⟩:=two_nd k
 rw [a1,a2,b1,b2]
 have e1:((x.num.natAbs:Nat):Int).natAbs=x.num.natAbs:=by omega
 have e2:(((2 ^ (max k 0).toNat:Nat)):Int).natAbs=2 ^ (max k 0).toNat:=Int.natAbs_natCast _
 have e3:decide (((x.num.natAbs:Nat):Int)<0)=false:=decide_eq_false (by omega)
 have e4:decide ((((2 ^ (max k 0).toNat:Nat)):Int)<0)=false:=decide_eq_false (Int.not_lt.2 (Int.natCast_nonneg _))
 rw [e1,e2,e3,e4,Nat.mul_comm (2 ^ (max k 0).toNat)]
 show ((x.num.natAbs*2 ^ (max (-k) 0).toNat:Nat):Int)<((x.den*2 ^ (max k 0).toNat:Nat):Int)↔_
 omega
theorem r_Log_ok (m:Int)(x:Rat)(hx0:x.num≠0)(hs:szR x 300):CallsP Tryz.prog (GG m) 143 [refV x] (.c (.d (.int .i64 (logR x)))):=by
 have h1:=hs.1
 have h2:=hs.2
 have s1:=sz9 h1
 have s2:=sz9 h2
 have ln1:=r_length_ok (GG m) x.num.natAbs (by omega)
 have ln2:=r_length_ok (GG m) x.den (by omega)
 rw [nK_rC,← rtop_ne hx0] at ln1
 rw [nK_rC,← rbot_ne hx0] at ln2
 have b1:=blen_hi (A:=x.num.natAbs) s1
 have b2:=blen_hi (A:=x.den) s2
 have ab:=r_Abs_ok (GG m) x
 obtain⟨k,hk⟩:∃ k:Int,(blen x.num.natAbs:Int) - blen x.den=k:=⟨_,rfl⟩
 have hkr:-20000≤k∧k≤20000:=by omega
 have tw:=r_Two_ok m k hkr.1 hkr.2
 have cm:=r_Cmp_ok (GG m) (absR x) (shiftR 1 k) (szR_abs (szR_mono hs (by decide))) (szR_mono (szR_shift (szR_one 1 (by decide)) k) (by omega))
 have hlt:=abs_lt_two x k
 have hlog:logR x=if x.num.natAbs*2 ^ (max (-k) 0).toNat<x.den*2 ^ (max k 0).toNat then k - 1 else k:=by unfold logR;rw [hk]
 have w1:=w64 (n:=k) (by omega) (by omega)
 have w2:=w64 (n:=k - 1) (by omega) (by omega)
 rw [← hk] at w1
 have sx:¬ rsg x=0:=fun h=>hx0 (rsg_zero.1 h)
 generalize blen x.num.natAbs=B1 at *
 generalize blen x.den=B2 at *
 generalize shiftR 1 k=T at *
 generalize x.num.natAbs*2 ^ (max (-k) 0).toNat=U at *
 generalize x.den*2 ^ (max k 0).toNat=W at *
 rw [hk] at w1
 refine CallsP.en Go.Proofs.Tryz.func143 rfl fun _=>AW.q ?_
 refine AW.seqK fun K hK=>AW.q ?_
 refine AW.fn (by simp_all) (AW.skip (hK _ _ (AW.seqK fun K hK=>?_)))
 refine AW.drawP mixed (by kernel_rfl) rfl ?_
 simp
 refine CallDo.p 2 9 ln1 ?_
 simp
 refine CallDo.p 2 9 ln2 ?_
 simp
 simp [hk,w1]
 refine⟨by kernel_rfl,?_⟩
 apply hK
 refine AW.seqK fun K hK=>AW.seqK fun K1 hK1=>?_
 by_cases hc:U<W
 ·have hc2:=hlt.2 hc
  rw [if_pos hc] at hlog
  refine AW.rP ?_
  simp
  refine CallDo.p 2 9 ab ?_
  simp
  refine CallDo.p 2 9 tw ?_
  simp
  refine CallDo.p 2 9 cm ?_
  simp [hc2]
  apply hK1
  refine AW.cy (AW.l1 w2 (hK _ _ ?_))
  refine AW.q ?_
  exact AW.r0 (FinP.rt (t:=2) rfl 9 (by simp [hlog]))
 ·have hc2:¬ cmpR (absR x) T<0:=fun h=>hc (hlt.1 h)
  rw [if_neg hc] at hlog
  refine AW.rP ?_
  simp
  refine CallDo.p 2 9 ab ?_
  simp
  refine CallDo.p 2 9 tw ?_
  simp
  refine CallDo.p 2 9 cm ?_
  simp [hc2]
  apply hK1
  refine AW.cn (AW.skip (hK _ _ (AW.q ?_)))
  exact AW.r0 (FinP.rt (t:=2) rfl 9 (by simp [hlog]))
end Go.Am
namespace Go.Am
open Go.Am.Ty Go.Proofs N
theorem exact_root_ok (G:List (List DV))(A:Nat)(hA:A≠0)(hl:nl A≤100000):CallsP Tryz.prog G 188 [nK .u32 (natO A)] (nK .u32 (some (dig 4294967296 (isq A)))):=by
 have hn:natO A=some (dig 4294967296 A):=if_neg hA
 rw [hn]
 have ho:=exact_of_ok G 1 (by decide)
 have hb:=exact_bits_ok G (some (dig 4294967296 A)) (can_dig _) (by show nl _≤_;omega)
 rw [dO_some,val_dig] at hb
 have hbl:=blen_nl hA
 have hst:=isq_start (A:=A) (b:=blen A) (blen_lt A)
 have hsp:=isq_pos hA
 generalize blen A=b at *
 have e1:IntKind.i64.wrap ((b:Int)+1)=((b+1:Nat):Int):=by rw [w64 (by omega) (by omega)];omega
 have e2:((b+1:Nat):Int).tdiv 2=(((b+1) / 2:Nat):Int):=td_nat _ 2
 have n0:=nl_two ((b+1) / 2)
 have hp0:0<2 ^ ((b+1) / 2):=Nat.two_pow_pos _
 obtain⟨k,hk⟩:∃ k,(b+1) / 2=k:=⟨_,rfl⟩
 rw [hk] at e2 n0 hst hp0
 have w1:=w64 (n:=(k:Int)) (by omega) (by omega)
 have hs:=exact_shl_ok G (some (dig 4294967296 1)) k (by show nl 1≤_;rw [nl_one];decide) (by omega)
 rw [dO_some,if_neg (dig_ne (by decide)),val_dig,Nat.one_mul] at hs
 generalize 2 ^ k=x0 at *
 simp only [nK_nC] at ho hb hs ⊢
 refine CallsP.en Go.Proofs.Tryz.func188 rfl fun _=>AW.q ?_
 refine AW.sr fun K hK=>?_
 simp
 refine CallDo.p 0 9 ho ?_
 simp
 refine CallDo.p 0 9 hb ?_
 simp [e1,e2,w1,-Int.natCast_add,-Int.natCast_ediv]
 refine CallDo.p 0 9 hs ?_
 simp
 repeat refine and_o ?_
 apply hK
 refine AW.block ?_
 refine AW.loopV (fun (x:Nat)=>⟨frOf [(0,.c (nC (some (dig 4294967296 A)))),(3,.c (nC (some (dig 4294967296 x))))],fun _=>.hole⟩) 0
  (fun x=>0<x∧isq A≤x∧nl x≤200000) (fun x=>x) x0 (Le.mk2 _) ⟨hp0,hst,by omega⟩ ?_
 rintro x ⟨i1,i2,i3⟩
 have hd:=exact_div_ok G (some (dig 4294967296 A)) (some (dig 4294967296 x)) (can_dig _) (can_dig _) (dig_ne (by omega)) (by show nl _<_;omega)
 have hdt:=tup2_pure (divQ (some (dig 4294967296 A)) (some (dig 4294967296 x))) (divR (some (dig 4294967296 A)) (some (dig 4294967296 x)))
 have hq:dO (divQ (some (dig 4294967296 A)) (some (dig 4294967296 x)))=(dig 4294967296 (A / x)):=by rw [divQ_d,dO_some,dO_some,val_dig,val_dig]
 generalize divQ (some (dig 4294967296 A)) (some (dig 4294967296 x))=q at *
 generalize divR (some (dig 4294967296 A)) (some (dig 4294967296 x))=r at *
 have hdl:=nl_mono (Nat.div_le_self A x)
 have ha:=exact_add_ok G (some (dig 4294967296 x)) q (by show nl _≤_;omega) (by rw [hq];show nl _≤_;omega)
 rw [hq,dO_some,val_dig,val_dig] at ha
 have hal:=nl_add x (A / x)
 have hpos:x+A / x≠0:=Nat.ne_of_gt (Nat.add_pos_left i1 _)
 have hsr:=exact_shr_ok G (some (dig 4294967296 (x+A / x))) 1 (by show nl _≤_;omega) (by decide)
 rw [dO_some,if_neg (by have:=List.length_pos_iff.2 (dig_ne hpos);omega),val_dig,Nat.pow_one] at hsr
 have hge:=newt_ge (A:=A) i1
 have hstop:=newt_stop (A:=A) i1 i2
 have hyl:=nl_mono (Nat.div_le_self (x+A / x) 2)
 generalize x+A / x=z at *
 obtain⟨y,hy⟩:∃ y,z / 2=y:=⟨_,rfl⟩
 rw [hy] at hsr hge hyl hstop
 have hc:=exact_cmp_ok (G:=G) (a:=some (dig 4294967296 y)) (b:=some (dig 4294967296 x)) (can_dig _) (can_dig _)
 simp only [dO_some,val_dig] at hc
 have hcy:0≤cmpN y x↔x≤y:=by unfold cmpN;omega
 generalize cmpN y x=n at *
 simp only [nK_nC] at hd hdt ha hsr hc
 refine AW.block (AW.sr fun K1 hK1=>?_)
 simp
 refine CallDo.pure 0 9 hd hdt (by simp) (by simp) ?_
 simp
 repeat refine and_o ?_
 apply hK1
 refine AW.sr fun K1 hK1=>?_
 simp
 refine CallDo.p 0 9 ha ?_
 simp
 refine CallDo.p 0 9 hsr ?_
 simp
 repeat refine and_o ?_
 apply hK1
 refine AW.seqK fun K1 hK1=>AW.c0 0 hc ?_
 by_cases hxy:x≤y
 ·have h0:=hcy.2 hxy
  have e:=hstop hxy
  refine AW.fy (by simp [h0] <;> omega) (AW.q ?_)
  exact AW.r0 (FinP.rt (t:=2) rfl 9 (by simp [e]))
 ·have h0:¬ 0≤n:=fun h=>hxy (hcy.1 h)
  refine AW.fn (by simp [h0] <;> omega) (AW.skip (hK1 _ _ (AW.rP ?_)))
  simp
  exact⟨y,Le.mk2 _,⟨by omega,hge,by have:=nl_mono (show y≤x by omega);omega⟩,by omega⟩
def rtU (t:Rat)(up:Bool):Nat:=if up=true∧isq (t.num.natAbs / t.den)*isq (t.num.natAbs / t.den)*t.den<t.num.natAbs then isq (t.num.natAbs / t.den)+1 else isq (t.num.natAbs / t.den)
def rootK (x:Rat)(bits:Int):Int:=(logR x).fdiv 2 - rngI bits+1
def rootR (x:Rat)(bits:Int)(up:Bool):Rat:=if x=0 then x else shiftR (((rtU (shiftR x (-2*rootK x bits)) up:Nat):Int):Rat) (rootK x bits)
theorem log_le {x:Rat}(hx:x≠0):x.den*2 ^ (max (logR x) 0).toNat≤x.num.natAbs*2 ^ (max (-logR x) 0).toNat:=by
 have h0:x.num.natAbs≠0:=by intro e;exact hx (Rat.num_eq_zero.1 (by omega))
 unfold logR
 simp only
 obtain⟨k,hk⟩:∃ k:Int,(blen x.num.natAbs:Int) - blen x.den=k:=⟨_,rfl⟩
 rw [hk]
 split
 ·have h1:=blen_le h0
  have h2:=blen_lt x.den
  have h3:1≤blen x.num.natAbs:=by unfold blen;rw [if_neg h0];omega
  generalize x.num.natAbs=p at *
  generalize x.den=q at *
  generalize blen p=bp at *
  generalize blen q=bq at *
  have key:q*2 ^ (max (k - 1) 0).toNat≤2 ^ (bq+(max (k - 1) 0).toNat):=by
   rw [Nat.pow_add];exact Nat.mul_le_mul_right _ (Nat.le_of_lt h2)
  have key2:2 ^ (bp - 1+(max (-(k - 1)) 0).toNat)≤p*2 ^ (max (-(k - 1)) 0).toNat:=by
   rw [Nat.pow_add];exact Nat.mul_le_mul_right _ h1
  have e:bq+(max (k - 1) 0).toNat=bp - 1+(max (-(k - 1)) 0).toNat:=by omega
  rw [e] at key
  exact Nat.le_trans key key2
 ·omega
theorem two_ge (j:Int)(hj:0≤j):(1:Rat)≤2 ^ j:=by
 have h:shiftR 1 j=2 ^ j:=by rw [shift_pow,Rat.one_mul]
 rw [← h]
 obtain⟨t1,t2⟩:=two_nd j
 rw [Rat.le_iff,t1,t2,show (max (-j) 0).toNat=0 by omega]
 have:=Nat.two_pow_pos (max j 0).toNat
 show (1:Int)*_≤_*1
 omega
theorem pos_num {x:Rat}(hx:0<x):0<x.num:=by
 have h:¬ x≤0:=Rat.not_le.2 hx
 have h2:x.num≤0→x≤0:=fun h=>by rw [Rat.le_iff];simpa using h
 by_cases e:x.num≤0
 ·exact absurd (h2 e) h
 ·omega
theorem le_pow_log {x:Rat}(hx:0<x):shiftR 1 (logR x)≤x:=by
 have hn:=pos_num hx
 have h:=log_le (x:=x) (by intro e;rw [e] at hn;exact absurd hn (by decide))
 obtain⟨t1,t2⟩:=two_nd (logR x)
 rw [Rat.le_iff,t1,t2]
 have e:x.num=((x.num.natAbs:Nat):Int):=by omega
 rw [e]
 generalize x.num.natAbs=p at *
 generalize 2 ^ (max (logR x) 0).toNat=u at *
 generalize 2 ^ (max (-logR x) 0).toNat=v at *
 rw [Nat.mul_comm] at h
 exact_mod_cast h
theorem root_ne {x:Rat}(hx:0<x) (bits:Int):(shiftR x (-2*rootK x bits)).num.natAbs / (shiftR x (-2*rootK x bits)).den≠0:=by
 have k1:2*rootK x bits≤logR x:=by
  unfold rootK;have:=rngI_r bits;rw [Int.fdiv_eq_ediv_of_nonneg _ (by decide)];omega
 have h1:=le_pow_log hx
 rw [shift_pow,Rat.one_mul] at h1
 have h2:(1:Rat)≤shiftR x (-2*rootK x bits):=by
  rw [shift_pow]
  have h3:(2:Rat) ^ logR x*2 ^ (-2*rootK x bits)≤x*2 ^ (-2*rootK x bits):=Rat.mul_le_mul_of_nonneg_right h1 (Rat.le_of_lt (two_pos _))
  rw [← Rat.zpow_add (by decide)] at h3
  exact Rat.le_trans (two_ge _ (by omega)) h3
 generalize shiftR x (-2*rootK x bits)=t at *
 rw [Rat.le_iff] at h2
 have h4:t.den≤t.num.natAbs:=by
  have:(1:Int)*t.den≤t.num*1:=h2
  omega
 have:=Nat.div_pos h4 t.den_pos
 omega
theorem rt_strict {t:Rat}(h:t.den≠1):isq (t.num.natAbs / t.den)*isq (t.num.natAbs / t.den)*t.den<t.num.natAbs:=by
 have h1:=Nat.mul_le_mul_right t.den (isq_sq (t.num.natAbs / t.den))
 have h2:=Nat.div_mul_le_self t.num.natAbs t.den
 have h3:t.num.natAbs / t.den*t.den≠t.num.natAbs:=by
  intro e
  have hd:t.den ∣ t.num.natAbs:=⟨_,by rw [Nat.mul_comm];exact e.symm⟩
  have hc:=t.reduced
  have:=Nat.Coprime.eq_one_of_dvd hc.symm hd
  exact h this
 omega
theorem rt_sz {t:Rat}{L:Nat}(h:szR t L) (up:Bool):nl (rtU t up)≤L+1:=by
 have h1:=isq_le (t.num.natAbs / t.den)
 have h2:=Nat.div_le_self t.num.natAbs t.den
 have h3:=nl_mono (Nat.le_trans h1 h2)
 have h4:=h.1
 have h5:=nl_add (isq (t.num.natAbs / t.den)) 1
 have h6:=h.2
 have h7:=nl_pos t.den_nz
 rw [nl_one] at h5
 unfold rtU;split <;> omega
theorem rootK_rng {x:Rat}(hx:x≠0) (h:szR x 300) (bits:Int):-9000≤rootK x bits∧rootK x bits≤4800:=by
 have:=logR_rng hx h
 have:=rngI_r bits
 unfold rootK;rw [Int.fdiv_eq_ediv_of_nonneg _ (by decide)];omega
theorem root_sz {x:Rat}(h:szR x 300) (bits:Int) (up:Bool):szR (rootR x bits up) 1300:=by
 unfold rootR
 split
 ·exact szR_mono h (by decide)
 ·rename_i h0
  have hk:=rootK_rng h0 h bits
  have h1:=szR_shift h (-2*rootK x bits)
  have h2:=rt_sz h1 up
  refine szR_mono (szR_shift (L:=300+(-2*rootK x bits).natAbs / 32+1+1) (szR_int _ _ (by simpa using h2) (by omega)) _) (by omega)
theorem ivN (n:Nat):ratV ((n:Int):Rat)=.agg [.d (.bool false),nC (natO n),nC none]:=by
 have h1:¬ ((n:Int):Rat).num<0:=by rw [Rat.num_intCast];omega
 have h2:((n:Int):Rat).num.natAbs=n:=by rw [Rat.num_intCast];rfl
 have h3:((n:Int):Rat).den=1:=Rat.den_intCast _
 show AV.agg [_,_,_]=_
 rw [h2,h3,decide_eq_false h1]
 rfl
theorem rat_rooted_neg (G:List (List DV))(x:Rat)(bits:Int)(up:Bool)(h0:x<0):CallsP Tryz.prog G 128 [ratV x,.c (.d (.int .i64 bits)),.c (.d (.bool up))] (.tup [ratV 0,.c (.d (.int .i64 9))]):=by
 have hg:=num_Sign_ok G (decide (x.num<0)) (natO x.num.natAbs) (denO x.den)
 have hn:x.num<0:=by
  have:¬ 0≤x:=Rat.not_le.2 h0
  rw [← Rat.num_nonneg] at this;omega
 have hs:sgA (decide (x.num<0)) (natO x.num.natAbs) = -1:=by
  unfold sgA;rw [natO_d,if_neg (dig_ne (by omega)),decide_eq_true hn];rfl
 rw [hs] at hg
 have bz:buildA Tryz.prog 30 [] []=some (ratV 0,[],[],True):=bNum0
 refine CallsP.enc Go.Proofs.Tryz.func128 rfl (fun lv=>dRes_num lv _ _ _ _) fun _=>AW.q ?_
 refine AW.seqK fun K hK=>AW.c0 2 hg ?_
 refine AW.block (AW.q ?_)
 refine AW.cy (AW.f1 bz ?_)
 exact AW.ret (FinC.num2 (κ:=0) (t:=6) (k:=1) (u:=7) ⟨rfl,rfl⟩ (by simp) (by simp [setSeg]) (by simp))
theorem rat_rooted (G:List (List DV))(x:Rat)(bits:Int)(up:Bool)(h0:0≤x)(hx:szR x 300):CallsP Tryz.prog G 128 [ratV x,.c (.d (.int .i64 bits)),.c (.d (.bool up))] (.tup [ratV (rootR x bits up),.c (.d (.int .i64 0))]):=by
 have hg:=num_Sign_ok G (decide (x.num<0)) (natO x.num.natAbs) (denO x.den)
 by_cases hz:x=0
 ·have e:rootR x bits up=x:=if_pos hz
  rw [sgA_zero hz] at hg
  rw [e]
  refine CallsP.enc Go.Proofs.Tryz.func128 rfl (fun lv=>dRes_num lv _ _ _ _) fun _=>AW.q ?_
  refine AW.seqK fun K hK=>AW.c0 2 hg ?_
  refine AW.block (AW.q ?_)
  refine AW.cn (AW.q ?_)
  refine AW.cy (AW.q ?_)
  exact AW.ret (FinC.num2 (κ:=0) (t:=6) (k:=1) (u:=7) ⟨rfl,rfl⟩ (by simp) (by simp [setSeg]) (by simp))
 have hp:0<x:=Rat.lt_of_le_of_ne h0 (Ne.symm hz)
 have hn:=pos_num hp
 have hs:sgA (decide (x.num<0)) (natO x.num.natAbs)=1:=by
  unfold sgA;rw [natO_d,if_neg (dig_ne (by omega)),decide_eq_false (by omega)];rfl
 rw [hs] at hg
 have hl:=rat_log G x hz (szR_mono hx (by omega))
 have hlr:=logR_rng hz hx
 have hi:=inRange_ok G bits
 obtain⟨b1,b2⟩:=rngI_r bits
 have hkr:=rootK_rng hz hx bits
 have e:rootR x bits up=shiftR (((rtU (shiftR x (-2*rootK x bits)) up:Nat):Int):Rat) (rootK x bits):=if_neg hz
 have hne:=root_ne hp bits
 have hsz:=szR_shift hx (-2*rootK x bits)
 have hmz:=rt_sz hsz up
 have hkd:(logR x).fdiv 2 - rngI bits+1=rootK x bits:=rfl
 rw [e]
 clear e
 have s1:=rat_shifted G x (-2*rootK x bits) (szR_mono hx (by omega)) (by omega) (by omega)
 obtain⟨l,hL⟩:∃ l,logR x=l:=⟨_,rfl⟩
 rw [hL] at hl hkd hlr
 obtain⟨f,hf,f1,f2⟩:∃ f,l.fdiv 2=f∧-16000≤f∧f≤16000:=⟨_,rfl,by rw [Int.fdiv_eq_ediv_of_nonneg _ (by decide)];omega,by rw [Int.fdiv_eq_ediv_of_nonneg _ (by decide)];omega⟩
 have hf2:l.fdiv (2 ^ min 1 IntKind.i64.bits)=f:=hf
 rw [hf] at hkd
 have htn:¬ (shiftR x (-2*rootK x bits)).num<0:=by rw [shift_neg];omega
 have hstr:=fun h=>rt_strict (t:=shiftR x (-2*rootK x bits)) h
 generalize rootK x bits=k at *
 generalize rngI bits=b at *
 have w1:IntKind.i64.wrap (f - b)=f - b:=w64 (by omega) (by omega)
 have w2:IntKind.i64.wrap k=k:=w64 (by omega) (by omega)
 have w3:IntKind.i64.wrap (-2*k) = -2*k:=w64 (by omega) (by omega)
 obtain⟨k2,hk2⟩:∃ k2,-2*k=k2:=⟨_,rfl⟩
 rw [hk2] at s1 hne hsz hmz htn hstr w3 ⊢
 generalize shiftR x k2=t at *
 have htz:=hsz.1
 have htd:=hsz.2
 have hw:=rat_whole G t false (szR_mono hsz (by omega))
 obtain⟨n,hn0⟩:∃ n,t.num.natAbs / t.den=n:=⟨_,rfl⟩
 have hnl:nl n≤20000:=by
  have:=nl_mono (Nat.div_le_self t.num.natAbs t.den);rw [hn0] at this;omega
 have ew:wholeR t false=((n:Int):Rat):=by
  unfold wholeR;rw [hn0,decide_eq_false htn];simp [sgI]
 rw [ew,ivN] at hw
 rw [hn0] at hne hstr
 have hr:=exact_root_ok G n hne (by omega)
 have him:=rat_IsInt G t
 obtain⟨q,hq⟩:∃ q,isq n=q:=⟨_,rfl⟩
 have hql:nl q≤20000:=by have:=nl_mono (isq_le n);rw [hq] at this;omega
 have hM:rtU t up=if up=true∧q*q*t.den<t.num.natAbs then q+1 else q:=by unfold rtU;rw [hn0,hq]
 rw [hq] at hr hstr
 have hmul:=exact_mul_ok G (some (dig 4294967296 q)) (some (dig 4294967296 q)) (by show nl _≤_;omega) (by show nl _≤_;omega)
 rw [dO_some,val_dig] at hmul
 have hcm:=exact_cmp_ok (G:=G) (a:=some (dig 4294967296 (q*q))) (b:=natO n) (can_dig _) (natO_can n)
 rw [dO_some,val_dig,natO_v] at hcm
 have hcn:cmpN (q*q) n<0↔q*q<n:=cmpN_neg
 have ho:=exact_of_ok G 1 (by decide)
 have hadd:=exact_add_ok G (some (dig 4294967296 q)) (some (dig 4294967296 1)) (by show nl _≤_;omega) (by show nl 1≤_;rw [nl_one];decide)
 rw [dO_some,dO_some,val_dig,val_dig] at hadd
 have hq1:=nl_add q 1
 rw [nl_one] at hq1
 have mk:=fun (M:Nat) (h:nl M≤20001)=>rat_made' G false M 1 (by decide) (by omega) (by rw [nl_one];decide)
 have mk0:=mk q (by omega)
 have mk1:=mk (q+1) (by omega)
 rw [mkRat_int] at mk0 mk1
 have g0:((sgI false q:Int):Rat)=(((q:Nat):Int):Rat):=rfl
 have g1:((sgI false (q+1):Int):Rat)=(((q+1:Nat):Int):Rat):=rfl
 rw [g0] at mk0
 rw [g1] at mk1
 have s20:=rat_shifted G (((q:Nat):Int):Rat) k (szR_int _ 10000000000 (by show nl q≤_;omega) (by decide)) (by omega) (by omega)
 have s21:=rat_shifted G (((q+1:Nat):Int):Rat) k (szR_int _ 10000000000 (by show nl (q+1)≤_;omega) (by decide)) (by omega) (by omega)
 simp only [nK_nC] at hr hmul hcm ho hadd mk0 mk1
 by_cases hup:up=true
 rotate_left
 ·have e:rtU t up=q:=by rw [hM,if_neg (fun h=>hup h.1)]
  rw [e]
  have hup':up=false:=by simpa using hup
  subst hup'
  generalize shiftR (((q:Nat):Int):Rat) k=z at *
  generalize (((q:Nat):Int):Rat)=y at *
  refine CallsP.enc Go.Proofs.Tryz.func128 rfl (fun lv=>dRes_num lv _ _ _ _) fun _=>AW.q ?_
  refine AW.seqK fun K hK=>AW.c0 2 hg ?_
  refine AW.block (AW.q ?_)
  refine AW.cn (AW.q ?_)
  refine AW.cn (AW.skip (hK _ _ (AW.seqK fun K hK=>AW.rP ?_)))
  simp
  refine CallDo.p 2 9 hl ?_
  simp
  refine CallDo.p 2 9 hi ?_
  simp [hf2,w1,hkd,w2]
  repeat refine and_o ?_
  apply hK
  refine AW.seqK fun K hK=>AW.m2 2 s1 w3 hk2 (hK _ _ ?_)
  refine AW.seqK fun K hK=>AW.m1 3 hw @setSeg.eq_1 (hK _ _ ?_)
  refine AW.seqK fun K hK=>AW.m0 3 hr (hK _ _ ?_)
  refine AW.seqK fun K hK=>AW.q ?_
  refine AW.cn (AW.skip (hK _ _ (AW.seqK fun K hK=>AW.rP ?_)))
  simp
  refine CallDo.p 3 9 ho ?_
  simp
  refine CallDo.p 3 9 mk0 ?_
  simp
  refine CallDo.p 3 9 s20 ?_
  simp [setSeg]
  repeat refine and_o ?_
  apply hK
  exact AW.ret (FinC.num2 (κ:=0) (t:=6) (k:=1) (u:=7) ⟨rfl,rfl⟩ (by simp) (by simp [setSeg]) (by simp))
 subst hup
 by_cases hd1:t.den=1
 ·have hn1:t.num.natAbs=n:=by rw [← hn0,hd1,Nat.div_one]
  rw [hd1,Nat.mul_one,hn1] at hM
  rw [decide_eq_true hd1] at him
  by_cases hqn:q*q<n
  ·have hc1:=hcn.2 hqn
   have e:rtU t true=q+1:=by rw [hM,if_pos ⟨rfl,hqn⟩]
   rw [e]
   generalize cmpN (q*q) n=cc at *
   generalize shiftR (((q+1:Nat):Int):Rat) k=z at *
   generalize (((q+1:Nat):Int):Rat)=y at *
   refine CallsP.enc Go.Proofs.Tryz.func128 rfl (fun lv=>dRes_num lv _ _ _ _) fun _=>AW.q ?_
   refine AW.seqK fun K hK=>AW.c0 2 hg ?_
   refine AW.block (AW.q ?_)
   refine AW.cn (AW.q ?_)
   refine AW.cn (AW.skip (hK _ _ (AW.seqK fun K hK=>AW.rP ?_)))
   simp
   refine CallDo.p 2 9 hl ?_
   simp
   refine CallDo.p 2 9 hi ?_
   simp [hf2,w1,hkd,w2]
   repeat refine and_o ?_
   apply hK
   refine AW.seqK fun K hK=>AW.m2 2 s1 w3 hk2 (hK _ _ ?_)
   refine AW.seqK fun K hK=>AW.m1 3 hw @setSeg.eq_1 (hK _ _ ?_)
   refine AW.seqK fun K hK=>AW.m0 3 hr (hK _ _ ?_)
   refine AW.seqK fun K hK=>AW.sr fun K1 hK1=>?_
   simp [setSeg]
   refine CallDo.p 3 9 him ?_
   simp [setSeg]
   refine CallDo.p 3 9 hmul ?_
   simp
   refine CallDo.p 3 9 hcm ?_
   simp [hc1]
   repeat refine and_o ?_
   apply hK1
   refine AW.cy (AW.rP ?_)
   simp
   refine CallDo.p 3 9 ho ?_
   simp
   refine CallDo.p 3 9 hadd ?_
   simp
   repeat refine and_o ?_
   apply hK
   refine AW.seqK fun K hK=>AW.rP ?_
   simp
   refine CallDo.p 3 9 ho ?_
   simp
   refine CallDo.p 3 9 mk1 ?_
   simp
   refine CallDo.p 3 9 s21 ?_
   simp [setSeg]
   repeat refine and_o ?_
   apply hK
   exact AW.ret (FinC.num2 (κ:=0) (t:=6) (k:=1) (u:=7) ⟨rfl,rfl⟩ (by simp) (by simp [setSeg]) (by simp))
  ·have hc1:¬ cmpN (q*q) n<0:=fun h=>hqn (hcn.1 h)
   have e:rtU t true=q:=by rw [hM,if_neg (fun h=>hqn h.2)]
   rw [e]
   generalize cmpN (q*q) n=cc at *
   generalize shiftR (((q:Nat):Int):Rat) k=z at *
   generalize (((q:Nat):Int):Rat)=y at *
   refine CallsP.enc Go.Proofs.Tryz.func128 rfl (fun lv=>dRes_num lv _ _ _ _) fun _=>AW.q ?_
   refine AW.seqK fun K hK=>AW.c0 2 hg ?_
   refine AW.block (AW.q ?_)
   refine AW.cn (AW.q ?_)
   refine AW.cn (AW.skip (hK _ _ (AW.seqK fun K hK=>AW.rP ?_)))
   simp
   refine CallDo.p 2 9 hl ?_
   simp
   refine CallDo.p 2 9 hi ?_
   simp [hf2,w1,hkd,w2]
   repeat refine and_o ?_
   apply hK
   refine AW.seqK fun K hK=>AW.m2 2 s1 w3 hk2 (hK _ _ ?_)
   refine AW.seqK fun K hK=>AW.m1 3 hw @setSeg.eq_1 (hK _ _ ?_)
   refine AW.seqK fun K hK=>AW.m0 3 hr (hK _ _ ?_)
   refine AW.seqK fun K hK=>AW.sr fun K1 hK1=>?_
   simp [setSeg]
   refine CallDo.p 3 9 him ?_
   simp [setSeg]
   refine CallDo.p 3 9 hmul ?_
   simp
   refine CallDo.p 3 9 hcm ?_
   simp [hc1]
   repeat refine and_o ?_
   apply hK1
   refine AW.cn (AW.skip (hK _ _ (AW.seqK fun K hK=>AW.rP ?_)))
   simp
   refine CallDo.p 3 9 ho ?_
   simp
   refine CallDo.p 3 9 mk0 ?_
   simp
   refine CallDo.p 3 9 s20 ?_
   simp [setSeg]
   repeat refine and_o ?_
   apply hK
   exact AW.ret (FinC.num2 (κ:=0) (t:=6) (k:=1) (u:=7) ⟨rfl,rfl⟩ (by simp) (by simp [setSeg]) (by simp))
 ·have e:rtU t true=q+1:=by rw [hM,if_pos ⟨rfl,hstr hd1⟩]
  rw [e]
  rw [decide_eq_false hd1] at him
  generalize shiftR (((q+1:Nat):Int):Rat) k=z at *
  generalize (((q+1:Nat):Int):Rat)=y at *
  refine CallsP.enc Go.Proofs.Tryz.func128 rfl (fun lv=>dRes_num lv _ _ _ _) fun _=>AW.q ?_
  refine AW.seqK fun K hK=>AW.c0 2 hg ?_
  refine AW.block (AW.q ?_)
  refine AW.cn (AW.q ?_)
  refine AW.cn (AW.skip (hK _ _ (AW.seqK fun K hK=>AW.rP ?_)))
  simp
  refine CallDo.p 2 9 hl ?_
  simp
  refine CallDo.p 2 9 hi ?_
  simp [hf2,w1,hkd,w2]
  repeat refine and_o ?_
  apply hK
  refine AW.seqK fun K hK=>AW.m2 2 s1 w3 hk2 (hK _ _ ?_)
  refine AW.seqK fun K hK=>AW.m1 3 hw @setSeg.eq_1 (hK _ _ ?_)
  refine AW.seqK fun K hK=>AW.m0 3 hr (hK _ _ ?_)
  refine AW.seqK fun K hK=>AW.c1 3 him @setSeg.eq_1 ?_
  refine AW.cy (AW.rP ?_)
  simp
  refine CallDo.p 3 9 ho ?_
  simp
  refine CallDo.p 3 9 hadd ?_
  simp
  repeat refine and_o ?_
  apply hK
  refine AW.seqK fun K hK=>AW.rP ?_
  simp
  refine CallDo.p 3 9 ho ?_
  simp
  refine CallDo.p 3 9 mk1 ?_
  simp
  refine CallDo.p 3 9 s21 ?_
  simp [setSeg]
  repeat refine and_o ?_
  apply hK
  exact AW.ret (FinC.num2 (κ:=0) (t:=6) (k:=1) (u:=7) ⟨rfl,rfl⟩ (by simp) (by simp [setSeg]) (by simp))
def rtV (x:Rat)(bits:Int)(up:Bool):Rat:=if x<0 then 0 else rootR x bits up
def rtE (x:Rat):Int:=if x<0 then 9 else 0
theorem rat_rootV (G:List (List DV))(x:Rat)(bits:Int)(up:Bool)(hx:szR x 300):CallsP Tryz.prog G 128 [ratV x,.c (.d (.int .i64 bits)),.c (.d (.bool up))] (.tup [ratV (rtV x bits up),.c (.d (.int .i64 (rtE x)))]):=by
 unfold rtV rtE
 by_cases h:x<0
 ·rw [if_pos h,if_pos h];exact rat_rooted_neg G x bits up h
 ·rw [if_neg h,if_neg h];exact rat_rooted G x bits up (Rat.not_lt.1 h) hx
theorem rat_RootDown (G:List (List DV))(x:Rat)(bits:Int)(hx:szR x 300):CallsP Tryz.prog G 63 [ratV x,.c (.d (.int .i64 bits))] (.tup [ratV (rtV x bits false),.c (.d (.int .i64 (rtE x)))]):=by
 have c1:=rat_rootV G x bits false hx
 generalize rtV x bits false=r at *
 generalize rtE x=e at *
 refine CallsP.enc Go.Proofs.Tryz.func63 rfl (fun lv=>dRes_num lv _ _ _ _) fun _=>AW.q ?_
 refine AW.seqK fun K hK=>AW.m1 2 c1 @setSeg.eq_1 (hK _ _ ?_)
 exact AW.ret (FinC.num2 (κ:=0) (t:=4) (k:=1) (u:=5) ⟨rfl,rfl⟩ (by simp) (by simp [setSeg]) (by simp))
theorem rat_RootUp (G:List (List DV))(x:Rat)(bits:Int)(hx:szR x 300):CallsP Tryz.prog G 64 [ratV x,.c (.d (.int .i64 bits))] (.tup [ratV (rtV x bits true),.c (.d (.int .i64 (rtE x)))]):=by
 have c1:=rat_rootV G x bits true hx
 generalize rtV x bits true=r at *
 generalize rtE x=e at *
 refine CallsP.enc Go.Proofs.Tryz.func64 rfl (fun lv=>dRes_num lv _ _ _ _) fun _=>AW.q ?_
 refine AW.seqK fun K hK=>AW.m1 2 c1 @setSeg.eq_1 (hK _ _ ?_)
 exact AW.ret (FinC.num2 (κ:=0) (t:=4) (k:=1) (u:=5) ⟨rfl,rfl⟩ (by simp) (by simp [setSeg]) (by simp))
def sqI (a:Iv)(bits:Int):Iv:=if a.1<0 then (0,0) else (rootR a.1 bits false,rootR a.2 bits true)
theorem iv_Sqrt (G:List (List DV))(a:Iv)(bits:Int)(la:a.1≤a.2)(h1:szR a.1 300)(h2:szR a.2 300):CallsP Tryz.prog G 12 [ivV a,.c (.d (.int .i64 bits))] (.tup [ivV (sqI a bits),.c (.d (.int .i64 (rtE a.1)))]):=by
 have c1:=rat_RootDown G a.1 bits h1
 have c2:=rat_RootUp G a.2 bits h2
 unfold sqI
 by_cases h:a.1<0
 ·rw [if_pos h]
  have e1:rtE a.1=9:=if_pos h
  have bz:buildA Tryz.prog 32 [] []=some (ivV (0,0),[],[],True):=bIv0
  rw [e1] at c1 ⊢
  generalize rtV a.1 bits false=r at *
  refine CallsP.enc Go.Proofs.Tryz.func12 rfl (fun lv=>iv_dArg2 lv _ _ _ _ _ _ _ rfl) fun _=>AW.q ?_
  refine AW.seqK fun K hK=>AW.rP ?_
  simp
  refine CallDo.p 2 9 c1 ?_
  simp [setSeg]
  repeat refine and_o ?_
  apply hK
  refine AW.seqK fun K hK=>AW.seqK fun K1 hK1=>AW.rP ?_
  simp
  repeat refine and_o ?_
  apply hK1
  refine AW.cy (AW.seqK fun K1 hK1=>AW.rP ?_)
  simp [bz]
  repeat refine and_o ?_
  apply hK1
  exact AW.ret (FinC.iv2 (κ:=0) (t:=4) (k:=1) (u:=5) ⟨rfl,rfl⟩ (by simp) (by simp [setSeg]) (by simp))
 ·rw [if_neg h]
  have e1:rtE a.1=0:=if_neg h
  have e2:rtE a.2=0:=if_neg (Rat.not_lt.2 (Rat.le_trans (Rat.not_lt.1 h) la))
  have e3:rtV a.1 bits false=rootR a.1 bits false:=if_neg h
  have e4:rtV a.2 bits true=rootR a.2 bits true:=if_neg (Rat.not_lt.2 (Rat.le_trans (Rat.not_lt.1 h) la))
  rw [e1,e3] at c1
  rw [e2,e4] at c2
  rw [e1]
  generalize rootR a.1 bits false=r1 at *
  generalize rootR a.2 bits true=r2 at *
  refine CallsP.enc Go.Proofs.Tryz.func12 rfl (fun lv=>iv_dArg2 lv _ _ _ _ _ _ _ rfl) fun _=>AW.q ?_
  refine AW.seqK fun K hK=>AW.m1 2 c1 @setSeg.eq_1 (hK _ _ ?_)
  refine AW.seqK fun K hK=>AW.q ?_
  refine AW.cn (AW.skip (hK _ _ (AW.seqK fun K hK=>AW.m1 3 c2 @setSeg.eq_1 (hK _ _ ?_))))
  refine AW.seqK fun K hK=>AW.l2 @bIv @setSeg.eq_1 (hK _ _ ?_)
  exact AW.ret (FinC.iv2 (κ:=0) (t:=4) (k:=1) (u:=5) ⟨rfl,rfl⟩ (by simp) (by simp [setSeg]) (by simp))
attribute [local irreducible] FinC
theorem rsg_mul {x y:Rat}(h:x.num≠0) (h':y.num≠0):rsg x*rsg y=if (decide (x.num<0) != decide (y.num<0))=true then -1 else 1:=by
 rw [rsg_s h,rsg_s h']
 by_cases a:x.num<0 <;> by_cases b:y.num<0 <;> simp [a,b]
theorem rsg_wrap (x y:Rat):IntKind.i64.wrap (rsg x*rsg y)=rsg x*rsg y:=by
 rcases rsg_rng x with h|h|h <;> rcases rsg_rng y with h'|h'|h' <;> rw [h,h'] <;> rfl
theorem r_Mul_ok (G:List (List DV))(x y:Rat)(hx:szR x 10000)(hy:szR y 10000):CallsP Tryz.prog G 77 [refV x,refV y] (refV (x*y)):=by
 have b1:=r_bot_ok G x
 have b2:=r_bot_ok G y
 have hx1:=hx.1
 have hx2:=hx.2
 have hy1:=hy.1
 have hy2:=hy.2
 have m1:=r_mul_ok G (rtop x) (rtop y) x.num.natAbs y.num.natAbs 10000 (rtop_d x) (rtop_d y) hx1 hy1 (by decide)
 have m2:=r_mul_ok G (some (dig 1000000000 x.den)) (some (dig 1000000000 y.den)) x.den y.den 10000 rfl rfl hx2 hy2 (by decide)
 have l1:=nl_mul x.num.natAbs y.num.natAbs
 have l2:=nl_mul x.den y.den
 have hw:=rsg_wrap x y
 have mk:=r_mk_ok G (rsg x*rsg y) (decide (x.num<0) != decide (y.num<0)) (x.num.natAbs*y.num.natAbs) (x.den*y.den) 20000 (some (dig 1000000000 (x.num.natAbs*y.num.natAbs))) rfl
  (fun h=>rsg_mul (fun e=>h (by rw [e];exact Nat.zero_mul _)) (fun e=>h (by rw [e];exact Nat.mul_zero _))) (Nat.mul_pos x.den_pos y.den_pos) (by omega) (by omega) (by decide)
 rw [← mul_mk] at mk
 generalize x*y=z at *
 generalize x.num.natAbs*y.num.natAbs=A at *
 generalize x.den*y.den=B at *
 refine CallsP.enc Go.Proofs.Tryz.func77 rfl (fun lv=>rC_dRes lv _ _ _) fun _=>AW.q ?_
 refine AW.seqK fun K hK=>?_
 refine AW.drawP mixed (by kernel_rfl) rfl ?_
 simp [hw]
 refine CallDo.p 3 9 m1 ?_
 simp
 refine CallDo.p 3 9 b1 ?_
 simp
 refine CallDo.p 3 9 b2 ?_
 simp
 refine CallDo.p 3 9 m2 ?_
 simp
 refine CallDo.p 3 9 mk ?_
 simp [setSeg]
 refine⟨by kernel_rfl,?_⟩
 repeat refine and_o ?_
 apply hK
 exact AW.ret (FinC.ref (k:=2) rfl (by simp) (by simp) rfl)
theorem r_QuoA_ok (G:List (List DV))(x y:Rat)(hx:szR x 10000)(hy:szR y 10000):CallsP Tryz.prog G 127 [refV x,refV y] (.tup [refV (x / y),.c (.d (.int .i64 (if y=0 then 8 else 0)))]):=by
 by_cases hy0:y=0
 ·subst hy0
  have e:x / 0=0:=by rw [Rat.div_def,Rat.inv_zero,Rat.mul_zero]
  rw [e,if_pos rfl]
  have s0:rsg 0=0:=rfl
  have bz:buildA Tryz.prog 38 [] []=some (refV 0,[],[],True):=bR0
  refine CallsP.enc Go.Proofs.Tryz.func127 rfl (fun lv=>dRes_ref2 lv _ _ _ _) fun _=>AW.q ?_
  refine AW.seqK fun K hK=>AW.f1 s0 ?_
  refine AW.fy (by simp [s0] <;> omega) (AW.f1 bz ?_)
  exact AW.ret (FinC.ref2 (t:=4) (u:=5) (k:=2) rfl (by simp) (by simp [setSeg]) (by simp) rfl)
 rw [if_neg hy0]
 have hyn:y.num≠0:=fun e=>hy0 (Rat.num_eq_zero.1 e)
 have hx1:=hx.1
 have hx2:=hx.2
 have hy1:=hy.1
 have hy2:=hy.2
 have b1:=r_bot_ok G x
 have m1:=r_mul_ok G (rtop x) (rbot y) x.num.natAbs y.den 10000 (rtop_d x) (by rw [rbot_ne hyn];rfl) hx1 hy2 (by decide)
 have m2:=r_mul_ok G (some (dig 1000000000 x.den)) (rtop y) x.den y.num.natAbs 10000 rfl (rtop_d y) hx2 hy1 (by decide)
 have l1:=nl_mul x.num.natAbs y.den
 have l2:=nl_mul x.den y.num.natAbs
 have sy0:¬ rsg y=0:=fun h=>hyn (rsg_zero.1 h)
 have hw:=rsg_wrap x y
 have mk:=r_mk_ok G (rsg x*rsg y) (decide (x.num<0) != decide (y.num<0)) (x.num.natAbs*y.den) (x.den*y.num.natAbs) 20000 (some (dig 1000000000 (x.num.natAbs*y.den))) rfl
  (fun h=>rsg_mul (fun e=>h (by rw [e];exact Nat.zero_mul _)) hyn) (Nat.mul_pos x.den_pos (by omega)) (by omega) (by omega) (by decide)
 rw [← div_mk hy0] at mk
 generalize x / y=z at *
 generalize x.num.natAbs*y.den=A at *
 generalize x.den*y.num.natAbs=B at *
 refine CallsP.enc Go.Proofs.Tryz.func127 rfl (fun lv=>dRes_ref2 lv _ _ _ _) fun _=>AW.q ?_
 refine AW.seqK fun K hK=>AW.f1 sy0 ?_
 refine AW.fn (by simp [sy0] <;> omega) (AW.skip (hK _ _ (AW.seqK fun K hK=>?_)))
 refine AW.drawP mixed (by kernel_rfl) rfl ?_
 simp [hw]
 refine CallDo.p 3 9 m1 ?_
 simp
 refine CallDo.p 3 9 b1 ?_
 simp
 refine CallDo.p 3 9 m2 ?_
 simp
 refine CallDo.p 3 9 mk ?_
 simp [setSeg]
 refine⟨by kernel_rfl,?_⟩
 repeat refine and_o ?_
 apply hK
 exact AW.ret (FinC.ref2 (t:=4) (u:=5) (k:=2) rfl (by simp) (by simp) (by simp) rfl)
theorem r_Max_ok (G:List (List DV))(x y:Rat)(hx:szR x 20000)(hy:szR y 20000):CallsP Tryz.prog G 80 [refV x,refV y] (refV (maxR x y)):=by
 have c1:=r_Cmp_ok G x y hx hy
 by_cases h:0≤cmpR x y
 ·have e:maxR x y=x:=by unfold maxR;have:=cmpR_ge.1 h;split <;> grind
  rw [e]
  generalize cmpR x y=n at *
  refine CallsP.enc Go.Proofs.Tryz.func80 rfl (fun lv=>rC_dRes lv _ _ _) fun _=>AW.q ?_
  refine AW.seqK fun K hK=>AW.c1 3 c1 h ?_
  refine AW.fy (by simp [h] <;> omega) (AW.q ?_)
  exact AW.ret (FinC.ref (k:=2) rfl (by simp) (by simp [setSeg]) rfl)
 ·have e:maxR x y=y:=by unfold maxR;have:=cmpR_neg.1 (Int.not_le.1 h);rw [if_pos this]
  rw [e]
  generalize cmpR x y=n at *
  refine CallsP.enc Go.Proofs.Tryz.func80 rfl (fun lv=>rC_dRes lv _ _ _) fun _=>AW.q ?_
  refine AW.seqK fun K hK=>AW.c1 3 c1 h ?_
  refine AW.fn (by simp [h] <;> omega) (AW.skip (hK _ _ (AW.q ?_)))
  exact AW.ret (FinC.ref (k:=2) rfl (by simp) (by simp [setSeg]) rfl)
theorem r_Min_ok (G:List (List DV))(x y:Rat)(hx:szR x 20000)(hy:szR y 20000):CallsP Tryz.prog G 81 [refV x,refV y] (refV (minR x y)):=by
 have c1:=r_Cmp_ok G x y hx hy
 by_cases h:cmpR x y≤0
 ·have e:minR x y=x:=by unfold minR;have:=cmpR_le.1 h;split <;> grind
  rw [e]
  generalize cmpR x y=n at *
  refine CallsP.enc Go.Proofs.Tryz.func81 rfl (fun lv=>rC_dRes lv _ _ _) fun _=>AW.q ?_
  refine AW.seqK fun K hK=>AW.c1 3 c1 h ?_
  refine AW.fy (by simp [h] <;> omega) (AW.q ?_)
  exact AW.ret (FinC.ref (k:=2) rfl (by simp) (by simp [setSeg]) rfl)
 ·have e:minR x y=y:=by unfold minR;have:=cmpR_pos.1 (Int.not_le.1 h);split <;> grind
  rw [e]
  generalize cmpR x y=n at *
  refine CallsP.enc Go.Proofs.Tryz.func81 rfl (fun lv=>rC_dRes lv _ _ _) fun _=>AW.q ?_
  refine AW.seqK fun K hK=>AW.c1 3 c1 h ?_
  refine AW.fn (by simp [h] <;> omega) (AW.skip (hK _ _ (AW.q ?_)))
  exact AW.ret (FinC.ref (k:=2) rfl (by simp) (by simp [setSeg]) rfl)
theorem r_Bits_ok (G:List (List DV))(b:Int):CallsP Tryz.prog G 144 [.c (.d (.int .i64 b))] (.c (.d (.int .i64 (rngI b)))):=by
 have e1:(List.foldl (fun a b:Int=>if a<b then b else a) b [1])=max b 1:=by simp only [List.foldl];split <;> omega
 have e2:(List.foldl (fun a b:Int=>if b<a then b else a) (max b 1) [4000])=rngI b:=by unfold rngI;simp only [List.foldl];split <;> omega
 refine CallsP.en Go.Proofs.Tryz.func144 rfl fun _=>AW.q ?_
 refine AW.seqK fun K hK=>AW.rP ?_
 simp [intsOf,e1,e2,-List.foldl_cons,-List.foldl_nil]
 repeat refine and_o ?_
 apply hK
 exact AW.r0 (FinP.rt rfl 2 (by simp))
theorem lpRC (lv:Key→LB)(o:Option (List Nat)):lenP Tryz.prog 36 lv (.c (rC o))=some (.c (.d (.int .i64 (dO o).length)),[],[],True):=by
 rw [← nK_rC];simp
theorem r_Floor_ok (G:List (List DV))(x:Rat)(hx:szR x 10000):CallsP Tryz.prog G 146 [refV x] (refV (wholeR x (decide (x.num<0)))):=by
 have b1:=r_bot_ok G x
 have hx1:=hx.1
 have hx2:=hx.2
 have z1:=sz9 hx1
 have z2:=sz9 hx2
 have hd:=r_divided_ok G (rtop x) (some (dig 1000000000 x.den)) (by rw [rtop_d];exact (dig_can (by decide) _).1) (dig_can (by decide) _) (by rw [dO_some];intro e;have:=(dig_nil (by decide)).1 e;exact x.den_nz this) (by rw [rtop_d];omega) (by rw [dO_some];omega)
 have hr:dO (rRem (rtop x) (some (dig 1000000000 x.den)))=dig 1000000000 (x.num.natAbs % x.den):=by
  unfold rRem
  rw [rtop_d,dO_some,dig_val (by decide),dig_val (by decide)]
  split
  ·rename_i e
   have:=(dig_nil (by decide)).1 e
   rw [this,Nat.zero_mod];rfl
  ·rfl
 rw [rtop_d,dO_some,dig_val (by decide),dig_val (by decide)] at hd
 generalize rRem (rtop x) (some (dig 1000000000 x.den))=r at *
 have hdt:(AV.tup [.c (rC (some (dig 1000000000 (x.num.natAbs / x.den)))),.c (rC r)]).pure=true:=by cases r <;> rfl
 have hrl:0<(dO r).length↔x.num.natAbs % x.den≠0:=by
  rw [hr,List.length_pos_iff,Ne,dig_nil (by decide)]
 have ho:=r_one_dig G
 have hs0:rsg x<0↔x.num<0:=by unfold rsg;omega
 have hz:x.num.natAbs / x.den+1≠0:=Nat.succ_ne_zero _
 have l0:=nl_mono (Nat.div_le_self x.num.natAbs x.den)
 have l1:=nl_add (x.num.natAbs / x.den) 1
 rw [nl_one] at l1
 have ha:=r_add_ok G (x.num.natAbs / x.den) 1 20000 (by omega) (by rw [nl_one];decide) (by decide)
 have hsn:x.num.natAbs / x.den≠0→x.num≠0:=fun h e=>h (by rw [e];exact Nat.zero_div _)
 have mk0:=r_mk_ok G (rsg x) (decide (x.num<0)) (x.num.natAbs / x.den) 1 20000 (some (dig 1000000000 (x.num.natAbs / x.den))) rfl (fun h=>rsg_s (hsn h)) (by decide) (by omega) (by rw [nl_one];decide) (by decide)
 rw [mkRat_int] at mk0
 simp only [nK_rC] at hd ho
 by_cases hc:x.num<0∧x.num.natAbs % x.den≠0
 ·have mk1:=r_mk_ok G (rsg x) (decide (x.num<0)) (x.num.natAbs / x.den+1) 1 20000 (some (dig 1000000000 (x.num.natAbs / x.den+1))) rfl (fun h=>rsg_s (by omega)) (by decide) (by omega) (by rw [nl_one];decide) (by decide)
  rw [mkRat_int] at mk1
  have e:wholeR x (decide (x.num<0))=((sgI (decide (x.num<0)) (x.num.natAbs / x.den+1):Int):Rat):=by unfold wholeR;rw [if_pos ⟨decide_eq_true hc.1,hc.2⟩]
  rw [e]
  have h1:=hs0.2 hc.1
  have h2:=hrl.2 hc.2
  generalize ((sgI (decide (x.num<0)) (x.num.natAbs / x.den+1):Int):Rat)=z at *
  generalize ((sgI (decide (x.num<0)) (x.num.natAbs / x.den):Int):Rat)=z0 at *
  generalize x.num.natAbs / x.den=q at *
  refine CallsP.enc Go.Proofs.Tryz.func146 rfl (fun lv=>rC_dRes lv _ _ _) fun _=>AW.q ?_
  refine AW.seqK fun K hK=>?_
  refine AW.drawP mixed (by kernel_rfl) rfl ?_
  simp
  refine CallDo.p 2 9 b1 ?_
  simp
  refine CallDo.pure 2 9 hd hdt (by simp) (by simp) ?_
  simp
  refine⟨by kernel_rfl,?_⟩
  repeat refine and_o ?_
  apply hK
  refine AW.seqK fun K hK=>AW.f3 h1 @lpRC h2 ?_
  refine AW.fy (by simp [h1,h2] <;> omega) (AW.rP ?_)
  simp
  refine CallDo.p 2 9 ho ?_
  simp
  refine CallDo.p 2 9 ha ?_
  simp
  repeat refine and_o ?_
  apply hK
  refine AW.seqK fun K hK=>?_
  refine AW.drawP mixed (by kernel_rfl) rfl ?_
  simp
  refine CallDo.p 2 9 ho ?_
  simp
  refine CallDo.p 2 9 mk1 ?_
  simp [setSeg]
  refine⟨by kernel_rfl,?_⟩
  repeat refine and_o ?_
  apply hK
  exact AW.ret (FinC.ref (k:=1) rfl (by simp) (by simp) rfl)
 ·have e:wholeR x (decide (x.num<0))=((sgI (decide (x.num<0)) (x.num.natAbs / x.den):Int):Rat):=by unfold wholeR;rw [if_neg (fun h=>hc ⟨of_decide_eq_true h.1,h.2⟩),Nat.add_zero]
  rw [e]
  by_cases hn:x.num<0
  ·have h1:=hs0.2 hn
   have h2:¬ 0<(dO r).length:=fun h=>hc ⟨hn,hrl.1 h⟩
   generalize ((sgI (decide (x.num<0)) (x.num.natAbs / x.den):Int):Rat)=z0 at *
   generalize x.num.natAbs / x.den=q at *
   refine CallsP.enc Go.Proofs.Tryz.func146 rfl (fun lv=>rC_dRes lv _ _ _) fun _=>AW.q ?_
   refine AW.seqK fun K hK=>?_
   refine AW.drawP mixed (by kernel_rfl) rfl ?_
   simp
   refine CallDo.p 2 9 b1 ?_
   simp
   refine CallDo.pure 2 9 hd hdt (by simp) (by simp) ?_
   simp
   refine⟨by kernel_rfl,?_⟩
   repeat refine and_o ?_
   apply hK
   refine AW.seqK fun K hK=>AW.f3 h1 @lpRC h2 ?_
   refine AW.fn (by simp [h1,h2] <;> omega) (AW.skip (hK _ _ (AW.seqK fun K hK=>?_)))
   refine AW.drawP mixed (by kernel_rfl) rfl ?_
   simp
   refine CallDo.p 2 9 ho ?_
   simp
   refine CallDo.p 2 9 mk0 ?_
   simp [setSeg]
   refine⟨by kernel_rfl,?_⟩
   repeat refine and_o ?_
   apply hK
   exact AW.ret (FinC.ref (k:=1) rfl (by simp) (by simp) rfl)
  ·have h1:¬ rsg x<0:=fun h=>hn (hs0.1 h)
   generalize ((sgI (decide (x.num<0)) (x.num.natAbs / x.den):Int):Rat)=z0 at *
   generalize x.num.natAbs / x.den=q at *
   refine CallsP.enc Go.Proofs.Tryz.func146 rfl (fun lv=>rC_dRes lv _ _ _) fun _=>AW.q ?_
   refine AW.seqK fun K hK=>?_
   refine AW.drawP mixed (by kernel_rfl) rfl ?_
   simp
   refine CallDo.p 2 9 b1 ?_
   simp
   refine CallDo.pure 2 9 hd hdt (by simp) (by simp) ?_
   simp
   refine⟨by kernel_rfl,?_⟩
   repeat refine and_o ?_
   apply hK
   refine AW.seqK fun K hK=>AW.f1 h1 ?_
   refine AW.fn (by simp [h1] <;> omega) (AW.skip (hK _ _ (AW.seqK fun K hK=>?_)))
   refine AW.drawP mixed (by kernel_rfl) rfl ?_
   simp
   refine CallDo.p 2 9 ho ?_
   simp
   refine CallDo.p 2 9 mk0 ?_
   simp [setSeg]
   refine⟨by kernel_rfl,?_⟩
   repeat refine and_o ?_
   apply hK
   exact AW.ret (FinC.ref (k:=1) rfl (by simp) (by simp) rfl)
end Go.Am
namespace Go.Am
open Go.Am.Ty Go.Proofs N
attribute [local irreducible] FinC
theorem r_halved_ok (G:List (List DV))(n:Int)(h1:-1000000≤n)(h2:n≤1000000):CallsP Tryz.prog G 190 [.c (.d (.int .i64 n))] (.c (.d (.int .i64 (n.fdiv 2)))):=by
 have ef:n.fdiv 2=n / 2:=Int.fdiv_eq_ediv_of_nonneg _ (by decide)
 rw [ef]
 by_cases h:n<0
 ·have w1:IntKind.i64.wrap (1 - n)=1 - n:=w64 (by omega) (by omega)
  have w2:(1 - n).tdiv 2=(1 - n) / 2:=Int.tdiv_eq_ediv_of_nonneg (by omega)
  obtain⟨z,hz⟩:∃ z,(1 - n) / 2=z:=⟨_,rfl⟩
  rw [hz] at w2
  have w3:IntKind.i64.wrap z=z:=w64 (by omega) (by omega)
  have w4:IntKind.i64.wrap (-z)=n / 2:=by rw [w64 (by omega) (by omega)];omega
  refine CallsP.en Go.Proofs.Tryz.func190 rfl fun _=>AW.q ?_
  refine AW.seqK fun K hK=>AW.q ?_
  refine AW.fy (by simp [h] <;> omega) (AW.f4 w1 w2 w3 w4 ?_)
  exact AW.r0 (FinP.rt (t:=2) rfl 9 (by simp))
 ·have w2:n.tdiv 2=n / 2:=Int.tdiv_eq_ediv_of_nonneg (by omega)
  have w3:IntKind.i64.wrap (n / 2)=n / 2:=w64 (by omega) (by omega)
  refine CallsP.en Go.Proofs.Tryz.func190 rfl fun _=>AW.q ?_
  refine AW.seqK fun K hK=>AW.q ?_
  refine AW.fn (by simp [h] <;> omega) (AW.skip (hK _ _ (AW.seqK fun K hK=>AW.l2 w2 w3 (hK _ _ ?_))))
  exact AW.r0 (FinP.rt (t:=2) rfl 9 (by simp))
theorem r_Down_ok (m:Int)(x:Rat)(bits:Int)(hx:szR x 300):CallsP Tryz.prog (GG m) 85 [refV x,.c (.d (.int .i64 bits))] (refV (downR x bits)):=by
 by_cases h0:x=0
 ·have e:downR x bits=x:=if_pos h0
  have s0:rsg x=0:=rsg_zero.2 (by rw [h0];rfl)
  rw [e]
  refine CallsP.enc Go.Proofs.Tryz.func85 rfl (fun lv=>rC_dRes lv _ _ _) fun _=>AW.q ?_
  refine AW.seqK fun K hK=>AW.seqK fun K1 hK1=>AW.rP ?_
  simp [s0]
  repeat refine and_o ?_
  apply hK1
  refine AW.fy (by simp [s0] <;> omega) (AW.seqK fun K1 hK1=>AW.rP ?_)
  simp
  repeat refine and_o ?_
  apply hK1
  exact AW.ret (FinC.ref (k:=1) rfl (by simp) (by simp [setSeg,s0]) rfl)
 have hxn:x.num≠0:=fun e=>h0 (Rat.num_eq_zero.1 e)
 have s0:¬ rsg x=0:=fun h=>hxn (rsg_zero.1 h)
 have hl:=r_Log_ok m x hxn hx
 have hlr:=logR_rng h0 hx
 have hi:=r_Bits_ok (GG m) bits
 obtain⟨b1,b2⟩:=rngI_r bits
 have e:downR x bits=shiftR (wholeR (shiftR x (-(logR x - rngI bits+1))) (decide (x.num<0))) (logR x - rngI bits+1):=if_neg h0
 rw [e]
 generalize logR x=l at *
 generalize rngI bits=b at *
 have w1:IntKind.i64.wrap (l - b)=l - b:=w64 (by omega) (by omega)
 obtain⟨k,hk,k1,k2⟩:∃ k,l - b+1=k∧-14000≤k∧k≤14000:=⟨_,rfl,by omega,by omega⟩
 rw [hk]
 have w2:IntKind.i64.wrap k=k:=w64 (by omega) (by omega)
 have w3:IntKind.i64.wrap (-k) = -k:=w64 (by omega) (by omega)
 have z1:=szR_shift hx (-k)
 have z2:=szR_whole z1 (decide (x.num<0))
 have s1:=r_Shift_ok (GG m) x (-k) (szR_mono hx (by omega)) (by omega) (by omega)
 have s2:=r_Floor_ok (GG m) (shiftR x (-k)) (szR_mono z1 (by omega))
 rw [show decide ((shiftR x (-k)).num<0)=decide (x.num<0) from decide_eq_decide.2 (shift_neg x (-k))] at s2
 have s3:=r_Shift_ok (GG m) (wholeR (shiftR x (-k)) (decide (x.num<0))) k (szR_mono z2 (by omega)) (by omega) (by omega)
 generalize shiftR (wholeR (shiftR x (-k)) (decide (x.num<0))) k=r at *
 generalize wholeR (shiftR x (-k)) (decide (x.num<0))=u at *
 generalize shiftR x (-k)=v at *
 refine CallsP.enc Go.Proofs.Tryz.func85 rfl (fun lv=>rC_dRes lv _ _ _) fun _=>AW.q ?_
 refine AW.seqK fun K hK=>AW.f1 s0 ?_
 refine AW.fn (by simp [s0] <;> omega) (AW.skip (hK _ _ (AW.seqK fun K hK=>AW.rP ?_)))
 simp
 refine CallDo.p 2 9 hl ?_
 simp
 refine CallDo.p 2 9 hi ?_
 simp [w1,hk,w2]
 repeat refine and_o ?_
 apply hK
 refine AW.seqK fun K hK=>AW.rP ?_
 simp [w3]
 refine CallDo.p 2 9 s1 ?_
 simp [w3]
 refine CallDo.p 2 9 s2 ?_
 simp
 refine CallDo.p 2 9 s3 ?_
 simp
 repeat refine and_o ?_
 apply hK
 exact AW.ret (FinC.ref (k:=1) rfl (by simp) (by simp [setSeg]) rfl)
theorem shift_opp (x:Rat)(k:Int):shiftR (-x) k = -shiftR x k:=by rw [shift_pow,shift_pow,Rat.neg_mul]
theorem log_opp (x:Rat):logR (-x)=logR x:=by unfold logR;rw [Rat.neg_num,Int.natAbs_neg,Rat.neg_den]
theorem sgI_opp (n:Int)(q:Nat)(h:n=0→q=0):sgI (decide (-n<0)) q = -sgI (decide (n<0)) q:=by
 by_cases h0:n=0
 ·rw [h h0];unfold sgI;split <;> split <;> rfl
 by_cases h1:n<0
 ·rw [decide_eq_false (show ¬ -n<0 by omega),decide_eq_true h1];simp [sgI]
 ·rw [decide_eq_true (show -n<0 by omega),decide_eq_false h1];simp [sgI]
theorem whole_opp (x:Rat)(away:Bool):wholeR (-x) away = -wholeR x away:=by
 unfold wholeR
 rw [Rat.neg_num,Int.natAbs_neg,Rat.neg_den,sgI_opp]
 ·rw [Rat.intCast_neg]
 ·intro h;rw [h];simp
theorem up_down (x:Rat)(bits:Int):upR x bits = -downR (-x) bits:=by
 unfold upR downR gridR
 by_cases h0:x=0
 ·subst h0;rfl
 have hxn:x.num≠0:=fun e=>h0 (Rat.num_eq_zero.1 e)
 have h1:¬ -x=0:=fun e=>h0 (by rw [← Rat.neg_neg x,e];rfl)
 have h2:decide ((-x).num<0) = !decide (x.num<0):=by
  rw [Rat.neg_num]
  by_cases h:x.num<0
  ·rw [decide_eq_true h,decide_eq_false (by omega)];rfl
  ·rw [decide_eq_false h,decide_eq_true (by omega)];rfl
 rw [if_neg h0,if_neg h1,log_opp,h2,shift_opp,whole_opp,shift_opp,Rat.neg_neg]
theorem r_Up_ok (m:Int)(x:Rat)(bits:Int)(hx:szR x 300):CallsP Tryz.prog (GG m) 86 [refV x,.c (.d (.int .i64 bits))] (refV (upR x bits)):=by
 have c1:=r_Neg_ok (GG m) x
 have c2:=r_Down_ok m (-x) bits (szR_neg hx)
 have c3:=r_Neg_ok (GG m) (downR (-x) bits)
 rw [← up_down] at c3
 generalize upR x bits=z at *
 generalize downR (-x) bits=u at *
 generalize -x=v at *
 refine CallsP.enc Go.Proofs.Tryz.func86 rfl (fun lv=>rC_dRes lv _ _ _) fun _=>AW.q ?_
 refine AW.seqK fun K hK=>AW.rP ?_
 simp
 refine CallDo.p 2 9 c1 ?_
 simp
 refine CallDo.p 2 9 c2 ?_
 simp
 refine CallDo.p 2 9 c3 ?_
 simp [setSeg]
 repeat refine and_o ?_
 apply hK
 exact AW.ret (FinC.ref (k:=1) rfl (by simp) (by simp [setSeg]) rfl)
theorem r_root_ok (G:List (List DV))(A:Nat)(hA:A≠0)(hl:nl A≤1000):CallsP Tryz.prog G 191 [nK .i64 (some (dig 1000000000 A))] (nK .i64 (some (dig 1000000000 (isq A)))):=by
 have hbs:∀ (lv:Key→LB) (h:lv 0=.hole) (a:CV),stepBuildSlice Tryz.prog 36 1 [0] lv 0 [.c a]=some (.c (.lsl 0 0 1 1),[(0,.cells true false 2 [a])],[],True):=fun lv h a=>bs213 lv 0 h a
 have z1:=sz9 hl
 have hb:=r_length_ok G A (by omega)
 have hbl:=blen_nl hA
 have hst:=isq_start (A:=A) (b:=blen A) (blen_lt A)
 have hsp:=isq_pos hA
 generalize blen A=b at *
 have e1:IntKind.i64.wrap ((b:Int)+1)=((b+1:Nat):Int):=by rw [w64 (by omega) (by omega)];omega
 have e2:((b+1:Nat):Int).tdiv 2=(((b+1) / 2:Nat):Int):=td_nat _ 2
 have n0:=nl_two ((b+1) / 2)
 have hp0:0<2 ^ ((b+1) / 2):=Nat.two_pow_pos _
 obtain⟨k,hk⟩:∃ k,(b+1) / 2=k:=⟨_,rfl⟩
 rw [hk] at e2 n0 hst hp0
 have w1:=w64 (n:=(k:Int)) (by omega) (by omega)
 have hs:=r_pow_ok G k (by omega)
 generalize 2 ^ k=x0 at *
 simp only [nK_rC] at hb hs ⊢
 refine CallsP.en0 Go.Proofs.Tryz.func191 rfl fun _=>AW.q ?_
 refine AW.sr fun K hK=>?_
 simp
 refine CallDo.p 0 9 hb ?_
 simp [e1,e2,w1,-Int.natCast_add,-Int.natCast_ediv]
 refine CallDo.p 0 9 hs ?_
 simp
 repeat refine and_o ?_
 apply hK
 refine AW.block ?_
 refine AW.loopV (fun (x:Nat)=>⟨frOf [(0,.c (rC (some (dig 1000000000 A)))),(3,.c (rC (some (dig 1000000000 x))))],fun _=>.hole⟩) 0
  (fun x=>0<x∧isq A≤x∧nl x≤2000) (fun x=>x) x0 (Le.mk2 _) ⟨hp0,hst,by omega⟩ ?_
 rintro x ⟨i1,i2,i3⟩
 have z2:=sz9 i3
 obtain⟨o,hd⟩:=r_div_dig G A x i1 (by omega) (by omega)
 have hdl:=nl_mono (Nat.div_le_self A x)
 have hdl2:nl (A / x)≤1000:=Nat.le_trans hdl hl
 have ha:=r_add_ok G x (A / x) 2000 i3 (by omega) (by decide)
 have hal:=nl_add x (A / x)
 have hge:=newt_ge (A:=A) i1
 have hstop:=newt_stop (A:=A) i1 i2
 generalize A / x=d at *
 have hzl:nl (x+d)≤2001:=by omega
 generalize x+d=z at *
 have z3:=sz9 hzl
 obtain⟨o2,hd2⟩:=r_div_dig G z 2 (by decide) (by omega) (by have:=sz9 (n:=2) (L:=1) (by decide);omega)
 have g2:dig 1000000000 2=[2]:=(dig_of (by decide:2≤1000000000) (l:=[2]) ⟨by intro d hd;grind,by simp⟩ (by simp)).symm
 rw [g2] at hd2
 obtain⟨y,hy⟩:∃ y,z / 2=y:=⟨_,rfl⟩
 rw [hy] at hd2 hge hstop
 have hc:=r_cmp_ok G y x
 have hcy:0≤cmpN y x↔x≤y:=by unfold cmpN;omega
 generalize cmpN y x=n at *
 have ht1:(AV.tup [.c (rC (some (dig 1000000000 d))),.c (rC o)]).pure=true:=by cases o <;> rfl
 have ht2:(AV.tup [.c (rC (some (dig 1000000000 y))),.c (rC o2)]).pure=true:=by cases o2 <;> rfl
 rw [nK_rC (some (dig 1000000000 z))] at hd2
 rw [nK_rC (some (dig 1000000000 y)),nK_rC o2] at hd2
 simp only [nK_rC] at hd
 refine AW.block (AW.sr fun K1 hK1=>?_)
 simp
 refine CallDo.pure 0 9 hd ht1 (by simp) (by simp) ?_
 simp
 repeat refine and_o ?_
 apply hK1
 refine AW.sr fun K1 hK1=>?_
 simp
 refine CallDo.p 0 9 ha ?_
 simp [hbs,-stepBuildSlice]
 refine CallDo.frzN2 (T:=2) (l:=[2]) 1 9 0 (by simp [wK]) (by simp) hd2 (by simp) ht2 (by simp) ?_
 simp
 repeat refine and_o ?_
 apply hK1
 refine AW.seqK fun K1 hK1=>AW.c0 1 hc ?_
 by_cases hxy:x≤y
 ·have h0:=hcy.2 hxy
  have e:=hstop hxy
  refine AW.fy (by simp [h0] <;> omega) (AW.q ?_)
  exact AW.r0 (FinP.rt (t:=2) rfl 9 (by simp [e]))
 ·have h0:¬ 0≤n:=fun h=>hxy (hcy.1 h)
  refine AW.fn (by simp [h0] <;> omega) (AW.skip (hK1 _ _ (AW.rP ?_)))
  simp
  exact⟨y,Le.keys [] 19 _ rfl rfl (by simp) (by simp) (by simp) (by simp) (by simp),⟨by omega,hge,by have:=nl_mono (show y≤x by omega);omega⟩,by omega⟩
end Go.Am
namespace Go.Am
open Go.Am.Ty Go.Proofs N
attribute [local irreducible] FinC
theorem rN_top {n:Nat}(h:n≠0):rtop ((n:Int):Rat)=some (dig 1000000000 n):=by
 unfold rtop;rw [Rat.num_intCast,if_neg (by omega)];rfl
theorem natR_add (q:Nat):((q:Int):Rat)+1=(((q+1:Nat):Int):Rat):=by
 rw [Int.natCast_add,Rat.intCast_add];rfl
theorem natR_mul (q:Nat):((q:Int):Rat)*((q:Int):Rat)=(((q*q:Nat):Int):Rat):=by
 rw [Int.natCast_mul,Rat.intCast_mul]
theorem natR_lt {a:Nat}{t:Rat}(ht:¬ t.num<0):((a:Int):Rat)<t↔a*t.den<t.num.natAbs:=by
 rw [Rat.lt_iff,Rat.num_intCast,Rat.den_intCast]
 have e:t.num=((t.num.natAbs:Nat):Int):=by omega
 constructor
 ·intro h
  have h:(a:Int)*t.den<t.num*1:=h
  rw [Int.mul_one,e] at h
  exact_mod_cast h
 ·intro h
  show (a:Int)*t.den<t.num*1
  rw [Int.mul_one,e]
  exact_mod_cast h
theorem r_rooted_ok (m:Int)(x:Rat)(bits:Int)(up:Bool)(h0:0≤x)(hx:szR x 300):CallsP Tryz.prog (GG m) 129 [refV x,.c (.d (.int .i64 bits)),.c (.d (.bool up))] (refV (rootR x bits up)):=by
 by_cases hz:x=0
 ·have e:rootR x bits up=x:=if_pos hz
  have s0:rsg x=0:=rsg_zero.2 (by rw [hz];rfl)
  rw [e]
  refine CallsP.enc Go.Proofs.Tryz.func129 rfl (fun lv=>rC_dRes lv _ _ _) fun _=>AW.q ?_
  refine AW.seqK fun K hK=>AW.f1 s0 ?_
  refine AW.fy (by simp [s0] <;> omega) (AW.q ?_)
  exact AW.ret (FinC.ref (k:=1) rfl (by simp) (by simp [setSeg,s0]) rfl)
 have hp:0<x:=Rat.lt_of_le_of_ne h0 (Ne.symm hz)
 have hn:=pos_num hp
 have hxn:x.num≠0:=by omega
 have s0:¬ rsg x=0:=fun h=>hxn (rsg_zero.1 h)
 have hl:=r_Log_ok m x hxn hx
 have hlr:=logR_rng hz hx
 have hi:=r_Bits_ok (GG m) bits
 obtain⟨b1,b2⟩:=rngI_r bits
 have hkr:=rootK_rng hz hx bits
 have e:rootR x bits up=shiftR (((rtU (shiftR x (-2*rootK x bits)) up:Nat):Int):Rat) (rootK x bits):=if_neg hz
 have hne:=root_ne hp bits
 have hsz:=szR_shift hx (-2*rootK x bits)
 have hmz:=rt_sz hsz up
 have hkd:(logR x).fdiv 2 - rngI bits+1=rootK x bits:=rfl
 rw [e]
 clear e
 have s1:=r_Shift_ok (GG m) x (-2*rootK x bits) (szR_mono hx (by omega)) (by omega) (by omega)
 have hhf:=r_halved_ok (GG m) (logR x) (by omega) (by omega)
 obtain⟨l,hL⟩:∃ l,logR x=l:=⟨_,rfl⟩
 rw [hL] at hl hkd hlr hhf
 obtain⟨f,hf,f1,f2⟩:∃ f,l.fdiv 2=f∧-16000≤f∧f≤16000:=⟨_,rfl,by rw [Int.fdiv_eq_ediv_of_nonneg _ (by decide)];omega,by rw [Int.fdiv_eq_ediv_of_nonneg _ (by decide)];omega⟩
 rw [hf] at hkd hhf
 have htn:¬ (shiftR x (-2*rootK x bits)).num<0:=by rw [shift_neg];omega
 generalize rootK x bits=k at *
 generalize rngI bits=b at *
 have w1:IntKind.i64.wrap (f - b)=f - b:=w64 (by omega) (by omega)
 have w2:IntKind.i64.wrap k=k:=w64 (by omega) (by omega)
 have w3:IntKind.i64.wrap (-2*k) = -2*k:=w64 (by omega) (by omega)
 have hz3:300+(-2*k).natAbs / 32+1≤900:=by omega
 obtain⟨k2,hk2⟩:∃ k2,-2*k=k2:=⟨_,rfl⟩
 rw [hk2] at s1 hne hsz hmz htn w3 hz3 ⊢
 generalize shiftR x k2=t at *
 have hsz:=szR_mono hsz hz3
 have htz:=hsz.1
 have htd:=hsz.2
 have hw:=r_Floor_ok (GG m) t (szR_mono hsz (by omega))
 obtain⟨n,hn0⟩:∃ n,t.num.natAbs / t.den=n:=⟨_,rfl⟩
 have hnl:nl n≤900:=by
  have:=nl_mono (Nat.div_le_self t.num.natAbs t.den);rw [hn0] at this;omega
 have ew:wholeR t (decide (t.num<0))=((n:Int):Rat):=by
  unfold wholeR;rw [hn0,decide_eq_false htn];simp [sgI]
 rw [hn0] at hne
 have hwv:refV ((n:Int):Rat)=.agg [.d (.int .i64 (rsg ((n:Int):Rat))),rC (some (dig 1000000000 n)),rC (rbot ((n:Int):Rat))]:=by
  show rA _ _ _=_;rw [rN_top hne]
 rw [ew,hwv] at hw
 have hr:=r_root_ok (GG m) n hne (by omega)
 obtain⟨q,hq⟩:∃ q,isq n=q:=⟨_,rfl⟩
 have hql:nl q≤900:=by have:=nl_mono (isq_le n);rw [hq] at this;omega
 have hM:rtU t up=if up=true∧q*q*t.den<t.num.natAbs then q+1 else q:=by unfold rtU;rw [hn0,hq]
 rw [hq] at hr
 have ho:=r_one_dig (GG m)
 have mk:=r_mk_ok (GG m) 1 false q 1 20000 (some (dig 1000000000 q)) rfl (fun _=>rfl) (by decide) (by omega) (by rw [nl_one];decide) (by decide)
 rw [mkRat_int,show ((sgI false q:Int):Rat)=(((q:Nat):Int):Rat) from rfl] at mk
 have yz:szR (((q:Nat):Int):Rat) 900:=szR_int _ 900 hql (by decide)
 have hmul:=r_Mul_ok (GG m) (((q:Nat):Int):Rat) (((q:Nat):Int):Rat) (szR_mono yz (by decide)) (szR_mono yz (by decide))
 have hcm:=r_Cmp_ok (GG m) ((((q:Nat):Int):Rat)*(((q:Nat):Int):Rat)) t (szR_mono (szR_mul yz yz) (by decide)) (szR_mono hsz (by decide))
 have hcn:cmpR ((((q:Nat):Int):Rat)*(((q:Nat):Int):Rat)) t<0↔q*q*t.den<t.num.natAbs:=by rw [cmpR_neg,natR_mul,natR_lt htn]
 have hi1:=r_Int1_ok m
 have o1:szR 1 900:=szR_int 1 900 (by decide) (by decide)
 have hadd:=r_Add_ok (GG m) (((q:Nat):Int):Rat) 1 (szR_mono yz (by decide)) (szR_mono o1 (by decide))
 rw [natR_add] at hadd
 have yz1:szR (((q+1:Nat):Int):Rat) 902:=szR_int _ 902 (by have:=nl_add q 1;rw [nl_one] at this;show nl (q+1)≤_;omega) (by decide)
 have s20:=r_Shift_ok (GG m) (((q:Nat):Int):Rat) k (szR_mono yz (by decide)) (by omega) (by omega)
 have s21:=r_Shift_ok (GG m) (((q+1:Nat):Int):Rat) k (szR_mono yz1 (by decide)) (by omega) (by omega)
 simp only [nK_rC] at hr ho
 by_cases hup:up=true
 rotate_left
 ·have e:rtU t up=q:=by rw [hM,if_neg (fun h=>hup h.1)]
  rw [e]
  have hup':up=false:=by simpa using hup
  subst hup'
  generalize shiftR (((q:Nat):Int):Rat) k=z at *
  generalize (((q:Nat):Int):Rat)=y at *
  generalize rsg ((n:Int):Rat)=sn at *
  generalize rbot ((n:Int):Rat)=bn at *
  refine CallsP.enc Go.Proofs.Tryz.func129 rfl (fun lv=>rC_dRes lv _ _ _) fun _=>AW.q ?_
  refine AW.seqK fun K hK=>AW.f1 s0 ?_
  refine AW.fn (by simp [s0] <;> omega) (AW.skip (hK _ _ (AW.seqK fun K hK=>AW.rP ?_)))
  simp
  refine CallDo.p 2 9 hl ?_
  simp
  refine CallDo.p 2 9 hhf ?_
  simp
  refine CallDo.p 2 9 hi ?_
  simp [w1,hkd,w2]
  repeat refine and_o ?_
  apply hK
  refine AW.seqK fun K hK=>AW.m2 2 s1 w3 hk2 (hK _ _ ?_)
  refine AW.seqK fun K hK=>AW.rP ?_
  simp [setSeg]
  refine CallDo.p 3 9 hw ?_
  simp [setSeg]
  refine CallDo.p 3 9 hr ?_
  simp
  refine CallDo.p 3 9 ho ?_
  simp
  refine CallDo.p 3 9 mk ?_
  simp [setSeg]
  repeat refine and_o ?_
  apply hK
  refine AW.seqK fun K hK=>AW.seqK fun K1 hK1=>AW.dl0 mixed (hK1 _ _ ?_)
  refine AW.cn (AW.skip (hK _ _ (AW.seqK fun K hK=>AW.m1 4 s20 @setSeg.eq_1 (hK _ _ ?_))))
  exact AW.ret (FinC.ref (k:=1) rfl (by simp) (by simp [setSeg]) rfl)
 subst hup
 by_cases hlt:q*q*t.den<t.num.natAbs
 ·have hc1:=hcn.2 hlt
  have e:rtU t true=q+1:=by rw [hM,if_pos ⟨rfl,hlt⟩]
  rw [e]
  generalize shiftR (((q+1:Nat):Int):Rat) k=z at *
  generalize (((q+1:Nat):Int):Rat)=y1 at *
  generalize cmpR ((((q:Nat):Int):Rat)*(((q:Nat):Int):Rat)) t=cc at *
  generalize (((q:Nat):Int):Rat)*(((q:Nat):Int):Rat)=yy at *
  generalize (((q:Nat):Int):Rat)=y at *
  generalize (1:Rat)=one at *
  generalize rsg ((n:Int):Rat)=sn at *
  generalize rbot ((n:Int):Rat)=bn at *
  refine CallsP.enc Go.Proofs.Tryz.func129 rfl (fun lv=>rC_dRes lv _ _ _) fun _=>AW.q ?_
  refine AW.seqK fun K hK=>AW.f1 s0 ?_
  refine AW.fn (by simp [s0] <;> omega) (AW.skip (hK _ _ (AW.seqK fun K hK=>AW.rP ?_)))
  simp
  refine CallDo.p 2 9 hl ?_
  simp
  refine CallDo.p 2 9 hhf ?_
  simp
  refine CallDo.p 2 9 hi ?_
  simp [w1,hkd,w2]
  repeat refine and_o ?_
  apply hK
  refine AW.seqK fun K hK=>AW.m2 2 s1 w3 hk2 (hK _ _ ?_)
  refine AW.seqK fun K hK=>AW.rP ?_
  simp [setSeg]
  refine CallDo.p 3 9 hw ?_
  simp [setSeg]
  refine CallDo.p 3 9 hr ?_
  simp
  refine CallDo.p 3 9 ho ?_
  simp
  refine CallDo.p 3 9 mk ?_
  simp [setSeg]
  repeat refine and_o ?_
  apply hK
  refine AW.seqK fun K hK=>AW.seqK fun K1 hK1=>?_
  refine AW.drawP mixed (by kernel_rfl) rfl ?_
  simp [setSeg]
  refine CallDo.p 4 9 hmul ?_
  simp [setSeg]
  refine CallDo.p 4 9 hcm ?_
  simp [hc1]
  refine⟨by kernel_rfl,?_⟩
  repeat refine and_o ?_
  apply hK1
  refine AW.fy (by simp [hc1] <;> omega) ?_
  refine AW.drawP mixed (by kernel_rfl) rfl ?_
  simp [setSeg]
  refine CallDo.p 4 9 hi1 ?_
  simp [setSeg]
  refine CallDo.p 4 9 hadd ?_
  simp [setSeg]
  refine⟨by kernel_rfl,?_⟩
  repeat refine and_o ?_
  apply hK
  refine AW.seqK fun K hK=>AW.m1 4 s21 @setSeg.eq_1 (hK _ _ ?_)
  exact AW.ret (FinC.ref (k:=1) rfl (by simp) (by simp [setSeg]) rfl)
 ·have hc1:¬ cmpR ((((q:Nat):Int):Rat)*(((q:Nat):Int):Rat)) t<0:=fun h=>hlt (hcn.1 h)
  have e:rtU t true=q:=by rw [hM,if_neg (fun h=>hlt h.2)]
  rw [e]
  generalize shiftR (((q:Nat):Int):Rat) k=z at *
  generalize cmpR ((((q:Nat):Int):Rat)*(((q:Nat):Int):Rat)) t=cc at *
  generalize (((q:Nat):Int):Rat)*(((q:Nat):Int):Rat)=yy at *
  generalize (((q:Nat):Int):Rat)=y at *
  generalize rsg ((n:Int):Rat)=sn at *
  generalize rbot ((n:Int):Rat)=bn at *
  refine CallsP.enc Go.Proofs.Tryz.func129 rfl (fun lv=>rC_dRes lv _ _ _) fun _=>AW.q ?_
  refine AW.seqK fun K hK=>AW.f1 s0 ?_
  refine AW.fn (by simp [s0] <;> omega) (AW.skip (hK _ _ (AW.seqK fun K hK=>AW.rP ?_)))
  simp
  refine CallDo.p 2 9 hl ?_
  simp
  refine CallDo.p 2 9 hhf ?_
  simp
  refine CallDo.p 2 9 hi ?_
  simp [w1,hkd,w2]
  repeat refine and_o ?_
  apply hK
  refine AW.seqK fun K hK=>AW.m2 2 s1 w3 hk2 (hK _ _ ?_)
  refine AW.seqK fun K hK=>AW.rP ?_
  simp [setSeg]
  refine CallDo.p 3 9 hw ?_
  simp [setSeg]
  refine CallDo.p 3 9 hr ?_
  simp
  refine CallDo.p 3 9 ho ?_
  simp
  refine CallDo.p 3 9 mk ?_
  simp [setSeg]
  repeat refine and_o ?_
  apply hK
  refine AW.seqK fun K hK=>AW.seqK fun K1 hK1=>?_
  refine AW.drawP mixed (by kernel_rfl) rfl ?_
  simp [setSeg]
  refine CallDo.p 4 9 hmul ?_
  simp [setSeg]
  refine CallDo.p 4 9 hcm ?_
  simp [hc1]
  refine⟨by kernel_rfl,?_⟩
  repeat refine and_o ?_
  apply hK1
  refine AW.fn (by simp [hc1] <;> omega) (AW.skip (hK _ _ (AW.seqK fun K hK=>AW.m1 4 s20 @setSeg.eq_1 (hK _ _ ?_))))
  exact AW.ret (FinC.ref (k:=1) rfl (by simp) (by simp [setSeg]) rfl)
theorem r_RootDown_ok (m:Int)(x:Rat)(bits:Int)(h0:0≤x)(hx:szR x 300):CallsP Tryz.prog (GG m) 66 [refV x,.c (.d (.int .i64 bits))] (refV (rootR x bits false)):=by
 have c1:=r_rooted_ok m x bits false h0 hx
 generalize rootR x bits false=z at *
 refine CallsP.enc Go.Proofs.Tryz.func66 rfl (fun lv=>rC_dRes lv _ _ _) fun _=>AW.q ?_
 refine AW.seqK fun K hK=>AW.m1 2 c1 @setSeg.eq_1 (hK _ _ ?_)
 exact AW.ret (FinC.ref (k:=1) rfl (by simp) (by simp [setSeg]) rfl)
theorem r_RootUp_ok (m:Int)(x:Rat)(bits:Int)(h0:0≤x)(hx:szR x 300):CallsP Tryz.prog (GG m) 67 [refV x,.c (.d (.int .i64 bits))] (refV (rootR x bits true)):=by
 have c1:=r_rooted_ok m x bits true h0 hx
 generalize rootR x bits true=z at *
 refine CallsP.enc Go.Proofs.Tryz.func67 rfl (fun lv=>rC_dRes lv _ _ _) fun _=>AW.q ?_
 refine AW.seqK fun K hK=>AW.m1 2 c1 @setSeg.eq_1 (hK _ _ ?_)
 exact AW.ret (FinC.ref (k:=1) rfl (by simp) (by simp [setSeg]) rfl)
end Go.Am
namespace Go.Am
open Go.Am.Ty Go.Proofs N
theorem FinC.riv {c:Ctx}{fn:Func}{t k:Nat}{s:LSt}{κ:Nat}{a:Iv}(hr:c.P=Tryz.prog∧fn.results=#[.cell t 40]) (ht:s.fr t=.c (.ptr k 0))
 (hk:s.lv k=.cells true false 40 [.d (.int .i64 (rsg a.1)),rC (rtop a.1),rC (rbot a.1),.d (.int .i64 (rsg a.2)),rC (rtop a.2),rC (rbot a.2)]):FinC c fn (rivV a) .ret s κ:=
 FinC.cell hr.2 ht hk (by rw [hr.1,List.drop_zero,loadRI])
@[simp] theorem riv_dArg (lv:Key→LB)(s s':Int)(p q p' q':Option (List Nat)):dRes lv (.agg [.d (.int .i64 s),rC p,rC q,.d (.int .i64 s'),rC p',rC q'])=some (.agg [.d (.int .i64 s),rC p,rC q,.d (.int .i64 s'),rC p',rC q'],[]):=by
 simp only [rC_rD];rfl
theorem absR_Q (x:Rat):absR x=absQ x:=by
 unfold absR absQ
 (repeat' split) <;> grind
theorem riv_Has (G:List (List DV))(a:Iv)(x:Rat)(ha:a.sz 20000)(hx:szR x 20000):CallsP Tryz.prog G 35 [rivV a,refV x] (.c (.d (.bool (decide (a.has x))))):=by
 obtain⟨a1,a2⟩:=a
 have c1:=r_Cmp_ok G a1 x ha.1 hx
 have c2:=r_Cmp_ok G x a2 hx ha.2
 have e1:cmpR a1 x≤0↔a1≤x:=cmpR_le
 have e2:cmpR x a2≤0↔x≤a2:=cmpR_le
 by_cases g1:a1≤x
 ·have d1:=e1.2 g1
  by_cases g2:x≤a2
  ·have d2:=e2.2 g2
   rw [show decide (Iv.has (a1,a2) x)=true from decide_eq_true ⟨g1,g2⟩]
   generalize cmpR a1 x=n1 at *
   generalize cmpR x a2=n2 at *
   refine CallsP.en Go.Proofs.Tryz.func35 rfl fun _=>AW.q ?_
   refine AW.sr fun K hK=>?_
   simp
   refine CallDo.p 2 9 c1 ?_
   simp [d1]
   refine CallDo.p 2 9 c2 ?_
   simp [d2]
   repeat refine and_o ?_
   apply hK
   exact AW.r0 (FinP.rt rfl 4 (by simp))
  ·have d2:¬ cmpR x a2≤0:=fun h=>g2 (e2.1 h)
   rw [show decide (Iv.has (a1,a2) x)=false from decide_eq_false fun h=>g2 h.2]
   generalize cmpR a1 x=n1 at *
   generalize cmpR x a2=n2 at *
   refine CallsP.en Go.Proofs.Tryz.func35 rfl fun _=>AW.q ?_
   refine AW.sr fun K hK=>?_
   simp
   refine CallDo.p 2 9 c1 ?_
   simp [d1]
   refine CallDo.p 2 9 c2 ?_
   simp [d2]
   repeat refine and_o ?_
   apply hK
   exact AW.r0 (FinP.rt rfl 4 (by simp))
 ·have d1:¬ cmpR a1 x≤0:=fun h=>g1 (e1.1 h)
  rw [show decide (Iv.has (a1,a2) x)=false from decide_eq_false fun h=>g1 h.1]
  generalize cmpR a1 x=n1 at *
  refine CallsP.en Go.Proofs.Tryz.func35 rfl fun _=>AW.q ?_
  refine AW.c1 2 c1 d1 ?_
  exact AW.r0 (FinP.rt rfl 4 (by simp))
theorem riv_Add (G:List (List DV))(a b:Iv)(ha:a.sz 10000)(hb:b.sz 10000):CallsP Tryz.prog G 20 [rivV a,rivV b] (rivV (a.add b)):=by
 have c1:=r_Add_ok G a.1 b.1 ha.1 hb.1
 have c2:=r_Add_ok G a.2 b.2 ha.2 hb.2
 unfold Iv.add
 generalize a.1+b.1=r1 at *
 generalize a.2+b.2=r2 at *
 refine CallsP.enc Go.Proofs.Tryz.func20 rfl (fun lv=>riv_dArg lv _ _ _ _ _ _) fun _=>AW.q ?_
 refine AW.seqK fun K hK=>?_
 refine AW.drawP mixed (by kernel_rfl) rfl ?_
 simp
 refine CallDo.p 3 9 c1 ?_
 simp
 refine CallDo.p 3 9 c2 ?_
 simp [bRI,setSeg]
 refine⟨by kernel_rfl,?_⟩
 repeat refine and_o ?_
 apply hK
 exact AW.ret (FinC.riv (κ:=0) (t:=4) (k:=2) ⟨rfl,rfl⟩ (by simp) (by simp [setSeg]))
theorem riv_Neg (G:List (List DV))(a:Iv):CallsP Tryz.prog G 16 [rivV a] (rivV a.neg):=by
 have c1:=r_Neg_ok G a.2
 have c2:=r_Neg_ok G a.1
 unfold Iv.neg
 generalize -a.2=r1 at *
 generalize -a.1=r2 at *
 refine CallsP.enc Go.Proofs.Tryz.func16 rfl (fun lv=>riv_dArg lv _ _ _ _ _ _) fun _=>AW.q ?_
 refine AW.seqK fun K hK=>?_
 refine AW.drawP mixed (by kernel_rfl) rfl ?_
 simp
 refine CallDo.p 2 9 c1 ?_
 simp
 refine CallDo.p 2 9 c2 ?_
 simp [bRI,setSeg]
 refine⟨by kernel_rfl,?_⟩
 repeat refine and_o ?_
 apply hK
 exact AW.ret (FinC.riv (κ:=0) (t:=2) (k:=1) ⟨rfl,rfl⟩ (by simp) (by simp [setSeg]))
theorem sub_neg (a b:Iv):a.sub b=a.add b.neg:=by
 unfold Iv.sub Iv.add Iv.neg;rw [Rat.sub_eq_add_neg,Rat.sub_eq_add_neg]
theorem riv_Sub (G:List (List DV))(a b:Iv)(ha:a.sz 10000)(hb:b.sz 10000):CallsP Tryz.prog G 22 [rivV a,rivV b] (rivV (a.sub b)):=by
 have c1:=riv_Neg G b
 have c2:=riv_Add G a b.neg ha ⟨szR_neg hb.2,szR_neg hb.1⟩
 rw [sub_neg]
 generalize a.add b.neg=r at *
 generalize b.neg=u at *
 refine CallsP.enc Go.Proofs.Tryz.func22 rfl (fun lv=>riv_dArg lv _ _ _ _ _ _) fun _=>AW.q ?_
 refine AW.seqK fun K hK=>?_
 refine AW.drawP mixed (by kernel_rfl) rfl ?_
 simp
 refine CallDo.p 3 9 c1 ?_
 simp
 refine CallDo.p 3 9 c2 ?_
 simp [setSeg]
 refine⟨by kernel_rfl,?_⟩
 repeat refine and_o ?_
 apply hK
 exact AW.ret (FinC.riv (κ:=0) (t:=4) (k:=2) ⟨rfl,rfl⟩ (by simp) (by simp [setSeg]))
theorem riv_Size (G:List (List DV))(a:Iv)(ha:a.sz 20000):CallsP Tryz.prog G 38 [rivV a] (refV a.size):=by
 have c1:=r_Abs_ok G a.1
 have c2:=r_Abs_ok G a.2
 rw [absR_Q] at c1 c2
 have c3:=r_Max_ok G _ _ (szR_ab ha.1) (szR_ab ha.2)
 unfold Iv.size
 generalize maxR (absQ a.1) (absQ a.2)=r at *
 generalize absQ a.1=r1 at *
 generalize absQ a.2=r2 at *
 refine CallsP.enc Go.Proofs.Tryz.func38 rfl (fun lv=>rC_dRes lv _ _ _) fun _=>AW.q ?_
 refine AW.seqK fun K hK=>?_
 refine AW.drawP mixed (by kernel_rfl) rfl ?_
 simp
 refine CallDo.p 2 9 c1 ?_
 simp
 refine CallDo.p 2 9 c2 ?_
 simp
 refine CallDo.p 2 9 c3 ?_
 simp [setSeg]
 refine⟨by kernel_rfl,?_⟩
 repeat refine and_o ?_
 apply hK
 exact AW.ret (FinC.ref (κ:=0) (k:=1) rfl (by simp) (by simp [setSeg]) rfl)
theorem riv_Near (G:List (List DV))(a:Iv)(ha:a.sz 20000):CallsP Tryz.prog G 40 [rivV a] (refV a.near):=by
 have c1:=r_Abs_ok G a.1
 have c2:=r_Abs_ok G a.2
 rw [absR_Q] at c1 c2
 have c3:=r_Min_ok G _ _ (szR_ab ha.1) (szR_ab ha.2)
 have ch:=riv_Has G a 0 ha (szR_zero' _ (by decide))
 have bz:buildA Tryz.prog 38 [] []=some (refV 0,[],[],True):=bR0
 by_cases h0:a.has 0
 ·have e:a.near=0:=if_pos h0
  rw [decide_eq_true h0] at ch
  rw [e]
  generalize (0:Rat)=o at *
  refine CallsP.enc Go.Proofs.Tryz.func40 rfl (fun lv=>rC_dRes lv _ _ _) fun _=>AW.q ?_
  refine AW.seqK fun K hK=>AW.seqK fun K1 hK1=>AW.rP ?_
  simp [bz]
  refine CallDo.p 2 9 ch ?_
  simp [bz]
  repeat refine and_o ?_
  apply hK1
  refine AW.cy (AW.seqK fun K1 hK1=>AW.rP ?_)
  simp [bz]
  repeat refine and_o ?_
  apply hK1
  exact AW.ret (FinC.ref (κ:=0) (k:=1) rfl (by simp) (by simp [setSeg]) rfl)
 ·have e:a.near=minR (absQ a.1) (absQ a.2):=if_neg h0
  rw [decide_eq_false h0] at ch
  rw [e]
  generalize (0:Rat)=o at *
  generalize minR (absQ a.1) (absQ a.2)=r at *
  generalize absQ a.1=r1 at *
  generalize absQ a.2=r2 at *
  refine CallsP.enc Go.Proofs.Tryz.func40 rfl (fun lv=>rC_dRes lv _ _ _) fun _=>AW.q ?_
  refine AW.seqK fun K hK=>AW.c1 2 ch bz ?_
  refine AW.cn (AW.skip (hK _ _ (AW.seqK fun K hK=>?_)))
  refine AW.drawP mixed (by kernel_rfl) rfl ?_
  simp
  refine CallDo.p 2 9 c1 ?_
  simp
  refine CallDo.p 2 9 c2 ?_
  simp
  refine CallDo.p 2 9 c3 ?_
  simp [setSeg]
  refine⟨by kernel_rfl,?_⟩
  repeat refine and_o ?_
  apply hK
  exact AW.ret (FinC.ref (κ:=0) (k:=1) rfl (by simp) (by simp [setSeg]) rfl)
theorem riv_Abs (G:List (List DV))(a:Iv)(ha:a.sz 20000):CallsP Tryz.prog G 18 [rivV a] (rivV a.abs):=by
 have c1:=riv_Near G a ha
 have c2:=riv_Size G a ha
 unfold Iv.abs
 generalize a.near=r1 at *
 generalize a.size=r2 at *
 refine CallsP.enc Go.Proofs.Tryz.func18 rfl (fun lv=>riv_dArg lv _ _ _ _ _ _) fun _=>AW.q ?_
 refine AW.seqK fun K hK=>?_
 refine AW.drawP mixed (by kernel_rfl) rfl ?_
 simp
 refine CallDo.p 2 9 c1 ?_
 simp
 refine CallDo.p 2 9 c2 ?_
 simp [bRI,setSeg]
 refine⟨by kernel_rfl,?_⟩
 repeat refine and_o ?_
 apply hK
 exact AW.ret (FinC.riv (κ:=0) (t:=2) (k:=1) ⟨rfl,rfl⟩ (by simp) (by simp [setSeg]))
theorem riv_Out (m:Int)(a:Iv)(bits:Int)(ha:a.sz 300):CallsP Tryz.prog (GG m) 31 [rivV a,.c (.d (.int .i64 bits))] (rivV (downR a.1 bits,upR a.2 bits)):=by
 have c1:=r_Down_ok m a.1 bits ha.1
 have c2:=r_Up_ok m a.2 bits ha.2
 generalize downR a.1 bits=r1 at *
 generalize upR a.2 bits=r2 at *
 refine CallsP.enc Go.Proofs.Tryz.func31 rfl (fun lv=>riv_dArg lv _ _ _ _ _ _) fun _=>AW.q ?_
 refine AW.seqK fun K hK=>?_
 refine AW.drawP mixed (by kernel_rfl) rfl ?_
 simp
 refine CallDo.p 2 9 c1 ?_
 simp
 refine CallDo.p 2 9 c2 ?_
 simp [bRI,setSeg]
 refine⟨by kernel_rfl,?_⟩
 repeat refine and_o ?_
 apply hK
 exact AW.ret (FinC.riv (κ:=0) (t:=4) (k:=1) ⟨rfl,rfl⟩ (by simp) (by simp [setSeg]))
theorem riv_Meet (G:List (List DV))(a b:Iv)(ha:a.sz 20000)(hb:b.sz 20000):CallsP Tryz.prog G 26 [rivV a,rivV b] (.tup [rivV (fromI (a.meet b).1 (a.meet b).2),.c (.d (.bool (decide ((a.meet b).1≤(a.meet b).2))))]):=by
 have c1:=r_Max_ok G a.1 b.1 ha.1 hb.1
 have c2:=r_Min_ok G a.2 b.2 ha.2 hb.2
 have c3:=riv_From G (a.meet b).1 (a.meet b).2 (szR_max ha.1 hb.1) (szR_min ha.2 hb.2)
 have e:((if (a.meet b).1≤(a.meet b).2 then (0:Int) else 7)=0)↔(a.meet b).1≤(a.meet b).2:=by split <;> simp_all
 have key:∀ (r1 r2:Rat) (r:Iv) (n:Int) (bb:Bool),CallsP Tryz.prog G 80 [refV a.1,refV b.1] (refV r1)→CallsP Tryz.prog G 81 [refV a.2,refV b.2] (refV r2) →
  CallsP Tryz.prog G 56 [refV r1,refV r2] (.tup [rivV r,.c (.d (.int .i64 n))])→decide (n=0)=bb→CallsP Tryz.prog G 26 [rivV a,rivV b] (.tup [rivV r,.c (.d (.bool bb))]):=by
  intro r1 r2 r n bb c1 c2 c3 hb
  subst hb
  refine CallsP.enc Go.Proofs.Tryz.func26 rfl (fun lv=>riv_dArg2 lv _ _ _ _ _ _ _ rfl) fun _=>AW.q ?_
  refine AW.seqK fun K hK=>?_
  refine AW.drawP mixed (by kernel_rfl) rfl ?_
  simp
  refine CallDo.p 3 9 c1 ?_
  simp
  refine CallDo.p 3 9 c2 ?_
  simp
  refine CallDo.p 3 9 c3 ?_
  simp [setSeg]
  refine⟨by kernel_rfl,?_⟩
  repeat refine and_o ?_
  apply hK
  refine AW.seqK fun K hK=>AW.l1 @setSeg.eq_1 (hK _ _ ?_)
  exact AW.ret (FinC.riv2 (κ:=0) (t:=4) (k:=2) (u:=5) ⟨rfl,rfl⟩ (by simp) (by simp [setSeg]) (by simp))
 exact key _ _ _ _ _ c1 c2 c3 (decide_eq_decide.2 e)
theorem r_quo_ok (G:List (List DV))(x y:Rat)(hx:szR x 10000)(hy:szR y 10000):CallsP Tryz.prog G 62 [refV x,refV y] (refV (x / y)):=by
 have c1:=r_QuoA_ok G x y hx hy
 generalize x / y=z at *
 generalize (if y=0 then (8:Int) else 0)=e at *
 refine CallsP.enc Go.Proofs.Tryz.func62 rfl (fun lv=>rC_dRes lv _ _ _) fun _=>AW.q ?_
 refine AW.seqK fun K hK=>AW.m1 3 c1 @setSeg.eq_1 (hK _ _ ?_)
 refine AW.seqK fun K hK=>AW.l1 @setSeg.eq_1 (hK _ _ ?_)
 exact AW.ret (FinC.ref (κ:=0) (k:=2) rfl (by simp) (by simp [setSeg]) rfl)
theorem r_Point_ok (G:List (List DV))(x:Rat):CallsP Tryz.prog G 126 [refV x] (rivV (x,x)):=by
 refine CallsP.enc Go.Proofs.Tryz.func126 rfl (fun lv=>riv_dArg lv _ _ _ _ _ _) fun _=>AW.q ?_
 refine AW.seqK fun K hK=>AW.l2 @bRI @setSeg.eq_1 (hK _ _ ?_)
 exact AW.ret (FinC.riv (κ:=0) (t:=2) (k:=1) ⟨rfl,rfl⟩ (by simp) (by simp [setSeg]))
def rnumD (x:Rat):List DV:=[.int .i64 (rsg x),rD (rtop x),rD (rbot x)]
abbrev rnumsA (l:List Rat):AV:=.c (.d (.sl (l.map rnumD)))
theorem lpRN (l:List Rat)(lv:Key→LB):lenP Tryz.prog 106 lv (rnumsA l)=some (.c (.d (.int .i64 l.length)),[],[],True):=by
 simp [lenP,lenA,keyOf]
theorem ixRN (l:List Rat)(lv:Key→LB)(i:Nat)(x:Rat)(h:l[i]?=some x):stepIndexAddr Tryz.prog 106 lv (rnumsA l) (.c (.d (.int .i64 (i:Int))))=some (.c (.d (.ptr (rnumD x))),[],[],True):=by
 obtain⟨hi,e⟩:=List.getElem?_eq_some_iff.1 h
 have hi':(i:Int)<(l.length:Int):=by omega
 simp [hi,e,rnumD]
theorem r_hull_ok (G:List (List DV))(l:List Rat)(x0:Rat)(h0:l[0]?=some x0)(hn:l.length≤1000)(hs:∀ x∈l,szR x 20000) :
 CallsP Tryz.prog G 61 [rnumsA l] (rivV (minL (l.drop 1) x0,maxL (l.drop 1) x0)):=by
 have hl:0<l.length:=(List.getElem?_eq_some_iff.1 h0).1
 have c0:=r_Point_ok G x0
 have hix0:∀ lv,stepIndexAddr Tryz.prog 106 lv (rnumsA l) (.c (.d (.int .i64 0)))=some (.c (.d (.ptr (rnumD x0))),[],[],True):=fun lv=>ixRN l lv 0 x0 h0
 generalize hR:minL (l.drop 1) x0=R
 generalize hS:maxL (l.drop 1) x0=S
 refine CallsP.enc Go.Proofs.Tryz.func61 rfl (fun lv=>riv_dArg lv _ _ _ _ _ _) fun _=>AW.q ?_
 refine AW.seqK fun K hK=>AW.rP ?_
 simp [hix0,rnumD,← rC_rD]
 refine CallDo.p 1 9 c0 ?_
 simp [setSeg]
 repeat refine and_o ?_
 apply hK
 refine AW.seqK fun K hK=>AW.seqK fun K1 hK1=>AW.rP ?_
 simp
 repeat refine and_o ?_
 apply hK1
 refine AW.block ?_
 refine AW.loopV (fun (p:Nat × Rat × Rat)=>⟨frOf [(0,rnumsA l),(2,.c (.ptr 0 0)),(3,.c (.ptr 1 0)),(4,.c (.d (.int .i64 (p.1:Int))))],
  upd (upd (fun _=>.hole) 0 (.cells true false 40 [.d (.int .i64 0),.d .nilsl,.d .nilsl,.d (.int .i64 0),.d .nilsl,.d .nilsl])) 1 (.cells true false 40 [.d (.int .i64 (rsg p.2.1)),rC (rtop p.2.1),rC (rbot p.2.1),.d (.int .i64 (rsg p.2.2)),rC (rtop p.2.2),rC (rbot p.2.2)])⟩) 2
  (fun p=>1≤p.1∧p.1≤l.length∧szR p.2.1 20000∧szR p.2.2 20000∧minL (l.drop p.1) p.2.1=R∧maxL (l.drop p.1) p.2.2=S) (fun p=>l.length - p.1) (1,x0,x0) (Le.mk2 _) ⟨Nat.le_refl _,hl,hs _ (List.mem_of_getElem? h0),hs _ (List.mem_of_getElem? h0),hR,hS⟩ ?_
 rintro⟨i,u,v⟩ ⟨h1,h2,h3,h4,h5,h6⟩
 simp only at h1 h2 h3 h4 h5 h6
 refine AW.seqK fun K2 hK2=>AW.f1 @lpRN ?_
 by_cases hlt:i<l.length
 ·have hlt':(i:Int)<(l.length:Int):=by omega
  obtain⟨x,hx⟩:∃ x,l[i]?=some x:=⟨_,List.getElem?_eq_getElem hlt⟩
  have hxs:=hs _ (List.mem_of_getElem? hx)
  have hix:=fun lv=>ixRN l lv i x hx
  have k1:=r_Min_ok G u x h3 hxs
  have k2:=r_Max_ok G v x h4 hxs
  have f12:=w64 (n:=(i:Int)+1) (by omega) (by omega)
  have z1:=szR_min h3 hxs
  have z2:=szR_max h4 hxs
  have e1:minL (l.drop (i+1)) (minR u x)=R:=by rw [minR_comm,← minL_drop hx];exact h5
  have e2:maxL (l.drop (i+1)) (maxR v x)=S:=by rw [← maxL_drop hx];exact h6
  generalize minR u x=u1 at *
  generalize maxR v x=v1 at *
  refine AW.fy (by simp [hlt'] <;> omega) (AW.skip (hK2 _ _ (AW.seqK fun K4 hK4=>AW.block ?_)))
  refine AW.drawP mixed (by kernel_rfl) rfl ?_
  simp [hix,rnumD,← rC_rD]
  refine CallDo.p 2 9 k1 ?_
  simp [hix,rnumD,← rC_rD]
  refine CallDo.p 2 9 k2 ?_
  simp [bRI,setSeg]
  refine⟨by kernel_rfl,?_⟩
  repeat refine and_o ?_
  apply hK4
  refine AW.rP ?_
  simp [f12]
  exact⟨i+1,u1,v1,Le.mk2 _ (by simp [setSeg]),⟨by omega,by omega,z1,z2,e1,e2⟩,by omega⟩
 ·have hlt':¬ (i:Int)<(l.length:Int):=by omega
  have hd:l.drop i=[]:=List.drop_eq_nil_of_le (by omega)
  rw [hd] at h5 h6
  have h5:u=R:=h5
  have h6:v=S:=h6
  refine AW.fn (by simp [hlt'] <;> omega) (AW.exit (hK _ _ (AW.seqK fun K hK=>AW.l1 @setSeg.eq_1 (hK _ _ ?_))))
  subst h5
  subst h6
  exact AW.ret (FinC.riv (κ:=0) (t:=2) (k:=0) ⟨rfl,rfl⟩ (by simp) (by simp [setSeg]))
@[simp] theorem sp_pure (a b:List UInt8):(AV.agg [.d (.str a),.d (.str b)]).pure=true:=rfl
@[simp] theorem scC_pure' (o:Option (List (List DV))):(AV.c (scC o)).pure=true:=by cases o <;> rfl
@[simp] theorem scC_ren' (o:Option (List (List DV)))(g:Key→Key):(scC o).ren g=scC o:=by cases o <;> rfl
@[simp] theorem scC_flat1' (o:Option (List (List DV))):(AV.c (scC o)).flat1=true:=by cases o <;> rfl
@[simp] theorem scC_noTup (o:Option (List (List DV))):(AV.c (scC o)).noTup=true:=rfl
def Iv.z (a:Iv):Prop:=szR a.1 300∧szR a.2 300
@[simp] theorem scT_pure (o:Option (List (List DV)))(n:DV):(AV.tup [AV.c (scC o),AV.c (.d n)]).pure=true:=by cases o <;> rfl
theorem r_Sign_ok (G:List (List DV))(x:Rat):CallsP Tryz.prog G 65 [refV x] (.c (.d (.int .i64 (rsg x)))):=by
 refine CallsP.en Go.Proofs.Tryz.func65 rfl fun _=>AW.q ?_
 refine AW.q ?_
 exact AW.r0 (FinP.rt rfl 2 (by simp))
theorem r_hull4 (G:List (List DV))(w x y z:Rat)(h1:szR w 20000)(h2:szR x 20000)(h3:szR y 20000)(h4:szR z 20000) :
 CallsP Tryz.prog G 61 [rnumsA [w,x,y,z]] (rivV (hull4 w x y z)):=by
 have hs:∀ u∈[w,x,y,z],szR u 20000:=by
  intro u hu
  simp only [List.mem_cons,List.not_mem_nil,or_false] at hu
  rcases hu with rfl|rfl|rfl|rfl <;> assumption
 have c1:=r_hull_ok G [w,x,y,z] w rfl (by simp) hs
 rw [← hull_minL]
 exact c1
theorem CallDo.frzR4 {c:Ctx}{f:FuncId}{lv:Key→LB}{K:AV→List (Key × LB)→List Key→Nat→Prop}(κ' kh κb:Key) {T:TypeId}{w x y z:Rat}{X:AV}
 (hk:lv κb=.cells true false T (((rnumD w++rnumD x)++(rnumD y++rnumD z)).map CV.d)) (hc:CallsP c.P c.G f [rnumsA [w,x,y,z]] X) (hX:X.pure=true) (hh:lv kh=.hole) (hkh:kh≠κb)
 (hK:K X [(κb,.cells true true T (((rnumD w++rnumD x)++(rnumD y++rnumD z)).map CV.d))] [kh] κ'):CallDo c f [.c (.lsl κb 0 4 3)] lv K:=by
 refine CallDo.frz κ' kh κb T _ [kh] hc hX hk hh hkh rfl (fun i p q=>?_) (fun a ha j hj=>?_) (by simp) hK
 ·have hi:i=0:=by simp at p;omega
  subst hi
  right
  simp only [List.getElem_cons_zero,dArg,toDV,upd_same]
  rfl
 ·simp only [List.mem_singleton] at ha;subst ha
  simp only [rdA,rdK,List.mem_cons,upd_same] at hj
  rcases hj with rfl|hj
  ·exact .inr rfl
  ·simp only [List.mem_flatMap] at hj
   obtain⟨y,hy,hj⟩:=hj
   simp only [List.mem_map] at hy
   obtain⟨z,_,rfl⟩:=hy
   cases hj
theorem fillR4 (a b c d e f g h i j k l:CV):fillA (fun i=>some (i*3,3)) (repl 4 [.d (.int .i64 0),.d .nilsl,.d .nilsl]) [(0,.agg [a,b,c]),(1,.agg [d,e,f]),(2,.agg [g,h,i]),(3,.agg [j,k,l])]=some [a,b,c,d,e,f,g,h,i,j,k,l]:=by kernel_rfl
theorem hull_join {a b:Iv}(la:a.1≤a.2) (lb:b.1≤b.2):hull4 a.1 a.2 b.1 b.2=a.join b:=by
 simp only [hull4,Iv.join,minR,maxR,Prod.mk.injEq]
 constructor <;> grind
theorem hull_swap (w x y z:Rat):hull4 w x y z=hull4 x w z y:=by
 simp only [hull4,minR,maxR,Prod.mk.injEq]
 constructor <;> grind
theorem riv_Join (G:List (List DV))(a b:Iv)(ha:a.sz 20000)(hb:b.sz 20000)(la:a.1≤a.2)(lb:b.1≤b.2):CallsP Tryz.prog G 29 [rivV a,rivV b] (rivV (a.join b)):=by
 have hh:=r_hull4 G a.1 a.2 b.1 b.2 ha.1 ha.2 hb.1 hb.2
 rw [hull_join la lb] at hh
 generalize a.join b=r at *
 refine CallsP.enc Go.Proofs.Tryz.func29 rfl (fun lv=>riv_dArg lv _ _ _ _ _ _) fun _=>AW.q ?_
 refine AW.seqK fun K hK=>AW.rP ?_
 simp [fillR4]
 refine CallDo.frzR4 (T:=38) 4 9 3 (w:=a.1) (x:=a.2) (y:=b.1) (z:=b.2) ?_ hh ?_ ?_ ?_ ?_
 ·simp [rnumD,rC_rD]
 ·simp
 ·simp
 ·decide
 simp [setSeg]
 repeat refine and_o ?_
 apply hK
 exact AW.ret (FinC.riv (κ:=0) (t:=4) (k:=2) ⟨rfl,rfl⟩ (by simp) (by simp [setSeg]))
theorem riv_Mul (G:List (List DV))(a b:Iv)(ha:a.sz 5000)(hb:b.sz 5000):CallsP Tryz.prog G 24 [rivV a,rivV b] (rivV (a.mul b)):=by
 have u:∀ {x:Rat},szR x 5000→szR x 10000:=fun h=>szR_mono h (by decide)
 have v:∀ {x y:Rat},szR x 5000→szR y 5000→szR (x*y) 20000:=fun h h'=>szR_mono (szR_mul h h') (by decide)
 have m1:=r_Mul_ok G a.1 b.1 (u ha.1) (u hb.1)
 have m2:=r_Mul_ok G a.1 b.2 (u ha.1) (u hb.2)
 have m3:=r_Mul_ok G a.2 b.1 (u ha.2) (u hb.1)
 have m4:=r_Mul_ok G a.2 b.2 (u ha.2) (u hb.2)
 have hh:=r_hull4 G _ _ _ _ (v ha.1 hb.1) (v ha.1 hb.2) (v ha.2 hb.1) (v ha.2 hb.2)
 change CallsP _ _ _ _ (rivV (a.mul b)) at hh
 generalize a.mul b=r at *
 generalize a.1*b.1=u1 at *
 generalize a.1*b.2=u2 at *
 generalize a.2*b.1=u3 at *
 generalize a.2*b.2=u4 at *
 refine CallsP.enc Go.Proofs.Tryz.func24 rfl (fun lv=>riv_dArg lv _ _ _ _ _ _) fun _=>AW.q ?_
 refine AW.seqK fun K hK=>?_
 refine AW.drawP mixed (by kernel_rfl) rfl ?_
 simp
 refine CallDo.p 3 9 m1 ?_
 simp
 refine CallDo.p 3 9 m2 ?_
 simp
 refine CallDo.p 3 9 m3 ?_
 simp
 refine CallDo.p 3 9 m4 ?_
 simp [fillR4]
 refine CallDo.frzR4 (T:=38) 4 9 3 (w:=u1) (x:=u2) (y:=u3) (z:=u4) ?_ hh ?_ ?_ ?_ ?_
 ·simp [rnumD,rC_rD]
 ·simp
 ·simp
 ·decide
 simp [setSeg]
 refine⟨by kernel_rfl,?_⟩
 repeat refine and_o ?_
 apply hK
 exact AW.ret (FinC.riv (κ:=0) (t:=4) (k:=2) ⟨rfl,rfl⟩ (by simp) (by simp [setSeg]))
theorem riv_Quo (G:List (List DV))(a b:Iv)(ha:a.sz 5000)(hb:b.sz 5000):CallsP Tryz.prog G 11 [rivV a,rivV b] (.tup [rivV (quoI a b),.c (.d (.int .i64 (if b.has 0 then 8 else 0)))]):=by
 have u:∀ {x:Rat},szR x 5000→szR x 10000:=fun h=>szR_mono h (by decide)
 have v:∀ {x y:Rat},szR x 5000→szR y 5000→szR (x / y) 20000:=fun h h'=>szR_mono (szR_div h h') (by decide)
 have k2:=riv_Has G b 0 (Iv.sz_mono hb (by decide)) (szR_zero' _ (by decide))
 have bz:buildA Tryz.prog 38 [] []=some (refV 0,[],[],True):=bR0
 by_cases h0:b.has 0
 ·rw [if_pos h0,show quoI a b=(0,0) from if_pos h0]
  rw [decide_eq_true h0] at k2
  have bz2:buildA Tryz.prog 40 [] []=some (rivV (0,0),[],[],True):=bRI0
  generalize hz:((0:Rat),(0:Rat))=z at *
  generalize (0:Rat)=o at *
  refine CallsP.enc Go.Proofs.Tryz.func11 rfl (fun lv=>riv_dArg2 lv _ _ _ _ _ _ _ rfl) fun _=>AW.q ?_
  refine AW.seqK fun K hK=>AW.c1 3 k2 bz ?_
  refine AW.cy (AW.f1 bz2 ?_)
  exact AW.ret (FinC.riv2 (κ:=0) (t:=4) (k:=2) (u:=5) ⟨rfl,rfl⟩ (by simp) (by simp [setSeg]) (by simp))
 ·rw [if_neg h0,show quoI a b=a.quo b from if_neg h0]
  rw [decide_eq_false h0] at k2
  have m1:=r_quo_ok G a.1 b.1 (u ha.1) (u hb.1)
  have m2:=r_quo_ok G a.1 b.2 (u ha.1) (u hb.2)
  have m3:=r_quo_ok G a.2 b.1 (u ha.2) (u hb.1)
  have m4:=r_quo_ok G a.2 b.2 (u ha.2) (u hb.2)
  have hh:=r_hull4 G _ _ _ _ (v ha.1 hb.1) (v ha.1 hb.2) (v ha.2 hb.1) (v ha.2 hb.2)
  have hq:hull4 (a.1 / b.1) (a.1 / b.2) (a.2 / b.1) (a.2 / b.2)=a.quo b:=by
   unfold Iv.quo Iv.mul
   simp only [mul_one_div]
   rw [hull_swap]
  rw [hq] at hh
  generalize a.quo b=r at *
  generalize a.1 / b.1=u1 at *
  generalize a.1 / b.2=u2 at *
  generalize a.2 / b.1=u3 at *
  generalize a.2 / b.2=u4 at *
  generalize (0:Rat)=o at *
  refine CallsP.enc Go.Proofs.Tryz.func11 rfl (fun lv=>riv_dArg2 lv _ _ _ _ _ _ _ rfl) fun _=>AW.q ?_
  refine AW.seqK fun K hK=>AW.c1 3 k2 bz ?_
  refine AW.cn (AW.skip (hK _ _ (AW.seqK fun K hK=>?_)))
  refine AW.drawP mixed (by kernel_rfl) rfl ?_
  simp
  refine CallDo.p 3 9 m1 ?_
  simp
  refine CallDo.p 3 9 m2 ?_
  simp
  refine CallDo.p 3 9 m3 ?_
  simp
  refine CallDo.p 3 9 m4 ?_
  simp [fillR4]
  refine CallDo.frzR4 (T:=38) 4 9 3 (w:=u1) (x:=u2) (y:=u3) (z:=u4) ?_ hh ?_ ?_ ?_ ?_
  ·simp [rnumD,rC_rD]
  ·simp
  ·simp
  ·decide
  simp [setSeg]
  refine⟨by kernel_rfl,?_⟩
  repeat refine and_o ?_
  apply hK
  exact AW.ret (FinC.riv2 (κ:=0) (t:=4) (k:=2) (u:=5) ⟨rfl,rfl⟩ (by simp) (by simp [setSeg]) (by simp))
theorem riv_Sqrt (m:Int)(a:Iv)(bits:Int)(la:a.1≤a.2)(h1:szR a.1 300)(h2:szR a.2 300):CallsP Tryz.prog (GG m) 13 [rivV a,.c (.d (.int .i64 bits))] (.tup [rivV (sqI a bits),.c (.d (.int .i64 (rtE a.1)))]):=by
 have c0:=r_Sign_ok (GG m) a.1
 have hs:rsg a.1<0↔a.1<0:=by
  rw [← Rat.not_le,← Rat.num_nonneg];unfold rsg;omega
 unfold sqI
 by_cases h:a.1<0
 ·rw [if_pos h,show rtE a.1=9 from if_pos h]
  have hs1:=hs.2 h
  have bz2:buildA Tryz.prog 40 [] []=some (rivV (0,0),[],[],True):=bRI0
  refine CallsP.enc Go.Proofs.Tryz.func13 rfl (fun lv=>riv_dArg2 lv _ _ _ _ _ _ _ rfl) fun _=>AW.q ?_
  refine AW.seqK fun K hK=>AW.c1 2 c0 hs1 ?_
  refine AW.fy (by simp [hs1] <;> omega) (AW.f1 bz2 ?_)
  exact AW.ret (FinC.riv2 (κ:=0) (t:=4) (k:=1) (u:=5) ⟨rfl,rfl⟩ (by simp) (by simp [setSeg]) (by simp))
 ·rw [if_neg h,show rtE a.1=0 from if_neg h]
  have hs1:¬ rsg a.1<0:=fun h'=>h (hs.1 h')
  have c1:=r_RootDown_ok m a.1 bits (Rat.not_lt.1 h) h1
  have c2:=r_RootUp_ok m a.2 bits (Rat.le_trans (Rat.not_lt.1 h) la) h2
  generalize rootR a.1 bits false=r1 at *
  generalize rootR a.2 bits true=r2 at *
  refine CallsP.enc Go.Proofs.Tryz.func13 rfl (fun lv=>riv_dArg2 lv _ _ _ _ _ _ _ rfl) fun _=>AW.q ?_
  refine AW.seqK fun K hK=>AW.c1 2 c0 hs1 ?_
  refine AW.fn (by simp [hs1] <;> omega) (AW.skip (hK _ _ (AW.seqK fun K hK=>?_)))
  refine AW.drawP mixed (by kernel_rfl) rfl ?_
  simp
  refine CallDo.p 2 9 c1 ?_
  simp
  refine CallDo.p 2 9 c2 ?_
  simp [bRI,setSeg]
  refine⟨by kernel_rfl,?_⟩
  repeat refine and_o ?_
  apply hK
  exact AW.ret (FinC.riv2 (κ:=0) (t:=4) (k:=1) (u:=5) ⟨rfl,rfl⟩ (by simp) (by simp [setSeg]) (by simp))
end Go.Am
namespace Go.Am
open Go.Proofs
theorem SpecOK.more {P:Program}{G:List (List DV)}{sp:Tb Spec}{ft:TypeId}(h:SpecOK P G sp ft) (f0:Nat) (g0:List AV→Option AV) (hg:∀ us x,g0 us=some x→∀ lv,AllOk lv→CallG P G f0 us lv (.ret x lv)):SpecOK P G (setS f0 (.pure g0) sp) ft where
 pure:=by
  intro f g us x hf hx lv ho
  rw [setS_get] at hf
  split at hf
  ·rename_i e;subst e;cases hf;exact hg us x hx lv ho
  ·exact h.pure f g us x hf hx lv ho
 caughtR:=by
  intro f hf
  rw [setS_get] at hf
  split at hf
  ·cases hf
  ·exact h.caughtR f hf
 caughtP:=by
  intro f hf
  rw [setS_get] at hf
  split at hf
  ·cases hf
  ·exact h.caughtP f hf
 selfN:=by
  intro f T hf
  rw [setS_get] at hf
  split at hf
  ·cases hf
  ·exact h.selfN f T hf
 selfP:=by
  intro f T hf
  rw [setS_get] at hf
  split at hf
  ·cases hf
  ·exact h.selfP f T hf
end Go.Am
namespace Go.Am
open Go.Proofs N
def unD:List (List DV)→Option (List Nat)
 | []=>some []
 | e::l=>match e with
  | [.int .u32 (.ofNat n)]=>(unD l).map (n::·)
  | _=>none
theorem unD_ok:∀ {es:List (List DV)}{l:List Nat},unD es=some l→es=dK .u32 l
 | [],l,h=>by cases h;rfl
 | e::es,l,h=>by
  unfold unD at h
  split at h
  ·obtain⟨m,hm,rfl⟩:=Option.map_eq_some_iff.1 h
   rw [unD_ok hm];rfl
  ·cases h
def unK:AV→Option (Option (List Nat))
 | .c (.d .nilsl)=>some none
 | .c (.d (.sl es))=>(unD es).map some
 | _=>none
theorem unK_ok {x:AV}{o:Option (List Nat)}(h:unK x=some o):x=nK .u32 o:=by
 unfold unK at h
 split at h
 ·cases h;rfl
 ·obtain⟨m,hm,rfl⟩:=Option.map_eq_some_iff.1 h
  rw [unD_ok hm];rfl
 ·cases h
def canB:List Nat→Bool
 | []=>true
 | d::l=>Nat.blt d 4294967296 && (match l with|[]=>Nat.blt 0 d|_=>true) && canB l
theorem canB_ok:∀ {l:List Nat},canB l=true→can 4294967296 l
 | [],_=>⟨fun d h=>by (cases h),fun x h=>by (cases h)⟩
 | d::l,h=>by
  simp only [canB,Bool.and_eq_true] at h
  obtain⟨⟨h1,h2⟩,h3⟩:=h
  obtain⟨g1,g2⟩:=canB_ok h3
  refine⟨ok_cons.2 ⟨Nat.le_of_ble_eq_true h1,g1⟩,fun x hx=>?_⟩
  cases l with
  | nil=>
   have:d=x:=by simpa using hx
   have h2':0<d:=Nat.le_of_ble_eq_true h2
   omega
  | cons e l=>exact g2 x (by simpa using hx)
def nOK (o:Option (List Nat)):Bool:=canB (dO o) && Nat.ble (dO o).length 1000000
theorem nOK_ok {o:Option (List Nat)}(h:nOK o=true):can 4294967296 (dO o)∧(dO o).length≤1000000:=by
 simp only [nOK,Bool.and_eq_true] at h
 exact⟨canB_ok h.1,Nat.le_of_ble_eq_true h.2⟩
def numA (x:AV):Option (Option (List Nat)):=(unK x).bind fun o=>bif nOK o then some o else none
theorem numA_ok {x:AV}{o:Option (List Nat)}(h:numA x=some o):x=nK .u32 o∧can 4294967296 (dO o)∧(dO o).length≤1000000:=by
 obtain⟨o',h1,h2⟩:=Option.bind_eq_some_iff.1 h
 cases hb:nOK o' with
 | false=>rw [hb] at h2;cases h2
 | true=>
  rw [hb] at h2
  simp only [cond_true,Option.some.injEq] at h2
  subst h2
  exact⟨unK_ok h1,nOK_ok hb⟩
def sp2 (f:Option (List Nat)→Option (List Nat)→Option AV):List AV→Option AV
 | [x,y]=>(numA x).bind fun a=>(numA y).bind fun b=>f a b
 | _=>none
def sp1 (f:Option (List Nat)→Option AV):List AV→Option AV
 | [x]=>(numA x).bind fun a=>f a
 | _=>none
theorem sp2_ok {m:Int}{g:FuncId}{f:Option (List Nat)→Option (List Nat)→Option AV}(hf:∀ a b x,can 4294967296 (dO a)→can 4294967296 (dO b)→(dO a).length≤1000000→(dO b).length≤1000000→f a b=some x→CallsP Tryz.prog (GG m) g [nK .u32 a,nK .u32 b] x∧x.pure=true)
 {us:List AV}{x:AV}(h:sp2 f us=some x) (lv:Key→LB):CallG Tryz.prog (GG m) g us lv (.ret x lv):=by
 unfold sp2 at h
 split at h
 ·obtain⟨a,ha,g1⟩:=Option.bind_eq_some_iff.1 h
  obtain⟨b,hb,g2⟩:=Option.bind_eq_some_iff.1 g1
  obtain⟨rfl,a1,a2⟩:=numA_ok ha
  obtain⟨rfl,b1,b2⟩:=numA_ok hb
  obtain⟨h1,h2⟩:=hf a b x a1 b1 a2 b2 g2
  exact CallG.of_CallsP (fun u hu=>by simp only [List.mem_cons,List.not_mem_nil,or_false] at hu;rcases hu with rfl|rfl <;> exact nK_pure _ _) h2 h1
 ·cases h
theorem sp1_ok {m:Int}{g:FuncId}{f:Option (List Nat)→Option AV}(hf:∀ a x,can 4294967296 (dO a)→(dO a).length≤1000000→f a=some x→CallsP Tryz.prog (GG m) g [nK .u32 a] x∧x.pure=true)
 {us:List AV}{x:AV}(h:sp1 f us=some x) (lv:Key→LB):CallG Tryz.prog (GG m) g us lv (.ret x lv):=by
 unfold sp1 at h
 split at h
 ·obtain⟨a,ha,g1⟩:=Option.bind_eq_some_iff.1 h
  obtain⟨rfl,a1,a2⟩:=numA_ok ha
  obtain⟨h1,h2⟩:=hf a x a1 a2 g1
  exact CallG.of_CallsP (fun u hu=>by simp only [List.mem_cons,List.not_mem_nil,or_false] at hu;rcases hu with rfl;exact nK_pure _ _) h2 h1
 ·cases h
def gMul:=sp2 fun a b=>some (nK .u32 (some (dig 4294967296 (val 4294967296 (dO a)*val 4294967296 (dO b)))))
def gAdd:=sp2 fun a b=>some (nK .u32 (some (dig 4294967296 (val 4294967296 (dO a)+val 4294967296 (dO b)))))
def gSub:=sp2 fun a b=>bif Nat.ble (val 4294967296 (dO b)) (val 4294967296 (dO a)) then some (nK .u32 (some (dig 4294967296 (val 4294967296 (dO a) - val 4294967296 (dO b))))) else none
def gCmp:=sp2 fun a b=>some (.c (.d (.int .i64 (cmpN (val 4294967296 (dO a)) (val 4294967296 (dO b))))))
def gIs1:=sp1 fun a=>some (.c (.d (.bool (Nat.beq (val 4294967296 (dO a)) 1))))
theorem gMul_ok (m:Int){us:List AV}{x:AV}(h:gMul us=some x) (lv:Key→LB):CallG Tryz.prog (GG m) 130 us lv (.ret x lv):=
 sp2_ok (fun a b x _ _ h1 h2 h=>by cases h;exact⟨exact_mul_ok _ a b (by omega) (by omega),nK_pure _ _⟩) h lv
theorem gAdd_ok (m:Int){us:List AV}{x:AV}(h:gAdd us=some x) (lv:Key→LB):CallG Tryz.prog (GG m) 132 us lv (.ret x lv):=
 sp2_ok (fun a b x _ _ h1 h2 h=>by cases h;exact⟨exact_add_ok _ a b (by omega) (by omega),nK_pure _ _⟩) h lv
theorem gSub_ok (m:Int){us:List AV}{x:AV}(h:gSub us=some x) (lv:Key→LB):CallG Tryz.prog (GG m) 134 us lv (.ret x lv):=
 sp2_ok (fun a b x _ _ h1 h2 h=>by
  cases hb:Nat.ble (val 4294967296 (dO b)) (val 4294967296 (dO a)) with
  | false=>rw [hb] at h;cases h
  | true=>
   rw [hb] at h;cases h
   exact⟨exact_sub_ok _ a b (by omega) (Nat.le_of_ble_eq_true hb),nK_pure _ _⟩) h lv
theorem gCmp_ok (m:Int){us:List AV}{x:AV}(h:gCmp us=some x) (lv:Key→LB):CallG Tryz.prog (GG m) 133 us lv (.ret x lv):=
 sp2_ok (fun a b x h3 h4 h1 h2 h=>by cases h;exact⟨exact_cmp_ok h3 h4,rfl⟩) h lv
theorem gIs1_ok (m:Int){us:List AV}{x:AV}(h:gIs1 us=some x) (lv:Key→LB):CallG Tryz.prog (GG m) 93 us lv (.ret x lv):=
 sp1_ok (fun a x h3 h1 h=>by
  cases h
  have:=exact_is1_ok (GG m) a h3
  rw [show decide (val 4294967296 (dO a)=1)=Nat.beq (val 4294967296 (dO a)) 1 by cases e:Nat.beq (val 4294967296 (dO a)) 1 with|true=>simp [Nat.eq_of_beq_eq_true e]|false=>simp [Nat.ne_of_beq_eq_false e]] at this
  exact⟨this,rfl⟩) h lv
def gMade:List AV→Option AV
 | [.c (.d (.bool neg)),x,y]=>(numA x).bind fun p=>(numA y).bind fun q=>bif Nat.blt 0 (val 4294967296 (dO q)) then some (ratV (mkRat (sgI neg (val 4294967296 (dO p))) (val 4294967296 (dO q)))) else none
 | _=>none
theorem gMade_ok (m:Int){us:List AV}{x:AV}(h:gMade us=some x) (lv:Key→LB):CallG Tryz.prog (GG m) 90 us lv (.ret x lv):=by
 unfold gMade at h
 split at h
 ·rename_i neg x' y'
  obtain⟨p,hp,g1⟩:=Option.bind_eq_some_iff.1 h
  obtain⟨q,hq,g2⟩:=Option.bind_eq_some_iff.1 g1
  clear h g1
  obtain⟨rfl,a1,a2⟩:=numA_ok hp
  obtain⟨rfl,b1,b2⟩:=numA_ok hq
  cases hb:Nat.blt 0 (val 4294967296 (dO q)) with
  | false=>rw [hb] at g2;cases g2
  | true=>
   rw [hb] at g2;cases g2
   have hv:0<val 4294967296 (dO q):=Nat.le_of_ble_eq_true hb
   have hq0:dO q≠[]:=fun e=>by rw [e] at hv;exact absurd hv (by decide)
   have:=rat_made (GG m) neg p q a1 b1 hq0 (by omega) (by omega)
   rw [nK_nC,nK_nC]
   exact CallG.of_CallsP (fun u hu=>by
    simp only [List.mem_cons,List.not_mem_nil,or_false] at hu
    rcases hu with rfl|rfl|rfl <;> simp) (by simp) this
 ·cases h
def gShl:List AV→Option AV
 | [x,.c (.d (.int .i64 (.ofNat k)))]=>(numA x).bind fun a=>bif Nat.ble k 1000000 then some (if dO a=[] then nK .u32 none else nK .u32 (some (dig 4294967296 (val 4294967296 (dO a)*2 ^ k)))) else none
 | _=>none
theorem gShl_ok (m:Int){us:List AV}{x:AV}(h:gShl us=some x) (lv:Key→LB):CallG Tryz.prog (GG m) 206 us lv (.ret x lv):=by
 unfold gShl at h
 split at h
 ·rename_i x' k
  obtain⟨a,ha,g1⟩:=Option.bind_eq_some_iff.1 h
  clear h
  obtain⟨rfl,a1,a2⟩:=numA_ok ha
  cases hb:Nat.ble k 1000000 with
  | false=>rw [hb] at g1;cases g1
  | true=>
   rw [hb] at g1;cases g1
   have hk:=Nat.le_of_ble_eq_true hb
   exact CallG.of_CallsP (fun u hu=>by
    simp only [List.mem_cons,List.not_mem_nil,or_false] at hu
    rcases hu with rfl|rfl
    ·exact nK_pure _ _
    ·rfl) (by split <;> exact nK_pure _ _) (exact_shl_ok (GG m) a k (by omega) (by omega))
 ·cases h
def gBits:=sp1 fun a=>some (.c (.d (.int .i64 (blen (val 4294967296 (dO a))))))
theorem gBits_ok (m:Int){us:List AV}{x:AV}(h:gBits us=some x) (lv:Key→LB):CallG Tryz.prog (GG m) 236 us lv (.ret x lv):=
 sp1_ok (fun a x h3 h1 h=>by cases h;exact⟨exact_bits_ok (GG m) a h3 (by omega),rfl⟩) h lv
def gDiv:=sp2 fun a b=>bif Nat.blt 0 (val 4294967296 (dO b)) then some (.tup [nK .u32 (divQ a b),nK .u32 (divR a b)]) else none
theorem gDiv_ok (m:Int){us:List AV}{x:AV}(h:gDiv us=some x) (lv:Key→LB):CallG Tryz.prog (GG m) 150 us lv (.ret x lv):=
 sp2_ok (fun a b x h3 h4 h1 h2 h=>by
  cases hb:Nat.blt 0 (val 4294967296 (dO b)) with
  | false=>rw [hb] at h;cases h
  | true=>
   rw [hb] at h;cases h
   have hv:0<val 4294967296 (dO b):=Nat.le_of_ble_eq_true hb
   exact⟨exact_div_ok _ a b h3 h4 (fun e=>by rw [e] at hv;exact absurd hv (by decide)) (by omega),tup2_pure _ _⟩) h lv
def gOf:List AV→Option AV
 | [.c (.d (.int .u64 (.ofNat n)))]=>bif Nat.blt n 18446744073709551616 then some (nK .u32 (some (dig 4294967296 n))) else none
 | _=>none
theorem gOf_ok (m:Int){us:List AV}{x:AV}(h:gOf us=some x) (lv:Key→LB):CallG Tryz.prog (GG m) 92 us lv (.ret x lv):=by
 unfold gOf at h
 split at h
 ·rename_i n
  cases hb:Nat.blt n 18446744073709551616 with
  | false=>rw [hb] at h;cases h
  | true=>
   rw [hb] at h;cases h
   exact CallG.of_CallsP (fun u hu=>by
    simp only [List.mem_cons,List.not_mem_nil,or_false] at hu
    rcases hu with rfl;rfl) (nK_pure _ _) (exact_of_ok (GG m) n (Nat.le_of_ble_eq_true hb))
 ·cases h
def gSmall:List AV→Option AV
 | [x,.c (.d (.int .u32 (.ofNat b)))]=>(numA x).bind fun a=>bif Nat.blt 0 b then some (.tup [nK .u32 (some (dig 4294967296 (val 4294967296 (dO a) / b))),.c (.d (.int .u32 ((val 4294967296 (dO a) % b:Nat):Int)))]) else none
 | _=>none
theorem gSmall_ok (m:Int){us:List AV}{x:AV}(h:gSmall us=some x) (lv:Key→LB):CallG Tryz.prog (GG m) 177 us lv (.ret x lv):=by
 unfold gSmall at h
 split at h
 ·rename_i x' b
  obtain⟨a,ha,g1⟩:=Option.bind_eq_some_iff.1 h
  clear h
  obtain⟨rfl,a1,a2⟩:=numA_ok ha
  cases hb:Nat.blt 0 b with
  | false=>rw [hb] at g1;cases g1
  | true=>
   rw [hb] at g1;cases g1
   have hb':0<b:=Nat.le_of_ble_eq_true hb
   exact CallG.of_CallsP (fun u hu=>by
    simp only [List.mem_cons,List.not_mem_nil,or_false] at hu
    rcases hu with rfl|rfl
    ·exact nK_pure _ _
    ·rfl) rfl (exact_small_ok (GG m) a b (by omega) (by omega))
 ·cases h
end Go.Am
namespace Go.Am
open Go.Proofs
noncomputable def forceDD {β:Type}(d:DV) (k:DV→β):β:=
 DV.casesOn (motive_1:=fun _=>β) d (fun b=>forceBool b fun b=>k (.bool b)) (fun q n=>forceInt n fun n=>k (.int q n)) (fun s=>forceL forceByte s fun s=>k (.str s)) (k .nilp) (fun cs=>k (.ptr cs)) (k .nilsl)
  (fun es=>forceL (forceL forceD) es fun es=>k (.sl es)) (fun cs=>k (.agg cs)) (k .nilIface) (fun t v=>k (.iface t v)) (k .nilFunc) (fun f a b=>k (.func f a b)) (k .nilmap)
theorem forceDD_eq {β:Type}(d:DV) (k:DV→β):forceDD d k=k d:=by
 cases d <;> simp only [forceDD] <;> first|exact forceBool_eq _ _|exact forceInt_eq _ _|exact forceL_eq _ forceByte_eq _ _|exact forceL_eq _ (forceL_eq _ forceD_eq) _ _|rfl
noncomputable def forceCC {β:Type}(x:CV) (k:CV→β):β:=
 CV.casesOn (motive:=fun _=>β) x (fun d=>forceDD d fun d=>k (.d d)) (fun a b=>k (.ptr a b)) (fun a b c d=>k (.lsl a b c d)) (fun a=>k (.mapr a)) (fun f a b=>k (.func f a b)) (fun t r=>k (.ifc t r)) (k .junk)
theorem forceCC_eq {β:Type}(x:CV) (k:CV→β):forceCC x k=k x:=by cases x <;> simp only [forceCC,forceDD_eq]
noncomputable def forceAA0 {β:Type}(x:AV) (k:AV→β):β:=
 AV.casesOn (motive_1:=fun _=>β) x (fun c=>forceCC c fun c=>k (.c c)) (fun l=>forceL forceCC l fun l=>k (.agg l)) (fun l=>k (.tup l)) (k .undef) (k .junk)
theorem forceAA0_eq {β:Type}(x:AV) (k:AV→β):forceAA0 x k=k x:=by cases x <;> simp only [forceAA0,forceCC_eq,forceL_eq _ forceCC_eq]
noncomputable def forceAA {β:Type}(x:AV) (k:AV→β):β:=
 AV.casesOn (motive_1:=fun _=>β) x (fun c=>forceCC c fun c=>k (.c c)) (fun l=>forceL forceCC l fun l=>k (.agg l)) (fun l=>forceL forceAA0 l fun l=>k (.tup l)) (k .undef) (k .junk)
theorem forceAA_eq {β:Type}(x:AV) (k:AV→β):forceAA x k=k x:=by cases x <;> simp only [forceAA,forceCC_eq,forceL_eq _ forceCC_eq,forceL_eq _ forceAA0_eq]
noncomputable def gF (g:List AV→Option AV)(us:List AV):Option AV:=Option.rec (motive:=fun _=>Option AV) none (fun x=>forceAA x some) (g us)
theorem gF_eq (g:List AV→Option AV)(us:List AV):gF g us=g us:=by
 unfold gF;cases g us with
 | none=>rfl
 | some x=>exact forceAA_eq _ _
theorem SpecOK.f {P:Program}{G:List (List DV)}{sp:Tb Spec}{ft:TypeId}(h:SpecOK P G sp ft) (f0:Nat) (g0:List AV→Option AV) (hg:∀ {us x},g0 us=some x→∀ lv,CallG P G f0 us lv (.ret x lv)):SpecOK P G (setS f0 (.pure (gF g0)) sp) ft:=
 h.more f0 (gF g0) fun us x hx lv _=>hg (by rw [gF_eq] at hx;exact hx) lv
noncomputable def spW:Tb Spec:=setS 130 (.pure (gF gMul)) (setS 132 (.pure (gF gAdd)) (setS 134 (.pure (gF gSub)) (setS 133 (.pure (gF gCmp)) (setS 93 (.pure (gF gIs1)) (setS 90 (.pure (gF gMade)) (setS 206 (.pure (gF gShl)) (setS 236 (.pure (gF gBits)) (setS 150 (.pure (gF gDiv)) (setS 92 (.pure (gF gOf)) (setS 177 (.pure (gF gSmall)) (setS 91 (.pure (gF gRead)) spA)))))))))))
theorem spW_ok (m:Int):SpecOK Tryz.prog (GG m) spW 0:=
 ((((((((((((spA_ok m).f 91 gRead (gRead_ok m)).f 177 gSmall (gSmall_ok m)).f 92 gOf (gOf_ok m)).f 150 gDiv (gDiv_ok m)).f 236 gBits (gBits_ok m)).f 206 gShl (gShl_ok m)).f 90 gMade (gMade_ok m)).f 93 gIs1 (gIs1_ok m)).f 133 gCmp (gCmp_ok m)).f 134 gSub (gSub_ok m)).f 132 gAdd (gAdd_ok m)).f 130 gMul (gMul_ok m)
end Go.Am
namespace Go.Am
open Go.Proofs N
def eqNL:List Nat→List Nat→Bool
 | [],[]=>true
 | a::l,b::m=>Nat.beq a b && eqNL l m
 | _,_=>false
theorem eqNL_eq:∀ {l m:List Nat},eqNL l m=true→l=m
 | [],[],_=>rfl
 | a::l,b::m,h=>by
  simp only [eqNL,Bool.and_eq_true] at h
  rw [Nat.eq_of_beq_eq_true h.1,eqNL_eq h.2]
 | [],_::_,h=>by cases h
 | _::_,[],h=>by cases h
def eqO:Option (List Nat)→Option (List Nat)→Bool
 | none,none=>true
 | some l,some m=>eqNL l m
 | _,_=>false
theorem eqO_eq {o p:Option (List Nat)}(h:eqO o p=true):o=p:=by
 cases o <;> cases p <;> first|rfl|cases h|exact congrArg some (eqNL_eq h)
def eqB2 (a b:Bool):Bool:=match a with|true=>b|false=>!b
theorem eqB2_eq {a b:Bool}(h:eqB2 a b=true):a=b:=by cases a <;> cases b <;> first|rfl|cases h
def rdQ (neg:Bool)(po qo:Option (List Nat)):Rat:=mkRat (sgI neg (val 4294967296 (dO po))) (match qo with|none=>1|some l=>val 4294967296 l)
def okQ (neg:Bool)(po qo:Option (List Nat))(x:Rat):Bool:=eqB2 neg (decide (x.num<0)) && (eqO po (natO x.num.natAbs) && (eqO qo (denO x.den) && (Nat.ble (dO po).length 1000 && Nat.ble (dO qo).length 1000)))
def unQ (a p q:CV):Option Rat:=match a with
 | .d (.bool neg)=>(unK (.c p)).bind fun po=>(unK (.c q)).bind fun qo=>bif okQ neg po qo (rdQ neg po qo) then some (rdQ neg po qo) else none
 | _=>none
theorem unQ_ok {a p q:CV}{x:Rat}(h:unQ a p q=some x):a=.d (.bool (decide (x.num<0)))∧p=nC (natO x.num.natAbs)∧q=nC (denO x.den)∧szR x 1000:=by
 unfold unQ at h
 split at h
 ·rename_i neg
  obtain⟨po,h1,k1⟩:=Option.bind_eq_some_iff.1 h
  obtain⟨qo,h2,k2⟩:=Option.bind_eq_some_iff.1 k1
  have e1:=unK_ok h1
  have e2:=unK_ok h2
  rw [nK_nC] at e1 e2
  cases hb:okQ neg po qo (rdQ neg po qo) with
  | false=>rw [hb] at k2;cases k2
  | true=>
   rw [hb] at k2
   simp only [cond_true,Option.some.injEq] at k2
   rw [k2] at hb
   simp only [okQ,Bool.and_eq_true] at hb
   obtain⟨b1,b2,b3,b4,b5⟩:=hb
   have c1:=eqB2_eq b1
   have c2:=eqO_eq b2
   have c3:=eqO_eq b3
   have d4:=Nat.le_of_ble_eq_true b4
   have d5:=Nat.le_of_ble_eq_true b5
   injection e1 with e1
   injection e2 with e2
   refine⟨by rw [c1],by rw [e1,c2],by rw [e2,c3],?_,?_⟩
   ·rw [c2,natO_len] at d4;exact d4
   ·rw [c3] at d5
    unfold denO at d5
    split at d5
    ·rename_i hd;rw [hd,nl_one];decide
    ·exact d5
 ·cases h
def unR:AV→Option Rat
 | .agg [a,p,q]=>unQ a p q
 | _=>none
theorem unR_ok {v:AV}{x:Rat}(h:unR v=some x):v=ratV x∧szR x 1000:=by
 unfold unR at h
 split at h
 ·obtain⟨rfl,rfl,rfl,hs⟩:=unQ_ok h
  exact⟨rfl,hs⟩
 ·cases h
def leQ (x y:Rat):Bool:=decide (x≤y)
def unI:AV→Option Iv
 | .agg [a,p,q,a',p',q']=>(unQ a p q).bind fun x=>(unQ a' p' q').bind fun y=>bif leQ x y then some (x,y) else none
 | _=>none
theorem unI_ok {v:AV}{a:Iv}(h:unI v=some a):v=ivV a∧a.sz 1000∧a.1≤a.2:=by
 unfold unI at h
 split at h
 ·obtain⟨x,h1,k1⟩:=Option.bind_eq_some_iff.1 h
  obtain⟨y,h2,k2⟩:=Option.bind_eq_some_iff.1 k1
  obtain⟨rfl,rfl,rfl,hs⟩:=unQ_ok h1
  obtain⟨rfl,rfl,rfl,hs'⟩:=unQ_ok h2
  cases hb:leQ x y with
  | false=>rw [hb] at k2;cases k2
  | true=>rw [hb] at k2;cases k2;exact⟨rfl,⟨hs,hs'⟩,of_decide_eq_true hb⟩
 ·cases h
theorem ratV_pure (x:Rat):(ratV x).pure=true:=nmA_pure _ _ _
theorem ivV_pure (a:Iv):(ivV a).pure=true:=iv_pure _ _ _ _ _ _
def q1 (f:Rat→Option AV):List AV→Option AV
 | [x]=>(unR x).bind f
 | _=>none
def q2 (f:Rat→Rat→Option AV):List AV→Option AV
 | [x,y]=>(unR x).bind fun a=>(unR y).bind fun b=>f a b
 | _=>none
def qi (f:Rat→Int→Option AV):List AV→Option AV
 | [x,.c (.d (.int .i64 n))]=>(unR x).bind fun a=>f a n
 | _=>none
def v1 (f:Iv→Option AV):List AV→Option AV
 | [x]=>(unI x).bind f
 | _=>none
def v2 (f:Iv→Iv→Option AV):List AV→Option AV
 | [x,y]=>(unI x).bind fun a=>(unI y).bind fun b=>f a b
 | _=>none
def vi (f:Iv→Int→Option AV):List AV→Option AV
 | [x,.c (.d (.int .i64 n))]=>(unI x).bind fun a=>f a n
 | _=>none
def vq (f:Iv→Rat→Option AV):List AV→Option AV
 | [x,y]=>(unI x).bind fun a=>(unR y).bind fun b=>f a b
 | _=>none
section
variable {m:Int}{g:FuncId}{us:List AV}{x:AV}
theorem q1_ok {f:Rat→Option AV}(hf:∀ a x,szR a 1000→f a=some x→CallsP Tryz.prog (GG m) g [ratV a] x∧x.pure=true) (h:q1 f us=some x) (lv:Key→LB):CallG Tryz.prog (GG m) g us lv (.ret x lv):=by
 unfold q1 at h;split at h
 ·obtain⟨a,ha,k1⟩:=Option.bind_eq_some_iff.1 h
  obtain⟨rfl,sa⟩:=unR_ok ha
  obtain⟨h1,h2⟩:=hf a x sa k1
  exact CallG.of_CallsP (fun u hu=>by simp only [List.mem_cons,List.not_mem_nil,or_false] at hu;subst hu;exact ratV_pure a) h2 h1
 ·cases h
theorem q2_ok {f:Rat→Rat→Option AV}(hf:∀ a b x,szR a 1000→szR b 1000→f a b=some x→CallsP Tryz.prog (GG m) g [ratV a,ratV b] x∧x.pure=true) (h:q2 f us=some x) (lv:Key→LB):CallG Tryz.prog (GG m) g us lv (.ret x lv):=by
 unfold q2 at h;split at h
 ·obtain⟨a,ha,k1⟩:=Option.bind_eq_some_iff.1 h
  obtain⟨b,hb,k2⟩:=Option.bind_eq_some_iff.1 k1
  obtain⟨rfl,sa⟩:=unR_ok ha
  obtain⟨rfl,sb⟩:=unR_ok hb
  obtain⟨h1,h2⟩:=hf a b x sa sb k2
  exact CallG.of_CallsP (fun u hu=>by simp only [List.mem_cons,List.not_mem_nil,or_false] at hu;rcases hu with rfl|rfl;exact ratV_pure a;exact ratV_pure b) h2 h1
 ·cases h
theorem qi_ok {f:Rat→Int→Option AV}(hf:∀ a n x,szR a 1000→f a n=some x→CallsP Tryz.prog (GG m) g [ratV a,.c (.d (.int .i64 n))] x∧x.pure=true) (h:qi f us=some x) (lv:Key→LB):CallG Tryz.prog (GG m) g us lv (.ret x lv):=by
 unfold qi at h;split at h
 ·rename_i n
  obtain⟨a,ha,k1⟩:=Option.bind_eq_some_iff.1 h
  obtain⟨rfl,sa⟩:=unR_ok ha
  obtain⟨h1,h2⟩:=hf a n x sa k1
  exact CallG.of_CallsP (fun u hu=>by simp only [List.mem_cons,List.not_mem_nil,or_false] at hu;rcases hu with rfl|rfl;exact ratV_pure a;rfl) h2 h1
 ·cases h
theorem v2_ok {f:Iv→Iv→Option AV}(hf:∀ a b x,a.sz 1000→b.sz 1000→a.1≤a.2→b.1≤b.2→f a b=some x→CallsP Tryz.prog (GG m) g [ivV a,ivV b] x∧x.pure=true) (h:v2 f us=some x) (lv:Key→LB):CallG Tryz.prog (GG m) g us lv (.ret x lv):=by
 unfold v2 at h;split at h
 ·obtain⟨a,ha,k1⟩:=Option.bind_eq_some_iff.1 h
  obtain⟨b,hb,k2⟩:=Option.bind_eq_some_iff.1 k1
  obtain⟨rfl,sa,la⟩:=unI_ok ha
  obtain⟨rfl,sb,lb⟩:=unI_ok hb
  obtain⟨h1,h2⟩:=hf a b x sa sb la lb k2
  exact CallG.of_CallsP (fun u hu=>by simp only [List.mem_cons,List.not_mem_nil,or_false] at hu;rcases hu with rfl|rfl;exact ivV_pure a;exact ivV_pure b) h2 h1
 ·cases h
theorem vi_ok {f:Iv→Int→Option AV}(hf:∀ a n x,a.sz 1000→a.1≤a.2→f a n=some x→CallsP Tryz.prog (GG m) g [ivV a,.c (.d (.int .i64 n))] x∧x.pure=true) (h:vi f us=some x) (lv:Key→LB):CallG Tryz.prog (GG m) g us lv (.ret x lv):=by
 unfold vi at h;split at h
 ·rename_i n
  obtain⟨a,ha,k1⟩:=Option.bind_eq_some_iff.1 h
  obtain⟨rfl,sa,la⟩:=unI_ok ha
  obtain⟨h1,h2⟩:=hf a n x sa la k1
  exact CallG.of_CallsP (fun u hu=>by simp only [List.mem_cons,List.not_mem_nil,or_false] at hu;rcases hu with rfl|rfl;exact ivV_pure a;rfl) h2 h1
 ·cases h
theorem vq_ok {f:Iv→Rat→Option AV}(hf:∀ a b x,a.sz 1000→szR b 1000→a.1≤a.2→f a b=some x→CallsP Tryz.prog (GG m) g [ivV a,ratV b] x∧x.pure=true) (h:vq f us=some x) (lv:Key→LB):CallG Tryz.prog (GG m) g us lv (.ret x lv):=by
 unfold vq at h;split at h
 ·obtain⟨a,ha,k1⟩:=Option.bind_eq_some_iff.1 h
  obtain⟨b,hb,k2⟩:=Option.bind_eq_some_iff.1 k1
  obtain⟨rfl,sa,la⟩:=unI_ok ha
  obtain⟨rfl,sb⟩:=unR_ok hb
  obtain⟨h1,h2⟩:=hf a b x sa sb la k2
  exact CallG.of_CallsP (fun u hu=>by simp only [List.mem_cons,List.not_mem_nil,or_false] at hu;rcases hu with rfl|rfl;exact ivV_pure a;exact ratV_pure b) h2 h1
 ·cases h
end
theorem szK {x:Rat}{L:Nat}(h:szR x 1000) (hL:1000≤L:=by decide):szR x L:=szR_mono h hL
theorem szI {a:Iv}{L:Nat}(h:a.sz 1000) (hL:1000≤L:=by decide):a.sz L:=Iv.sz_mono h hL
abbrev iA (n:Int):AV:=.c (.d (.int .i64 n))
theorem tupR_pure (x:Rat)(n:Int):(AV.tup [ratV x,iA n]).pure=true:=tup_num_pure _ _ _ _
noncomputable def spX:Tb Spec:=
 setS 72 (.pure (gF (q2 fun a b=>some (ratV (a+b))))) <|
 setS 74 (.pure (gF (q2 fun a b=>some (ratV (a - b))))) <|
 setS 75 (.pure (gF (q2 fun a b=>some (ratV (a*b))))) <|
 setS 99 (.pure (gF (q2 fun a b=>some (iA (cmpR a b))))) <|
 setS 79 (.pure (gF (q2 fun a b=>some (ratV (minR a b))))) <|
 setS 78 (.pure (gF (q2 fun a b=>some (ratV (maxR a b))))) <|
 setS 125 (.pure (gF (q2 fun a b=>some (.tup [ratV (a / b),iA (if b=0 then 8 else 0)])))) <|
 setS 70 (.pure (gF (q1 fun a=>some (ratV (-a))))) <|
 setS 101 (.pure (gF (q1 fun a=>some (ratV (absQ a))))) <|
 setS 83 (.pure (gF (qi fun a n=>some (ratV (downR a n))))) <|
 setS 84 (.pure (gF (qi fun a n=>some (ratV (upR a n))))) <|
 setS 19 (.pure (gF (v2 fun a b=>some (ivV (a.add b))))) <|
 setS 21 (.pure (gF (v2 fun a b=>some (ivV (a.sub b))))) <|
 setS 23 (.pure (gF (v2 fun a b=>some (ivV (a.mul b))))) <|
 setS 28 (.pure (gF (v2 fun a b=>some (ivV (a.join b))))) <|
 setS 30 (.pure (gF (vi fun a n=>some (ivV (downR a.1 n,upR a.2 n))))) <|
 setS 34 (.pure (gF (vq fun a b=>some (.c (.d (.bool (decide (a.has b)))))))) spW
theorem spX_ok (m:Int):SpecOK Tryz.prog (GG m) spX 0:=
 (((((((((((((((((spW_ok m).f _ _ (vq_ok fun a b x sa sb la h=>by cases h;exact⟨iv_Has _ a b (szI sa) (szK sb),rfl⟩)).f _ _ (vi_ok fun a n x sa la h=>by cases h;exact⟨iv_Out _ a n (szI sa),ivV_pure _⟩)).f _ _
  (v2_ok fun a b x sa sb la lb h=>by cases h;exact⟨iv_Join _ a b (szI sa) (szI sb),ivV_pure _⟩)).f _ _
  (v2_ok fun a b x sa sb la lb h=>by cases h;exact⟨iv_Mul _ a b (szI sa) (szI sb) la lb,ivV_pure _⟩)).f _ _
  (v2_ok fun a b x sa sb la lb h=>by cases h;exact⟨iv_Sub _ a b (szI sa) (szI sb),ivV_pure _⟩)).f _ _
  (v2_ok fun a b x sa sb la lb h=>by cases h;exact⟨iv_Add _ a b (szI sa) (szI sb),ivV_pure _⟩)).f _ _
  (qi_ok fun a n x sa h=>by cases h;exact⟨rat_Up _ a n (szK sa),ratV_pure _⟩)).f _ _
  (qi_ok fun a n x sa h=>by cases h;exact⟨rat_Down _ a n (szK sa),ratV_pure _⟩)).f _ _
  (q1_ok fun a x sa h=>by cases h;exact⟨rat_Ab _ a,ratV_pure _⟩)).f _ _
  (q1_ok fun a x sa h=>by cases h;exact⟨rat_Neg _ a,ratV_pure _⟩)).f _ _
  (q2_ok fun a b x sa sb h=>by cases h;exact⟨rat_Quo _ a b (szK sa) (szK sb),tupR_pure _ _⟩)).f _ _
  (q2_ok fun a b x sa sb h=>by cases h;exact⟨rat_Max _ a b (szK sa) (szK sb),ratV_pure _⟩)).f _ _
  (q2_ok fun a b x sa sb h=>by cases h;exact⟨rat_Min _ a b (szK sa) (szK sb),ratV_pure _⟩)).f _ _
  (q2_ok fun a b x sa sb h=>by cases h;exact⟨rat_Cmp _ a b (szK sa) (szK sb),rfl⟩)).f _ _
  (q2_ok fun a b x sa sb h=>by cases h;exact⟨rat_Mul _ a b (szK sa) (szK sb),ratV_pure _⟩)).f _ _
  (q2_ok fun a b x sa sb h=>by cases h;exact⟨rat_Sub _ a b (szK sa) (szK sb),ratV_pure _⟩)).f _ _
  (q2_ok fun a b x sa sb h=>by cases h;exact⟨rat_Add _ a b (szK sa) (szK sb),ratV_pure _⟩)
theorem evX_ok (m:Int)(n:Nat):CallOK Tryz.prog (GG m) (evK Tryz.prog (GG m) spX 0 n):=evK_ok mixed (spX_ok m) n
end Go.Am
namespace Go.Am
open Go.Am.Ty Go.Proofs N
def decU (n:Nat):List UInt8:=if n=0 then [48] else (dig 10 n).reverse.map fun d=>UInt8.ofNat (48+d)
def eqB:List UInt8→List UInt8→Bool
 | [],[]=>true
 | a::l,b::m=>Nat.beq a.toNat b.toNat && eqB l m
 | _,_=>false
theorem eqB_eq:∀ {l m:List UInt8},eqB l m=true→l=m
 | [],[],_=>rfl
 | a::l,b::m,h=>by
  simp only [eqB,Bool.and_eq_true] at h
  rw [UInt8.toNat_inj.1 (Nat.eq_of_beq_eq_true h.1),eqB_eq h.2]
 | [],_::_,h=>by cases h
 | _::_,[],h=>by cases h
noncomputable def smT (G:List (List DV)):Bool:=(List.range 100).all fun i=>match finK (evK Tryz.prog G spX 0 40 255 [.c (.d (.int .i64 (.ofNat i)))] .leaf 0 [] kDone .pan) with
 | some (.c (.d (.str s)))=>eqB s (decU i)
 | _=>false
theorem smT_ok (m:Int):smT (GG m)=true:=by kernel_rfl
theorem small_ok (m:Int)(i:Nat)(hi:i<100):CallsP Tryz.prog (GG m) 255 [.c (.d (.int .i64 i))] (.c (.d (.str (decU i)))):=by
 have h:=List.all_eq_true.1 (smT_ok m) i (List.mem_range.2 hi)
 split at h
 ·rename_i s hs
  have:=CallsP.of_ev (evX_ok m 40) hs
  rw [eqB_eq h] at this
  exact this
 ·cases h
theorem bool2_ok (G:List (List DV))(b:Bool):CallsP Tryz.prog G 276 [.c (.d (.bool b))] (.c (.d (.int .i64 (if b then 1 else 0)))):=by
 cases b with
 | true=>
  refine CallsP.en Go.Proofs.Tryz.func276 rfl fun _=>AW.q ?_
  refine AW.seqK fun K hK=>AW.q ?_
  refine AW.cy (AW.q ?_)
  exact AW.r0 (FinP.rt rfl 2 (by simp))
 | false=>
  refine CallsP.en Go.Proofs.Tryz.func276 rfl fun _=>AW.q ?_
  refine AW.seqK fun K hK=>AW.q ?_
  refine AW.cn (AW.skip (hK _ _ (AW.q ?_)))
  exact AW.r0 (FinP.rt rfl 2 (by simp))
theorem log10Pow2_ok (G:List (List DV))(x:Nat)(hx:x≤64):CallsP Tryz.prog G 274 [.c (.d (.int .i64 x))] (.c (.d (.int .i64 ((x*78913 / 262144:Nat):Int)))):=by
 have w1:=w64 (n:=(x:Int)*78913) (by omega) (by omega)
 have e1:Int.fdiv ((x:Int)*78913) 262144=((x*78913 / 262144:Nat):Int):=by rw [Int.fdiv_eq_ediv_of_nonneg _ (by omega)];omega
 refine CallsP.en Go.Proofs.Tryz.func274 rfl fun _=>AW.q ?_
 refine AW.sr fun K hK=>?_
 simp [w1,IntKind.bits,e1,-Int.natCast_ediv]
 repeat refine and_o ?_
 apply hK
 exact AW.r0 (FinP.rt rfl 2 (by simp))
theorem bits_Len64_ok (G:List (List DV))(n:Nat)(hn:n<4294967296):CallsP Tryz.prog G 275 [.c (.d (.int .u64 n))] (.c (.d (.int .i64 (blen n)))):=by
 have h0:¬ (4294967296:Int)≤n:=by omega
 have w16:IntKind.i64.wrap 16=16:=w64 (by omega) (by omega)
 refine CallsP.en Go.Proofs.Tryz.func275 rfl fun _=>AW.q ?_
 refine AW.seqK fun K hK=>AW.f1 h0 ?_
 refine AW.fn (by simp [h0] <;> omega) (AW.skip (hK _ _ (AW.seqK fun K hK=>AW.q ?_)))
 have step2:∀ (x m:Nat) (fr:Nat→AV) (κ:Nat),x<65536→m≤16→blen n=m+blen x→fr 0=.c (.d (.int .u64 x))→fr 2=.c (.d (.int .i64 m))→K ⟨fr,fun _=>.hole⟩ κ:=by
  intro x m fr κ hx hm hb f0 f2
  repeat refine and_o ?_
  apply hK
  refine AW.seqK fun K hK=>AW.f1 f0 ?_
  have step3:∀ (x m:Nat) (fr:Nat→AV) (κ:Nat),x<256→m≤24→blen n=m+blen x→fr 0=.c (.d (.int .u64 x))→fr 2=.c (.d (.int .i64 m))→K ⟨fr,fun _=>.hole⟩ κ:=by
   intro x m fr κ hx hm hb f0 f2
   repeat refine and_o ?_
   apply hK
   refine AW.seqK fun K hK=>?_
   have e1:IntKind.u8.wrap (x:Int)=x:=wrap_in ⟨by simp only [loK];omega,by simp only [hiK];omega⟩
   have hbl:blen x≤8:=by
    by_cases h0:x=0
    ·subst h0;decide
    ·have:=blen_le h0
     apply Classical.byContradiction
     intro hc
     have h9:2 ^ 8≤2 ^ (blen x - 1):=Nat.pow_le_pow_right (by decide) (by omega)
     omega
   refine AW.rP ?_
   simp [f0,f2,e1]
   rw [len8 (x:=x) (hx:=hx)]
   ·have e2:=w64 (n:=(blen x:Int)) (by omega) (by omega)
    have e3:=w64 (n:=(m:Int)+blen x) (by omega) (by omega)
    rw [e2,e3]
    repeat refine and_o ?_
    apply hK
    exact AW.r0 (FinP.rt rfl 0 (by simp [hb]))
   ·kernel_rfl
  by_cases h:256≤x
  ·refine AW.fy (by simp [h] <;> omega) ?_
   have e1:Int.fdiv (x:Int) 256=((x / 256:Nat):Int):=by rw [Int.fdiv_eq_ediv_of_nonneg _ (by omega)];omega
   have e2:=w64 (n:=(m:Int)+8) (by omega) (by omega)
   refine AW.sr fun K1 hK1=>?_
   simp [f0,IntKind.bits,e1,-Int.natCast_ediv]
   repeat refine and_o ?_
   apply hK1
   refine AW.rP ?_
   simp [f2,e2]
   refine step3 (x / 256) (m+8) _ _ (by omega) (by omega) ?_ (by simp) (by simp)
   have:=blen_shift (n:=x) (k:=8) (by omega)
   rw [hb,this];simp;omega
  ·refine AW.fn (by simp [h] <;> omega) (AW.skip ?_)
   simp
   exact step3 x m _ _ (by omega) (by omega) hb (by simp [f0]) (by simp [f2])
 by_cases h:65536≤n
 ·refine AW.fy (by simp [h] <;> omega) ?_
  have e1:Int.fdiv (n:Int) 65536=((n / 65536:Nat):Int):=by rw [Int.fdiv_eq_ediv_of_nonneg _ (by omega)];omega
  refine AW.sr fun K1 hK1=>?_
  simp [IntKind.bits,e1,-Int.natCast_ediv]
  repeat refine and_o ?_
  apply hK1
  refine AW.rP ?_
  simp [w16]
  refine step2 (n / 65536) 16 _ _ (by omega) (by omega) ?_ (by simp) (by simp)
  have:=blen_shift (n:=n) (k:=16) (by omega)
  rw [this];simp;omega
 ·refine AW.fn (by simp [h] <;> omega) (AW.skip ?_)
  simp
  exact step2 n 0 _ _ (by omega) (by omega) (by simp) (by simp) (by simp)
def tblP:List DV:=[.int .u64 1,.int .u64 10,.int .u64 100,.int .u64 1000,.int .u64 10000,.int .u64 100000,.int .u64 1000000,.int .u64 10000000,.int .u64 100000000,.int .u64 1000000000,.int .u64 10000000000,.int .u64 100000000000,.int .u64 1000000000000,.int .u64 10000000000000,.int .u64 100000000000000,.int .u64 1000000000000000,.int .u64 10000000000000000,.int .u64 100000000000000000,.int .u64 1000000000000000000,.int .u64 10000000000000000000]
theorem GGp (m:Int):(GG m)[2]?=some tblP:=rfl
theorem ixP {l:Nat}(h:l≤9):∃ rest,∀ lv:Key→LB,stepIndexAddr Tryz.prog 319 lv (.c (.d (.ptr tblP))) (.c (.d (.int .i64 (l:Int))))=some (.c (.d (.ptr (.int .u64 ((10 ^ l:Nat):Int)::rest))),[],[],True):=by
 have ha:arT Tryz.prog 319=some (20,123,1):=by kernel_rfl
 have key:∀ (l:Nat) (rest:List DV),l<20→tblP.drop l=.int .u64 ((10 ^ l:Nat):Int)::rest→∃ rest,∀ lv:Key→LB,stepIndexAddr Tryz.prog 319 lv (.c (.d (.ptr tblP))) (.c (.d (.int .i64 (l:Int))))=some (.c (.d (.ptr (.int .u64 ((10 ^ l:Nat):Int)::rest))),[],[],True):=by
  intro l rest g2 g3
  refine⟨rest,fun lv=>?_⟩
  unfold stepIndexAddr
  rw [ha]
  show some (AV.c (.d (.ptr (tblP.drop ((l:Int).toNat*1)))),([]:List (Key × LB)),([]:List Key),(0≤(l:Int)∧(l:Int)<((20:Nat):Int)∧(l:Int).toNat*1≤tblP.length))=_
  rw [Int.toNat_natCast,Nat.mul_one,g3,eq_true (show 0≤(l:Int)∧(l:Int)<((20:Nat):Int)∧l≤tblP.length from ⟨by omega,by omega,by show l≤20;omega⟩)]
 have h:l=0∨l=1∨l=2∨l=3∨l=4∨l=5∨l=6∨l=7∨l=8∨l=9:=by omega
 rcases h with rfl|rfl|rfl|rfl|rfl|rfl|rfl|rfl|rfl|rfl <;> exact key _ _ (by decide) rfl
def ndig (n:Nat):Nat:=(dig 10 n).length
theorem ndig_of {n k:Nat}(h1:10 ^ k≤n) (h2:n<10 ^ (k+1)):ndig n=k+1:=by
 have g1:=dig_len_le (B:=10) (by decide) h2
 have g2:=dig_lt (B:=10) (n:=n) (by decide)
 have g3:k<(dig 10 n).length:=(Nat.pow_lt_pow_iff_right (a:=10) (by decide)).1 (Nat.lt_of_le_of_lt h1 g2)
 unfold ndig;omega
theorem ndig_lt (n:Nat):n<10 ^ ndig n:=dig_lt (by decide)
theorem l10:∀ b,b≤30→1≤b→2 ^ b≤10 ^ (b*78913 / 262144+1)∧b*78913 / 262144≤9∧(b*78913 / 262144=0∨10 ^ (b*78913 / 262144 - 1)≤2 ^ (b - 1)):=by decide
theorem numDigits_n {n:Nat}(h0:n≠0) (hn:n<1000000000):blen n*78913 / 262144≤9∧ndig n=blen n*78913 / 262144+if 10 ^ (blen n*78913 / 262144)≤n then 1 else 0:=by
 have b1:1≤blen n:=by unfold blen;rw [if_neg h0];omega
 have b2:blen n≤30:=by
  have:=blen_le h0
  apply Classical.byContradiction
  intro hc
  have h9:2 ^ 30≤2 ^ (blen n - 1):=Nat.pow_le_pow_right (by decide) (by omega)
  omega
 obtain⟨g1,g2,g3⟩:=l10 (blen n) b2 b1
 have g4:=blen_lt n
 have g5:=blen_le h0
 generalize blen n*78913 / 262144=l at *
 refine⟨g2,?_⟩
 split
 ·rename_i h;exact ndig_of h (by omega)
 ·rename_i h
  have h:n<10 ^ l:=Nat.not_le.1 h
  cases l with
  | zero=>exact absurd h (by simpa using h0)
  | succ l=>
   rcases g3 with g3|g3
   ·omega
   ·rw [Nat.add_zero];exact ndig_of (by simp only [Nat.add_sub_cancel] at g3;omega) h
theorem numDigits_ok (m:Int)(n:Nat)(h0:n≠0)(hn:n<1000000000):CallsP Tryz.prog (GG m) 256 [.c (.d (.int .u64 n))] (.c (.d (.int .i64 (ndig n)))):=by
 have c1:=bits_Len64_ok (GG m) n (by omega)
 have hb:blen n≤64:=by
  have:=blen_le h0
  apply Classical.byContradiction
  intro hc
  have h9:2 ^ 64≤2 ^ (blen n - 1):=Nat.pow_le_pow_right (by decide) (by omega)
  omega
 have c2:=log10Pow2_ok (GG m) (blen n) hb
 obtain⟨hl,hd⟩:=numDigits_n h0 hn
 rw [hd]
 generalize blen n*78913 / 262144=l at *
 generalize blen n=b at *
 obtain⟨rest,hx⟩:=ixP hl
 have hg:=GGp m
 have c3:=bool2_ok (GG m) (decide (((10 ^ l:Nat):Int)≤n))
 have hc:decide (((10 ^ l:Nat):Int)≤(n:Int))=decide (10 ^ l≤n):=decide_eq_decide.2 (by omega)
 rw [hc] at c3
 have hv:(if decide (10 ^ l≤n)=true then (1:Int) else 0)=((if 10 ^ l≤n then 1 else 0:Nat):Int):=by by_cases h:10 ^ l≤n <;> simp [h]
 rw [hv] at c3
 have hu:(if 10 ^ l≤n then 1 else 0:Nat)≤1:=by split <;> omega
 generalize (if 10 ^ l≤n then 1 else 0:Nat)=u at *
 have w:=w64 (n:=(l:Int)+u) (by omega) (by omega)
 rw [← hc] at c3
 generalize ((10 ^ l:Nat):Int)=t at *
 refine CallsP.en Go.Proofs.Tryz.func256 rfl fun _=>AW.q ?_
 refine AW.sr fun K hK=>?_
 simp
 refine CallDo.p 0 9 c1 ?_
 simp
 refine CallDo.p 0 9 c2 ?_
 simp
 repeat refine and_o ?_
 apply hK
 refine AW.c3 0 c3 hg hx w ?_
 exact AW.r0 (FinP.rt rfl 2 (by simp))
def dB (d:Nat):CV:=.d (.int .u8 ((48+d:Nat):Int))
@[simp] theorem dB_pure (d:Nat):(dB d).pure=true:=rfl
def dL:Nat→Nat→List Nat
 | 0,_=>[]
 | k+1,n=>dL k (n / 10)++[n % 10]
theorem tb0 (f:List UInt8){x a:Nat}(hx:x<100) (ha:a=2*x) (hf:(List.range 100).all (fun i=>(f[2*i]?.getD 0).toNat == 48+i / 10)=true):CV.d (.int .u8 ((f[a]?.getD 0).toNat:Int))=dB (x / 10):=by
 subst ha
 have:=List.all_eq_true.1 hf x (List.mem_range.2 hx)
 unfold dB
 rw [show (f[2*x]?.getD 0).toNat=48+x / 10 by simpa using this]
theorem tb1 (f:List UInt8){x a:Nat}(hx:x<100) (ha:a=2*x+1) (hf:(List.range 100).all (fun i=>(f[2*i+1]?.getD 0).toNat == 48+i % 10)=true):CV.d (.int .u8 ((f[a]?.getD 0).toNat:Int))=dB (x % 10):=by
 subst ha
 have:=List.all_eq_true.1 hf x (List.mem_range.2 hx)
 unfold dB
 rw [show (f[2*x+1]?.getD 0).toNat=48+x % 10 by simpa using this]
theorem fb3 (G:List (List DV))(n:Nat)(hn:n<1000)(c0 c1 c2:CV)(r:List CV) :
 CallsS Tryz.prog G 257 [.c (.lsl 0 0 3 1),.c (.d (.int .u64 n))] [.cells false false 299 (c0::c1::c2::r)]
  (.ret (.tup []) [.cells false false 299 ((dL 3 n).map dB++r)] []):=by
 have wl:∀ k:Nat,k<1000→IntKind.i64.wrap (k:Int)=k:=fun k h=>w64 (by omega) (by omega)
 have wl0:IntKind.i64.wrap 0=0:=wl 0 (by decide)
 have wl1:IntKind.i64.wrap 1=1:=wl 1 (by decide)
 have wl2:IntKind.i64.wrap 2=2:=wl 2 (by decide)
 have wl3:IntKind.i64.wrap 3=3:=wl 3 (by decide)
 have wl4:IntKind.i64.wrap 4=4:=wl 4 (by decide)
 have wl5:IntKind.i64.wrap 5=5:=wl 5 (by decide)
 have wl6:IntKind.i64.wrap 6=6:=wl 6 (by decide)
 have wl7:IntKind.i64.wrap 7=7:=wl 7 (by decide)
 have wl8:IntKind.i64.wrap 8=8:=wl 8 (by decide)
 have w12:IntKind.u32.wrap (n:Int)=n:=wu32 (by omega) (by omega)
 obtain⟨v,hv⟩:∃ q,n / 100=q:=⟨_,rfl⟩
 obtain⟨p5,hp5⟩:∃ q,n % 100=q:=⟨_,rfl⟩
 have dv:(n:Int).tdiv 100=(v:Int):=by rw [Int.tdiv_eq_ediv_of_nonneg (by omega)];omega
 have dp5:(n:Int).tmod 100=(p5:Int):=by rw [Int.tmod_eq_emod_of_nonneg (by omega)];omega
 have ev:IntKind.u32.wrap (v:Int)=v:=wu32 (by omega) (by omega)
 obtain⟨p5a,hp5a⟩:∃ a,p5*2=a:=⟨_,rfl⟩
 obtain⟨p5b,hp5b⟩:∃ a,p5a+1=a:=⟨_,rfl⟩
 have p51:IntKind.u32.wrap ((p5:Int)*2)=(p5a:Int):=by rw [wu32 (by omega) (by omega)];omega
 have p52:IntKind.u32.wrap ((p5a:Int)+1)=(p5b:Int):=by rw [wu32 (by omega) (by omega)];omega
 have p53:(p5a:Int)<200:=by omega
 have p54:(p5b:Int)<200:=by omega
 have w48:IntKind.u32.wrap (48+(v:Int))=((48+v:Nat):Int):=by rw [wu32 (by omega) (by omega)];omega
 have w49:IntKind.u8.wrap ((48+v:Nat):Int)=((48+v:Nat):Int):=wrap_in ⟨by simp only [loK];omega,by simp only [hiK];omega⟩
 refine CallsS.en1 Go.Proofs.Tryz.func257 rfl fun _=>AW.q ?_
 refine AW.seqK fun K hK=>AW.block ?_
 refine AW.loopV (fun (_:Unit)=>⟨frOf [(0,.c (.lsl 0 0 3 1)),(1,.c (.d (.int .u64 n))),(4,.c (.d (.int .i64 3)))],upd (fun _=>.hole) 0 (.cells false false 299 (c0::c1::c2::r))⟩) 1000 (fun _=>True) (fun _=>0) () (Le.mk2 _) trivial ?_
 rintro _ -
 refine AW.seqK fun K2 hK2=>AW.q ?_
 refine AW.cn (AW.exit (hK _ _ (AW.f1 w12 ?_)))
 refine AW.seqK fun K hK=>AW.q ?_
 refine AW.cn (AW.skip (hK _ _ (AW.seqK fun K hK=>AW.q ?_)))
 refine AW.cy (AW.f2 dp5 p51 ?_)
 refine AW.sr fun K1 hK1=>?_
 simp [dv,ev]
 repeat refine and_o ?_
 apply hK1
 refine AW.seqK fun K1 hK1=>?_
 refine AW.drawP mixed (by kernel_rfl) rfl ?_
 simp [p52,p53,p54,wl0,wl1,wl2,wl3,wl4,wl5,wl6,wl7,wl8,setSeg]
 rw [tb0 _ (x:=p5) (a:=p5a) (by omega) (by omega),tb1 _ (x:=p5) (a:=p5b) (by omega) (by omega)]
 rotate_left
 ·kernel_rfl
 ·kernel_rfl
 repeat refine and_o ?_
 refine⟨by kernel_rfl,?_⟩
 repeat refine and_o ?_
 apply hK1
 refine AW.rP ?_
 simp [wl0,wl1,wl2,wl3,wl4,wl5,wl6,wl7,wl8]
 repeat refine and_o ?_
 apply hK
 refine AW.q ?_
 refine AW.cy (AW.rP ?_)
 simp [w48,w49,setSeg]
 repeat refine and_o ?_
 have ed:dL 3 n=[v,p5 / 10,p5 % 10]:=by
  show [n / 10 / 10 % 10,n / 10 % 10,n % 10]=_
  simp only [List.cons.injEq,and_true]
  refine⟨?_,?_,?_⟩ <;> omega
 refine FinS.none (.inl rfl) rfl (by simp) ?_
 rw [ed]
 have e48:CV.d (.int .u8 (IntKind.u8.wrap (48+(v:Int))))=dB v:=by unfold dB;rw [← w49];rfl
 simp [e48]
theorem fb4 (G:List (List DV))(n:Nat)(hn:n<10000)(c0 c1 c2 c3:CV)(r:List CV) :
 CallsS Tryz.prog G 257 [.c (.lsl 0 0 4 1),.c (.d (.int .u64 n))] [.cells false false 299 (c0::c1::c2::c3::r)]
  (.ret (.tup []) [.cells false false 299 ((dL 4 n).map dB++r)] []):=by
 have wl:∀ k:Nat,k<1000→IntKind.i64.wrap (k:Int)=k:=fun k h=>w64 (by omega) (by omega)
 have wl0:IntKind.i64.wrap 0=0:=wl 0 (by decide)
 have wl1:IntKind.i64.wrap 1=1:=wl 1 (by decide)
 have wl2:IntKind.i64.wrap 2=2:=wl 2 (by decide)
 have wl3:IntKind.i64.wrap 3=3:=wl 3 (by decide)
 have wl4:IntKind.i64.wrap 4=4:=wl 4 (by decide)
 have wl5:IntKind.i64.wrap 5=5:=wl 5 (by decide)
 have wl6:IntKind.i64.wrap 6=6:=wl 6 (by decide)
 have wl7:IntKind.i64.wrap 7=7:=wl 7 (by decide)
 have wl8:IntKind.i64.wrap 8=8:=wl 8 (by decide)
 have w12:IntKind.u32.wrap (n:Int)=n:=wu32 (by omega) (by omega)
 obtain⟨t,ht⟩:∃ q,n / 10000=q:=⟨_,rfl⟩
 obtain⟨s,hs⟩:∃ q,n % 10000=q:=⟨_,rfl⟩
 have dt:(n:Int).tdiv 10000=(t:Int):=by rw [Int.tdiv_eq_ediv_of_nonneg (by omega)];omega
 have ds:(n:Int).tmod 10000=(s:Int):=by rw [Int.tmod_eq_emod_of_nonneg (by omega)];omega
 have et:IntKind.u32.wrap (t:Int)=t:=wu32 (by omega) (by omega)
 obtain⟨p1,hp1⟩:∃ q,s / 100=q:=⟨_,rfl⟩
 obtain⟨p0,hp0⟩:∃ q,s % 100=q:=⟨_,rfl⟩
 have dp1:(s:Int).tdiv 100=(p1:Int):=by rw [Int.tdiv_eq_ediv_of_nonneg (by omega)];omega
 have dp0:(s:Int).tmod 100=(p0:Int):=by rw [Int.tmod_eq_emod_of_nonneg (by omega)];omega
 have ep1:IntKind.u32.wrap (p1:Int)=p1:=wu32 (by omega) (by omega)
 obtain⟨p0a,hp0a⟩:∃ a,p0*2=a:=⟨_,rfl⟩
 obtain⟨p0b,hp0b⟩:∃ a,p0a+1=a:=⟨_,rfl⟩
 have p01:IntKind.u32.wrap ((p0:Int)*2)=(p0a:Int):=by rw [wu32 (by omega) (by omega)];omega
 have p02:IntKind.u32.wrap ((p0a:Int)+1)=(p0b:Int):=by rw [wu32 (by omega) (by omega)];omega
 have p03:(p0a:Int)<200:=by omega
 have p04:(p0b:Int)<200:=by omega
 obtain⟨p1a,hp1a⟩:∃ a,p1*2=a:=⟨_,rfl⟩
 obtain⟨p1b,hp1b⟩:∃ a,p1a+1=a:=⟨_,rfl⟩
 have p11:IntKind.u32.wrap ((p1:Int)*2)=(p1a:Int):=by rw [wu32 (by omega) (by omega)];omega
 have p12:IntKind.u32.wrap ((p1a:Int)+1)=(p1b:Int):=by rw [wu32 (by omega) (by omega)];omega
 have p13:(p1a:Int)<200:=by omega
 have p14:(p1b:Int)<200:=by omega
 refine CallsS.en1 Go.Proofs.Tryz.func257 rfl fun _=>AW.q ?_
 refine AW.seqK fun K hK=>AW.block ?_
 refine AW.loopV (fun (_:Unit)=>⟨frOf [(0,.c (.lsl 0 0 4 1)),(1,.c (.d (.int .u64 n))),(4,.c (.d (.int .i64 4)))],upd (fun _=>.hole) 0 (.cells false false 299 (c0::c1::c2::c3::r))⟩) 1000 (fun _=>True) (fun _=>0) () (Le.mk2 _) trivial ?_
 rintro _ -
 refine AW.seqK fun K2 hK2=>AW.q ?_
 refine AW.cn (AW.exit (hK _ _ (AW.f1 w12 ?_)))
 refine AW.seqK fun K hK=>AW.q ?_
 refine AW.cy (AW.f1 ds ?_)
 refine AW.f2 dt et ?_
 refine AW.f5 dp1 dp0 ep1 p11 p01 ?_
 refine AW.seqK fun K1 hK1=>?_
 refine AW.drawP mixed (by kernel_rfl) rfl ?_
 simp [p02,p03,p04,wl0,wl1,wl2,wl3,wl4,wl5,wl6,wl7,wl8,setSeg]
 rw [tb0 _ (x:=p0) (a:=p0a) (by omega) (by omega),tb1 _ (x:=p0) (a:=p0b) (by omega) (by omega)]
 rotate_left
 ·kernel_rfl
 ·kernel_rfl
 repeat refine and_o ?_
 refine⟨by kernel_rfl,?_⟩
 repeat refine and_o ?_
 apply hK1
 refine AW.seqK fun K1 hK1=>?_
 refine AW.drawP mixed (by kernel_rfl) rfl ?_
 simp [p12,p13,p14,wl0,wl1,wl2,wl3,wl4,wl5,wl6,wl7,wl8,setSeg]
 rw [tb0 _ (x:=p1) (a:=p1a) (by omega) (by omega),tb1 _ (x:=p1) (a:=p1b) (by omega) (by omega)]
 rotate_left
 ·kernel_rfl
 ·kernel_rfl
 repeat refine and_o ?_
 refine⟨by kernel_rfl,?_⟩
 repeat refine and_o ?_
 apply hK1
 refine AW.rP ?_
 simp [wl0,wl1,wl2,wl3,wl4,wl5,wl6,wl7,wl8]
 repeat refine and_o ?_
 apply hK
 refine AW.seqK fun K hK=>AW.q ?_
 refine AW.cn (AW.skip (hK _ _ (AW.q ?_)))
 refine AW.cn (AW.skip ?_)
 have ed:dL 4 n=[p1 / 10,p1 % 10,p0 / 10,p0 % 10]:=by
  show [n / 10 / 10 / 10 % 10,n / 10 / 10 % 10,n / 10 % 10,n % 10]=_
  simp only [List.cons.injEq,and_true]
  refine⟨?_,?_,?_,?_⟩ <;> omega
 refine FinS.none (.inl rfl) rfl (by simp) ?_
 rw [ed]
 simp
theorem fb5 (G:List (List DV))(n:Nat)(hn:n<100000)(c0 c1 c2 c3 c4:CV)(r:List CV) :
 CallsS Tryz.prog G 257 [.c (.lsl 0 0 5 1),.c (.d (.int .u64 n))] [.cells false false 299 (c0::c1::c2::c3::c4::r)]
  (.ret (.tup []) [.cells false false 299 ((dL 5 n).map dB++r)] []):=by
 have wl:∀ k:Nat,k<1000→IntKind.i64.wrap (k:Int)=k:=fun k h=>w64 (by omega) (by omega)
 have wl0:IntKind.i64.wrap 0=0:=wl 0 (by decide)
 have wl1:IntKind.i64.wrap 1=1:=wl 1 (by decide)
 have wl2:IntKind.i64.wrap 2=2:=wl 2 (by decide)
 have wl3:IntKind.i64.wrap 3=3:=wl 3 (by decide)
 have wl4:IntKind.i64.wrap 4=4:=wl 4 (by decide)
 have wl5:IntKind.i64.wrap 5=5:=wl 5 (by decide)
 have wl6:IntKind.i64.wrap 6=6:=wl 6 (by decide)
 have wl7:IntKind.i64.wrap 7=7:=wl 7 (by decide)
 have wl8:IntKind.i64.wrap 8=8:=wl 8 (by decide)
 have w12:IntKind.u32.wrap (n:Int)=n:=wu32 (by omega) (by omega)
 obtain⟨t,ht⟩:∃ q,n / 10000=q:=⟨_,rfl⟩
 obtain⟨s,hs⟩:∃ q,n % 10000=q:=⟨_,rfl⟩
 have dt:(n:Int).tdiv 10000=(t:Int):=by rw [Int.tdiv_eq_ediv_of_nonneg (by omega)];omega
 have ds:(n:Int).tmod 10000=(s:Int):=by rw [Int.tmod_eq_emod_of_nonneg (by omega)];omega
 have et:IntKind.u32.wrap (t:Int)=t:=wu32 (by omega) (by omega)
 obtain⟨p1,hp1⟩:∃ q,s / 100=q:=⟨_,rfl⟩
 obtain⟨p0,hp0⟩:∃ q,s % 100=q:=⟨_,rfl⟩
 have dp1:(s:Int).tdiv 100=(p1:Int):=by rw [Int.tdiv_eq_ediv_of_nonneg (by omega)];omega
 have dp0:(s:Int).tmod 100=(p0:Int):=by rw [Int.tmod_eq_emod_of_nonneg (by omega)];omega
 have ep1:IntKind.u32.wrap (p1:Int)=p1:=wu32 (by omega) (by omega)
 obtain⟨p0a,hp0a⟩:∃ a,p0*2=a:=⟨_,rfl⟩
 obtain⟨p0b,hp0b⟩:∃ a,p0a+1=a:=⟨_,rfl⟩
 have p01:IntKind.u32.wrap ((p0:Int)*2)=(p0a:Int):=by rw [wu32 (by omega) (by omega)];omega
 have p02:IntKind.u32.wrap ((p0a:Int)+1)=(p0b:Int):=by rw [wu32 (by omega) (by omega)];omega
 have p03:(p0a:Int)<200:=by omega
 have p04:(p0b:Int)<200:=by omega
 obtain⟨p1a,hp1a⟩:∃ a,p1*2=a:=⟨_,rfl⟩
 obtain⟨p1b,hp1b⟩:∃ a,p1a+1=a:=⟨_,rfl⟩
 have p11:IntKind.u32.wrap ((p1:Int)*2)=(p1a:Int):=by rw [wu32 (by omega) (by omega)];omega
 have p12:IntKind.u32.wrap ((p1a:Int)+1)=(p1b:Int):=by rw [wu32 (by omega) (by omega)];omega
 have p13:(p1a:Int)<200:=by omega
 have p14:(p1b:Int)<200:=by omega
 have w48:IntKind.u32.wrap (48+(t:Int))=((48+t:Nat):Int):=by rw [wu32 (by omega) (by omega)];omega
 have w49:IntKind.u8.wrap ((48+t:Nat):Int)=((48+t:Nat):Int):=wrap_in ⟨by simp only [loK];omega,by simp only [hiK];omega⟩
 refine CallsS.en1 Go.Proofs.Tryz.func257 rfl fun _=>AW.q ?_
 refine AW.seqK fun K hK=>AW.block ?_
 refine AW.loopV (fun (_:Unit)=>⟨frOf [(0,.c (.lsl 0 0 5 1)),(1,.c (.d (.int .u64 n))),(4,.c (.d (.int .i64 5)))],upd (fun _=>.hole) 0 (.cells false false 299 (c0::c1::c2::c3::c4::r))⟩) 1000 (fun _=>True) (fun _=>0) () (Le.mk2 _) trivial ?_
 rintro _ -
 refine AW.seqK fun K2 hK2=>AW.q ?_
 refine AW.cn (AW.exit (hK _ _ (AW.f1 w12 ?_)))
 refine AW.seqK fun K hK=>AW.q ?_
 refine AW.cy (AW.f1 ds ?_)
 refine AW.f2 dt et ?_
 refine AW.f5 dp1 dp0 ep1 p11 p01 ?_
 refine AW.seqK fun K1 hK1=>?_
 refine AW.drawP mixed (by kernel_rfl) rfl ?_
 simp [p02,p03,p04,wl0,wl1,wl2,wl3,wl4,wl5,wl6,wl7,wl8,setSeg]
 rw [tb0 _ (x:=p0) (a:=p0a) (by omega) (by omega),tb1 _ (x:=p0) (a:=p0b) (by omega) (by omega)]
 rotate_left
 ·kernel_rfl
 ·kernel_rfl
 repeat refine and_o ?_
 refine⟨by kernel_rfl,?_⟩
 repeat refine and_o ?_
 apply hK1
 refine AW.seqK fun K1 hK1=>?_
 refine AW.drawP mixed (by kernel_rfl) rfl ?_
 simp [p12,p13,p14,wl0,wl1,wl2,wl3,wl4,wl5,wl6,wl7,wl8,setSeg]
 rw [tb0 _ (x:=p1) (a:=p1a) (by omega) (by omega),tb1 _ (x:=p1) (a:=p1b) (by omega) (by omega)]
 rotate_left
 ·kernel_rfl
 ·kernel_rfl
 repeat refine and_o ?_
 refine⟨by kernel_rfl,?_⟩
 repeat refine and_o ?_
 apply hK1
 refine AW.rP ?_
 simp [wl0,wl1,wl2,wl3,wl4,wl5,wl6,wl7,wl8]
 repeat refine and_o ?_
 apply hK
 refine AW.seqK fun K hK=>AW.q ?_
 refine AW.cn (AW.skip (hK _ _ (AW.q ?_)))
 refine AW.cy (AW.rP ?_)
 simp [w48,w49,setSeg]
 repeat refine and_o ?_
 have ed:dL 5 n=[t,p1 / 10,p1 % 10,p0 / 10,p0 % 10]:=by
  show [n / 10 / 10 / 10 / 10 % 10,n / 10 / 10 / 10 % 10,n / 10 / 10 % 10,n / 10 % 10,n % 10]=_
  simp only [List.cons.injEq,and_true]
  refine⟨?_,?_,?_,?_,?_⟩ <;> omega
 refine FinS.none (.inl rfl) rfl (by simp) ?_
 rw [ed]
 have e48:CV.d (.int .u8 (IntKind.u8.wrap (48+(t:Int))))=dB t:=by unfold dB;rw [← w49];rfl
 simp [e48]
theorem fb6 (G:List (List DV))(n:Nat)(hn:n<1000000)(c0 c1 c2 c3 c4 c5:CV)(r:List CV) :
 CallsS Tryz.prog G 257 [.c (.lsl 0 0 6 1),.c (.d (.int .u64 n))] [.cells false false 299 (c0::c1::c2::c3::c4::c5::r)]
  (.ret (.tup []) [.cells false false 299 ((dL 6 n).map dB++r)] []):=by
 have wl:∀ k:Nat,k<1000→IntKind.i64.wrap (k:Int)=k:=fun k h=>w64 (by omega) (by omega)
 have wl0:IntKind.i64.wrap 0=0:=wl 0 (by decide)
 have wl1:IntKind.i64.wrap 1=1:=wl 1 (by decide)
 have wl2:IntKind.i64.wrap 2=2:=wl 2 (by decide)
 have wl3:IntKind.i64.wrap 3=3:=wl 3 (by decide)
 have wl4:IntKind.i64.wrap 4=4:=wl 4 (by decide)
 have wl5:IntKind.i64.wrap 5=5:=wl 5 (by decide)
 have wl6:IntKind.i64.wrap 6=6:=wl 6 (by decide)
 have wl7:IntKind.i64.wrap 7=7:=wl 7 (by decide)
 have wl8:IntKind.i64.wrap 8=8:=wl 8 (by decide)
 have w12:IntKind.u32.wrap (n:Int)=n:=wu32 (by omega) (by omega)
 obtain⟨t,ht⟩:∃ q,n / 10000=q:=⟨_,rfl⟩
 obtain⟨s,hs⟩:∃ q,n % 10000=q:=⟨_,rfl⟩
 have dt:(n:Int).tdiv 10000=(t:Int):=by rw [Int.tdiv_eq_ediv_of_nonneg (by omega)];omega
 have ds:(n:Int).tmod 10000=(s:Int):=by rw [Int.tmod_eq_emod_of_nonneg (by omega)];omega
 have et:IntKind.u32.wrap (t:Int)=t:=wu32 (by omega) (by omega)
 obtain⟨p1,hp1⟩:∃ q,s / 100=q:=⟨_,rfl⟩
 obtain⟨p0,hp0⟩:∃ q,s % 100=q:=⟨_,rfl⟩
 have dp1:(s:Int).tdiv 100=(p1:Int):=by rw [Int.tdiv_eq_ediv_of_nonneg (by omega)];omega
 have dp0:(s:Int).tmod 100=(p0:Int):=by rw [Int.tmod_eq_emod_of_nonneg (by omega)];omega
 have ep1:IntKind.u32.wrap (p1:Int)=p1:=wu32 (by omega) (by omega)
 obtain⟨p0a,hp0a⟩:∃ a,p0*2=a:=⟨_,rfl⟩
 obtain⟨p0b,hp0b⟩:∃ a,p0a+1=a:=⟨_,rfl⟩
 have p01:IntKind.u32.wrap ((p0:Int)*2)=(p0a:Int):=by rw [wu32 (by omega) (by omega)];omega
 have p02:IntKind.u32.wrap ((p0a:Int)+1)=(p0b:Int):=by rw [wu32 (by omega) (by omega)];omega
 have p03:(p0a:Int)<200:=by omega
 have p04:(p0b:Int)<200:=by omega
 obtain⟨p1a,hp1a⟩:∃ a,p1*2=a:=⟨_,rfl⟩
 obtain⟨p1b,hp1b⟩:∃ a,p1a+1=a:=⟨_,rfl⟩
 have p11:IntKind.u32.wrap ((p1:Int)*2)=(p1a:Int):=by rw [wu32 (by omega) (by omega)];omega
 have p12:IntKind.u32.wrap ((p1a:Int)+1)=(p1b:Int):=by rw [wu32 (by omega) (by omega)];omega
 have p13:(p1a:Int)<200:=by omega
 have p14:(p1b:Int)<200:=by omega
 obtain⟨v,hv⟩:∃ q,t / 100=q:=⟨_,rfl⟩
 obtain⟨p5,hp5⟩:∃ q,t % 100=q:=⟨_,rfl⟩
 have dv:(t:Int).tdiv 100=(v:Int):=by rw [Int.tdiv_eq_ediv_of_nonneg (by omega)];omega
 have dp5:(t:Int).tmod 100=(p5:Int):=by rw [Int.tmod_eq_emod_of_nonneg (by omega)];omega
 have ev:IntKind.u32.wrap (v:Int)=v:=wu32 (by omega) (by omega)
 obtain⟨p5a,hp5a⟩:∃ a,p5*2=a:=⟨_,rfl⟩
 obtain⟨p5b,hp5b⟩:∃ a,p5a+1=a:=⟨_,rfl⟩
 have p51:IntKind.u32.wrap ((p5:Int)*2)=(p5a:Int):=by rw [wu32 (by omega) (by omega)];omega
 have p52:IntKind.u32.wrap ((p5a:Int)+1)=(p5b:Int):=by rw [wu32 (by omega) (by omega)];omega
 have p53:(p5a:Int)<200:=by omega
 have p54:(p5b:Int)<200:=by omega
 refine CallsS.en1 Go.Proofs.Tryz.func257 rfl fun _=>AW.q ?_
 refine AW.seqK fun K hK=>AW.block ?_
 refine AW.loopV (fun (_:Unit)=>⟨frOf [(0,.c (.lsl 0 0 6 1)),(1,.c (.d (.int .u64 n))),(4,.c (.d (.int .i64 6)))],upd (fun _=>.hole) 0 (.cells false false 299 (c0::c1::c2::c3::c4::c5::r))⟩) 1000 (fun _=>True) (fun _=>0) () (Le.mk2 _) trivial ?_
 rintro _ -
 refine AW.seqK fun K2 hK2=>AW.q ?_
 refine AW.cn (AW.exit (hK _ _ (AW.f1 w12 ?_)))
 refine AW.seqK fun K hK=>AW.q ?_
 refine AW.cy (AW.f1 ds ?_)
 refine AW.f2 dt et ?_
 refine AW.f5 dp1 dp0 ep1 p11 p01 ?_
 refine AW.seqK fun K1 hK1=>?_
 refine AW.drawP mixed (by kernel_rfl) rfl ?_
 simp [p02,p03,p04,wl0,wl1,wl2,wl3,wl4,wl5,wl6,wl7,wl8,setSeg]
 rw [tb0 _ (x:=p0) (a:=p0a) (by omega) (by omega),tb1 _ (x:=p0) (a:=p0b) (by omega) (by omega)]
 rotate_left
 ·kernel_rfl
 ·kernel_rfl
 repeat refine and_o ?_
 refine⟨by kernel_rfl,?_⟩
 repeat refine and_o ?_
 apply hK1
 refine AW.seqK fun K1 hK1=>?_
 refine AW.drawP mixed (by kernel_rfl) rfl ?_
 simp [p12,p13,p14,wl0,wl1,wl2,wl3,wl4,wl5,wl6,wl7,wl8,setSeg]
 rw [tb0 _ (x:=p1) (a:=p1a) (by omega) (by omega),tb1 _ (x:=p1) (a:=p1b) (by omega) (by omega)]
 rotate_left
 ·kernel_rfl
 ·kernel_rfl
 repeat refine and_o ?_
 refine⟨by kernel_rfl,?_⟩
 repeat refine and_o ?_
 apply hK1
 refine AW.rP ?_
 simp [wl0,wl1,wl2,wl3,wl4,wl5,wl6,wl7,wl8]
 repeat refine and_o ?_
 apply hK
 refine AW.seqK fun K hK=>AW.q ?_
 refine AW.cy (AW.f2 dp5 p51 ?_)
 refine AW.sr fun K1 hK1=>?_
 simp [dv,ev]
 repeat refine and_o ?_
 apply hK1
 refine AW.seqK fun K1 hK1=>?_
 refine AW.drawP mixed (by kernel_rfl) rfl ?_
 simp [p52,p53,p54,wl0,wl1,wl2,wl3,wl4,wl5,wl6,wl7,wl8,setSeg]
 rw [tb0 _ (x:=p5) (a:=p5a) (by omega) (by omega),tb1 _ (x:=p5) (a:=p5b) (by omega) (by omega)]
 rotate_left
 ·kernel_rfl
 ·kernel_rfl
 repeat refine and_o ?_
 refine⟨by kernel_rfl,?_⟩
 repeat refine and_o ?_
 apply hK1
 refine AW.rP ?_
 simp [wl0,wl1,wl2,wl3,wl4,wl5,wl6,wl7,wl8]
 repeat refine and_o ?_
 apply hK
 refine AW.q ?_
 refine AW.cn (AW.skip ?_)
 have ed:dL 6 n=[p5 / 10,p5 % 10,p1 / 10,p1 % 10,p0 / 10,p0 % 10]:=by
  show [n / 10 / 10 / 10 / 10 / 10 % 10,n / 10 / 10 / 10 / 10 % 10,n / 10 / 10 / 10 % 10,n / 10 / 10 % 10,n / 10 % 10,n % 10]=_
  simp only [List.cons.injEq,and_true]
  refine⟨?_,?_,?_,?_,?_,?_⟩ <;> omega
 refine FinS.none (.inl rfl) rfl (by simp) ?_
 rw [ed]
 simp
theorem fb7 (G:List (List DV))(n:Nat)(hn:n<10000000)(c0 c1 c2 c3 c4 c5 c6:CV)(r:List CV) :
 CallsS Tryz.prog G 257 [.c (.lsl 0 0 7 1),.c (.d (.int .u64 n))] [.cells false false 299 (c0::c1::c2::c3::c4::c5::c6::r)]
  (.ret (.tup []) [.cells false false 299 ((dL 7 n).map dB++r)] []):=by
 have wl:∀ k:Nat,k<1000→IntKind.i64.wrap (k:Int)=k:=fun k h=>w64 (by omega) (by omega)
 have wl0:IntKind.i64.wrap 0=0:=wl 0 (by decide)
 have wl1:IntKind.i64.wrap 1=1:=wl 1 (by decide)
 have wl2:IntKind.i64.wrap 2=2:=wl 2 (by decide)
 have wl3:IntKind.i64.wrap 3=3:=wl 3 (by decide)
 have wl4:IntKind.i64.wrap 4=4:=wl 4 (by decide)
 have wl5:IntKind.i64.wrap 5=5:=wl 5 (by decide)
 have wl6:IntKind.i64.wrap 6=6:=wl 6 (by decide)
 have wl7:IntKind.i64.wrap 7=7:=wl 7 (by decide)
 have wl8:IntKind.i64.wrap 8=8:=wl 8 (by decide)
 have w12:IntKind.u32.wrap (n:Int)=n:=wu32 (by omega) (by omega)
 obtain⟨t,ht⟩:∃ q,n / 10000=q:=⟨_,rfl⟩
 obtain⟨s,hs⟩:∃ q,n % 10000=q:=⟨_,rfl⟩
 have dt:(n:Int).tdiv 10000=(t:Int):=by rw [Int.tdiv_eq_ediv_of_nonneg (by omega)];omega
 have ds:(n:Int).tmod 10000=(s:Int):=by rw [Int.tmod_eq_emod_of_nonneg (by omega)];omega
 have et:IntKind.u32.wrap (t:Int)=t:=wu32 (by omega) (by omega)
 obtain⟨p1,hp1⟩:∃ q,s / 100=q:=⟨_,rfl⟩
 obtain⟨p0,hp0⟩:∃ q,s % 100=q:=⟨_,rfl⟩
 have dp1:(s:Int).tdiv 100=(p1:Int):=by rw [Int.tdiv_eq_ediv_of_nonneg (by omega)];omega
 have dp0:(s:Int).tmod 100=(p0:Int):=by rw [Int.tmod_eq_emod_of_nonneg (by omega)];omega
 have ep1:IntKind.u32.wrap (p1:Int)=p1:=wu32 (by omega) (by omega)
 obtain⟨p0a,hp0a⟩:∃ a,p0*2=a:=⟨_,rfl⟩
 obtain⟨p0b,hp0b⟩:∃ a,p0a+1=a:=⟨_,rfl⟩
 have p01:IntKind.u32.wrap ((p0:Int)*2)=(p0a:Int):=by rw [wu32 (by omega) (by omega)];omega
 have p02:IntKind.u32.wrap ((p0a:Int)+1)=(p0b:Int):=by rw [wu32 (by omega) (by omega)];omega
 have p03:(p0a:Int)<200:=by omega
 have p04:(p0b:Int)<200:=by omega
 obtain⟨p1a,hp1a⟩:∃ a,p1*2=a:=⟨_,rfl⟩
 obtain⟨p1b,hp1b⟩:∃ a,p1a+1=a:=⟨_,rfl⟩
 have p11:IntKind.u32.wrap ((p1:Int)*2)=(p1a:Int):=by rw [wu32 (by omega) (by omega)];omega
 have p12:IntKind.u32.wrap ((p1a:Int)+1)=(p1b:Int):=by rw [wu32 (by omega) (by omega)];omega
 have p13:(p1a:Int)<200:=by omega
 have p14:(p1b:Int)<200:=by omega
 obtain⟨v,hv⟩:∃ q,t / 100=q:=⟨_,rfl⟩
 obtain⟨p5,hp5⟩:∃ q,t % 100=q:=⟨_,rfl⟩
 have dv:(t:Int).tdiv 100=(v:Int):=by rw [Int.tdiv_eq_ediv_of_nonneg (by omega)];omega
 have dp5:(t:Int).tmod 100=(p5:Int):=by rw [Int.tmod_eq_emod_of_nonneg (by omega)];omega
 have ev:IntKind.u32.wrap (v:Int)=v:=wu32 (by omega) (by omega)
 obtain⟨p5a,hp5a⟩:∃ a,p5*2=a:=⟨_,rfl⟩
 obtain⟨p5b,hp5b⟩:∃ a,p5a+1=a:=⟨_,rfl⟩
 have p51:IntKind.u32.wrap ((p5:Int)*2)=(p5a:Int):=by rw [wu32 (by omega) (by omega)];omega
 have p52:IntKind.u32.wrap ((p5a:Int)+1)=(p5b:Int):=by rw [wu32 (by omega) (by omega)];omega
 have p53:(p5a:Int)<200:=by omega
 have p54:(p5b:Int)<200:=by omega
 have w48:IntKind.u32.wrap (48+(v:Int))=((48+v:Nat):Int):=by rw [wu32 (by omega) (by omega)];omega
 have w49:IntKind.u8.wrap ((48+v:Nat):Int)=((48+v:Nat):Int):=wrap_in ⟨by simp only [loK];omega,by simp only [hiK];omega⟩
 refine CallsS.en1 Go.Proofs.Tryz.func257 rfl fun _=>AW.q ?_
 refine AW.seqK fun K hK=>AW.block ?_
 refine AW.loopV (fun (_:Unit)=>⟨frOf [(0,.c (.lsl 0 0 7 1)),(1,.c (.d (.int .u64 n))),(4,.c (.d (.int .i64 7)))],upd (fun _=>.hole) 0 (.cells false false 299 (c0::c1::c2::c3::c4::c5::c6::r))⟩) 1000 (fun _=>True) (fun _=>0) () (Le.mk2 _) trivial ?_
 rintro _ -
 refine AW.seqK fun K2 hK2=>AW.q ?_
 refine AW.cn (AW.exit (hK _ _ (AW.f1 w12 ?_)))
 refine AW.seqK fun K hK=>AW.q ?_
 refine AW.cy (AW.f1 ds ?_)
 refine AW.f2 dt et ?_
 refine AW.f5 dp1 dp0 ep1 p11 p01 ?_
 refine AW.seqK fun K1 hK1=>?_
 refine AW.drawP mixed (by kernel_rfl) rfl ?_
 simp [p02,p03,p04,wl0,wl1,wl2,wl3,wl4,wl5,wl6,wl7,wl8,setSeg]
 rw [tb0 _ (x:=p0) (a:=p0a) (by omega) (by omega),tb1 _ (x:=p0) (a:=p0b) (by omega) (by omega)]
 rotate_left
 ·kernel_rfl
 ·kernel_rfl
 repeat refine and_o ?_
 refine⟨by kernel_rfl,?_⟩
 repeat refine and_o ?_
 apply hK1
 refine AW.seqK fun K1 hK1=>?_
 refine AW.drawP mixed (by kernel_rfl) rfl ?_
 simp [p12,p13,p14,wl0,wl1,wl2,wl3,wl4,wl5,wl6,wl7,wl8,setSeg]
 rw [tb0 _ (x:=p1) (a:=p1a) (by omega) (by omega),tb1 _ (x:=p1) (a:=p1b) (by omega) (by omega)]
 rotate_left
 ·kernel_rfl
 ·kernel_rfl
 repeat refine and_o ?_
 refine⟨by kernel_rfl,?_⟩
 repeat refine and_o ?_
 apply hK1
 refine AW.rP ?_
 simp [wl0,wl1,wl2,wl3,wl4,wl5,wl6,wl7,wl8]
 repeat refine and_o ?_
 apply hK
 refine AW.seqK fun K hK=>AW.q ?_
 refine AW.cy (AW.f2 dp5 p51 ?_)
 refine AW.sr fun K1 hK1=>?_
 simp [dv,ev]
 repeat refine and_o ?_
 apply hK1
 refine AW.seqK fun K1 hK1=>?_
 refine AW.drawP mixed (by kernel_rfl) rfl ?_
 simp [p52,p53,p54,wl0,wl1,wl2,wl3,wl4,wl5,wl6,wl7,wl8,setSeg]
 rw [tb0 _ (x:=p5) (a:=p5a) (by omega) (by omega),tb1 _ (x:=p5) (a:=p5b) (by omega) (by omega)]
 rotate_left
 ·kernel_rfl
 ·kernel_rfl
 repeat refine and_o ?_
 refine⟨by kernel_rfl,?_⟩
 repeat refine and_o ?_
 apply hK1
 refine AW.rP ?_
 simp [wl0,wl1,wl2,wl3,wl4,wl5,wl6,wl7,wl8]
 repeat refine and_o ?_
 apply hK
 refine AW.q ?_
 refine AW.cy (AW.rP ?_)
 simp [w48,w49,setSeg]
 repeat refine and_o ?_
 have ed:dL 7 n=[v,p5 / 10,p5 % 10,p1 / 10,p1 % 10,p0 / 10,p0 % 10]:=by
  show [n / 10 / 10 / 10 / 10 / 10 / 10 % 10,n / 10 / 10 / 10 / 10 / 10 % 10,n / 10 / 10 / 10 / 10 % 10,n / 10 / 10 / 10 % 10,n / 10 / 10 % 10,n / 10 % 10,n % 10]=_
  simp only [List.cons.injEq,and_true]
  refine⟨?_,?_,?_,?_,?_,?_,?_⟩ <;> omega
 refine FinS.none (.inl rfl) rfl (by simp) ?_
 rw [ed]
 have e48:CV.d (.int .u8 (IntKind.u8.wrap (48+(v:Int))))=dB v:=by unfold dB;rw [← w49];rfl
 simp [e48]
theorem fb8 (G:List (List DV))(n:Nat)(hn:n<100000000)(c0 c1 c2 c3 c4 c5 c6 c7:CV)(r:List CV) :
 CallsS Tryz.prog G 257 [.c (.lsl 0 0 8 1),.c (.d (.int .u64 n))] [.cells false false 299 (c0::c1::c2::c3::c4::c5::c6::c7::r)]
  (.ret (.tup []) [.cells false false 299 ((dL 8 n).map dB++r)] []):=by
 have wl:∀ k:Nat,k<1000→IntKind.i64.wrap (k:Int)=k:=fun k h=>w64 (by omega) (by omega)
 have wl0:IntKind.i64.wrap 0=0:=wl 0 (by decide)
 have wl1:IntKind.i64.wrap 1=1:=wl 1 (by decide)
 have wl2:IntKind.i64.wrap 2=2:=wl 2 (by decide)
 have wl3:IntKind.i64.wrap 3=3:=wl 3 (by decide)
 have wl4:IntKind.i64.wrap 4=4:=wl 4 (by decide)
 have wl5:IntKind.i64.wrap 5=5:=wl 5 (by decide)
 have wl6:IntKind.i64.wrap 6=6:=wl 6 (by decide)
 have wl7:IntKind.i64.wrap 7=7:=wl 7 (by decide)
 have wl8:IntKind.i64.wrap 8=8:=wl 8 (by decide)
 obtain⟨u,hu⟩:∃ q,n / 100000000=q:=⟨_,rfl⟩
 obtain⟨z,hz⟩:∃ q,n % 100000000=q:=⟨_,rfl⟩
 have du:(n:Int).tdiv 100000000=(u:Int):=by rw [Int.tdiv_eq_ediv_of_nonneg (by omega)];omega
 have dz:(n:Int).tmod 100000000=(z:Int):=by rw [Int.tmod_eq_emod_of_nonneg (by omega)];omega
 have eu:IntKind.u64.wrap (u:Int)=u:=wu64 (by omega) (by omega)
 obtain⟨y,hy⟩:∃ q,z / 10000=q:=⟨_,rfl⟩
 obtain⟨x,hx⟩:∃ q,z % 10000=q:=⟨_,rfl⟩
 have dy:(z:Int).tdiv 10000=(y:Int):=by rw [Int.tdiv_eq_ediv_of_nonneg (by omega)];omega
 have dx:(z:Int).tmod 10000=(x:Int):=by rw [Int.tmod_eq_emod_of_nonneg (by omega)];omega
 have ey:IntKind.u32.wrap (y:Int)=y:=wu32 (by omega) (by omega)
 obtain⟨p1,hp1⟩:∃ q,x / 100=q:=⟨_,rfl⟩
 obtain⟨p0,hp0⟩:∃ q,x % 100=q:=⟨_,rfl⟩
 have dp1:(x:Int).tdiv 100=(p1:Int):=by rw [Int.tdiv_eq_ediv_of_nonneg (by omega)];omega
 have dp0:(x:Int).tmod 100=(p0:Int):=by rw [Int.tmod_eq_emod_of_nonneg (by omega)];omega
 have ep1:IntKind.u32.wrap (p1:Int)=p1:=wu32 (by omega) (by omega)
 obtain⟨p3,hp3⟩:∃ q,y / 100=q:=⟨_,rfl⟩
 obtain⟨p2,hp2⟩:∃ q,y % 100=q:=⟨_,rfl⟩
 have dp3:(y:Int).tdiv 100=(p3:Int):=by rw [Int.tdiv_eq_ediv_of_nonneg (by omega)];omega
 have dp2:(y:Int).tmod 100=(p2:Int):=by rw [Int.tmod_eq_emod_of_nonneg (by omega)];omega
 have ep3:IntKind.u32.wrap (p3:Int)=p3:=wu32 (by omega) (by omega)
 obtain⟨p0a,hp0a⟩:∃ a,p0*2=a:=⟨_,rfl⟩
 obtain⟨p0b,hp0b⟩:∃ a,p0a+1=a:=⟨_,rfl⟩
 have p01:IntKind.u32.wrap ((p0:Int)*2)=(p0a:Int):=by rw [wu32 (by omega) (by omega)];omega
 have p02:IntKind.u32.wrap ((p0a:Int)+1)=(p0b:Int):=by rw [wu32 (by omega) (by omega)];omega
 have p03:(p0a:Int)<200:=by omega
 have p04:(p0b:Int)<200:=by omega
 obtain⟨p1a,hp1a⟩:∃ a,p1*2=a:=⟨_,rfl⟩
 obtain⟨p1b,hp1b⟩:∃ a,p1a+1=a:=⟨_,rfl⟩
 have p11:IntKind.u32.wrap ((p1:Int)*2)=(p1a:Int):=by rw [wu32 (by omega) (by omega)];omega
 have p12:IntKind.u32.wrap ((p1a:Int)+1)=(p1b:Int):=by rw [wu32 (by omega) (by omega)];omega
 have p13:(p1a:Int)<200:=by omega
 have p14:(p1b:Int)<200:=by omega
 obtain⟨p2a,hp2a⟩:∃ a,p2*2=a:=⟨_,rfl⟩
 obtain⟨p2b,hp2b⟩:∃ a,p2a+1=a:=⟨_,rfl⟩
 have p21:IntKind.u32.wrap ((p2:Int)*2)=(p2a:Int):=by rw [wu32 (by omega) (by omega)];omega
 have p22:IntKind.u32.wrap ((p2a:Int)+1)=(p2b:Int):=by rw [wu32 (by omega) (by omega)];omega
 have p23:(p2a:Int)<200:=by omega
 have p24:(p2b:Int)<200:=by omega
 obtain⟨p3a,hp3a⟩:∃ a,p3*2=a:=⟨_,rfl⟩
 obtain⟨p3b,hp3b⟩:∃ a,p3a+1=a:=⟨_,rfl⟩
 have p31:IntKind.u32.wrap ((p3:Int)*2)=(p3a:Int):=by rw [wu32 (by omega) (by omega)];omega
 have p32:IntKind.u32.wrap ((p3a:Int)+1)=(p3b:Int):=by rw [wu32 (by omega) (by omega)];omega
 have p33:(p3a:Int)<200:=by omega
 have p34:(p3b:Int)<200:=by omega
 have wz:IntKind.u32.wrap (z:Int)=z:=wu32 (by omega) (by omega)
 have w12:IntKind.u32.wrap (u:Int)=u:=wu32 (by omega) (by omega)
 refine CallsS.en1 Go.Proofs.Tryz.func257 rfl fun _=>AW.q ?_
 refine AW.seqK fun K hK=>AW.block ?_
 refine AW.loopV (fun (b:Int × Int × List CV)=>⟨frOf [(0,.c (.lsl 0 0 8 1)),(1,.c (.d (.int .u64 b.1))),(4,.c (.d (.int .i64 b.2.1)))],upd (fun _=>.hole) 0 (.cells false false 299 b.2.2)⟩) 1000 (fun b=>b=((n:Int),8,(c0::c1::c2::c3::c4::c5::c6::c7::r))∨b=((u:Int),0,(dB (p3 / 10)::dB (p3 % 10)::dB (p2 / 10)::dB (p2 % 10)::dB (p1 / 10)::dB (p1 % 10)::dB (p0 / 10)::dB (p0 % 10)::r))) (fun b=>b.2.1.toNat) ((n:Int),8,(c0::c1::c2::c3::c4::c5::c6::c7::r)) (Le.mk2 _) (.inl rfl) ?_
 rintro b (rfl|rfl)
 ·refine AW.seqK fun K2 hK2=>AW.q ?_
  refine AW.cy (AW.skip (hK2 _ _ (AW.block (AW.f2 dz wz ?_))))
  refine AW.f2 du eu ?_
  refine AW.f3 dy dx ey ?_
  refine AW.f5 dp1 dp0 ep1 p11 p01 ?_
  refine AW.f5 dp3 dp2 ep3 p31 p21 ?_
  refine AW.seqK fun K5 hK5=>?_
  refine AW.drawP mixed (by kernel_rfl) rfl ?_
  simp [p02,p03,p04,wl0,wl1,wl2,wl3,wl4,wl5,wl6,wl7,wl8,setSeg]
  rw [tb0 _ (x:=p0) (a:=p0a) (by omega) (by omega),tb1 _ (x:=p0) (a:=p0b) (by omega) (by omega)]
  rotate_left
  ·kernel_rfl
  ·kernel_rfl
  repeat refine and_o ?_
  refine⟨by kernel_rfl,?_⟩
  repeat refine and_o ?_
  apply hK5
  refine AW.seqK fun K5 hK5=>?_
  refine AW.drawP mixed (by kernel_rfl) rfl ?_
  simp [p12,p13,p14,wl0,wl1,wl2,wl3,wl4,wl5,wl6,wl7,wl8,setSeg]
  rw [tb0 _ (x:=p1) (a:=p1a) (by omega) (by omega),tb1 _ (x:=p1) (a:=p1b) (by omega) (by omega)]
  rotate_left
  ·kernel_rfl
  ·kernel_rfl
  repeat refine and_o ?_
  refine⟨by kernel_rfl,?_⟩
  repeat refine and_o ?_
  apply hK5
  refine AW.seqK fun K5 hK5=>?_
  refine AW.drawP mixed (by kernel_rfl) rfl ?_
  simp [p22,p23,p24,wl0,wl1,wl2,wl3,wl4,wl5,wl6,wl7,wl8,setSeg]
  rw [tb0 _ (x:=p2) (a:=p2a) (by omega) (by omega),tb1 _ (x:=p2) (a:=p2b) (by omega) (by omega)]
  rotate_left
  ·kernel_rfl
  ·kernel_rfl
  repeat refine and_o ?_
  refine⟨by kernel_rfl,?_⟩
  repeat refine and_o ?_
  apply hK5
  refine AW.seqK fun K5 hK5=>?_
  refine AW.drawP mixed (by kernel_rfl) rfl ?_
  simp [p32,p33,p34,wl0,wl1,wl2,wl3,wl4,wl5,wl6,wl7,wl8,setSeg]
  rw [tb0 _ (x:=p3) (a:=p3a) (by omega) (by omega),tb1 _ (x:=p3) (a:=p3b) (by omega) (by omega)]
  rotate_left
  ·kernel_rfl
  ·kernel_rfl
  repeat refine and_o ?_
  refine⟨by kernel_rfl,?_⟩
  repeat refine and_o ?_
  apply hK5
  refine AW.rP ?_
  simp [wl0,wl1,wl2,wl3,wl4,wl5,wl6,wl7,wl8]
  refine⟨(u:Int),0,(dB (p3 / 10)::dB (p3 % 10)::dB (p2 / 10)::dB (p2 % 10)::dB (p1 / 10)::dB (p1 % 10)::dB (p0 / 10)::dB (p0 % 10)::r),Le.mk2 _,.inr ⟨rfl,rfl,rfl⟩,by decide⟩
 refine AW.seqK fun K2 hK2=>AW.q ?_
 refine AW.cn (AW.exit (hK _ _ (AW.f1 w12 ?_)))
 refine AW.seqK fun K hK=>AW.q ?_
 refine AW.cn (AW.skip (hK _ _ (AW.seqK fun K hK=>AW.q ?_)))
 refine AW.cn (AW.skip (hK _ _ (AW.q ?_)))
 refine AW.cn (AW.skip ?_)
 have ed:dL 8 n=[p3 / 10,p3 % 10,p2 / 10,p2 % 10,p1 / 10,p1 % 10,p0 / 10,p0 % 10]:=by
  show [n / 10 / 10 / 10 / 10 / 10 / 10 / 10 % 10,n / 10 / 10 / 10 / 10 / 10 / 10 % 10,n / 10 / 10 / 10 / 10 / 10 % 10,n / 10 / 10 / 10 / 10 % 10,n / 10 / 10 / 10 % 10,n / 10 / 10 % 10,n / 10 % 10,n % 10]=_
  simp only [List.cons.injEq,and_true]
  refine⟨?_,?_,?_,?_,?_,?_,?_,?_⟩ <;> omega
 refine FinS.none (.inl rfl) rfl (by simp) ?_
 rw [ed]
 simp
theorem fb9 (G:List (List DV))(n:Nat)(hn:n<1000000000)(c0 c1 c2 c3 c4 c5 c6 c7 c8:CV)(r:List CV) :
 CallsS Tryz.prog G 257 [.c (.lsl 0 0 9 1),.c (.d (.int .u64 n))] [.cells false false 299 (c0::c1::c2::c3::c4::c5::c6::c7::c8::r)]
  (.ret (.tup []) [.cells false false 299 ((dL 9 n).map dB++r)] []):=by
 have wl:∀ k:Nat,k<1000→IntKind.i64.wrap (k:Int)=k:=fun k h=>w64 (by omega) (by omega)
 have wl0:IntKind.i64.wrap 0=0:=wl 0 (by decide)
 have wl1:IntKind.i64.wrap 1=1:=wl 1 (by decide)
 have wl2:IntKind.i64.wrap 2=2:=wl 2 (by decide)
 have wl3:IntKind.i64.wrap 3=3:=wl 3 (by decide)
 have wl4:IntKind.i64.wrap 4=4:=wl 4 (by decide)
 have wl5:IntKind.i64.wrap 5=5:=wl 5 (by decide)
 have wl6:IntKind.i64.wrap 6=6:=wl 6 (by decide)
 have wl7:IntKind.i64.wrap 7=7:=wl 7 (by decide)
 have wl8:IntKind.i64.wrap 8=8:=wl 8 (by decide)
 obtain⟨u,hu⟩:∃ q,n / 100000000=q:=⟨_,rfl⟩
 obtain⟨z,hz⟩:∃ q,n % 100000000=q:=⟨_,rfl⟩
 have du:(n:Int).tdiv 100000000=(u:Int):=by rw [Int.tdiv_eq_ediv_of_nonneg (by omega)];omega
 have dz:(n:Int).tmod 100000000=(z:Int):=by rw [Int.tmod_eq_emod_of_nonneg (by omega)];omega
 have eu:IntKind.u64.wrap (u:Int)=u:=wu64 (by omega) (by omega)
 obtain⟨y,hy⟩:∃ q,z / 10000=q:=⟨_,rfl⟩
 obtain⟨x,hx⟩:∃ q,z % 10000=q:=⟨_,rfl⟩
 have dy:(z:Int).tdiv 10000=(y:Int):=by rw [Int.tdiv_eq_ediv_of_nonneg (by omega)];omega
 have dx:(z:Int).tmod 10000=(x:Int):=by rw [Int.tmod_eq_emod_of_nonneg (by omega)];omega
 have ey:IntKind.u32.wrap (y:Int)=y:=wu32 (by omega) (by omega)
 obtain⟨p1,hp1⟩:∃ q,x / 100=q:=⟨_,rfl⟩
 obtain⟨p0,hp0⟩:∃ q,x % 100=q:=⟨_,rfl⟩
 have dp1:(x:Int).tdiv 100=(p1:Int):=by rw [Int.tdiv_eq_ediv_of_nonneg (by omega)];omega
 have dp0:(x:Int).tmod 100=(p0:Int):=by rw [Int.tmod_eq_emod_of_nonneg (by omega)];omega
 have ep1:IntKind.u32.wrap (p1:Int)=p1:=wu32 (by omega) (by omega)
 obtain⟨p3,hp3⟩:∃ q,y / 100=q:=⟨_,rfl⟩
 obtain⟨p2,hp2⟩:∃ q,y % 100=q:=⟨_,rfl⟩
 have dp3:(y:Int).tdiv 100=(p3:Int):=by rw [Int.tdiv_eq_ediv_of_nonneg (by omega)];omega
 have dp2:(y:Int).tmod 100=(p2:Int):=by rw [Int.tmod_eq_emod_of_nonneg (by omega)];omega
 have ep3:IntKind.u32.wrap (p3:Int)=p3:=wu32 (by omega) (by omega)
 obtain⟨p0a,hp0a⟩:∃ a,p0*2=a:=⟨_,rfl⟩
 obtain⟨p0b,hp0b⟩:∃ a,p0a+1=a:=⟨_,rfl⟩
 have p01:IntKind.u32.wrap ((p0:Int)*2)=(p0a:Int):=by rw [wu32 (by omega) (by omega)];omega
 have p02:IntKind.u32.wrap ((p0a:Int)+1)=(p0b:Int):=by rw [wu32 (by omega) (by omega)];omega
 have p03:(p0a:Int)<200:=by omega
 have p04:(p0b:Int)<200:=by omega
 obtain⟨p1a,hp1a⟩:∃ a,p1*2=a:=⟨_,rfl⟩
 obtain⟨p1b,hp1b⟩:∃ a,p1a+1=a:=⟨_,rfl⟩
 have p11:IntKind.u32.wrap ((p1:Int)*2)=(p1a:Int):=by rw [wu32 (by omega) (by omega)];omega
 have p12:IntKind.u32.wrap ((p1a:Int)+1)=(p1b:Int):=by rw [wu32 (by omega) (by omega)];omega
 have p13:(p1a:Int)<200:=by omega
 have p14:(p1b:Int)<200:=by omega
 obtain⟨p2a,hp2a⟩:∃ a,p2*2=a:=⟨_,rfl⟩
 obtain⟨p2b,hp2b⟩:∃ a,p2a+1=a:=⟨_,rfl⟩
 have p21:IntKind.u32.wrap ((p2:Int)*2)=(p2a:Int):=by rw [wu32 (by omega) (by omega)];omega
 have p22:IntKind.u32.wrap ((p2a:Int)+1)=(p2b:Int):=by rw [wu32 (by omega) (by omega)];omega
 have p23:(p2a:Int)<200:=by omega
 have p24:(p2b:Int)<200:=by omega
 obtain⟨p3a,hp3a⟩:∃ a,p3*2=a:=⟨_,rfl⟩
 obtain⟨p3b,hp3b⟩:∃ a,p3a+1=a:=⟨_,rfl⟩
 have p31:IntKind.u32.wrap ((p3:Int)*2)=(p3a:Int):=by rw [wu32 (by omega) (by omega)];omega
 have p32:IntKind.u32.wrap ((p3a:Int)+1)=(p3b:Int):=by rw [wu32 (by omega) (by omega)];omega
 have p33:(p3a:Int)<200:=by omega
 have p34:(p3b:Int)<200:=by omega
 have wz:IntKind.u32.wrap (z:Int)=z:=wu32 (by omega) (by omega)
 have w12:IntKind.u32.wrap (u:Int)=u:=wu32 (by omega) (by omega)
 have w48:IntKind.u32.wrap (48+(u:Int))=((48+u:Nat):Int):=by rw [wu32 (by omega) (by omega)];omega
 have w49:IntKind.u8.wrap ((48+u:Nat):Int)=((48+u:Nat):Int):=wrap_in ⟨by simp only [loK];omega,by simp only [hiK];omega⟩
 refine CallsS.en1 Go.Proofs.Tryz.func257 rfl fun _=>AW.q ?_
 refine AW.seqK fun K hK=>AW.block ?_
 refine AW.loopV (fun (b:Int × Int × List CV)=>⟨frOf [(0,.c (.lsl 0 0 9 1)),(1,.c (.d (.int .u64 b.1))),(4,.c (.d (.int .i64 b.2.1)))],upd (fun _=>.hole) 0 (.cells false false 299 b.2.2)⟩) 1000 (fun b=>b=((n:Int),9,(c0::c1::c2::c3::c4::c5::c6::c7::c8::r))∨b=((u:Int),1,(c0::dB (p3 / 10)::dB (p3 % 10)::dB (p2 / 10)::dB (p2 % 10)::dB (p1 / 10)::dB (p1 % 10)::dB (p0 / 10)::dB (p0 % 10)::r))) (fun b=>b.2.1.toNat) ((n:Int),9,(c0::c1::c2::c3::c4::c5::c6::c7::c8::r)) (Le.mk2 _) (.inl rfl) ?_
 rintro b (rfl|rfl)
 ·refine AW.seqK fun K2 hK2=>AW.q ?_
  refine AW.cy (AW.skip (hK2 _ _ (AW.block (AW.f2 dz wz ?_))))
  refine AW.f2 du eu ?_
  refine AW.f3 dy dx ey ?_
  refine AW.f5 dp1 dp0 ep1 p11 p01 ?_
  refine AW.f5 dp3 dp2 ep3 p31 p21 ?_
  refine AW.seqK fun K5 hK5=>?_
  refine AW.drawP mixed (by kernel_rfl) rfl ?_
  simp [p02,p03,p04,wl0,wl1,wl2,wl3,wl4,wl5,wl6,wl7,wl8,setSeg]
  rw [tb0 _ (x:=p0) (a:=p0a) (by omega) (by omega),tb1 _ (x:=p0) (a:=p0b) (by omega) (by omega)]
  rotate_left
  ·kernel_rfl
  ·kernel_rfl
  repeat refine and_o ?_
  refine⟨by kernel_rfl,?_⟩
  repeat refine and_o ?_
  apply hK5
  refine AW.seqK fun K5 hK5=>?_
  refine AW.drawP mixed (by kernel_rfl) rfl ?_
  simp [p12,p13,p14,wl0,wl1,wl2,wl3,wl4,wl5,wl6,wl7,wl8,setSeg]
  rw [tb0 _ (x:=p1) (a:=p1a) (by omega) (by omega),tb1 _ (x:=p1) (a:=p1b) (by omega) (by omega)]
  rotate_left
  ·kernel_rfl
  ·kernel_rfl
  repeat refine and_o ?_
  refine⟨by kernel_rfl,?_⟩
  repeat refine and_o ?_
  apply hK5
  refine AW.seqK fun K5 hK5=>?_
  refine AW.drawP mixed (by kernel_rfl) rfl ?_
  simp [p22,p23,p24,wl0,wl1,wl2,wl3,wl4,wl5,wl6,wl7,wl8,setSeg]
  rw [tb0 _ (x:=p2) (a:=p2a) (by omega) (by omega),tb1 _ (x:=p2) (a:=p2b) (by omega) (by omega)]
  rotate_left
  ·kernel_rfl
  ·kernel_rfl
  repeat refine and_o ?_
  refine⟨by kernel_rfl,?_⟩
  repeat refine and_o ?_
  apply hK5
  refine AW.seqK fun K5 hK5=>?_
  refine AW.drawP mixed (by kernel_rfl) rfl ?_
  simp [p32,p33,p34,wl0,wl1,wl2,wl3,wl4,wl5,wl6,wl7,wl8,setSeg]
  rw [tb0 _ (x:=p3) (a:=p3a) (by omega) (by omega),tb1 _ (x:=p3) (a:=p3b) (by omega) (by omega)]
  rotate_left
  ·kernel_rfl
  ·kernel_rfl
  repeat refine and_o ?_
  refine⟨by kernel_rfl,?_⟩
  repeat refine and_o ?_
  apply hK5
  refine AW.rP ?_
  simp [wl0,wl1,wl2,wl3,wl4,wl5,wl6,wl7,wl8]
  refine⟨(u:Int),1,(c0::dB (p3 / 10)::dB (p3 % 10)::dB (p2 / 10)::dB (p2 % 10)::dB (p1 / 10)::dB (p1 % 10)::dB (p0 / 10)::dB (p0 % 10)::r),Le.mk2 _,.inr ⟨rfl,rfl,rfl⟩,by decide⟩
 refine AW.seqK fun K2 hK2=>AW.q ?_
 refine AW.cn (AW.exit (hK _ _ (AW.f1 w12 ?_)))
 refine AW.seqK fun K hK=>AW.q ?_
 refine AW.cn (AW.skip (hK _ _ (AW.seqK fun K hK=>AW.q ?_)))
 refine AW.cn (AW.skip (hK _ _ (AW.q ?_)))
 refine AW.cy (AW.rP ?_)
 simp [w48,w49,setSeg]
 repeat refine and_o ?_
 have ed:dL 9 n=[u,p3 / 10,p3 % 10,p2 / 10,p2 % 10,p1 / 10,p1 % 10,p0 / 10,p0 % 10]:=by
  show [n / 10 / 10 / 10 / 10 / 10 / 10 / 10 / 10 % 10,n / 10 / 10 / 10 / 10 / 10 / 10 / 10 % 10,n / 10 / 10 / 10 / 10 / 10 / 10 % 10,n / 10 / 10 / 10 / 10 / 10 % 10,n / 10 / 10 / 10 / 10 % 10,n / 10 / 10 / 10 % 10,n / 10 / 10 % 10,n / 10 % 10,n % 10]=_
  simp only [List.cons.injEq,and_true]
  refine⟨?_,?_,?_,?_,?_,?_,?_,?_,?_⟩ <;> omega
 refine FinS.none (.inl rfl) rfl (by simp) ?_
 rw [ed]
 have e48:CV.d (.int .u8 (IntKind.u8.wrap (48+(u:Int))))=dB u:=by unfold dB;rw [← w49];rfl
 simp [e48]
def dgT (k n:Nat):List UInt8:=(dL k n).map fun d=>UInt8.ofNat (48+d)
theorem dL_len:∀ (k n:Nat),(dL k n).length=k
 | 0,_=>rfl
 | k+1,n=>by simp [dL,dL_len k]
theorem dL_lt:∀ (k n:Nat),∀ d∈dL k n,d<10
 | 0,_,d,h=>by cases h
 | k+1,n,d,h=>by
  simp only [dL,List.mem_append,List.mem_singleton] at h
  rcases h with h|rfl
  ·exact dL_lt k _ d h
  ·omega
theorem dgT_len (k n:Nat):(dgT k n).length=k:=by simp [dgT,dL_len]
theorem dB_bytes (k n:Nat):(dL k n).map dB=bytesA (dgT k n):=by
 unfold dgT bytesA
 rw [List.map_map]
 refine List.map_congr_left fun d hd=>?_
 have:=dL_lt k n d hd
 simp only [Function.comp,dB]
 rw [UInt8.toNat_ofNat',Nat.mod_eq_of_lt (by omega)]
theorem dig_step {n:Nat}(h:n≠0):dig 10 n=n % 10::dig 10 (n / 10):=by
 refine (dig_of (by decide) ?_ ?_).symm
 ·have hc:=dig_can (B:=10) (by decide) (n / 10)
  refine⟨ok_cons.2 ⟨Nat.mod_lt _ (by decide),hc.1⟩,fun x hx=>?_⟩
  cases hd:dig 10 (n / 10) with
  | nil=>
   rw [hd] at hx
   have h0:=(dig_nil (by decide)).1 hd
   simp at hx
   omega
  | cons a l=>
   rw [hd] at hx
   exact hc.2 x (by rw [hd];simpa using hx)
 ·show n % 10+10*val 10 (dig 10 (n / 10))=n
  rw [dig_val (by decide)];omega
theorem dL_dig:∀ (k n:Nat),ndig n=k→dL k n=(dig 10 n).reverse
 | 0,n,h=>by
  have:dig 10 n=[]:=List.length_eq_zero_iff.1 h
  rw [this];rfl
 | k+1,n,h=>by
  have h0:n≠0:=by
   intro e;subst e;cases h
  have hs:=dig_step h0
  have h1:ndig (n / 10)=k:=by
   unfold ndig at h ⊢
   rw [hs,List.length_cons] at h;omega
  rw [hs,List.reverse_cons,← dL_dig k _ h1];rfl
theorem decU_dgT {n:Nat}(h:n≠0):decU n=dgT (ndig n) n:=by
 unfold decU dgT;rw [if_neg h,dL_dig _ _ rfl]
theorem fb_ok (G:List (List DV))(k n:Nat)(h1:3≤k)(h2:k≤9)(hn:n<10 ^ k) :
 CallsS Tryz.prog G 257 [.c (.lsl 0 0 k 1),.c (.d (.int .u64 n))] [.cells false false 299 [.d (.int .u8 0),.d (.int .u8 0),.d (.int .u8 0),.d (.int .u8 0),.d (.int .u8 0),.d (.int .u8 0),.d (.int .u8 0),.d (.int .u8 0),.d (.int .u8 0),.d (.int .u8 0),.d (.int .u8 0),.d (.int .u8 0),.d (.int .u8 0),.d (.int .u8 0),.d (.int .u8 0),.d (.int .u8 0),.d (.int .u8 0),.d (.int .u8 0),.d (.int .u8 0),.d (.int .u8 0),.d (.int .u8 0),.d (.int .u8 0),.d (.int .u8 0),.d (.int .u8 0)]]
  (.ret (.tup []) [.cells false false 299 (bytesA (dgT k n)++List.replicate (24 - k) (.d (.int .u8 0)))] []):=by
 rw [← dB_bytes]
 have h:k=3∨k=4∨k=5∨k=6∨k=7∨k=8∨k=9:=by omega
 rcases h with rfl|rfl|rfl|rfl|rfl|rfl|rfl
 ·exact fb3 G n hn _ _ _ (List.replicate 21 _)
 ·exact fb4 G n hn _ _ _ _ (List.replicate 20 _)
 ·exact fb5 G n hn _ _ _ _ _ (List.replicate 19 _)
 ·exact fb6 G n hn _ _ _ _ _ _ (List.replicate 18 _)
 ·exact fb7 G n hn _ _ _ _ _ _ _ (List.replicate 17 _)
 ·exact fb8 G n hn _ _ _ _ _ _ _ _ (List.replicate 16 _)
 ·exact fb9 G n hn _ _ _ _ _ _ _ _ _ (List.replicate 15 _)
theorem bytesA_pure (l:List UInt8):∀ x∈bytesA l,x.pure=true:=by
 intro x hx
 simp only [bytesA,List.mem_map] at hx
 obtain⟨b,_,rfl⟩:=hx
 rfl
theorem fmtUint_ok (m:Int)(n:Nat)(hn:n<1000000000):CallsP Tryz.prog (GG m) 229 [.c (.d (.int .u64 n)),.c (.d (.int .i64 10))] (.c (.d (.str (decU n)))):=by
 by_cases hs:n<100
 ·have hs':(n:Int)<100:=by omega
  have h1:=small_ok m n hs
  have w1:=w64 (n:=(n:Int)) (by omega) (by omega)
  refine CallsP.en Go.Proofs.Tryz.func229 rfl fun _=>AW.q ?_
  refine AW.seqK fun K hK=>AW.q ?_
  refine AW.cy (AW.seqK fun K1 hK1=>AW.f1 hs' ?_)
  refine AW.fy (by simp [hs'] <;> omega) (AW.c1 0 h1 w1 ?_)
  exact AW.r0 (FinP.rt rfl 4 (by simp))
 have hs':¬ (n:Int)<100:=by omega
 have h0:n≠0:=by omega
 have h1:=numDigits_ok m n h0 hn
 have hd:=decU_dgT h0
 have k1:3≤ndig n:=by
  have:=ndig_lt n
  apply Classical.byContradiction
  intro hc
  have h9:10 ^ ndig n≤10 ^ 2:=Nat.pow_le_pow_right (by decide) (by omega)
  omega
 have k2:ndig n≤9:=dig_len_le (by decide) hn
 have hnd:=ndig_lt n
 rw [hd]
 refine CallsP.en Go.Proofs.Tryz.func229 rfl fun _=>AW.q ?_
 refine AW.seqK fun K hK=>AW.q ?_
 refine AW.cy (AW.seqK fun K1 hK1=>AW.f1 hs' ?_)
 refine AW.fn (by simp [hs'] <;> omega) (AW.skip (hK1 _ _ (AW.q ?_)))
 refine AW.c0 1 h1 ?_
 have hfb:=fun G=>fb_ok G (ndig n) n k1 k2 hnd
 have hlt:dgT (ndig n) n=dgT (ndig n) n:=rfl
 have hln:=dgT_len (ndig n) n
 generalize ndig n=k at *
 generalize dgT k n=t at *
 subst hln
 have hk1:(0:Int)≤(t.length:Int):=by omega
 have hk2:(t.length:Int)≤24:=by omega
 refine AW.seqK fun K1 hK1=>?_
 refine AW.regionX ?_
 refine ChX.run 1 rfl ?_
 simp []
 refine ChX.stepN (x:=.c (.lsl 0 0 t.length 1)) (us:=[]) (rds:=[0]) 1 rfl rfl ?_ ?_
 ·simp [Am.stepN,Op.operands,bnds,nSlice]
  omega
 refine ChX.run 2 rfl ?_
 simp []
 have hz:∀ x∈([.d (.int .u8 0),.d (.int .u8 0),.d (.int .u8 0),.d (.int .u8 0),.d (.int .u8 0),.d (.int .u8 0),.d (.int .u8 0),.d (.int .u8 0),.d (.int .u8 0),.d (.int .u8 0),.d (.int .u8 0),.d (.int .u8 0),.d (.int .u8 0),.d (.int .u8 0),.d (.int .u8 0),.d (.int .u8 0),.d (.int .u8 0),.d (.int .u8 0),.d (.int .u8 0),.d (.int .u8 0),.d (.int .u8 0),.d (.int .u8 0),.d (.int .u8 0),.d (.int .u8 0)]:List CV),x.pure=true:=by decide
 have hz':∀ x∈bytesA t++List.replicate (24 - t.length) (CV.d (.int .u8 0)),x.pure=true:=by
  intro x hx
  rcases List.mem_append.1 hx with h|h
  ·exact bytesA_pure t x h
  ·rw [List.eq_of_mem_replicate h];rfl
 refine CallP.pass1 1 9 0 (own:=true) (T:=299) (cs:=[.d (.int .u8 0),.d (.int .u8 0),.d (.int .u8 0),.d (.int .u8 0),.d (.int .u8 0),.d (.int .u8 0),.d (.int .u8 0),.d (.int .u8 0),.d (.int .u8 0),.d (.int .u8 0),.d (.int .u8 0),.d (.int .u8 0),.d (.int .u8 0),.d (.int .u8 0),.d (.int .u8 0),.d (.int .u8 0),.d (.int .u8 0),.d (.int .u8 0),.d (.int .u8 0),.d (.int .u8 0),.d (.int .u8 0),.d (.int .u8 0),.d (.int .u8 0),.d (.int .u8 0)]) (by simp) hz hz' (hfb _) rfl rfl (by
  intro i h h'
  match i,h with
  | 0,_=>exact .inr (.inl ⟨_,_,_,rfl,rfl⟩)
  | 1,_=>exact .inl ⟨rfl,rfl⟩) (by simp) (by decide) ?_
 simp
 refine ChX.done ?_
 repeat refine and_o ?_
 apply hK1
 refine AW.seqK fun K1 hK1=>?_
 refine AW.regionX ?_
 refine ChX.run 1 rfl ?_
 simp []
 refine ChX.stepN (x:=.c (.lsl 0 0 t.length 1)) (us:=[]) (rds:=[0]) 1 rfl rfl ?_ ?_
 ·simp [Am.stepN,Op.operands,bnds,nSlice,bytesA_length]
  omega
 refine ChX.convBs (κ:=0) (off:=0) (own:=true) (fz:=false) (T':=299) (e:=5) (cs:=bytesA t++List.replicate (24 - t.length) (CV.d (.int .u8 0))) (l:=t) 1 rfl rfl rfl (by simp) (by simp) (by rw [List.drop_zero,List.take_append_of_le_length (by rw [bytesA_length];exact Nat.le_refl _),List.take_of_length_le (by rw [bytesA_length];exact Nat.le_refl _)]) (by omega) (by simp) Tryz.underlying5 (by simp) ?_
 refine ChX.run 1 rfl ?_
 simp []
 refine ChX.done ?_
 repeat refine and_o ?_
 apply hK1
 exact AW.r0 (FinP.rt (t:=4) rfl 9 (by simp))
theorem SimW.of_sim {c:Ctx}{r:Option Nat}{ops:Array Oper}{o:Oper}{s s1:LSt}(hg:o.guard=none) (hdf:∀ cl,o.op≠.defer cl) (h:Sim c o s s1):SimW c r ops o s s1:=by
 intro F β a w K Q hs hK
 have hw:wantA ops o.guard s.fr=some true:=by unfold wantA;rw [hg]
 rw [wantA_sound hs hw]
 simp only [if_true]
 exact wpIn_fen hdf (h F β a w K Q hs hK)
theorem SimW.callG {c:Ctx}{r:Option Nat}{ops:Array Oper}{o:Oper}{s:LSt}{cl:Call}{f:FuncId}{fs cs:List AV}{x:AV}{lv':Key→LB}(hd:∀ d,o.dst=some d→d<c.n) (hg:o.guard=none) (ho:o.op=.call cl)
 (ht:tgtC c.P (s.val c.G) cl.callee=some (f,fs,cs)) (hf:isFn c.P f=true) (hok:AllOk s.lv) (hc:CallG c.P c.G f (fs++cl.args.toList.map (s.val c.G)++cs) s.lv (.ret x lv')):SimW c r ops o s (LSt.put ⟨s.fr,lv'⟩ o.dst x):=
 SimW.of_sim hg (fun cl' e=>by rw [ho] at e;cases e) (CallG.sim hd ho ht hf hok hc)
def bdC (k n:Nat):LB:=.cells false false 232 [.ptr 1 0,.lsl k 0 n 1]
def byC (l:List UInt8):LB:=.cells false false 5 (bytesA l)
theorem infoU8:∃ i z,Tryz.prog.info? 5=some i∧i.zero=some z∧z.cells.size=1∧i.bytes=1:=by
 have h:(Tryz.prog.info? 5).map (fun i=>(i.zero.map (·.cells.size),i.bytes))=some (some 1,1):=by kernel_rfl
 obtain⟨i,h1,h2⟩:=Option.map_eq_some_iff.1 h
 simp only [Prod.mk.injEq] at h2
 obtain⟨z,h3,h4⟩:=Option.map_eq_some_iff.1 h2.1
 exact⟨i,z,h1,h3,h4,h2.2⟩
theorem app_u8 (lv:Key→LB)(l s:List UInt8)(h2:lv 2=.cells false false 5 (bytesA l))(h3:lv 3=.hole)(hs:l.length+s.length≤100000000000) :
 nAppendS Tryz.prog 230 9 lv 3 (.c (.lsl 2 0 l.length 1)) (.c (.d (.str s)))=some (.c (.lsl 3 0 (l.length+s.length) 1),[(2,.dead),(3,.cells false false 5 (bytesA l++bytesA s))],[]):=by
 obtain⟨i,z,i1,i2,i3,i4⟩:=infoU8
 have hn:=bytesA_length l
 unfold nAppendS
 simp only [h3,h2]
 simp [i1,i2,i3,i4,hn]
 omega
theorem app_nil (lv:Key→LB)(s:List UInt8)(h3:lv 2=.hole)(hs:s.length≤100000000000) :
 nAppendS Tryz.prog 230 9 lv 2 (.c (.d .nilsl)) (.c (.d (.str s)))=some (.c (.lsl 2 0 s.length 1),[(2,if s.length=0 then .nils else .cells true false 5 (bytesA s))],[]):=by
 obtain⟨i,z,i1,i2,i3,i4⟩:=infoU8
 unfold nAppendS
 simp only [h3]
 simp [i1,i2,i3,i4]
 omega
theorem ws_used (m:Int)(lv:Key→LB)(l s:List UInt8)(hok:AllOk lv)(h1:lv 1=bdC 2 l.length)(h2:lv 2=byC l)(h3:lv 3=.hole)(hs:l.length+s.length≤100000000000) :
 CallG Tryz.prog (GG m) 180 [.c (.ptr 1 0),.c (.d (.str s))] lv
  (.ret (.tup [.c (.d (.int .i64 s.length)),.c (.d .nilIface)]) (upd (upd (upd lv 2 .dead) 3 (byC (l++s))) 1 (bdC 3 (l.length+s.length)))):=by
 refine CallG.of_AW (κ:=3) Go.Proofs.Tryz.func180 rfl (by show 2≤_;decide) ?_
 rintro⟨_,Gc,w0,F0,W0,_,lv0,β0⟩ rfl rfl rfl rfl
 refine AW.seqK fun K hK=>AW.rP ?_
 simp
 repeat refine and_o ?_
 apply hK
 refine AW.seqK fun K hK=>?_
 have h1:lv0 1=.cells false false 232 [.ptr 1 0,.lsl 2 0 l.length 1]:=h1
 have h2:lv0 2=.cells false false 5 (bytesA l):=h2
 have h3:lv0 3=.hole:=h3
 refine AW.regionS' ⟨_,⟨_,SimW.plain (x:=.c (.ptr 1 0)) (vc:=True) (κ:=9) (by intro d hd;cases hd;show (_:Nat)<19;decide) rfl rfl trivial rfl,_,SimW.callG (f:=234) (fs:=[]) (cs:=[]) (by intro d hd;cases hd;show (_:Nat)<19;decide) rfl rfl rfl (by simp) hok (self_used m lv0 1 0 232 _ _ h1 rfl),rfl⟩,?_⟩
 repeat refine and_o ?_
 apply hK
 refine AW.seqK fun K hK=>?_
 refine AW.regionX ?_
 refine ChX.run 6 rfl ?_
 simp [h1,h2,h3]
 have hn:=bytesA_length l
 have happ:bytesA l++bytesA s=bytesA (l++s):=by simp [bytesA]
 refine ChX.stepN (x:=.c (.lsl 3 0 (l.length+s.length) 1)) (us:=[(2,.dead),(3,.cells false false 5 (bytesA (l++s)))]) (rds:=[]) 4 rfl rfl ?_ ?_
 ·show nAppendS Tryz.prog 230 9 lv0 3 (.c (.lsl 2 0 l.length 1)) (.c (.d (.str s)))=_
  rw [← happ]
  exact app_u8 lv0 l s h2 h3 hs
 refine ChX.run 3 rfl ?_
 simp [updL,h1,setSeg]
 refine ChX.done ?_
 repeat refine and_o ?_
 apply hK
 refine AW.q ?_
 exact AW.ret (show FinG _ _ _ .ret _ _ from ⟨by simp [Tryz.f180,resA,resL,resV],rfl⟩)
theorem ws_first (m:Int)(lv:Key→LB)(s:List UInt8)(hok:AllOk lv)(h1:lv 1=.cells false false 232 [.d .nilp,.d .nilsl])(h2:lv 2=.hole)(hs:s.length≤100000000000)(h0:s≠[]) :
 CallG Tryz.prog (GG m) 180 [.c (.ptr 1 0),.c (.d (.str s))] lv
  (.ret (.tup [.c (.d (.int .i64 s.length)),.c (.d .nilIface)]) (upd (upd (upd lv 1 (.cells false false 232 [.ptr 1 0,.d .nilsl])) 2 (.cells true false 5 (bytesA s))) 1 (bdC 2 s.length))):=by
 refine CallG.of_AW (κ:=2) Go.Proofs.Tryz.func180 rfl (by show 2≤_;decide) ?_
 rintro⟨_,Gc,w0,F0,W0,_,lv0,β0⟩ rfl rfl rfl rfl
 have hl0:¬ s.length=0:=fun h=>h0 (List.length_eq_zero_iff.1 h)
 refine AW.q ?_
 refine AW.seqK fun K hK=>?_
 have h1:lv0 1=.cells false false 232 [.d .nilp,.d .nilsl]:=h1
 have h2:lv0 2=.hole:=h2
 refine AW.regionS' ⟨_,⟨_,SimW.plain (x:=.c (.ptr 1 0)) (vc:=True) (κ:=9) (by intro d hd;cases hd;show (_:Nat)<19;decide) rfl rfl trivial rfl,_,SimW.callG (f:=234) (fs:=[]) (cs:=[]) (by intro d hd;cases hd;show (_:Nat)<19;decide) rfl rfl rfl (by simp) hok (self_fresh m lv0 1 0 232 _ _ rfl h1 rfl),rfl⟩,?_⟩
 repeat refine and_o ?_
 apply hK
 refine AW.seqK fun K hK=>?_
 refine AW.regionX ?_
 refine ChX.run 6 rfl ?_
 simp [h1,h2,setSeg]
 refine ChX.stepN (x:=.c (.lsl 2 0 s.length 1)) (us:=[(2,.cells true false 5 (bytesA s))]) (rds:=[]) 3 rfl rfl ?_ ?_
 ·have:=app_nil (upd lv0 1 (.cells false false 232 [.ptr 1 0,.d .nilsl])) s (by simp [h2]) hs
  rw [if_neg hl0] at this
  exact this
 refine ChX.run 3 rfl ?_
 simp [updL,h1,setSeg]
 refine ChX.done ?_
 repeat refine and_o ?_
 apply hK
 refine AW.q ?_
 exact AW.ret (show FinG _ _ _ .ret _ _ from ⟨by simp [Tryz.f180,resA,resL,resV],by simp [setSeg,bdC]⟩)
theorem toBytes_A:∀ l:List UInt8,toBytes (bytesA l)=some l
 | []=>rfl
 | b::l=>by
  have hb:b.toNat<256:=b.toNat_lt
  show toBytes (.d (.int .u8 (.ofNat b.toNat))::bytesA l)=_
  unfold toBytes
  simp only [toBytes_A l,hb,if_true,UInt8.ofNat_toNat]
theorem ptrU8:Tryz.prog.underlying 282=some (.pointer 5):=Tryz.underlying282
theorem bs_ok (m:Int)(lv:Key→LB)(l:List UInt8)(h1:lv 1=bdC 2 l.length)(h2:lv 2=byC l)(hl:l.length≤100000000000)(h0:l≠[]) :
 CallG Tryz.prog (GG m) 181 [.c (.ptr 1 0)] lv (.ret (.c (.d (.str l))) (upd lv 2 .dead)):=by
 refine CallG.of_AW (κ:=9) Go.Proofs.Tryz.func181 rfl (by show 1≤_;decide) ?_
 rintro⟨_,Gc,w0,F0,W0,_,lv0,β0⟩ rfl rfl rfl rfl
 have hl0:0<l.length:=List.length_pos_iff.2 h0
 have h1:lv0 1=.cells false false 232 [.ptr 1 0,.lsl 2 0 l.length 1]:=h1
 have h2:lv0 2=.cells false false 5 (bytesA l):=h2
 have hn:=bytesA_length l
 refine AW.q ?_
 refine AW.seqK fun K hK=>?_
 refine AW.drawX mixed (by kernel_rfl) ?_
 refine ChD.run 4 rfl ?_
 simp [h1]
 refine ChD.stepN (x:=.c (.ptr 2 0)) (us:=[]) (rds:=[2]) 9 rfl rfl ?_ ?_
 ·show nData lv0 (.c (.lsl 2 0 l.length 1))=_
  simp [nData,h2,hl0]
 refine ChD.run 5 rfl ?_
 simp [h1,h2,updL]
 refine⟨by omega,?_⟩
 refine ChD.stepN (x:=.c (.d (.str l))) (us:=[(2,.dead)]) (rds:=[]) 9 rfl rfl ?_ ?_
 ·show nString Tryz.prog 282 (updL lv0 []) (.c (.ptr 2 0)) (.c (.d (.int .i64 (l.length:Int))))=_
  have hc1:Tryz.prog.cellsOf 5=1:=by kernel_rfl
  have htk:(bytesA l).take ((l.length:Int).toNat)=bytesA l:=by rw [Int.toNat_natCast];exact List.take_of_length_le (by omega)
  simp only [nString,updL,List.foldl,h2,ptrU8,hc1,htk,toBytes_A]
  rw [if_pos ⟨trivial,trivial,by omega,by omega⟩,if_pos (by omega)]
 refine ChD.run 1 rfl ?_
 simp
 refine ChD.done ?_
 refine⟨by kernel_rfl,?_⟩
 repeat refine and_o ?_
 apply hK
 exact AW.ret (show FinG _ _ _ .ret _ _ from ⟨by simp [Tryz.f181,resA,resL,resV],by simp [updL]⟩)
theorem dL_add (j:Nat):∀ (k n:Nat),dL (j+k) n=dL j (n / 10 ^ k)++dL k n
 | 0,n=>by simp [dL]
 | k+1,n=>by
  show dL (j+k) (n / 10)++[n % 10]=_
  rw [dL_add j k (n / 10),Nat.div_div_eq_div_mul,show 10*10 ^ k=10 ^ (k+1) by rw [Nat.pow_succ];omega,List.append_assoc];rfl
theorem dL_zero:∀ k:Nat,dL k 0=List.replicate k 0
 | 0=>rfl
 | k+1=>by
  show dL k (0 / 10)++[0 % 10]=_
  rw [Nat.zero_div,dL_zero k,List.replicate_succ']
theorem dL_mod:∀ (k n:Nat),dL k (n % 10 ^ k)=dL k n
 | 0,n=>rfl
 | k+1,n=>by
  show dL k (n % 10 ^ (k+1) / 10)++[n % 10 ^ (k+1) % 10]=dL k (n / 10)++[n % 10]
  rw [show 10 ^ (k+1)=10*10 ^ k by rw [Nat.pow_succ];omega,Nat.mod_mul_right_div_self,dL_mod k (n / 10),Nat.mod_mul_right_mod]
theorem dgT_add (j k n:Nat):dgT (j+k) n=dgT j (n / 10 ^ k)++dgT k n:=by
 unfold dgT;rw [dL_add,List.map_append]
theorem dgT_zero (k:Nat):dgT k 0=List.replicate k 48:=by
 unfold dgT;rw [dL_zero,List.map_replicate];rfl
theorem dgT_mod (k n:Nat):dgT k (n % 10 ^ k)=dgT k n:=by
 unfold dgT;rw [dL_mod]
theorem decU_len {n:Nat}(h:n<1000000000):1≤(decU n).length∧(decU n).length≤9:=by
 by_cases h0:n=0
 ·subst h0;exact⟨by decide,by decide⟩
 ·rw [decU_dgT h0,dgT_len]
  have h2:ndig n≤9:=dig_len_le (by decide) h
  have h1:=ndig_lt n
  refine⟨Nat.one_le_iff_ne_zero.2 fun e=>?_,h2⟩
  rw [e] at h1;omega
theorem dec_pad {n:Nat}(h:n<1000000000):List.replicate (9 - (decU n).length) 48++decU n=dgT 9 n:=by
 by_cases h0:n=0
 ·subst h0;decide
 ·have h2:ndig n≤9:=dig_len_le (by decide) h
  rw [decU_dgT h0,dgT_len]
  conv=>rhs;rw [show 9=(9 - ndig n)+ndig n by omega]
  rw [dgT_add,Nat.div_eq_of_lt (ndig_lt n),dgT_zero]
theorem ndig_step {n:Nat}(h:n≠0):ndig n=ndig (n / 10)+1:=by
 unfold ndig;rw [dig_step h,List.length_cons]
theorem ndig_add (n:Nat):∀ j:Nat,n / 10 ^ j≠0→ndig n=ndig (n / 10 ^ j)+j
 | 0,_=>by simp
 | j+1,h=>by
  have e:n / 10 ^ (j+1)=n / 10 ^ j / 10:=by rw [Nat.div_div_eq_div_mul,Nat.pow_succ]
  have h1:n / 10 ^ j≠0:=by intro e0;rw [e,e0] at h;simp at h
  rw [ndig_add n j h1,ndig_step h1,e];omega
def pts (n:Nat):List (List UInt8):=if n / 1000000000=0 then [decU n] else dgT 9 (n % 1000000000)::pts (n / 1000000000)
termination_by n
decreasing_by
 rename_i h
 exact Nat.div_lt_self (by omega) (by decide)
theorem pts_lo {n:Nat}(h:n / 1000000000=0):pts n=[decU n]:=by rw [pts,if_pos h]
theorem pts_hi {n:Nat}(h:n / 1000000000≠0):pts n=dgT 9 (n % 1000000000)::pts (n / 1000000000):=by rw [pts,if_neg h]
theorem pts_flat (n:Nat)(h:n≠0):(pts n).reverse.flatten=decU n:=by
 induction n using Nat.strongRecOn with
 | _ n ih=>
  by_cases hq:n / 1000000000=0
  ·rw [pts_lo hq];simp
  ·rw [pts_hi hq,List.reverse_cons,List.flatten_append,ih _ (Nat.div_lt_self (by omega) (by decide)) hq,decU_dgT hq,decU_dgT h,ndig_add n 9 hq,dgT_add]
   have:dgT 9 (n % 1000000000)=dgT 9 n:=dgT_mod 9 n
   rw [this];simp
theorem pts_ne (n:Nat):∀ p∈pts n,p≠[]∧p.length≤9:=by
 induction n using Nat.strongRecOn with
 | _ n ih=>
  by_cases hq:n / 1000000000=0
  ·rw [pts_lo hq]
   intro p hp
   rw [List.mem_singleton.1 hp]
   have h:=decU_len (n:=n) (by omega)
   exact⟨fun e=>by rw [e] at h;exact absurd h.1 (by decide),h.2⟩
  ·rw [pts_hi hq]
   intro p hp
   rcases List.mem_cons.1 hp with rfl|hp
   ·refine⟨fun e=>?_,?_⟩
    ·have:=dgT_len 9 (n % 1000000000);rw [e] at this;cases this
    ·rw [dgT_len];exact Nat.le_refl _
   ·exact ih _ (Nat.div_lt_self (by omega) (by decide)) p hp
theorem pts_nil (n:Nat):pts n≠[]:=by
 rw [pts];split <;> simp
theorem flat_len {l:List (List UInt8)}(h:∀ p∈l,p≠[]):l.length≤l.flatten.length:=by
 induction l with
 | nil=>simp
 | cons p l ih=>
  have h1:=List.length_pos_iff.2 (h p (List.mem_cons_self ..))
  have h2:=ih fun q hq=>h q (List.mem_cons_of_mem _ hq)
  simp only [List.flatten_cons,List.length_append,List.length_cons];omega
theorem fmtU_ok (m:Int)(n:Nat)(hn:n<1000000000):CallsP Tryz.prog (GG m) 178 [.c (.d (.int .u64 n)),.c (.d (.int .i64 10))] (.c (.d (.str (decU n)))):=by
 have h1:=fmtUint_ok m n hn
 refine CallsP.en Go.Proofs.Tryz.func178 rfl fun _=>AW.q ?_
 refine AW.c0 1 h1 ?_
 exact AW.r0 (FinP.rt rfl 4 (by simp))
noncomputable def rpT (G:List (List DV)):Bool:=(List.range 9).all fun i=>match finK (evK Tryz.prog G spX 0 60 179 [.c (.d (.str [48])),.c (.d (.int .i64 (.ofNat i)))] .leaf 0 [] kDone .pan) with
 | some (.c (.d (.str s)))=>eqB s (List.replicate i 48)
 | _=>false
theorem rpT_ok (m:Int):rpT (GG m)=true:=by kernel_rfl
theorem repeat_ok (m:Int)(i:Nat)(hi:i<9):CallsP Tryz.prog (GG m) 179 [.c (.d (.str [48])),.c (.d (.int .i64 i))] (.c (.d (.str (List.replicate i 48)))):=by
 have h:=List.all_eq_true.1 (rpT_ok m) i (List.mem_range.2 hi)
 split at h
 ·rename_i s hs
  have:=CallsP.of_ev (evX_ok m 60) hs
  rw [eqB_eq h] at this
  exact this
 ·cases h
end Go.Am
