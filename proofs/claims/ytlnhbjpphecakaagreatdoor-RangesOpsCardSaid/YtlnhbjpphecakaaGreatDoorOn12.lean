/- Helpers: an abstract machine for Go functions, and walks of functions of the program. -/
import Derived.Test.YtlnhbjpphecakaaGreatDoorOn11

set_option linter.all false
set_option maxHeartbeats 8000000
set_option maxRecDepth 100000
namespace Go.Am
open Go.Am.Ty Go.Proofs N
theorem num_ok2 (m:Int)(x:Rat)(h:szR x 20000):CallsP Tryz.prog (GG m) 36 [ratV x,refV x] (.c (.d (.bool true))):=by
 have c1:=num_Text m x (szR_mono h (by decide))
 have c2:=r_Text_ok (GG m) x h
 rw [← ratU_S] at c2
 generalize ratU x=s at *
 refine CallsP.en Go.Proofs.Tryz.func36 rfl fun _=>AW.q ?_
 refine AW.seqK fun K hK=>?_
 refine AW.drawP mixed (by kernel_rfl) rfl ?_
 simp
 refine CallDo.p 10 9 c1 ?_
 simp [c2]
 refine CallDo.p 10 9 c2 ?_
 simp [eqRat]
 refine⟨by kernel_rfl,?_⟩
 repeat refine and_o ?_
 apply hK
 exact AW.r0 (FinP.rt rfl 4 (by simp))
theorem same_iv2 (m:Int)(a:Iv)(h:a.sz 20000):CallsP Tryz.prog (GG m) 14 [ivV a,rivV a] (.c (.d (.bool true))):=by
 have c1:=iv_Lo (GG m) a
 have c2:=iv_Hi (GG m) a
 have c3:=num_ok2 m a.1 h.1
 have c4:=num_ok2 m a.2 h.2
 obtain⟨a1,a2⟩:=a
 simp only at c1 c2 c3 c4
 refine CallsP.en Go.Proofs.Tryz.func14 rfl fun _=>AW.q ?_
 refine AW.seqK fun K hK=>?_
 refine AW.drawP mixed (by kernel_rfl) rfl ?_
 simp
 refine CallDo.p 10 9 c1 ?_
 simp [c3]
 refine CallDo.p 10 9 c3 ?_
 simp [c2]
 refine CallDo.p 10 9 c2 ?_
 simp [c4]
 refine CallDo.p 10 9 c4 ?_
 simp [c4]
 refine⟨by kernel_rfl,?_⟩
 repeat refine and_o ?_
 apply hK
 exact AW.r0 (FinP.rt rfl 4 (by simp))
theorem alike_ok2 (m:Int)(a:Iv)(e:Int)(h:a.sz 20000)(he:e≠0→a=(0,0)):CallsP Tryz.prog (GG m) 8 [ivV a,.c (.d (.int .i64 e)),rivV a,.c (.d (.int .i64 e))] (.c (.d (.bool true))):=by
 by_cases h0:e=0
 ·subst h0
  have c1:=same_iv2 m a h
  refine CallsP.en Go.Proofs.Tryz.func8 rfl fun _=>AW.q ?_
  refine AW.c1 10 c1 c1 ?_
  exact AW.r0 (FinP.rt rfl 8 (by simp))
 ·obtain rfl:=he h0
  have c1:=told0_ok m
  refine CallsP.en Go.Proofs.Tryz.func8 rfl fun _=>AW.q ?_
  refine AW.c1 10 c1 h0 ?_
  exact AW.r0 (FinP.rt (t:=8) rfl 9 (by simp [h0]))
abbrev pairA (al ah bl bh:List UInt8)(bits:Int)(X:List UInt8):AV:=.agg [.d (.str al),.d (.str ah),.d (.str bl),.d (.str bh),.d (.int .i64 bits),.d (.str X)]
@[simp] theorem two_pure (a b:List UInt8):(AV.agg [.d (.str a),.d (.str b)]).pure=true:=rfl
@[simp] theorem pairA_pure (al ah bl bh:List UInt8)(bits:Int)(X:List UInt8):(AV.agg [.d (.str al),.d (.str ah),.d (.str bl),.d (.str bh),.d (.int .i64 bits),.d (.str X)]).pure=true:=rfl
theorem ofI_he (lo hi:List UInt8):ofE lo hi≠0→ofI lo hi=(0,0):=fun h=>if_neg h
theorem hull_sz {w x y z:Rat}{L:Nat}(h1:szR w L) (h2:szR x L) (h3:szR y L) (h4:szR z L):(hull4 w x y z).sz L:=⟨szR_min (szR_min (szR_min h1 h2) h3) h4,szR_max (szR_max (szR_max h1 h2) h3) h4⟩
theorem mul_sz {a b:Iv}{L:Nat}(ha:a.sz L) (hb:b.sz L):(a.mul b).sz (2*L):=hull_sz (szR_mul ha.1 hb.1) (szR_mul ha.1 hb.2) (szR_mul ha.2 hb.1) (szR_mul ha.2 hb.2)
theorem zero_sz {L:Nat}(h:1≤L):Iv.sz (0,0) L:=⟨szR_zero' _ h,szR_zero' _ h⟩
theorem quo_sz {a b:Iv}(ha:a.sz 300) (hb:b.sz 300):(quoI a b).sz 20000:=by
 unfold quoI
 split
 ·exact zero_sz (by decide)
 ·have s1:szR (1:Rat) 300:=⟨by show nl 1≤_;rw [nl_one];decide,by show nl 1≤_;rw [nl_one];decide⟩
  have u:Iv.sz (1 / b.2,1 / b.1) 601:=⟨szR_div s1 hb.2,szR_div s1 hb.1⟩
  exact Iv.sz_mono (mul_sz (Iv.sz_mono ha (by decide)) u) (by decide)
theorem quo_he (a b:Iv):(if b.has 0 then (8:Int) else 0)≠0→quoI a b=(0,0):=by
 intro h
 unfold quoI
 split
 ·rfl
 ·rename_i h';rw [if_neg h'] at h;exact absurd rfl h
theorem sq_sz {a:Iv}(ha:a.sz 300) (bits:Int):(sqI a bits).sz 20000:=by
 unfold sqI
 split
 ·exact zero_sz (by decide)
 ·exact⟨szR_mono (root_sz ha.1 bits false) (by decide),szR_mono (root_sz ha.2 bits true) (by decide)⟩
theorem sq_he (a:Iv)(bits:Int):rtE a.1≠0→sqI a bits=(0,0):=by
 intro h
 unfold sqI
 split
 ·rfl
 ·rename_i h';exact absurd (if_neg h') h
theorem grid_sz {x:Rat}(h:szR x 300) (bits:Int) (away:Bool):szR (gridR x bits away) 2000:=by
 unfold gridR
 split
 ·exact szR_mono h (by decide)
 ·rename_i h0
  have hl:=logR_rng h0 h
  have hb:=rngI_r bits
  have z1:=szR_shift h (-(logR x - rngI bits+1))
  have z2:=szR_whole z1 away
  exact szR_mono (szR_shift z2 (logR x - rngI bits+1)) (by omega)
theorem from_sz {x y:Rat}{L:Nat}(h:1≤L) (hx:szR x L) (hy:szR y L):(fromI x y).sz L:=by
 unfold fromI
 split
 ·exact⟨hx,hy⟩
 ·exact zero_sz h
theorem ops_bad (m:Int)(al ah bl bh:List UInt8)(bits:Int)(X:List UInt8)(h:¬ (ofE al ah=0∧ofE bl bh=0)):CallsP Tryz.prog (GG m) 3 [pairA al ah bl bh bits X] (.c (.d (.bool true))):=by
 have c1:=of_ok m al ah
 have c2:=of_ok m bl bh
 have d1:=rof_ok (GG m) al ah
 have d2:=rof_ok (GG m) bl bh
 have k1:=alike_ok2 m (ofI al ah) (ofE al ah) (Iv.sz_mono (ofI_sz al ah) (by decide)) (ofI_he al ah)
 have k2:=alike_ok2 m (ofI bl bh) (ofE bl bh) (Iv.sz_mono (ofI_sz bl bh) (by decide)) (ofI_he bl bh)
 have haw:=awake_ok m
 generalize ofI al ah=a at *
 generalize ofI bl bh=b at *
 generalize ofE al ah=e at *
 generalize ofE bl bh=f at *
 by_cases he:e=0
 ·have hf:¬ f=0:=fun h'=>h ⟨he,h'⟩
  subst he
  refine CallsP.en Go.Proofs.Tryz.func3 rfl fun _=>AW.q ?_
  refine AW.seqK fun K hK=>AW.m1 1 c1 @setSeg.eq_1 (hK _ _ ?_)
  refine AW.seqK fun K hK=>AW.m1 2 c2 @setSeg.eq_1 (hK _ _ ?_)
  refine AW.seqK fun K hK=>AW.m1 3 d1 @setSeg.eq_1 (hK _ _ ?_)
  refine AW.seqK fun K hK=>AW.m1 4 d2 @setSeg.eq_1 (hK _ _ ?_)
  refine AW.seqK fun K hK=>AW.seqK fun K1 hK1=>AW.rP ?_
  simp [setSeg]
  refine CallDo.p 5 9 k1 ?_
  simp [setSeg]
  refine CallDo.p 5 9 k2 ?_
  simp [setSeg]
  repeat refine and_o ?_
  apply hK1
  refine AW.cn (AW.skip (hK _ _ (AW.seqK fun K hK=>AW.sr fun K1 hK1=>?_)))
  simp [hf]
  repeat refine and_o ?_
  apply hK1
  refine AW.fy (by simp [hf] <;> omega) (AW.seqK fun K1 hK1=>AW.rP ?_)
  simp
  refine CallDo.p 5 9 haw ?_
  simp
  repeat refine and_o ?_
  apply hK1
  exact AW.r0 (FinP.rt (t:=2) rfl 9 (by simp))
 ·skip
  refine CallsP.en Go.Proofs.Tryz.func3 rfl fun _=>AW.q ?_
  refine AW.seqK fun K hK=>AW.m1 1 c1 @setSeg.eq_1 (hK _ _ ?_)
  refine AW.seqK fun K hK=>AW.m1 2 c2 @setSeg.eq_1 (hK _ _ ?_)
  refine AW.seqK fun K hK=>AW.m1 3 d1 @setSeg.eq_1 (hK _ _ ?_)
  refine AW.seqK fun K hK=>AW.m1 4 d2 @setSeg.eq_1 (hK _ _ ?_)
  refine AW.seqK fun K hK=>AW.seqK fun K1 hK1=>AW.rP ?_
  simp [setSeg]
  refine CallDo.p 5 9 k1 ?_
  simp [setSeg]
  refine CallDo.p 5 9 k2 ?_
  simp [setSeg]
  repeat refine and_o ?_
  apply hK1
  refine AW.cn (AW.skip (hK _ _ (AW.seqK fun K hK=>AW.sr fun K1 hK1=>?_)))
  simp [he]
  repeat refine and_o ?_
  apply hK1
  refine AW.fy (by simp [he] <;> omega) (AW.seqK fun K1 hK1=>AW.rP ?_)
  simp
  refine CallDo.p 5 9 haw ?_
  simp
  repeat refine and_o ?_
  apply hK1
  exact AW.r0 (FinP.rt (t:=2) rfl 9 (by simp))
theorem ops_good (m:Int)(al ah bl bh:List UInt8)(bits:Int)(X:List UInt8)(g1:ofE al ah=0)(g2:ofE bl bh=0):CallsP Tryz.prog (GG m) 3 [pairA al ah bl bh bits X] (.c (.d (.bool true))):=by
 have c1:=of_ok m al ah
 have c2:=of_ok m bl bh
 have d1:=rof_ok (GG m) al ah
 have d2:=rof_ok (GG m) bl bh
 have sa:=ofI_sz al ah
 have sb:=ofI_sz bl bh
 have la:=ofI_le g1
 have lb:=ofI_le g2
 rw [g1] at c1 d1
 rw [g2] at c2 d2
 generalize ofI al ah=a at *
 generalize ofI bl bh=b at *
 have up:∀ {v:Iv}{L:Nat},v.sz L→L≤20000→v.sz 20000:=fun h h'=>Iv.sz_mono h h'
 have k1:=alike_ok2 m a 0 (up sa (by decide)) (fun h=>absurd rfl h)
 have k2:=alike_ok2 m b 0 (up sb (by decide)) (fun h=>absurd rfl h)
 have haw:=awake_ok m
 have a5:a.sz 5000:=Iv.sz_mono sa (by decide)
 have b5:b.sz 5000:=Iv.sz_mono sb (by decide)
 have aB:a.sz 10000000000:=Iv.sz_mono sa (by decide)
 have bB:b.sz 10000000000:=Iv.sz_mono sb (by decide)
 have a4:a.sz 20000:=Iv.sz_mono sa (by decide)
 have b4:b.sz 20000:=Iv.sz_mono sb (by decide)
 have q1:=iv_Quo (GG m) a b (Iv.sz_mono sa (by decide)) (Iv.sz_mono sb (by decide)) la lb
 have q2:=riv_Quo (GG m) a b a5 b5
 have q3:=alike_ok2 m (quoI a b) (if b.has 0 then 8 else 0) (quo_sz sa sb) (quo_he a b)
 have s1:=iv_Sqrt (GG m) a bits la sa.1 sa.2
 have s2:=riv_Sqrt m a bits la sa.1 sa.2
 have s3:=alike_ok2 m (sqI a bits) (rtE a.1) (sq_sz sa bits) (sq_he a bits)
 have n1:=iv_Neg (GG m) a
 have n2:=riv_Neg (GG m) a
 have n3:=same_iv2 m a.neg ⟨szR_neg a4.2,szR_neg a4.1⟩
 have ab1:=iv_Abs (GG m) a aB
 have ab2:=riv_Abs (GG m) a a4
 have nz:szR a.near 300:=by
  unfold Iv.near;split
  ·exact szR_zero' _ (by decide)
  ·exact szR_min (szR_ab sa.1) (szR_ab sa.2)
 have zz:szR a.size 300:=szR_max (szR_ab sa.1) (szR_ab sa.2)
 have ab3:=same_iv2 m a.abs ⟨szR_mono nz (by decide),szR_mono zz (by decide)⟩
 have ad1:=iv_Add (GG m) a b aB bB
 have ad2:=riv_Add (GG m) a b (Iv.sz_mono sa (by decide)) (Iv.sz_mono sb (by decide))
 have ad3:=same_iv2 m (a.add b) (up (L:=601) ⟨szR_add sa.1 sb.1,szR_add sa.2 sb.2⟩ (by decide))
 have su1:=iv_Sub (GG m) a b aB bB
 have su2:=riv_Sub (GG m) a b (Iv.sz_mono sa (by decide)) (Iv.sz_mono sb (by decide))
 have su3:=same_iv2 m (a.sub b) (by rw [sub_neg];exact up (L:=601) ⟨szR_add sa.1 (szR_neg sb.2),szR_add sa.2 (szR_neg sb.1)⟩ (by decide))
 have mu1:=iv_Mul (GG m) a b (Iv.sz_mono sa (by decide)) (Iv.sz_mono sb (by decide)) la lb
 have mu2:=riv_Mul (GG m) a b a5 b5
 have mu3:=same_iv2 m (a.mul b) (up (mul_sz sa sb) (by decide))
 have me1:=iv_Meet (GG m) a b aB bB
 have me2:=riv_Meet (GG m) a b a4 b4
 have me3:=same_iv2 m (fromI (a.meet b).1 (a.meet b).2) (from_sz (by decide) (szR_max a4.1 b4.1) (szR_min a4.2 b4.2))
 have jo1:=iv_Join (GG m) a b aB bB
 have jo2:=riv_Join (GG m) a b a4 b4 la lb
 have jo3:=same_iv2 m (a.join b) ⟨szR_min a4.1 b4.1,szR_max a4.2 b4.2⟩
 have ou1:=iv_Out (GG m) a bits (Iv.sz_mono sa (by decide))
 have ou2:=riv_Out m a bits sa
 have ou3:=same_iv2 m (downR a.1 bits,upR a.2 bits) ⟨szR_mono (grid_sz sa.1 bits _) (by decide),szR_mono (grid_sz sa.2 bits _) (by decide)⟩
 have p1:=rat_Parse m X
 have p2:=r_Parse_ok (GG m) X
 have pz:=ratP_sz X
 have ha1:=iv_Has (GG m) a (ratP X) aB (szR_mono pz (by decide))
 have ha2:=riv_Has (GG m) a (ratP X) a4 (szR_mono pz (by decide))
 have si1:=iv_Size (GG m) a aB
 have si2:=riv_Size (GG m) a a4
 have si3:=num_ok2 m a.size (szR_mono zz (by decide))
 have ne1:=iv_Near (GG m) a aB
 have ne2:=riv_Near (GG m) a a4
 have ne3:=num_ok2 m a.near (szR_mono nz (by decide))
 have hto:=told0_ok m
 generalize decide (a.has (ratP X))=bb at *
 generalize ratP X=px at *
 generalize ratE X=pe at *
 generalize quoI a b=vq at *
 generalize (if b.has 0 then (8:Int) else 0)=eq at *
 generalize sqI a bits=vs at *
 generalize rtE a.1=es at *
 generalize a.neg=vn at *
 generalize a.abs=va at *
 generalize a.add b=vd at *
 generalize a.sub b=vu at *
 generalize a.mul b=vm at *
 generalize a.join b=vj at *
 generalize (downR a.1 bits,upR a.2 bits)=vo at *
 generalize a.size=rs at *
 generalize a.near=rn at *
 have eb:=eqBool bb bb
 rw [show (bb == bb)=true from beq_self_eq_true bb] at eb
 by_cases hm:(a.meet b).1≤(a.meet b).2
 ·rw [decide_eq_true hm] at me1 me2
  have hnb:stepBin Tryz.prog .neq 4 (.c (.d (.bool true))) (.c (.d (.bool true)))=some (.c (.d (.bool false)),[],[],True):=neqBool true true
  generalize fromI (a.meet b).1 (a.meet b).2=vt at *
  refine CallsP.en Go.Proofs.Tryz.func3 rfl fun _=>AW.seqK fun K hK=>AW.l0 (hK _ _ ?_)
  refine AW.seqK fun K hK=>AW.rP ?_
  simp
  refine CallDo.p 1 29 c1 ?_
  simp [setSeg]
  repeat refine and_o ?_
  apply hK
  refine AW.seqK fun K hK=>AW.rP ?_
  simp
  refine CallDo.p 2 29 c2 ?_
  simp [setSeg]
  repeat refine and_o ?_
  apply hK
  refine AW.seqK fun K hK=>AW.rP ?_
  simp
  refine CallDo.p 3 29 d1 ?_
  simp [setSeg]
  repeat refine and_o ?_
  apply hK
  refine AW.seqK fun K hK=>AW.rP ?_
  simp
  refine CallDo.p 4 29 d2 ?_
  simp [setSeg]
  repeat refine and_o ?_
  apply hK
  refine AW.seqK fun K hK=>AW.seqK fun K1 hK1=>AW.rP ?_
  simp [setSeg]
  refine CallDo.p 5 29 k1 ?_
  simp [setSeg]
  refine CallDo.p 5 29 k2 ?_
  simp [setSeg]
  repeat refine and_o ?_
  apply hK1
  refine AW.cn (AW.skip (hK _ _ (AW.seqK fun K hK=>AW.seqK fun K1 hK1=>AW.l0 (hK1 _ _ ?_))))
  refine AW.cn (AW.skip (hK _ _ (AW.seqK fun K hK=>AW.rP ?_)))
  simp [setSeg]
  refine CallDo.p 5 29 q1 ?_
  simp [setSeg]
  repeat refine and_o ?_
  apply hK
  refine AW.seqK fun K hK=>AW.rP ?_
  simp [setSeg]
  refine CallDo.p 6 29 q2 ?_
  simp [setSeg]
  repeat refine and_o ?_
  apply hK
  refine AW.seqK fun K hK=>AW.rP ?_
  simp [setSeg]
  refine CallDo.p 7 29 s1 ?_
  simp [setSeg]
  repeat refine and_o ?_
  apply hK
  refine AW.seqK fun K hK=>AW.rP ?_
  simp [setSeg]
  refine CallDo.p 8 29 s2 ?_
  simp [setSeg]
  repeat refine and_o ?_
  apply hK
  refine AW.seqK fun K hK=>AW.seqK fun K1 hK1=>AW.rP ?_
  simp [setSeg]
  refine CallDo.p 9 29 q3 ?_
  simp [setSeg]
  refine CallDo.p 9 29 s3 ?_
  simp [setSeg]
  repeat refine and_o ?_
  apply hK1
  refine AW.cn (AW.skip (hK _ _ (AW.seqK fun K hK=>AW.seqK fun K1 hK1=>?_)))
  refine AW.drawP mixed (by kernel_rfl) rfl ?_
  simp [setSeg]
  refine CallDo.p 9 29 n1 ?_
  simp [setSeg]
  refine CallDo.p 9 29 n2 ?_
  simp [setSeg]
  refine CallDo.p 9 29 n3 ?_
  simp [setSeg]
  refine CallDo.p 9 29 ab1 ?_
  simp [setSeg]
  refine CallDo.p 9 29 ab2 ?_
  simp [setSeg]
  refine CallDo.p 9 29 ab3 ?_
  simp [setSeg]
  refine CallDo.p 9 29 ad1 ?_
  simp [setSeg]
  refine CallDo.p 9 29 ad2 ?_
  simp [setSeg]
  refine CallDo.p 9 29 ad3 ?_
  simp [setSeg]
  refine CallDo.p 9 29 su1 ?_
  simp [setSeg]
  refine CallDo.p 9 29 su2 ?_
  simp [setSeg]
  refine CallDo.p 9 29 su3 ?_
  simp [setSeg]
  refine CallDo.p 9 29 mu1 ?_
  simp [setSeg]
  refine CallDo.p 9 29 mu2 ?_
  simp [setSeg]
  refine CallDo.p 9 29 mu3 ?_
  simp [setSeg]
  refine⟨by kernel_rfl,?_⟩
  repeat refine and_o ?_
  apply hK1
  refine AW.cn (AW.skip (hK _ _ (AW.seqK fun K hK=>AW.rP ?_)))
  simp [setSeg]
  refine CallDo.p 9 29 me1 ?_
  simp [setSeg]
  repeat refine and_o ?_
  apply hK
  refine AW.seqK fun K hK=>AW.rP ?_
  simp [setSeg]
  refine CallDo.p 10 29 me2 ?_
  simp [setSeg]
  repeat refine and_o ?_
  apply hK
  refine AW.seqK fun K hK=>AW.seqK fun K1 hK1=>?_
  refine AW.drawP mixed (by kernel_rfl) rfl ?_
  simp [hnb,setSeg]
  refine CallDo.p 11 29 me3 ?_
  simp [setSeg]
  refine CallDo.p 11 29 jo1 ?_
  simp [setSeg]
  refine CallDo.p 11 29 jo2 ?_
  simp [setSeg]
  refine CallDo.p 11 29 jo3 ?_
  simp [setSeg]
  refine CallDo.p 11 29 ou1 ?_
  simp [setSeg]
  refine CallDo.p 11 29 ou2 ?_
  simp [setSeg]
  refine CallDo.p 11 29 ou3 ?_
  simp [setSeg]
  refine⟨by kernel_rfl,?_⟩
  repeat refine and_o ?_
  apply hK1
  refine AW.cn (AW.skip ?_)
  simp
  repeat refine and_o ?_
  apply hK
  refine AW.seqK fun K hK=>AW.rP ?_
  simp [setSeg]
  refine CallDo.p 11 29 p1 ?_
  simp [setSeg]
  repeat refine and_o ?_
  apply hK
  refine AW.seqK fun K hK=>AW.rP ?_
  simp [setSeg]
  refine CallDo.p 12 29 p2 ?_
  simp [setSeg]
  repeat refine and_o ?_
  apply hK
  refine AW.seqK fun K hK=>?_
  refine AW.drawP mixed (by kernel_rfl) rfl ?_
  simp [setSeg]
  refine CallDo.p 13 29 ha1 ?_
  simp [setSeg]
  refine CallDo.p 13 29 ha2 ?_
  simp [setSeg,eb]
  refine CallDo.p 13 29 si1 ?_
  simp [setSeg]
  refine CallDo.p 13 29 si2 ?_
  simp [setSeg]
  refine CallDo.p 13 29 si3 ?_
  simp [setSeg]
  refine CallDo.p 13 29 ne1 ?_
  simp [setSeg]
  refine CallDo.p 13 29 ne2 ?_
  simp [setSeg]
  refine CallDo.p 13 29 ne3 ?_
  simp [setSeg]
  refine CallDo.p 13 29 haw ?_
  simp [setSeg]
  refine⟨by kernel_rfl,?_⟩
  repeat refine and_o ?_
  apply hK
  exact AW.r0 (FinP.rt (t:=2) rfl 29 (by simp))
 ·rw [decide_eq_false hm] at me1 me2
  have hnb:stepBin Tryz.prog .neq 4 (.c (.d (.bool false))) (.c (.d (.bool false)))=some (.c (.d (.bool false)),[],[],True):=neqBool false false
  rw [show fromI (a.meet b).1 (a.meet b).2=(0,0) from if_neg hm] at me1 me2
  refine CallsP.en Go.Proofs.Tryz.func3 rfl fun _=>AW.seqK fun K hK=>AW.l0 (hK _ _ ?_)
  refine AW.seqK fun K hK=>AW.rP ?_
  simp
  refine CallDo.p 1 29 c1 ?_
  simp [setSeg]
  repeat refine and_o ?_
  apply hK
  refine AW.seqK fun K hK=>AW.rP ?_
  simp
  refine CallDo.p 2 29 c2 ?_
  simp [setSeg]
  repeat refine and_o ?_
  apply hK
  refine AW.seqK fun K hK=>AW.rP ?_
  simp
  refine CallDo.p 3 29 d1 ?_
  simp [setSeg]
  repeat refine and_o ?_
  apply hK
  refine AW.seqK fun K hK=>AW.rP ?_
  simp
  refine CallDo.p 4 29 d2 ?_
  simp [setSeg]
  repeat refine and_o ?_
  apply hK
  refine AW.seqK fun K hK=>AW.seqK fun K1 hK1=>AW.rP ?_
  simp [setSeg]
  refine CallDo.p 5 29 k1 ?_
  simp [setSeg]
  refine CallDo.p 5 29 k2 ?_
  simp [setSeg]
  repeat refine and_o ?_
  apply hK1
  refine AW.cn (AW.skip (hK _ _ (AW.seqK fun K hK=>AW.seqK fun K1 hK1=>AW.l0 (hK1 _ _ ?_))))
  refine AW.cn (AW.skip (hK _ _ (AW.seqK fun K hK=>AW.rP ?_)))
  simp [setSeg]
  refine CallDo.p 5 29 q1 ?_
  simp [setSeg]
  repeat refine and_o ?_
  apply hK
  refine AW.seqK fun K hK=>AW.rP ?_
  simp [setSeg]
  refine CallDo.p 6 29 q2 ?_
  simp [setSeg]
  repeat refine and_o ?_
  apply hK
  refine AW.seqK fun K hK=>AW.rP ?_
  simp [setSeg]
  refine CallDo.p 7 29 s1 ?_
  simp [setSeg]
  repeat refine and_o ?_
  apply hK
  refine AW.seqK fun K hK=>AW.rP ?_
  simp [setSeg]
  refine CallDo.p 8 29 s2 ?_
  simp [setSeg]
  repeat refine and_o ?_
  apply hK
  refine AW.seqK fun K hK=>AW.seqK fun K1 hK1=>AW.rP ?_
  simp [setSeg]
  refine CallDo.p 9 29 q3 ?_
  simp [setSeg]
  refine CallDo.p 9 29 s3 ?_
  simp [setSeg]
  repeat refine and_o ?_
  apply hK1
  refine AW.cn (AW.skip (hK _ _ (AW.seqK fun K hK=>AW.seqK fun K1 hK1=>?_)))
  refine AW.drawP mixed (by kernel_rfl) rfl ?_
  simp [setSeg]
  refine CallDo.p 9 29 n1 ?_
  simp [setSeg]
  refine CallDo.p 9 29 n2 ?_
  simp [setSeg]
  refine CallDo.p 9 29 n3 ?_
  simp [setSeg]
  refine CallDo.p 9 29 ab1 ?_
  simp [setSeg]
  refine CallDo.p 9 29 ab2 ?_
  simp [setSeg]
  refine CallDo.p 9 29 ab3 ?_
  simp [setSeg]
  refine CallDo.p 9 29 ad1 ?_
  simp [setSeg]
  refine CallDo.p 9 29 ad2 ?_
  simp [setSeg]
  refine CallDo.p 9 29 ad3 ?_
  simp [setSeg]
  refine CallDo.p 9 29 su1 ?_
  simp [setSeg]
  refine CallDo.p 9 29 su2 ?_
  simp [setSeg]
  refine CallDo.p 9 29 su3 ?_
  simp [setSeg]
  refine CallDo.p 9 29 mu1 ?_
  simp [setSeg]
  refine CallDo.p 9 29 mu2 ?_
  simp [setSeg]
  refine CallDo.p 9 29 mu3 ?_
  simp [setSeg]
  refine⟨by kernel_rfl,?_⟩
  repeat refine and_o ?_
  apply hK1
  refine AW.cn (AW.skip (hK _ _ (AW.seqK fun K hK=>AW.rP ?_)))
  simp [setSeg]
  refine CallDo.p 9 29 me1 ?_
  simp [setSeg]
  repeat refine and_o ?_
  apply hK
  refine AW.seqK fun K hK=>AW.rP ?_
  simp [setSeg]
  refine CallDo.p 10 29 me2 ?_
  simp [setSeg]
  repeat refine and_o ?_
  apply hK
  refine AW.seqK fun K hK=>AW.seqK fun K1 hK1=>?_
  refine AW.drawP mixed (by kernel_rfl) rfl ?_
  simp [hnb,setSeg]
  refine CallDo.p 11 29 hto ?_
  simp [setSeg]
  refine CallDo.p 11 29 jo1 ?_
  simp [setSeg]
  refine CallDo.p 11 29 jo2 ?_
  simp [setSeg]
  refine CallDo.p 11 29 jo3 ?_
  simp [setSeg]
  refine CallDo.p 11 29 ou1 ?_
  simp [setSeg]
  refine CallDo.p 11 29 ou2 ?_
  simp [setSeg]
  refine CallDo.p 11 29 ou3 ?_
  simp [setSeg]
  refine⟨by kernel_rfl,?_⟩
  repeat refine and_o ?_
  apply hK1
  refine AW.cn (AW.skip ?_)
  simp
  repeat refine and_o ?_
  apply hK
  refine AW.seqK fun K hK=>AW.rP ?_
  simp [setSeg]
  refine CallDo.p 11 29 p1 ?_
  simp [setSeg]
  repeat refine and_o ?_
  apply hK
  refine AW.seqK fun K hK=>AW.rP ?_
  simp [setSeg]
  refine CallDo.p 12 29 p2 ?_
  simp [setSeg]
  repeat refine and_o ?_
  apply hK
  refine AW.seqK fun K hK=>?_
  refine AW.drawP mixed (by kernel_rfl) rfl ?_
  simp [setSeg]
  refine CallDo.p 13 29 ha1 ?_
  simp [setSeg]
  refine CallDo.p 13 29 ha2 ?_
  simp [setSeg,eb]
  refine CallDo.p 13 29 si1 ?_
  simp [setSeg]
  refine CallDo.p 13 29 si2 ?_
  simp [setSeg]
  refine CallDo.p 13 29 si3 ?_
  simp [setSeg]
  refine CallDo.p 13 29 ne1 ?_
  simp [setSeg]
  refine CallDo.p 13 29 ne2 ?_
  simp [setSeg]
  refine CallDo.p 13 29 ne3 ?_
  simp [setSeg]
  refine CallDo.p 13 29 haw ?_
  simp [setSeg]
  refine⟨by kernel_rfl,?_⟩
  repeat refine and_o ?_
  apply hK
  exact AW.r0 (FinP.rt (t:=2) rfl 29 (by simp))
theorem rangesOps_ok (m:Int)(al ah bl bh:List UInt8)(bits:Int)(X:List UInt8):CallsP Tryz.prog (GG m) 3 [pairA al ah bl bh bits X] (.c (.d (.bool true))):=by
 by_cases h:ofE al ah=0∧ofE bl bh=0
 ·exact ops_good m al ah bl bh bits X h.1 h.2
 ·exact ops_bad m al ah bl bh bits X h
end Go.Am
