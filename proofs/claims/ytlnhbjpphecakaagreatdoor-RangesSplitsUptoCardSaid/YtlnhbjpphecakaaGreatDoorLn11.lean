/- Helpers: an abstract machine for Go functions, and walks of functions of the program. -/
import Derived.Test.YtlnhbjpphecakaaGreatDoorLn10

set_option linter.all false
set_option maxHeartbeats 8000000
set_option maxRecDepth 100000
namespace Go.Am
open Go.Am.Ty Go.Proofs N
theorem rangesSplits_ok (m:Int)(b:Option (List Sp))(i:Int)(t:List UInt8)(hb:(bxL b).length≤1048576):CallsP Tryz.prog (GG m) 4 [.c (scC (bxO b)),.c (.d (.int .i64 i)),.c (.d (.str t))] (.c (.d (.bool true))):=by
 have c1:=Split_ok m b i t hb
 have c2:=rSplit_ok (GG m) b i t hb
 have c3:=Widest_ok m b hb
 have c4:=rWidest_ok (GG m) b hb
 have hs:∃ p q e,splR (bxL b) i t=(p,q,e)∧(bxL p).length≤1048576∧(bxL q).length≤1048576:=by
  unfold splR
  (repeat' split) <;> refine⟨_,_,_,rfl,?_,?_⟩ <;> simp [bxL] <;> simpa [bxL] using hb
 obtain⟨p,q,e,hs,hp,hq⟩:=hs
 rw [hs] at c1 c2
 simp only [splA] at c1 c2
 have d1:=equal_sp (GG m) p hp
 have d2:=equal_sp (GG m) q hq
 have haw:=awake_ok m
 have hlp:=fun lv=>lpBx lv b
 obtain⟨w,f⟩:=wdR (bxL b)
 try simp only at c3 c4
 by_cases h0:(bxL b).length=0
 ·have h00:bxL b=[]:=List.length_eq_zero_iff.1 h0
  refine CallsP.en Go.Proofs.Tryz.func4 rfl fun _=>AW.q ?_
  refine AW.c1 10 c1 c2 ?_
  refine AW.c1 10 c2 c2 ?_
  refine AW.c1 10 c3 c3 ?_
  refine AW.c1 10 c4 c4 ?_
  refine AW.seqK fun K hK=>AW.sr fun K1 hK1=>?_
  simp
  refine CallDo.p 10 9 d1 ?_
  simp [d1]
  refine CallDo.p 10 9 d2 ?_
  simp [d2]
  repeat refine and_o ?_
  apply hK1
  refine AW.cn (AW.skip (hK _ _ (AW.seqK fun K hK=>AW.f1 hlp ?_)))
  refine AW.fy (by simp [h00] <;> omega) (AW.c1 10 haw haw ?_)
  exact AW.r0 (FinP.rt rfl 6 (by simp))
 have h00:¬ bxL b=[]:=fun e=>h0 (by rw [e];rfl)
 have hk:0<(bxL b).length:=by omega
 have hx0:∀ lv:Key→LB,stepIndexAddr Tryz.prog 71 lv (.c (scC (bxO b))) (.c (.d (.int .i64 0)))=some (.c (.d (.ptr (spD (bxL b)[0]))),[],[],True):=fun lv=>ixBx lv b hk
 obtain⟨s,hs0⟩:∃ s,s=(bxL b)[0]:=⟨_,rfl⟩
 rw [← hs0] at hx0
 have g1:=rat_Parse m s.1
 have g2:=rat_Parse m s.2
 have g3:=iv_From (GG m) (ratP s.1) (ratP s.2) (szB (ratP_sz s.1)) (szB (ratP_sz s.2))
 have g4:=rof_ok (GG m) s.1 s.2
 by_cases e1:ratE s.1=0
 rotate_left
 ·generalize ratE s.1=n1 at *
  generalize ratE s.2=n2 at *
  generalize ratP s.1=x1 at *
  generalize ratP s.2=x2 at *
  refine CallsP.en Go.Proofs.Tryz.func4 rfl fun _=>AW.q ?_
  refine AW.c1 10 c1 c2 ?_
  refine AW.c1 10 c2 c2 ?_
  refine AW.c1 10 c3 c3 ?_
  refine AW.c1 10 c4 c4 ?_
  refine AW.seqK fun K hK=>AW.sr fun K1 hK1=>?_
  simp
  refine CallDo.p 10 9 d1 ?_
  simp [d1]
  refine CallDo.p 10 9 d2 ?_
  simp [d2]
  repeat refine and_o ?_
  apply hK1
  refine AW.cn (AW.skip (hK _ _ (AW.seqK fun K hK=>AW.f1 hlp ?_)))
  refine AW.fn (by simp [h00] <;> omega) (AW.skip (hK _ _ (AW.sr fun K hK=>?_)))
  simp [hx0,spD]
  refine CallDo.p 10 9 g1 ?_
  simp [g1]
  repeat refine and_o ?_
  apply hK
  refine AW.sr fun K hK=>?_
  simp [hx0,spD]
  refine CallDo.p 20 9 g2 ?_
  simp [g2]
  repeat refine and_o ?_
  apply hK
  refine AW.seqK fun K hK=>AW.f1 e1 ?_
  refine AW.fy (by simp [e1] <;> omega) (AW.c1 30 haw haw ?_)
  exact AW.r0 (FinP.rt rfl 6 (by simp))
 by_cases e2:ratE s.2=0
 rotate_left
 ·generalize ratE s.1=n1 at *
  generalize ratE s.2=n2 at *
  generalize ratP s.1=x1 at *
  generalize ratP s.2=x2 at *
  refine CallsP.en Go.Proofs.Tryz.func4 rfl fun _=>AW.q ?_
  refine AW.c1 10 c1 c2 ?_
  refine AW.c1 10 c2 c2 ?_
  refine AW.c1 10 c3 c3 ?_
  refine AW.c1 10 c4 c4 ?_
  refine AW.seqK fun K hK=>AW.sr fun K1 hK1=>?_
  simp
  refine CallDo.p 10 9 d1 ?_
  simp [d1]
  refine CallDo.p 10 9 d2 ?_
  simp [d2]
  repeat refine and_o ?_
  apply hK1
  refine AW.cn (AW.skip (hK _ _ (AW.seqK fun K hK=>AW.f1 hlp ?_)))
  refine AW.fn (by simp [h00] <;> omega) (AW.skip (hK _ _ (AW.sr fun K hK=>?_)))
  simp [hx0,spD]
  refine CallDo.p 10 9 g1 ?_
  simp [g1]
  repeat refine and_o ?_
  apply hK
  refine AW.sr fun K hK=>?_
  simp [hx0,spD]
  refine CallDo.p 20 9 g2 ?_
  simp [g2]
  repeat refine and_o ?_
  apply hK
  refine AW.seqK fun K hK=>AW.f2 e1 e2 ?_
  refine AW.fy (by simp [e1,e2] <;> omega) (AW.c1 30 haw haw ?_)
  exact AW.r0 (FinP.rt rfl 6 (by simp))
 have hoe:ofE s.1 s.2=if ratP s.1≤ratP s.2 then 0 else 7:=by unfold ofE;rw [if_neg (not_not_intro e1),if_neg (not_not_intro e2)]
 have hoi:ofI s.1 s.2=fromI (ratP s.1) (ratP s.2):=by
  unfold ofI fromI;rw [hoe];split <;> simp_all
 rw [← hoe,← hoi] at g3
 have g5:=alike_ok m (ofI s.1 s.2) (ofE s.1 s.2) (ofI_sz s.1 s.2) (fun h=>if_neg h)
 generalize ofE s.1 s.2=n3 at *
 generalize ofI s.1 s.2=a at *
 generalize ratE s.1=n1 at *
 generalize ratE s.2=n2 at *
 generalize ratP s.1=x1 at *
 generalize ratP s.2=x2 at *
 refine CallsP.en Go.Proofs.Tryz.func4 rfl fun _=>AW.q ?_
 refine AW.c1 10 c1 c2 ?_
 refine AW.c1 10 c2 c2 ?_
 refine AW.c1 10 c3 c3 ?_
 refine AW.c1 10 c4 c4 ?_
 refine AW.seqK fun K hK=>AW.sr fun K1 hK1=>?_
 simp
 refine CallDo.p 10 9 d1 ?_
 simp [d1]
 refine CallDo.p 10 9 d2 ?_
 simp [d2]
 repeat refine and_o ?_
 apply hK1
 refine AW.cn (AW.skip (hK _ _ (AW.seqK fun K hK=>AW.f1 hlp ?_)))
 refine AW.fn (by simp [h00] <;> omega) (AW.skip (hK _ _ (AW.sr fun K hK=>?_)))
 simp [hx0,spD]
 refine CallDo.p 10 9 g1 ?_
 simp [g1]
 repeat refine and_o ?_
 apply hK
 refine AW.sr fun K hK=>?_
 simp [hx0,spD]
 refine CallDo.p 20 9 g2 ?_
 simp [g2]
 repeat refine and_o ?_
 apply hK
 refine AW.seqK fun K hK=>AW.f2 e1 e2 ?_
 refine AW.fn (by simp [e1,e2] <;> omega) (AW.skip (hK _ _ (AW.c1 30 g3 @setSeg.eq_1 ?_)))
 refine AW.sr fun K hK=>?_
 simp [hx0,spD]
 refine CallDo.p 40 9 g4 ?_
 simp [setSeg]
 repeat refine and_o ?_
 apply hK
 refine AW.sr fun K hK=>?_
 simp [setSeg]
 refine CallDo.p 50 9 g5 ?_
 simp [haw]
 refine CallDo.p 50 9 haw ?_
 simp [haw]
 repeat refine and_o ?_
 apply hK
 exact AW.r0 (FinP.rt rfl 6 (by simp))
end Go.Am
