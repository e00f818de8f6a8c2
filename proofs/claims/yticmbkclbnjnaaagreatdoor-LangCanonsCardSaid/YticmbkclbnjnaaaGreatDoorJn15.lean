/- Helpers. -/
import Derived.Test.YticmbkclbnjnaaaGreatDoorJn14

set_option linter.all false
set_option maxHeartbeats 8000000
set_option maxRecDepth 100000
namespace Go.Proofs.YticmbkclbnjnaaaGreatDoor
open Go.Am Go.RowKit Go.ChangeShapes Go.WideShapes
theorem uS{H:Type}{enc:TypeId×Value->H}{W:World}{base:Nat}{v:Value}{d:DataW H}{p:List MemPlace}(hok:Value.okWide Tryz.prog W .any base 27 v)(h:DataW.Trod enc Tryz.prog W 0 (λ_=>true) true 27 v d p):
 ∃q:PD,q.ok/\(Vw.mk (λb=>b<W.heap.size) (λ_=>0) (bu [] []) W).av v q.A:=by
 obtain⟨arr,l,rfl,h1,h2⟩:=Gz kids (n:=8) Tryz.underlying27 (by simp) (by kernel_rfl) hok h;obtain⟨q,hq,e⟩:=abB h1;have:=KQ h2
 grind
theorem uD(os:Os)(started:os.Started)(H:Type)(enc:TypeId×Value->H):
 ReturnsInHanded {} Tryz.checked os 3 .any (λw args=>(Rows.langCanonsSpec.pre enc Tryz.prog Tryz.f3 [] false w args/\laidMetH Tryz.prog Rows.langCanonsRow.laid w)/\sizedMet enc Tryz.prog Tryz.f3 (OpenSpec.ofChange Rows.langCanonsSpec) false w args)
  (Rows.langCanonsSpec.post enc Tryz.prog Tryz.f3 false true false false):=by
 refine Mg (C:=Tryz.checked) (X:=λw _=>laidMetH Tryz.prog Rows.langCanonsRow.laid w) (λ_ _ _ hh h=>h.of_heap hh) own started (by kernel_rfl) Tryz.func3
  (ChangeSpec.witness_shaped (enc:=enc) (C:=Tryz.checked) (os:=os) (X:=λw _=>laidMetH Tryz.prog Rows.langCanonsRow.laid w) false (World.laidAll Tryz.prog os Rows.langCanonsRow.laid)
   #[.agg #[.slice none 0 0,.int .i64 0,.slice none 0 0,.slice none 0 0,.int .i64 0,.int .i64 0,.slice none 0 0,.int .i64 0]] 8 (World.laidAll_os _ _ _)
   (World.shaped_of_ZipB (by kernel_rfl) (by kernel_rfl)) (by kernel_rfl) (by kernel_rfl) (by kernel_rfl)
   (by rw[MakeChecks.laidMetH_plain _ _ _ (by kernel_rfl)];exact laidMet_laidAll _ (by kernel_rfl) (by kernel_rfl))) ?_
 intro W base args ds gs before hsh hval hW hL;have hval:∀(j:Nat) t v,Tryz.f3.params[j]?=some t->args[j]?=some v->Value.okWide Tryz.prog W .any base t v:=hval;have hW':DataW.Whole enc Tryz.prog Tryz.f3.params.toList Rows.langCanonsSpec.vars false W args.toList ds gs before:=hW;obtain⟨p,q,hA,hV,_,_,_⟩:=hW';rw[Tryz.params3]at hA hval;obtain⟨v0,d0,rfl,rfl,h0⟩:=trodAll_one hA;obtain⟨rfl,rfl⟩:=trodVars_none hV;obtain⟨q0,hq0,a0⟩:=uS (hval 0 27 v0 rfl rfl) h0;have hL':laidMetH Tryz.prog Rows.langCanonsRow.laid W:=hL;obtain⟨m,hG⟩:=YC hsh hL';refine(O4 (Bv m q0 hq0) hG rfl (λi h h'=>?_)).mono λe W' ⟨he,hk⟩=>?_
 ·grind
 ·exact⟨_,he,P6 kids hz (by simp_all) rfl (tb:=4) rfl Tryz.underlying4 hW rfl hk⟩
end Go.Proofs.YticmbkclbnjnaaaGreatDoor
