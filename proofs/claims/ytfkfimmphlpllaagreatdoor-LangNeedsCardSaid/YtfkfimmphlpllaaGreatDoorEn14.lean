/- Helpers: an abstract machine for Go functions, and walks of functions of the program. -/
import Derived.Test.YtfkfimmphlpllaaGreatDoorEn13

set_option linter.all false
set_option maxHeartbeats 8000000
set_option maxRecDepth 100000
namespace Go.Proofs.YtfkfimmphlpllaaGreatDoor
open Go.Am Go.RowKit Go.ChangeShapes Go.WideShapes
theorem sK {H:Type}{enc:TypeId × Value→H}{W:World}{base:Nat}{v:Value}{d:DataW H}{p:List MemPlace}(hok:Value.okWide Tryz.prog W .any base 27 v) (h:DataW.Trod enc Tryz.prog W 0 (fun _=>true) true 27 v d p) :
 ∃ q:PD,q.ok∧(Vw.mk (fun b=>b<W.heap.size) (fun _=>0) (bF [] []) W).av v q.A:=by
 obtain⟨arr,l,rfl,h1,h2⟩:=BM kids (n:=8) Tryz.underlying27 (by show 27<_;rw [oX];decide) (by kernel_rfl) hok h;obtain⟨q,hq,e⟩:=Tg h1;have:=GI h2;rw [e] at this;exact⟨q,hq,this⟩
theorem sC (os:Os)(started:os.Started)(H:Type)(enc:TypeId × Value→H) :
 ReturnsInHanded {} Tryz.checked os 7 .any (fun w args=>(Rows.langNeedsSpec.pre enc Tryz.prog Tryz.f7 [] false w args∧laidMetH Tryz.prog Rows.langNeedsRow.laid w)∧sizedMet enc Tryz.prog Tryz.f7 (OpenSpec.ofChange Rows.langNeedsSpec) false w args)
  (Rows.langNeedsSpec.post enc Tryz.prog Tryz.f7 false true false false):=by
 refine GC (C:=Tryz.checked) (X:=fun w _=>laidMetH Tryz.prog Rows.langNeedsRow.laid w) (fun _ _ _ hh h=>h.of_heap hh) own started (by kernel_rfl) Tryz.func7
  (ChangeSpec.witness_shaped (enc:=enc) (C:=Tryz.checked) (os:=os) (X:=fun w _=>laidMetH Tryz.prog Rows.langNeedsRow.laid w) false (World.laidAll Tryz.prog os Rows.langNeedsRow.laid)
   #[.agg #[.slice none 0 0,.int .i64 0,.slice none 0 0,.slice none 0 0,.int .i64 0,.int .i64 0,.slice none 0 0,.int .i64 0]] 8 (World.laidAll_os _ _ _)
   (World.shaped_of_ZipB (by kernel_rfl) (by kernel_rfl)) (by kernel_rfl) (by kernel_rfl) (by kernel_rfl)
   (by rw [MakeChecks.laidMetH_plain _ _ _ (by kernel_rfl)];exact laidMet_laidAll _ (by kernel_rfl) (by kernel_rfl))) ?_
 intro W base args ds gs before hsh hval hW hL;have hval:∀ (j:Nat) t v,Tryz.f7.params[j]?=some t→args[j]?=some v→Value.okWide Tryz.prog W .any base t v:=hval;have hW':DataW.Whole enc Tryz.prog Tryz.f7.params.toList Rows.langNeedsSpec.vars false W args.toList ds gs before:=hW;obtain⟨p,q,hA,hV,_,_,_⟩:=hW';rw [Tryz.params7] at hA hval;obtain⟨v0,d0,rfl,rfl,h0⟩:=trodAll_one hA;obtain⟨rfl,rfl⟩:=trodVars_none hV;obtain⟨q0,hq0,a0⟩:=sK (hval 0 27 v0 rfl rfl) h0;have hL':laidMetH Tryz.prog Rows.langSamesRow.laid W:=hL;obtain⟨m,hG⟩:=Qe hsh hL';refine (Kq (zo m q0 hq0) hG rfl (fun i h h'=>?_)).mono fun e W' ⟨he,hk⟩=>?_
 ·match i,h with
  | 0,_=>exact a0
 ·exact⟨_,he,JQ kids hz (by rw [Tryz.params7];intro t ht;simp at ht;subst ht;show _<_;rw [oX];decide) rfl (tb:=4) rfl Tryz.underlying4 hW rfl hk⟩
end Go.Proofs.YtfkfimmphlpllaaGreatDoor
