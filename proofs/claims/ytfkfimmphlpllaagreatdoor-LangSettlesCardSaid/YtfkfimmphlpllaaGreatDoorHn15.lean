/- Helpers: an abstract machine for Go functions, and walks of functions of the program. -/
import Derived.Test.YtfkfimmphlpllaaGreatDoorHn14

set_option linter.all false
set_option maxHeartbeats 8000000
set_option maxRecDepth 100000
namespace Go.Proofs.YtfkfimmphlpllaaGreatDoor
open Go.Am Go.RowKit Go.ChangeShapes Go.WideShapes
theorem qQ {H:Type}{enc:TypeId × Value→H}{W:World}{base:Nat}{v:Value}{d:DataW H}{p:List MemPlace}(hok:Value.okWide Tryz.prog W .any base 27 v) (h:DataW.Trod enc Tryz.prog W 0 (fun _=>true) true 27 v d p) :
 ∃ q:PD,q.ok∧(Vw.mk (fun b=>b<W.heap.size) (fun _=>0) (bn [] []) W).av v q.A:=by
 obtain⟨arr,l,rfl,h1,h2⟩:=El kids (n:=8) Tryz.underlying27 (by show 27<_;rw [pS];decide) (by kernel_rfl) hok h;obtain⟨q,hq,e⟩:=W6 h1;have:=Jc h2;rw [e] at this;exact⟨q,hq,this⟩
theorem qR (os:Os)(started:os.Started)(H:Type)(enc:TypeId × Value→H) :
 ReturnsInHanded {} Tryz.checked os 13 .any (fun w args=>(Rows.langSettlesSpec.pre enc Tryz.prog Tryz.f13 [] false w args∧laidMetH Tryz.prog Rows.langSettlesRow.laid w)∧sizedMet enc Tryz.prog Tryz.f13 (OpenSpec.ofChange Rows.langSettlesSpec) false w args)
  (Rows.langSettlesSpec.post enc Tryz.prog Tryz.f13 false true false false):=by
 refine H9 (C:=Tryz.checked) (X:=fun w _=>laidMetH Tryz.prog Rows.langSettlesRow.laid w) (fun _ _ _ hh h=>h.of_heap hh) own started (by kernel_rfl) Tryz.func13
  (ChangeSpec.witness_shaped (enc:=enc) (C:=Tryz.checked) (os:=os) (X:=fun w _=>laidMetH Tryz.prog Rows.langSettlesRow.laid w) false (World.laidAll Tryz.prog os Rows.langSettlesRow.laid)
   #[.agg #[.slice none 0 0,.int .i64 0,.slice none 0 0,.slice none 0 0,.int .i64 0,.int .i64 0,.slice none 0 0,.int .i64 0]] 8 (World.laidAll_os _ _ _)
   (World.shaped_of_ZipB (by kernel_rfl) (by kernel_rfl)) (by kernel_rfl) (by kernel_rfl) (by kernel_rfl)
   (by rw [MakeChecks.laidMetH_plain _ _ _ (by kernel_rfl)];exact laidMet_laidAll _ (by kernel_rfl) (by kernel_rfl))) ?_
 intro W base args ds gs before hsh hval hW hL;have hval:∀ (j:Nat) t v,Tryz.f13.params[j]?=some t→args[j]?=some v→Value.okWide Tryz.prog W .any base t v:=hval;have hW':DataW.Whole enc Tryz.prog Tryz.f13.params.toList Rows.langSettlesSpec.vars false W args.toList ds gs before:=hW;obtain⟨p,q,hA,hV,_,_,_⟩:=hW';rw [Tryz.params13] at hA hval;obtain⟨v0,d0,rfl,rfl,h0⟩:=trodAll_one hA;obtain⟨rfl,rfl⟩:=trodVars_none hV;obtain⟨q0,hq0,a0⟩:=qQ (hval 0 27 v0 rfl rfl) h0;have hL':laidMetH Tryz.prog Rows.langSamesRow.laid W:=hL;obtain⟨m,hG⟩:=SF hsh hL';refine (Kx (xq m q0 hq0) hG rfl (fun i h h'=>?_)).mono fun e W' ⟨he,hk⟩=>?_
 ·match i,h with
  | 0,_=>exact a0
 ·exact⟨_,he,Kb kids hz (by rw [Tryz.params13];intro t ht;simp at ht;subst ht;show _<_;rw [pS];decide) rfl (tb:=4) rfl Tryz.underlying4 hW rfl hk⟩
end Go.Proofs.YtfkfimmphlpllaaGreatDoor
