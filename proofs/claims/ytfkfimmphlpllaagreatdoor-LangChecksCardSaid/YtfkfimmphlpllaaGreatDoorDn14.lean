/- Helpers: an abstract machine for Go functions, and walks of functions of the program. -/
import Derived.Test.YtfkfimmphlpllaaGreatDoorDn13

set_option linter.all false

namespace Go.Proofs.YtfkfimmphlpllaaGreatDoor
open Go.Am Go.RowKit Go.ChangeShapes Go.WideShapes
set_option maxRecDepth 100000
theorem ql {H:Type}{enc:TypeId × Value→H}{W:World}{base:Nat}{v:Value}{d:DataW H}{p:List MemPlace}(hok:Value.okWide Tryz.prog W .any base 27 v) (h:DataW.Trod enc Tryz.prog W 0 (fun _=>true) true 27 v d p) :
 ∃ q:PD,q.ok∧(Vw.mk (fun b=>b<W.heap.size) (fun _=>0) (bV [] []) W).av v q.A:=by
 obtain⟨arr,l,rfl,h1,h2⟩:=Bo kids (n:=8) Tryz.underlying27 (by show 27<_;rw [om];decide) (by kernel_rfl) hok h;obtain⟨q,hq,e⟩:=ZQ h1;have:=Gi h2;rw [e] at this;exact⟨q,hq,this⟩
theorem oT {H:Type}{enc:TypeId × Value→H}{W:World}{base:Nat}{t:TypeId}{k:IntKind}{v:Value}{d:DataW H}{p:List MemPlace}(ht:Tryz.prog.underlying t=some (.int k)) (hok:Value.okWide Tryz.prog W .any base t v) (h:DataW.Trod enc Tryz.prog W 0 (fun _=>true) true t v d p) :
 ∃ n,v=.int k n∧d=.lit (.int k n)∧k.wrap n=n:=by
 obtain⟨n,rfl,rfl,_,hw⟩:=open_int ht hok h;exact⟨n,rfl,rfl,Go.Am.wf_wrap hw⟩
set_option maxRecDepth 100000 in
theorem pJ (os:Os)(started:os.Started)(H:Type)(enc:TypeId × Value→H) :
 ReturnsInHanded {} Tryz.checked os 8 .any (fun w args=>(Rows.langChecksSpec.pre enc Tryz.prog Tryz.f8 [] false w args∧laidMetH Tryz.prog Rows.langChecksRow.laid w)∧sizedMet enc Tryz.prog Tryz.f8 (OpenSpec.ofChange Rows.langChecksSpec) false w args)
  (Rows.langChecksSpec.post enc Tryz.prog Tryz.f8 false true false false):=by
 refine FC (C:=Tryz.checked) (X:=fun w _=>laidMetH Tryz.prog Rows.langChecksRow.laid w) (fun _ _ _ hh h=>h.of_heap hh) own started (by kernel_rfl) Tryz.func8
  (ChangeSpec.witness_shaped (enc:=enc) (C:=Tryz.checked) (os:=os) (X:=fun w _=>laidMetH Tryz.prog Rows.langChecksRow.laid w) false (World.laidAll Tryz.prog os Rows.langChecksRow.laid)
   #[.agg #[.slice none 0 0,.int .i64 0,.slice none 0 0,.slice none 0 0,.int .i64 0,.int .i64 0,.slice none 0 0,.int .i64 0],.int .i64 0] 8 (World.laidAll_os _ _ _)
   (World.shaped_of_ZipB (by kernel_rfl) (by kernel_rfl)) (by kernel_rfl) (by kernel_rfl) (by kernel_rfl)
   (by rw [MakeChecks.laidMetH_plain _ _ _ (by kernel_rfl)];exact laidMet_laidAll _ (by kernel_rfl) (by kernel_rfl))) ?_
 intro W base args ds gs before hsh hval hW hL;have hval:∀ (j:Nat) t v,Tryz.f8.params[j]?=some t→args[j]?=some v→Value.okWide Tryz.prog W .any base t v:=hval;have hW':DataW.Whole enc Tryz.prog Tryz.f8.params.toList Rows.langChecksSpec.vars false W args.toList ds gs before:=hW;obtain⟨p,q,hA,hV,_,_,_⟩:=hW';rw [Tryz.params8] at hA hval;obtain⟨v0,v1,d0,d1,p0,p1,rfl,rfl,_,h0,h1⟩:=trodAll_two hA;obtain⟨rfl,rfl⟩:=trodVars_none hV;obtain⟨q0,hq0,a0⟩:=ql (hval 0 27 v0 rfl rfl) h0;obtain⟨n1,rfl,rfl,w1⟩:=oT (k:=.i64) Tryz.underlying3 (hval 1 3 v1 rfl rfl) h1;have a1:(Vw.mk (fun b=>b<W.heap.size) (fun _=>0) (bV [] []) W).av (.int .i64 n1) (.c (.d (.int .i64 n1))):=⟨.int .i64 n1 w1,rfl⟩
 have hL':laidMetH Tryz.prog Rows.langSamesRow.laid W:=hL;obtain⟨m,hG⟩:=Rz hsh hL';refine (Hr (w8 m q0 hq0 n1 w1) hG rfl (fun i h h'=>?_)).mono fun e W' ⟨he,hk⟩=>?_
 ·match i,h with
  | 0,_=>exact a0
  | 1,_=>exact a1
 ·exact⟨_,he,HE kids hz (by rw [Tryz.params8];intro t ht;simp at ht;rcases ht with rfl|rfl <;> (show _<_;rw [om];decide)) rfl (tb:=4) rfl Tryz.underlying4 hW rfl hk⟩
end Go.Proofs.YtfkfimmphlpllaaGreatDoor
