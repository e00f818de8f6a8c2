/- Helpers. -/
import Derived.Test.YtfkfimmphlpllaaGreatDoorGn15

set_option linter.all false
set_option maxHeartbeats 8000000
set_option maxRecDepth 100000
open Go.Proofs.Tryz
namespace Go.Proofs.YtfkfimmphlpllaaGreatDoor
open Go.Am Go.RowKit Go.ChangeShapes Go.WideShapes
variable {H:Type}{W:World}{base:Nat}{v:Value}{p:List MemPlace}
def qT{enc:TypeId×Value->H}{d:DataW H}(hok:Value.okWide prog W .any base 27 v)(h:DataW.Trod enc prog W 0 (λ_=>true) true 27 v d p):
 ∃q:PD,q.ok/\(Vw.mk (λb=>b<W.heap.size) (λ_=>0) (bq [] []) W).av v q.A:=by
 obtain⟨arr,l,rfl,h1,h2⟩:=DQ kids (n:=8) Tryz.underlying27 (by show 27<_;rw[qG];decide) (by kernel_rfl) hok h;obtain⟨q,hq,e⟩:=Xq h1;have:=JZ h2;rw[e]at this;exact⟨q,hq,this⟩
def qk{enc:TypeId×Value->H}{t:TypeId}{k:IntKind}{d:DataW H}(ht:prog.underlying t=some (.int k))(hok:Value.okWide prog W .any base t v)(h:DataW.Trod enc prog W 0 (λ_=>true) true t v d p):
 ∃n,v=.int k n/\d=.lit (.int k n)/\k.wrap n=n:=by
 obtain⟨n,rfl,rfl,_,hw⟩:=open_int ht hok h;exact⟨n,rfl,rfl,Go.Am.wf_wrap hw⟩
theorem qY(os:Os)(started:os.Started)(H:Type)(enc:TypeId×Value->H):
 ReturnsInHanded {} Tryz.checked os 6 .any (λw args=>(Rows.langUnrollsSpec.pre enc prog Tryz.f6 [] false w args/\laidMetH prog Rows.langUnrollsRow.laid w)/\sizedMet enc prog Tryz.f6 (OpenSpec.ofChange Rows.langUnrollsSpec) false w args)
  (Rows.langUnrollsSpec.post enc prog Tryz.f6 false true false false):=by
 refine IW (C:=Tryz.checked) (X:=λw _=>laidMetH prog Rows.langUnrollsRow.laid w) (λ_ _ _ hh h=>h.of_heap hh) own started (by kernel_rfl) func6
  (ChangeSpec.witness_shaped (enc:=enc) (C:=Tryz.checked) (os:=os) (X:=λw _=>laidMetH prog Rows.langUnrollsRow.laid w) false (World.laidAll prog os Rows.langUnrollsRow.laid)
   #[.agg #[.slice none 0 0,.int .i64 0,.slice none 0 0,.slice none 0 0,.int .i64 0,.int .i64 0,.slice none 0 0,.int .i64 0],.int .i64 0] 8 (World.laidAll_os _ _ _)
   (World.shaped_of_ZipB (by kernel_rfl) (by kernel_rfl)) (by kernel_rfl) (by kernel_rfl) (by kernel_rfl)
   (by rw[MakeChecks.laidMetH_plain _ _ _ (by kernel_rfl)];exact laidMet_laidAll _ (by kernel_rfl) (by kernel_rfl))) ?_
 intro W base args ds gs before hsh hval hW hL;have hval:∀(j:Nat) t v,Tryz.f6.params[j]?=some t->args[j]?=some v->Value.okWide prog W .any base t v:=hval;have hW':DataW.Whole enc prog Tryz.f6.params.toList Rows.langUnrollsSpec.vars false W args.toList ds gs before:=hW;obtain⟨p,q,hA,hV,_,_,_⟩:=hW';rw[Tryz.params6]at hA hval;obtain⟨v0,v1,d0,d1,p0,p1,rfl,rfl,_,h0,h1⟩:=trodAll_two hA;obtain⟨rfl,rfl⟩:=trodVars_none hV;obtain⟨q0,hq0,a0⟩:=qT (hval 0 27 v0 rfl rfl) h0;obtain⟨n1,rfl,rfl,w1⟩:=qk (k:=.i64) Tryz.underlying3 (hval 1 3 v1 rfl rfl) h1;have a1:(Vw.mk (λb=>b<W.heap.size) (λ_=>0) (bq [] []) W).av (.int .i64 n1) (.c (.d (.int .i64 n1))):=⟨.int .i64 n1 w1,rfl⟩
 have hL':laidMetH prog Rows.langSamesRow.laid W:=hL;obtain⟨m,hG⟩:=TB hsh hL';refine(MJ (yY m q0 hq0 n1 w1) hG rfl (λi h h'=>?_)).mono λe W' ⟨he,hk⟩=>?_
 ·match i,h with
  |0,_=>exact a0
  |1,_=>exact a1
 ·exact⟨_,he,L9 kids hz (by rw[Tryz.params6];intro t ht;simp at ht;rcases ht with rfl|rfl<;>(show _<_;rw[qG];decide)) rfl (tb:=4) rfl Tryz.underlying4 hW rfl hk⟩
end Go.Proofs.YtfkfimmphlpllaaGreatDoor
