/- Helpers: an abstract machine for Go functions, and walks of functions of the program. -/
import Derived.Test.YtfkfimmphlpllaaGreatDoorCn13

set_option linter.all false

namespace Go.Proofs.YtfkfimmphlpllaaGreatDoor
open Go.Am Go.RowKit Go.ChangeShapes Go.WideShapes
set_option maxRecDepth 100000
theorem sN {H:Type}{enc:TypeId × Value→H}{W:World}{base:Nat}{v:Value}{d:DataW H}{p:List MemPlace}(hok:Value.okWide Tryz.prog W .any base 27 v) (h:DataW.Trod enc Tryz.prog W 0 (fun _=>true) true 27 v d p) :
 ∃ q:PD,q.ok∧(Vw.mk (fun b=>b<W.heap.size) (fun _=>0) (aV [] []) W).av v q.A:=by
 obtain⟨arr,l,rfl,h1,h2⟩:=Ao kids (n:=8) Tryz.underlying27 (by show 27<_;rw [og];decide) (by kernel_rfl) hok h
 obtain⟨q,hq,e⟩:=Y1 h1
 have:=FH h2
 rw [e] at this
 exact⟨q,hq,this⟩
theorem kK {H:Type}{enc:TypeId × Value→H}{W:World}{base:Nat}{t:TypeId}{k:IntKind}{v:Value}{d:DataW H}{p:List MemPlace}(ht:Tryz.prog.underlying t=some (.int k)) (hok:Value.okWide Tryz.prog W .any base t v) (h:DataW.Trod enc Tryz.prog W 0 (fun _=>true) true t v d p) :
 ∃ n,v=.int k n∧d=.lit (.int k n)∧k.wrap n=n:=by
 obtain⟨n,rfl,rfl,_,hw⟩:=open_int ht hok h
 exact⟨n,rfl,rfl,Go.Am.wf_wrap hw⟩
theorem l9 (n:Int):0≤IntKind.u8.wrap n∧IntKind.u8.wrap n<256:=by
 have:IntKind.u8.wrap n=n % 256:=by simp [IntKind.wrap,IntKind.signed,IntKind.bits]
 rw [this];omega
set_option maxRecDepth 100000 in
theorem sS (os:Os)(started:os.Started)(H:Type)(enc:TypeId × Value→H) :
 ReturnsInHanded {} Tryz.checked os 11 .any (fun w args=>(Rows.langFlatSpec.pre enc Tryz.prog Tryz.f11 [] false w args∧laidMetH Tryz.prog Rows.langFlatRow.laid w)∧sizedMet enc Tryz.prog Tryz.f11 (OpenSpec.ofChange Rows.langFlatSpec) false w args)
  (Rows.langFlatSpec.post enc Tryz.prog Tryz.f11 false true false false):=by
 refine F4 (C:=Tryz.checked) (X:=fun w _=>laidMetH Tryz.prog Rows.langFlatRow.laid w) (fun _ _ _ hh h=>h.of_heap hh) own started (by kernel_rfl) Tryz.func11
  (ChangeSpec.witness_shaped (enc:=enc) (C:=Tryz.checked) (os:=os) (X:=fun w _=>laidMetH Tryz.prog Rows.langFlatRow.laid w) false (World.laidAll Tryz.prog os Rows.langFlatRow.laid)
   #[.agg #[.slice none 0 0,.int .i64 0,.slice none 0 0,.slice none 0 0,.int .i64 0,.int .i64 0,.slice none 0 0,.int .i64 0],.int .u8 0,.int .u8 0] 8 (World.laidAll_os _ _ _)
   (World.shaped_of_ZipB (by kernel_rfl) (by kernel_rfl)) (by kernel_rfl) (by kernel_rfl) (by kernel_rfl)
   (by rw [MakeChecks.laidMetH_plain _ _ _ (by kernel_rfl)];exact laidMet_laidAll _ (by kernel_rfl) (by kernel_rfl))) ?_
 intro W base args ds gs before hsh hval hW hL
 have hval:∀ (j:Nat) t v,Tryz.f11.params[j]?=some t→args[j]?=some v→Value.okWide Tryz.prog W .any base t v:=hval
 have hW':DataW.Whole enc Tryz.prog Tryz.f11.params.toList Rows.langFlatSpec.vars false W args.toList ds gs before:=hW
 obtain⟨p,q,hA,hV,_,_,_⟩:=hW'
 rw [Tryz.params11] at hA hval
 obtain⟨v0,v1,v2,d0,d1,d2,p0,p1,p2,rfl,rfl,_,h0,h1,h2⟩:=trodAll_three hA
 obtain⟨rfl,rfl⟩:=trodVars_none hV
 obtain⟨q0,hq0,a0⟩:=sN (hval 0 27 v0 rfl rfl) h0
 obtain⟨n1,rfl,rfl,w1⟩:=kK (k:=.u8) Tryz.underlying5 (hval 1 5 v1 rfl rfl) h1
 have a1:(Vw.mk (fun b=>b<W.heap.size) (fun _=>0) (aV [] []) W).av (.int .u8 n1) (.c (.d (.int .u8 n1))):=⟨.int .u8 n1 w1,rfl⟩
 have r1:0≤n1∧n1<256:=by rw [← w1];exact l9 n1
 obtain⟨n2,rfl,rfl,w2⟩:=kK (k:=.u8) Tryz.underlying5 (hval 2 5 v2 rfl rfl) h2
 have a2:(Vw.mk (fun b=>b<W.heap.size) (fun _=>0) (aV [] []) W).av (.int .u8 n2) (.c (.d (.int .u8 n2))):=⟨.int .u8 n2 w2,rfl⟩
 have r2:0≤n2∧n2<256:=by rw [← w2];exact l9 n2
 have hL':laidMetH Tryz.prog Rows.langSamesRow.laid W:=hL
 obtain⟨m,hG⟩:=T4 hsh hL'
 refine (GU (BT m q0 hq0 n1 n2 r1 r2) hG rfl (fun i h h'=>?_)).mono fun e W' ⟨he,hk⟩=>?_
 ·match i,h with
  | 0,_=>exact a0
  | 1,_=>exact a1
  | 2,_=>exact a2
 ·exact⟨_,he,HQ kids hz (by rw [Tryz.params11];intro t ht;simp at ht;rcases ht with rfl|rfl <;> (show _<_;rw [og];decide)) rfl (tb:=4) rfl Tryz.underlying4 hW rfl hk⟩
end Go.Proofs.YtfkfimmphlpllaaGreatDoor
