/- Helpers: an abstract machine for Go functions, and walks of functions of the program. -/
import Derived.Test.YtlnhbjpphecakaaGreatDoorOn12
import Derived.ChangeMaps5

set_option linter.all false
set_option maxHeartbeats 8000000
set_option maxRecDepth 100000
namespace Go.Proofs.YtlnhbjpphecakaaGreatDoor
open Go.Am Go.RowKit Go.ChangeShapes Go.WideShapes
theorem inSpan {l:List DV}{n:Nat}(h:inT Tryz.prog (n+2) 24 l):∃ s t,l=[.str s,.str t]:=by
 obtain⟨ls,hl,rfl,h3⟩:=inT_struct Tryz.underlying24 h
 match ls,hl,h3 with
 | [a,b],_,h3=>
  obtain⟨s,rfl⟩:=inT_str Tryz.underlying22 (h3 0 (by decide) (by simp))
  obtain⟨t,rfl⟩:=inT_str Tryz.underlying22 (h3 1 (by decide) (by simp))
  exact⟨s,t,rfl⟩
theorem inPair {l:List DV}(h:inT Tryz.prog 8 26 l):∃ al ah bl bh bits X,AV.agg (l.map CV.d)=pairA al ah bl bh bits X:=by
 obtain⟨ls,hl,rfl,h3⟩:=inT_struct Tryz.underlying26 h
 match ls,hl,h3 with
 | [a0,a1,a2,a3],_,h3=>
  obtain⟨al,ah,rfl⟩:=inSpan (n:=5) (h3 0 (by decide) (by simp))
  obtain⟨bl,bh,rfl⟩:=inSpan (n:=5) (h3 1 (by decide) (by simp))
  obtain⟨bits,rfl⟩:=inT_int Tryz.underlying3 (h3 2 (by decide) (by simp))
  obtain⟨X,rfl⟩:=inT_str Tryz.underlying9 (h3 3 (by decide) (by simp))
  exact⟨al,ah,bl,bh,bits,X,rfl⟩
theorem pair_arg {H:Type}{enc:TypeId × Value→H}{W:World}{base:Nat}{v:Value}{d:DataW H}{p:List MemPlace}(hok:Value.okWide Tryz.prog W .any base 26 v) (h:DataW.Trod enc Tryz.prog W 0 (fun _=>true) true 26 v d p) :
 ∃ al ah bl bh bits X,(Vw.mk (fun b=>b<W.heap.size) (fun _=>0) (lvOf [] []) W).av v (pairA al ah bl bh bits X):=by
 obtain⟨arr,l,rfl,h1,h2⟩:=open_struct kids (n:=8) Tryz.underlying26 (by show 26<_;rw [tsize];decide) (by kernel_rfl) hok h
 obtain⟨al,ah,bl,bh,bits,X,e⟩:=inPair h1
 have:=av_struct h2
 rw [e] at this
 exact⟨al,ah,bl,bh,bits,X,this⟩
theorem rangesOps_lifted (os:Os)(started:os.Started)(H:Type)(enc:TypeId × Value→H) :
 ReturnsInHanded {} Tryz.checked os 3 .any (fun w args=>(Rows.rangesOpsSpec.pre enc Tryz.prog Tryz.f3 [] false w args∧laidMetH Tryz.prog Rows.rangesOpsRow.laid w)∧sizedMet enc Tryz.prog Tryz.f3 (OpenSpec.ofChange Rows.rangesOpsSpec) false w args)
  (Rows.rangesOpsSpec.post enc Tryz.prog Tryz.f3 false true false false):=by
 refine lift_open (C:=Tryz.checked) (X:=fun w _=>laidMetH Tryz.prog Rows.rangesOpsRow.laid w) (fun _ _ _ hh h=>h.of_heap hh) own started (by kernel_rfl) Tryz.func3
  (ChangeSpec.witness_shaped (enc:=enc) (C:=Tryz.checked) (os:=os) (X:=fun w _=>laidMetH Tryz.prog Rows.rangesOpsRow.laid w) false (World.laidAll Tryz.prog os Rows.rangesOpsRow.laid)
   #[.agg #[.string ⟨#[]⟩,.string ⟨#[]⟩,.string ⟨#[]⟩,.string ⟨#[]⟩,.int .i64 0,.string ⟨#[]⟩]] 8 (World.laidAll_os _ _ _)
   (World.shaped_of_ZipB (by kernel_rfl) (by kernel_rfl)) (by kernel_rfl) (by kernel_rfl) (by kernel_rfl)
   (by rw [MakeChecks.laidMetH_plain _ _ _ (by kernel_rfl)];exact laidMet_laidAll _ (by kernel_rfl) (by kernel_rfl))) ?_
 intro W base args ds gs before hsh hval hW hL
 have hval:∀ (j:Nat) t v,Tryz.f3.params[j]?=some t→args[j]?=some v→Value.okWide Tryz.prog W .any base t v:=hval
 have hW':DataW.Whole enc Tryz.prog Tryz.f3.params.toList Rows.rangesOpsSpec.vars false W args.toList ds gs before:=hW
 obtain⟨p,q,hA,hV,_,_,_⟩:=hW'
 rw [Tryz.params3] at hA hval
 obtain⟨v0,d0,rfl,rfl,h0⟩:=trodAll_one hA
 obtain⟨rfl,rfl⟩:=trodVars_none hV
 obtain⟨al,ah,bl,bh,bits,X,a0⟩:=pair_arg (hval 0 26 v0 rfl rfl) h0
 have hL':laidMetH Tryz.prog Rows.rangesSplitsRow.laid W:=hL
 obtain⟨m,hG⟩:=globs hsh hL'
 refine (row_call (rangesOps_ok m al ah bl bh bits X) hG rfl (fun i h h'=>?_)).mono fun e W' ⟨he,hk⟩=>?_
 ·match i,h with
  | 0,_=>exact a0
 ·exact⟨_,he,law_post kids hz (by rw [Tryz.params3];intro t ht;simp at ht;subst ht;show _<_;rw [tsize];decide) rfl (tb:=4) rfl Tryz.underlying4 hW rfl hk⟩
end Go.Proofs.YtlnhbjpphecakaaGreatDoor
