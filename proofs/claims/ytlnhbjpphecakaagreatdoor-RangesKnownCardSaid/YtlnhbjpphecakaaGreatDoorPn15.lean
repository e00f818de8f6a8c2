/- Helpers: an abstract machine for Go functions, and walks of functions of the program. -/
import Derived.Test.YtlnhbjpphecakaaGreatDoorPn14
import Derived.ChangeMaps5

set_option linter.all false
set_option maxHeartbeats 8000000
set_option maxRecDepth 100000
namespace Go.Proofs.YtlnhbjpphecakaaGreatDoor
open Go.Am Go.RowKit Go.ChangeShapes Go.WideShapes
theorem rangesKnown_lifted (os:Os)(started:os.Started)(H:Type)(enc:TypeId × Value→H) :
 ReturnsInHanded {} Tryz.checked os 5 .any (fun w args=>(Rows.rangesKnownSpec.pre enc Tryz.prog Tryz.f5 [] false w args∧laidMetH Tryz.prog Rows.rangesKnownRow.laid w)∧sizedMet enc Tryz.prog Tryz.f5 (OpenSpec.ofChange Rows.rangesKnownSpec) false w args)
  (Rows.rangesKnownSpec.post enc Tryz.prog Tryz.f5 false true false false):=by
 refine lift_open (C:=Tryz.checked) (X:=fun w _=>laidMetH Tryz.prog Rows.rangesKnownRow.laid w) (fun _ _ _ hh h=>h.of_heap hh) own started (by kernel_rfl) Tryz.func5
  (ChangeSpec.witness_shaped (enc:=enc) (C:=Tryz.checked) (os:=os) (X:=fun w _=>laidMetH Tryz.prog Rows.rangesKnownRow.laid w) false (World.laidAll Tryz.prog os Rows.rangesKnownRow.laid)
   #[] 8 (World.laidAll_os _ _ _)
   (World.shaped_of_ZipB (by kernel_rfl) (by kernel_rfl)) (by kernel_rfl) (by kernel_rfl) (by kernel_rfl)
   (by rw [MakeChecks.laidMetH_plain _ _ _ (by kernel_rfl)];exact laidMet_laidAll _ (by kernel_rfl) (by kernel_rfl))) ?_
 intro W base args ds gs before hsh hval hW hL
 have hW':DataW.Whole enc Tryz.prog Tryz.f5.params.toList Rows.rangesKnownSpec.vars false W args.toList ds gs before:=hW
 obtain⟨p,q,hA,hV,_,_,_⟩:=hW'
 rw [Tryz.params5] at hA
 obtain⟨ha,rfl,rfl⟩:=trodAll_nil hA
 obtain rfl:args=#[]:=by simpa using ha
 obtain⟨rfl,rfl⟩:=trodVars_none hV
 have hL':laidMetH Tryz.prog Rows.rangesSplitsRow.laid W:=hL
 obtain⟨m,hG⟩:=globs hsh hL'
 refine (row_call (known_ok m) hG rfl (fun i h h'=>by cases h)).mono fun e W' ⟨he,hk⟩=>?_
 exact⟨_,he,law_post kids hz (by rw [Tryz.params5];intro t ht;simp at ht) rfl (tb:=4) rfl Tryz.underlying4 hW rfl hk⟩
end Go.Proofs.YtlnhbjpphecakaaGreatDoor
