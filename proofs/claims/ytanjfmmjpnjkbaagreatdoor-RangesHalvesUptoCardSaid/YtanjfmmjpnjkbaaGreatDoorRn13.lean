/- Helpers: an abstract machine for Go functions, and walks of functions of the program. -/
import Derived.Test.YtanjfmmjpnjkbaaGreatDoorRn12
import Derived.ChangeMaps5
import Derived.Deep.DeepHandedRow

set_option linter.all false
set_option maxHeartbeats 8000000
set_option maxRecDepth 100000
namespace Go.Proofs.YtanjfmmjpnjkbaaGreatDoor
open Go.Am Go.RowKit Go.ChangeShapes Go.WideShapes
theorem rangesHalves_reads (os:Os){H:Type}(enc:TypeId × Value→H):∃ places,DataW.whole enc Tryz.prog ((World.laidAll Tryz.prog os Rows.rangesHalvesUptoRow.laid).forCall (fun _ _=>0) ⟨#[],#[.slice none 0 0,.slice none 0 0,.int .i64 0],[]⟩).memory Tryz.f3.params.toList (Rows.OpenSpec.upto Rows.rangesHalvesSpec).vars false #[Value.slice none 0 0,.slice none 0 0,.int .i64 0].toList 8=some ([.nil,.nil,.lit (.int .i64 0)],[],places):=
 ⟨[],by kernel_rfl⟩
theorem rangesHalves_lifted (os:Os)(started:os.Started)(H:Type)(enc:TypeId × Value→H)(F:Stop.Interp) :
 ReturnsInHanded {} Tryz.checked os 3 .any ((Rows.OpenSpec.upto Rows.rangesHalvesSpec).preRow enc Tryz.prog Tryz.f3 Rows.rangesHalvesUptoRow.domain false Rows.rangesHalvesUptoRow.laid) (((Rows.OpenSpec.upto Rows.rangesHalvesSpec).at F).post enc Tryz.prog Tryz.f3 false true false false):=by
 obtain⟨places,hx⟩:=rangesHalves_reads os enc
 refine returnsInHanded_of_row (C:=Tryz.checked) (s:=Rows.OpenSpec.upto Rows.rangesHalvesSpec) own started (by kernel_rfl) Tryz.func3
  ⟨World.laidAll Tryz.prog os Rows.rangesHalvesUptoRow.laid,fun _ _=>0,⟨#[],#[.slice none 0 0,.slice none 0 0,.int .i64 0],[]⟩,World.laidAll_os _ _ _,World.shaped_of_ZipB (by kernel_rfl) (by kernel_rfl),rfl,And.right (Input.okWide_of_okWideB (by kernel_rfl)),
   OpenSpec.preRow_of_cond 8 hx (by kernel_rfl) (fun k hk=>by cases hk;kernel_rfl) (by kernel_rfl) (by rw [MakeChecks.laidMetH_plain _ _ _ (by kernel_rfl)];exact laidMet_laidAll _ (by kernel_rfl) (by kernel_rfl)),
   by simp only [Assume.holds];exact⟨by simp,by simp,fun _=>Modest.zero,by simp,by simp⟩⟩ ?_
 intro W base args ds gs before hval hW _ hcond _ hL hsh _
 have hval:∀ (j:Nat) t v,Tryz.f3.params[j]?=some t→args[j]?=some v→Value.okWide Tryz.prog W .any base t v:=hval
 have hW':DataW.Whole enc Tryz.prog Tryz.f3.params.toList (Rows.OpenSpec.upto Rows.rangesHalvesSpec).vars false W args.toList ds gs before:=hW
 obtain⟨p,q,hA,hV,_,_,_⟩:=hW'
 rw [Tryz.params3] at hA hval
 obtain⟨v0,v1,v2,d0,d1,d2,p0,p1,p2,rfl,rfl,_,h0,h1,h2⟩:=trodAll_three hA
 obtain⟨rfl,rfl⟩:=trodVars_none hV
 have hb:=of_decide_eq_true (hcond _ rfl)
 simp only [List.append_nil,Rows.uptoBulkAll] at hb
 obtain⟨bt,a0⟩:=terms_arg (hval 0 22 v0 rfl rfl) h0
 obtain⟨hl1,hl2⟩:=terms_len a0
 obtain⟨b,a1,hb1⟩:=box_arg (hval 1 23 v1 rfl rfl) h1
 obtain⟨i,a2⟩:=int_arg (k:=.i64) Tryz.underlying3 (hval 2 3 v2 rfl rfl) h2
 have hL':laidMetH Tryz.prog Rows.rangesHalvesRow.laid W:=hL
 obtain⟨m,hG⟩:=globs hsh hL'
 refine (row_call (rangesHalves_ok m bt b i hl1 hl2 (by omega)) hG rfl (fun i h h'=>?_)).mono fun e W' ⟨he,hk⟩=>?_
 ·match i,h with
  | 0,_=>exact a0
  | 1,_=>exact a1
  | 2,_=>exact a2
 ·exact⟨_,he,law_post kids hz (by rw [Tryz.params3];intro t ht;simp at ht;rcases ht with rfl|rfl|rfl <;> (show _<_;rw [tsize];decide)) rfl (tb:=4) rfl Tryz.underlying4 hW rfl hk⟩
end Go.Proofs.YtanjfmmjpnjkbaaGreatDoor
