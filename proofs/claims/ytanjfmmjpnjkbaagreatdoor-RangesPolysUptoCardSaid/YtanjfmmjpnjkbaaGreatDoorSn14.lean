/- Helpers: an abstract machine for Go functions, and walks of functions of the program. -/
import Derived.Test.YtanjfmmjpnjkbaaGreatDoorSn13
import Derived.ChangeMaps5
import Derived.Deep.DeepHandedRow

set_option linter.all false
set_option maxHeartbeats 8000000
set_option maxRecDepth 100000
namespace Go.Proofs.YtanjfmmjpnjkbaaGreatDoor
open Go.Am Go.RowKit Go.ChangeShapes Go.WideShapes
theorem tD(os:Os){H:Type}(enc:TypeId×Value->H):∃places,DataW.whole enc Tryz.prog ((World.laidAll Tryz.prog os Rows.rangesPolysUptoRow.laid).forCall (λ_ _=>0) ⟨#[],#[.slice none 0 0,.slice none 0 0,.slice none 0 0],[]⟩).memory Tryz.f4.params.toList (Rows.OpenSpec.upto Rows.rangesPolysSpec).vars false #[Value.slice none 0 0,.slice none 0 0,.slice none 0 0].toList 8=some ([.nil,.nil,.nil],[],places):=
 ⟨[],by kernel_rfl⟩
theorem rO(os:Os)(started:os.Started)(H:Type)(enc:TypeId×Value->H)(F:Stop.Interp):
 ReturnsInHanded {} Tryz.checked os 4 .any ((Rows.OpenSpec.upto Rows.rangesPolysSpec).preRow enc Tryz.prog Tryz.f4 Rows.rangesPolysUptoRow.domain false Rows.rangesPolysUptoRow.laid) (((Rows.OpenSpec.upto Rows.rangesPolysSpec).at F).post enc Tryz.prog Tryz.f4 false true false false):=by
 obtain⟨places,hx⟩:=tD os enc
 refine returnsInHanded_of_row (C:=Tryz.checked) (s:=Rows.OpenSpec.upto Rows.rangesPolysSpec) own started (by kernel_rfl) Tryz.func4
  ⟨World.laidAll Tryz.prog os Rows.rangesPolysUptoRow.laid,λ_ _=>0,⟨#[],#[.slice none 0 0,.slice none 0 0,.slice none 0 0],[]⟩,World.laidAll_os _ _ _,World.shaped_of_ZipB (by kernel_rfl) (by kernel_rfl),rfl,And.right (Input.okWide_of_okWideB (by kernel_rfl)),
   OpenSpec.preRow_of_cond 8 hx (by kernel_rfl) (λk hk=>by cases hk;kernel_rfl) (by kernel_rfl) (by rw[MakeChecks.laidMetH_plain _ _ _ (by kernel_rfl)];exact laidMet_laidAll _ (by kernel_rfl) (by kernel_rfl)),
   by simp only[Assume.holds];exact⟨by simp,by simp,λ_=>Modest.zero,by simp,by simp⟩⟩ ?_
 intro W base args ds gs before hval hW _ hcond _ hL hsh _;have hval:∀(j:Nat) t v,Tryz.f4.params[j]?=some t->args[j]?=some v->Value.okWide Tryz.prog W .any base t v:=hval;have hW':DataW.Whole enc Tryz.prog Tryz.f4.params.toList (Rows.OpenSpec.upto Rows.rangesPolysSpec).vars false W args.toList ds gs before:=hW;obtain⟨p,q,hA,hV,_,_,_⟩:=hW';rw[Tryz.params4]at hA hval;obtain⟨v0,v1,v2,d0,d1,d2,p0,p1,p2,rfl,rfl,_,h0,h1,h2⟩:=trodAll_three hA;obtain⟨rfl,rfl⟩:=trodVars_none hV;have hb:=of_decide_eq_true (hcond _ rfl);simp only[aei,Rows.uptoBulkAll]at hb;obtain⟨bt,a0⟩:=L6 (hval 0 22 v0 rfl rfl) h0;obtain⟨hl1,hl2⟩:=KY a0;obtain⟨b,a1,hb1⟩:=TJ (hval 1 23 v1 rfl rfl) h1;obtain⟨p,a2,hb2⟩:=PK (hval 2 47 v2 rfl rfl) h2;have hL':laidMetH Tryz.prog Rows.rangesPolysRow.laid W:=hL;obtain⟨m,hG⟩:=Zi hsh hL';refine(PB (Aa m bt b p hl1 hl2 (by omega) (by omega)) hG rfl (λi h h'=>?_)).mono λe W' ⟨he,hk⟩=>?_
 ·match i,h with
  |0,_=>exact a0
  |1,_=>exact a1
  |2,_=>exact a2
 ·exact⟨_,he,OE kids hz (by rw[Tryz.params4];intro t ht;simp at ht;rcases ht with rfl|rfl|rfl<;>(show _<_;rw[ug];decide)) rfl (tb:=4) rfl Tryz.underlying4 hW rfl hk⟩
end Go.Proofs.YtanjfmmjpnjkbaaGreatDoor
