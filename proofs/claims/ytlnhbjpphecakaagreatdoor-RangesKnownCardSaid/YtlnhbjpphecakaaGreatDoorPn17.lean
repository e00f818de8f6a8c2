/- The known values of the ranges are what the document says: RangesKnown answers true, under the card's conditions. -/
import Derived.Test.YtlnhbjpphecakaaGreatDoorPn15
import Derived.Test.YtlnhbjpphecakaaGreatDoorPn16

set_option linter.all false
set_option maxHeartbeats 8000000
set_option maxRecDepth 100000
namespace Go.Proofs.YtlnhbjpphecakaaGreatDoor
open Go.Am
theorem andT_rangesKnown {a b:Bool}(h:a=true) (h':b=true):(a && b)=true:=by rw [h,h'];rfl
theorem rangesKnown_closed:joinedFacts Tryz.prog 5 Tryz.f5 Rows.rangesKnownSpec Rows.rangesKnownRow=true:=by
 unfold joinedFacts
 exact andT_rangesKnown (andT_rangesKnown (andT_rangesKnown (andT_rangesKnown (andT_rangesKnown (andT_rangesKnown (andT_rangesKnown (andT_rangesKnown (andT_rangesKnown (andT_rangesKnown (andT_rangesKnown (andT_rangesKnown (andT_rangesKnown (andT_rangesKnown (andT_rangesKnown (andT_rangesKnown (andT_rangesKnown (andT_rangesKnown (andT_rangesKnown (andT_rangesKnown (andT_rangesKnown (andT_rangesKnown (andT_rangesKnown (andT_rangesKnown (andT_rangesKnown (andT_rangesKnown (andT_rangesKnown (andT_rangesKnown (andT_rangesKnown (andT_rangesKnown (andT_rangesKnown rangesKnown_c0 rangesKnown_c1) rangesKnown_c2) rangesKnown_c3) rangesKnown_c4) rangesKnown_c5) rangesKnown_c6) rangesKnown_c7) rangesKnown_c8) rangesKnown_c9) rangesKnown_c10) rangesKnown_c11) rangesKnown_c12) rangesKnown_c13) rangesKnown_c14) rangesKnown_c15) rangesKnown_c16) rangesKnown_c17) rangesKnown_c18) rangesKnown_c19) rangesKnown_c20) rangesKnown_c21) rangesKnown_c22) rangesKnown_c23) rangesKnown_c24) rangesKnown_c25) rangesKnown_c26) rangesKnown_c27) rangesKnown_c28) rangesKnown_c29) rangesKnown_c30) rangesKnown_c31
theorem rangesKnown_inst:Tryz.f5.isInstance Tryz.prog Rows.rangesKnownRow.origin Rows.rangesKnownRow.targs:=of_decide_eq_true (by kernel_rfl)
theorem rangesKnown_wrap:Tryz.f5.isWrapper Tryz.prog Rows.rangesKnownRow.wrapper Rows.rangesKnownRow.mainSum:=by
 unfold Func.isWrapper;first|(rw [if_pos (by decide +kernel)];kernel_rfl)|(rw [if_neg (by decide +kernel)];exact⟨rfl,rfl⟩)
theorem rangesKnown_named:Tryz.prog.funcNamed "vernier/vernierlaw06.RangesKnown" = some 5:=by kernel_rfl
theorem rangesKnown_row:Rows.RangesKnownSaid:=
 OpenClaim.holds_of_wide 5 Tryz.f5 rfl rfl rfl rfl rfl rfl rfl ⟨rfl,rfl,rfl,rfl,rfl⟩ rfl rfl rfl rfl rfl rangesKnown_named Tryz.func5 rangesKnown_closed
  rangesKnown_inst rangesKnown_wrap (fun os started H enc _=>rangesKnown_lifted os started H enc)
theorem rangesKnown_main:Tryz.prog.mainIs=some (true, "2a0c8551fcac9bd4479dad2e8354c207b20139728c42eb23b05169ecbf8b7edf".toList):=by kernel_rfl
theorem rangesKnown_looks:false=Tryz.prog.looks []:=by kernel_rfl
theorem rangesKnown_stand:(([]:List TypeId).all fun u=>!Tryz.prog.wantsStandIn u)=true:=by kernel_rfl
theorem rangesKnown_wf:Rows.rangesKnownRow.wfByText (OpenSpec.ofChange Rows.rangesKnownSpec)=true:=by kernel_rfl
theorem rangesKnown_goes:false=Rows.rangesKnownRow.goesBy Tryz.prog:=by kernel_rfl
theorem rangesKnown_card:Rows.RangesKnownCardSaid:=
 Claim7.holds_tied_plain_at .later [] [.data,.data,.data,.data,.data,.pinned] true (true, "2a0c8551fcac9bd4479dad2e8354c207b20139728c42eb23b05169ecbf8b7edf") false
  rangesKnown_row (fun _ h=>by cases h) rangesKnown_wf (fun _ h=>by cases h) rangesKnown_row_tie rfl ⟨rfl,rfl⟩ rangesKnown_main rfl
  (fun f fn hf hfn=>by
   obtain rfl:f=5:=Option.some.inj (rangesKnown_named.symm.trans hf) |>.symm
   obtain rfl:fn=Tryz.f5:=(Option.some.inj (Tryz.func5.symm.trans hfn)).symm
   exact⟨rangesKnown_looks,fun j t ht=>by
    rw [Tryz.params5] at ht
    have hm:t∈([]:List TypeId):=by simpa using Array.mem_of_getElem? ht
    exact (show Tryz.prog.wantsStandIn t=false by simpa using List.all_eq_true.1 rangesKnown_stand t hm)⟩)
  rangesKnown_goes
end Go.Proofs.YtlnhbjpphecakaaGreatDoor
