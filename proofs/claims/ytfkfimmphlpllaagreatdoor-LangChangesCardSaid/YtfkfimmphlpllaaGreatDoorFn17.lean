/- langChanges_card: Sub, With and Box of the program return what the document says (as in LangChecks); the card's conditions: one of the listed variables is tied by the deep look, one is a pinned table of Go's library. -/
import Derived.Test.YtfkfimmphlpllaaGreatDoorFn15
import Derived.Test.YtfkfimmphlpllaaGreatDoorFn16

set_option linter.all false
set_option maxHeartbeats 8000000
set_option maxRecDepth 100000
namespace Go.Proofs.YtfkfimmphlpllaaGreatDoor
open Go.Am
theorem az {a b:Bool}(h:a=true) (h':b=true):(a && b)=true:=by rw [h,h'];rfl
theorem qd:joinedFacts Tryz.prog 14 Tryz.f14 Rows.langChangesSpec Rows.langChangesRow=true:=by
 unfold joinedFacts;exact az (az (az (az (az (az (az (az (az (az (az (az (az (az (az (az (az (az (az (az (az (az (az (az (az (az (az (az (az (az (az xw yx) xl) xL) yg) xy) xp) wG) xU) ya) vH) vA) u9) uS) uT) vl) ve) vv) vp) uR) vg) vw) uU) vB) uZ) vC) uX) vh) vo) vG) u7) uV
theorem tB:Tryz.f14.isInstance Tryz.prog Rows.langChangesRow.origin Rows.langChangesRow.targs:=of_decide_eq_true (by kernel_rfl)
theorem tV:Tryz.f14.isWrapper Tryz.prog Rows.langChangesRow.wrapper Rows.langChangesRow.mainSum:=by
 unfold Func.isWrapper;first|(rw [if_pos (by decide +kernel)];kernel_rfl)|(rw [if_neg (by decide +kernel)];exact⟨rfl,rfl⟩)
theorem k8:Tryz.prog.funcNamed "vernier/vernierlaw04.LangChanges" = some 14:=by kernel_rfl
theorem vz:Rows.LangChangesSaid:=
 OpenClaim.holds_of_wide 14 Tryz.f14 rfl rfl rfl rfl rfl rfl rfl ⟨rfl,rfl,rfl,rfl,rfl⟩ rfl rfl rfl rfl rfl k8 Tryz.func14 qd
  tB tV (fun os started H enc _=>p8 os started H enc)
theorem tG:Tryz.prog.mainIs=some (true, "f9aa27ec0540fb991073fd614668d7c417367d1e99766ef4b84ee195baee3c0e".toList):=by kernel_rfl
theorem qT:true=Tryz.prog.looks []:=by kernel_rfl
theorem rL:([61].all fun u=>!Tryz.prog.wantsStandIn u)=true:=by kernel_rfl
theorem wE:Rows.langChangesRow.wfByText (OpenSpec.ofChange Rows.langChangesSpec)=true:=by kernel_rfl
theorem um:false=Rows.langChangesRow.goesBy Tryz.prog:=by kernel_rfl
theorem langChanges_card:Rows.LangChangesCardSaid:=
 Claim7.holds_tied_plain_at .later [] [.data,.data,.data,.data,.data,.data,.widerDeep,.data,.pinned] true (true, "f9aa27ec0540fb991073fd614668d7c417367d1e99766ef4b84ee195baee3c0e") true
  vz (fun _ h=>by cases h) wE (fun _ h=>by cases h) langChanges_row_tie rfl ⟨rfl,rfl⟩ tG rfl
  (fun f fn hf hfn=>by
   obtain rfl:f=14:=Xw (k8.symm.trans hf) |>.symm;obtain rfl:fn=Tryz.f14:=(Xw (Tryz.func14.symm.trans hfn)).symm
   exact⟨qT,fun j t ht=>by
    rw [Tryz.params14] at ht;have hm:t∈[61]:=by simpa using Array.mem_of_getElem? ht
    have hm:t∈[61]:=by simpa using hm
    exact (show Tryz.prog.wantsStandIn t=false by simpa using List.all_eq_true.1 rL t hm)⟩)
  um
end Go.Proofs.YtfkfimmphlpllaaGreatDoor
