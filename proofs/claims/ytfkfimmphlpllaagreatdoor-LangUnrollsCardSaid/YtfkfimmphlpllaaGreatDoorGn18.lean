/- langUnrolls_card: Unroll of the program returns what the document says (as in LangChecks); the card's conditions: one of the listed variables is tied by the deep look, one is a pinned table of Go's library. -/
import Derived.Test.YtfkfimmphlpllaaGreatDoorGn16
import Derived.Test.YtfkfimmphlpllaaGreatDoorGn17

set_option linter.all false
set_option maxHeartbeats 8000000
set_option maxRecDepth 100000
namespace Go.Proofs.YtfkfimmphlpllaaGreatDoor
open Go.Am
theorem aB{a b:Bool}(h:a=true)(h':b=true):(a&&b)=true:=by rw[h,h'];rfl
theorem rH:joinedFacts Tryz.prog 6 Tryz.f6 Rows.langUnrollsSpec Rows.langUnrollsRow=true:=by
 unfold joinedFacts;exact aB (aB (aB (aB (aB (aB (aB (aB (aB (aB (aB (aB (aB (aB (aB (aB (aB (aB (aB (aB (aB (aB (aB (aB (aB (aB (aB (aB (aB (aB (aB xY yl) zG) yK) zQ) zb) zA) xW) zl) yM) wj) wX) wZ) wG) wI) wB) wm) wJ) wY) wq) xg) wN) wW) wV) wQ) w8) xb) wz) wM) wR) wE) wo
theorem vm:Tryz.f6.isInstance Tryz.prog Rows.langUnrollsRow.origin Rows.langUnrollsRow.targs:=of_decide_eq_true (by kernel_rfl)
theorem um:Tryz.f6.isWrapper Tryz.prog Rows.langUnrollsRow.wrapper Rows.langUnrollsRow.mainSum:=by
 unfold Func.isWrapper;first|(rw[if_pos (by decide +kernel)];kernel_rfl)|(rw[if_neg (by decide +kernel)];exact⟨rfl,rfl⟩)
theorem lR:Tryz.prog.funcNamed "vernier/vernierlaw04.LangUnrolls" = some 6:=by kernel_rfl
theorem wD:Rows.LangUnrollsSaid:=
 OpenClaim.holds_of_wide 6 Tryz.f6 rfl rfl rfl rfl rfl rfl rfl ⟨rfl,rfl,rfl,rfl,rfl⟩ rfl rfl rfl rfl rfl lR Tryz.func6 rH
  vm um (λos started H enc _=>qY os started H enc)
theorem ur:Tryz.prog.mainIs=some (true, "f9aa27ec0540fb991073fd614668d7c417367d1e99766ef4b84ee195baee3c0e".toList):=by kernel_rfl
theorem tT:true=Tryz.prog.looks []:=by kernel_rfl
theorem sX:([27,3].all λu=>!Tryz.prog.wantsStandIn u)=true:=by kernel_rfl
theorem zk:Rows.langUnrollsRow.wfByText (OpenSpec.ofChange Rows.langUnrollsSpec)=true:=by kernel_rfl
theorem vl:false=Rows.langUnrollsRow.goesBy Tryz.prog:=by kernel_rfl
theorem langUnrolls_card:Rows.LangUnrollsCardSaid:=
 Claim7.holds_tied_plain_at .later [] [.data,.data,.data,.data,.data,.data,.widerDeep,.data,.pinned] true (true, "f9aa27ec0540fb991073fd614668d7c417367d1e99766ef4b84ee195baee3c0e") true
  wD (λ_ h=>by cases h) zk (λ_ h=>by cases h) langUnrolls_row_tie rfl ⟨rfl,rfl⟩ ur rfl
  (λf fn hf hfn=>by
   obtain rfl:f=6:=ZU (lR.symm.trans hf) |>.symm;obtain rfl:fn=Tryz.f6:=(ZU (Tryz.func6.symm.trans hfn)).symm
   exact⟨tT,λj t ht=>by
    rw[Tryz.params6]at ht;have hm:t∈[27,3]:=by simpa using Array.mem_of_getElem? ht
    have hm:t∈[27,3]:=by simpa using hm
    exact(show Tryz.prog.wantsStandIn t=false by simpa using List.all_eq_true.1 sX t hm)⟩)
  vl
end Go.Proofs.YtfkfimmphlpllaaGreatDoor
