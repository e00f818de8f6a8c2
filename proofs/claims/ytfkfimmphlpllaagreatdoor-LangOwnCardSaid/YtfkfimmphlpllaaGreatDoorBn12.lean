/- Helpers: an abstract machine for Go functions, and walks of functions of the program. -/
import Derived.Test.YtfkfimmphlpllaaGreatDoorBn11

set_option linter.all false

namespace Go.Am
open Go.Proofs
def eqB:List UInt8→List UInt8→Bool
 | [],[]=>true
 | a::l,b::m=>Nat.beq a.toNat b.toNat && eqB l m
 | _,_=>false
theorem eqB_eq:∀ {l m:List UInt8},eqB l m=true→l=m
 | [],[],_=>rfl
 | a::l,b::m,h=>by
  simp only [eqB,Bool.and_eq_true] at h
  rw [UInt8.toNat_inj.1 (Nat.eq_of_beq_eq_true h.1),eqB_eq h.2]
 | [],_::_,h=>by cases h
 | _::_,[],h=>by cases h
def badText:List UInt8:=[114,101,115,117,108,116,32,121,10]
def badParsed:AV:=.tup [.agg [.d .nilsl,.d (.int .i64 (.ofNat 0)),.d .nilsl,.d .nilsl,.d (.int .i64 (.ofNat 0)),.d (.int .i64 (.ofNat 0)),.d .nilsl,.d (.int .i64 (.ofNat 0))],.c (.d (.int .i64 (.ofNat 1))),.c (.d (.int .i64 (.ofNat 144)))]
def gP:List AV→Option AV
 | [.c (.d (.str s))]=>bif eqB s exText then some exParsed else bif eqB s badText then some badParsed else none
 | _=>none
theorem gP_ok (m:Int){us:List AV}{x:AV}(h:gP us=some x) (lv:Key→LB):CallG Tryz.prog (GG m) 22 us lv (.ret x lv):=by
 unfold gP at h
 split at h
 ·rename_i s
  cases h1:eqB s exText with
  | true=>
   rw [h1] at h
   simp only [cond_true,Option.some.injEq] at h
   subst h
   rw [eqB_eq h1]
   exact CallG.of_CallsP (fun u hu=>by simp at hu;subst hu;rfl) rfl (parse_ex m)
  | false=>
   rw [h1] at h
   cases h2:eqB s badText with
   | true=>
    rw [h2] at h
    simp only [cond_true,cond_false,Option.some.injEq] at h
    subst h
    rw [eqB_eq h2]
    exact CallG.of_CallsP (fun u hu=>by simp at hu;subst hu;rfl) rfl (parse_bad m)
   | false=>rw [h2] at h;cases h
 ·cases h
theorem SpecOK.more {P:Program}{G:List (List DV)}{sp:Tb Spec}{ft:TypeId}(h:SpecOK P G sp ft) (f0:Nat) (g0:List AV→Option AV) (hg:∀ us x,g0 us=some x→∀ lv,AllOk lv→CallG P G f0 us lv (.ret x lv)):SpecOK P G (setS f0 (.pure g0) sp) ft where
 pure:=by
  intro f g us x hf hx lv ho
  rw [setS_get] at hf
  split at hf
  ·rename_i e;subst e;cases hf;exact hg us x hx lv ho
  ·exact h.pure f g us x hf hx lv ho
 caughtR:=by
  intro f hf
  rw [setS_get] at hf
  split at hf
  ·cases hf
  ·exact h.caughtR f hf
 caughtP:=by
  intro f hf
  rw [setS_get] at hf
  split at hf
  ·cases hf
  ·exact h.caughtP f hf
 selfN:=by
  intro f T hf
  rw [setS_get] at hf
  split at hf
  ·cases hf
  ·exact h.selfN f T hf
 selfP:=by
  intro f T hf
  rw [setS_get] at hf
  split at hf
  ·cases hf
  ·exact h.selfP f T hf
noncomputable def spB:Tb Spec:=setS 22 (.pure gP) spA
theorem evB_ok (m:Int)(n:Nat):CallOK Tryz.prog (GG m) (evK Tryz.prog (GG m) spB 179 n):=evK_ok mixed ((spA_ok m).more 22 gP fun us x h lv _=>gP_ok m h lv) n
end Go.Am
