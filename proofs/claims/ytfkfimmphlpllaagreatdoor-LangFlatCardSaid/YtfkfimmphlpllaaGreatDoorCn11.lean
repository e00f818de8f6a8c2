/- Helpers: an abstract machine for Go functions, and walks of functions of the program. -/
import Derived.Test.YtfkfimmphlpllaaGreatDoorCn10

set_option linter.all false

namespace Go.Am
open Go.Proofs
def Oh:List UInt8→List UInt8→Bool
 | [],[]=>true
 | a::l,b::m=>Nat.beq a.toNat b.toNat && Oh l m
 | _,_=>false
theorem Dy:∀ {l m:List UInt8},Oh l m=true→l=m
 | [],[],_=>rfl
 | a::l,b::m,h=>by
  simp only [Oh,Bool.and_eq_true] at h
  rw [UInt8.toNat_inj.1 (Nat.eq_of_beq_eq_true h.1),Dy h.2]
 | [],_::_,h=>by cases h
 | _::_,[],h=>by cases h
def Eu:List UInt8:=[114,101,115,117,108,116,32,121,10]
def Ga:AV:=.tup [.agg [.d .nilsl,.d (.int .i64 (.ofNat 0)),.d .nilsl,.d .nilsl,.d (.int .i64 (.ofNat 0)),.d (.int .i64 (.ofNat 0)),.d .nilsl,.d (.int .i64 (.ofNat 0))],.c (.d (.int .i64 (.ofNat 1))),.c (.d (.int .i64 (.ofNat 144)))]
def gP:List AV→Option AV
 | [.c (.d (.str s))]=>bif Oh s Cr then some AZ else bif Oh s Eu then some Ga else none
 | _=>none
theorem TD (m:Int){us:List AV}{x:AV}(h:gP us=some x) (lv:Key→LB):bC Tryz.prog (GG m) 22 us lv (.ret x lv):=by
 unfold gP at h
 split at h
 ·rename_i s
  cases h1:Oh s Cr with
  | true=>
   rw [h1] at h
   simp only [cond_true,Option.some.injEq] at h
   subst h
   rw [Dy h1]
   exact bC.rZ (fun u hu=>by simp at hu;subst hu;rfl) rfl (I2 m)
  | false=>
   rw [h1] at h
   cases h2:Oh s Eu with
   | true=>
    rw [h2] at h
    simp only [cond_true,cond_false,Option.some.injEq] at h
    subst h
    rw [Dy h2]
    exact bC.rZ (fun u hu=>by simp at hu;subst hu;rfl) rfl (E6 m)
   | false=>rw [h2] at h;cases h
 ·cases h
theorem tZ.more {P:Program}{G:List (List DV)}{sp:Tb Spec}{ft:TypeId}(h:tZ P G sp ft) (f0:Nat) (g0:List AV→Option AV) (hg:∀ us x,g0 us=some x→∀ lv,cu lv→bC P G f0 us lv (.ret x lv)):tZ P G (vL f0 (.pure g0) sp) ft where
 pure:=by
  intro f g us x hf hx lv ho
  rw [kO] at hf
  split at hf
  ·rename_i e;subst e;cases hf;exact hg us x hx lv ho
  ·exact h.pure f g us x hf hx lv ho
 th:=by
  intro f hf
  rw [kO] at hf
  split at hf
  ·cases hf
  ·exact h.th f hf
 tw:=by
  intro f hf
  rw [kO] at hf
  split at hf
  ·cases hf
  ·exact h.tw f hf
 D1:=by
  intro f T hf
  rw [kO] at hf
  split at hf
  ·cases hf
  ·exact h.D1 f T hf
 DW:=by
  intro f T hf
  rw [kO] at hf
  split at hf
  ·cases hf
  ·exact h.DW f T hf
noncomputable def ZG:Tb Spec:=vL 22 (.pure gP) Uj
theorem MP (m:Int)(n:Nat):ju Tryz.prog (GG m) (QO Tryz.prog (GG m) ZG 179 n):=C3 mixed ((Ir m).more 22 gP fun us x h lv _=>TD m h lv) n
end Go.Am
