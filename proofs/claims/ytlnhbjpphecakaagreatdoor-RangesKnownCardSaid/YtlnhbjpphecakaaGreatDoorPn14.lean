/- Helpers: an abstract machine for Go functions, and walks of functions of the program. -/
import Derived.Test.YtlnhbjpphecakaaGreatDoorPn13

set_option linter.all false
set_option maxHeartbeats 8000000
set_option maxRecDepth 100000
namespace Go.Am
open Go.Am.Ty Go.Proofs N
def tabB:List Ent:=[eB 1 1 2 1 0 1 2 1,eB 1 1 3 2 0 1 3 4,eB 3 2 2 1 3 4 2 1,eB 3 2 7 4 3 4 21 16,eB 7 4 2 1 21 16 2 1,eB 1 1 5 4 0 1 5 16,eB 5 4 3 2 5 16 3 4]
noncomputable def spB:Tb Spec:=setS 116 (.live (gLive tabB)) spC
theorem spB_ok (m:Int):SpecOK Tryz.prog (GG m) spB 0:=(spC_ok m).lives 116 tabB fun e he=>by
 simp only [tabB,List.mem_cons,List.not_mem_nil,or_false] at he
 rcases he with rfl|rfl|rfl|rfl|rfl|rfl|rfl
 ·exact best0 m
 ·exact best1 m
 ·exact best2 m
 ·exact best3 m
 ·exact best4 m
 ·exact best5 m
 ·exact best6 m
def eBound:Ent:=eN [nI 2,nI 3] (.tup [iy 0 1 2 1,nI 4,nI 0])
theorem bound_e (m:Int):eBound.At Tryz.prog (GG m) 52:=Ent.of_evR mixed (evK_ok mixed (spB_ok m) 80) (by kernel_rfl) (by kernel_rfl)
def gShr:List AV→Option AV
 | [x,.c (.d (.int .i64 (.ofNat k)))]=>(numA x).bind fun a=>bif Nat.ble k 1000000 then some (if (dO a).length≤k / 32 then nK .u32 none else nK .u32 (some (dig 4294967296 (val 4294967296 (dO a) / 2 ^ k)))) else none
 | _=>none
theorem gShr_ok (m:Int){us:List AV}{x:AV}(h:gShr us=some x) (lv:Key→LB):CallG Tryz.prog (GG m) 209 us lv (.ret x lv):=by
 unfold gShr at h
 split at h
 ·rename_i x' k
  obtain⟨a,ha,g1⟩:=Option.bind_eq_some_iff.1 h
  clear h
  obtain⟨rfl,a1,a2⟩:=numA_ok ha
  cases hb:Nat.ble k 1000000 with
  | false=>rw [hb] at g1;cases g1
  | true=>
   rw [hb] at g1;cases g1
   have hk:=Nat.le_of_ble_eq_true hb
   exact CallG.of_CallsP (fun u hu=>by
    simp only [List.mem_cons,List.not_mem_nil,or_false] at hu
    rcases hu with rfl|rfl
    ·exact nK_pure _ _
    ·rfl) (by split <;> exact nK_pure _ _) (exact_shr_ok (GG m) a k (by omega) (by omega))
 ·cases h
def tabE:List (List AV × AV):=[([],pX)]
def tabW:List (List AV × AV):=[([],.c (.d (.bool true)))]
noncomputable def spK:Tb Spec:=setS 9 (.pure (gTab tabW)) <| setS 209 (.pure (gF gShr)) <| setS 47 (.pure (gTab tabE)) (setS 48 (.live (gLive [eNode])) (setS 49 (.live (gLive [eAff])) (setS 50 (.live (gLive [eSlope])) (setS 51 (.live (gLive [eMono])) (setS 52 (.live (gLive [eBound])) spC)))))
theorem one_ent {P:Program}{G:List (List DV)}{f:FuncId}{e0:Ent}(h:e0.At P G f):∀ e∈[e0],e.At P G f:=fun e he=>by
 simp only [List.mem_cons,List.not_mem_nil,or_false] at he
 subst he;exact h
theorem spK_ok (m:Int):SpecOK Tryz.prog (GG m) spK 0:=by
 refine SpecOK.tab (SpecOK.f (SpecOK.tab ?_ 47 tabE rfl fun p hp=>?_) 209 gShr (gShr_ok m)) 9 tabW rfl fun p hp=>?_
 ·exact ((((((spC_ok m).lives 52 _ (one_ent (bound_e m))).lives 51 _ (one_ent (mono_e m))).lives 50 _ (one_ent (slope_e m))).lives 49 _ (one_ent (aff_e m))).lives 48 _ (one_ent (node_e m)))
 ·simp only [tabE,List.mem_cons,List.not_mem_nil,or_false] at hp
  subst hp;exact exam_x m
 ·simp only [tabW,List.mem_cons,List.not_mem_nil,or_false] at hp
  subst hp;exact awake_ok m
theorem known_ok (m:Int):CallsP Tryz.prog (GG m) 5 [] (.c (.d (.bool true))):=CallsP.of_ev (evK_ok mixed (spK_ok m) 80) (by kernel_rfl)
end Go.Am
