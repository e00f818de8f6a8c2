/- Helpers: an abstract machine for Go functions, and walks of functions of the program. -/
import Derived.Test.YtanjfmmjpnjkbaaGreatDoorRn05

set_option linter.all false
set_option maxHeartbeats 8000000
set_option maxRecDepth 100000
namespace Go.Am
open Go.Am.Ty Go.Proofs N
theorem exact_trim_ok (G:List (List DV))(l:List Nat):CallsP Tryz.prog G 131 [natV l] (natV (N.trimN l)):=by
 refine CallsS.know 0 (by simp) (fun V v h=>natV_rng h) fun hl=>?_
 refine CallsP.of_AW Go.Proofs.Tryz.func131 rfl (by simp) ?_
 rintro⟨_,_,w0,F0,W0,_,lv0,β0⟩ rfl rfl rfl
 refine AW.seqK fun K hK=>?_
 refine AW.regionP rfl ?_
 simp
 apply hK;clear hK K
 refine AW.seqK fun K hK=>AW.block ?_
 refine AW.loopV (fun l'=>⟨frOf [(0,natV l')],fun _=>.hole⟩) 0 (fun l'=>l'.length≤l.length∧N.trimN l'=N.trimN l) (fun l'=>l'.length) l (Le.slots _ (by simp [natV,AV.flat1]) (by simp)) (by simp) ?_
 rintro l' ⟨h0,h1⟩
 have fin:∀ (fr:Nat→AV) (κ:Nat),fr 0=natV (N.trimN l)→K ⟨fr,fun _=>.hole⟩ κ:=by
  intro fr κ h
  apply hK;clear hK
  refine AW.seqK fun K hK=>?_
  refine AW.regionP rfl ?_
  simp
  apply hK;clear hK
  exact AW.ret (FinP.tmp rfl 0 (by simp [h]) rfl rfl rfl)
 refine AW.seqK fun K2 hK2=>AW.seqK fun K3 hK3=>?_
 refine AW.regionP rfl ?_
 rcases List.eq_nil_or_concat l' with rfl|⟨xs,x,rfl⟩
 ·simp [natV,lenP,lenA,slT_24]
  apply hK3
  refine AW.cond (b:=false) (by simp) (AW.exit ?_)
  simp
  apply fin
  simp [natV,← h1]
 ·rw [List.concat_eq_append] at *
  have h3:xs.length+1≤9223372036854775807:=by have:=hl.1;simp at h0;omega
  have h4:IntKind.i64.wrap ((xs.length:Int))=xs.length:=wrap_in ⟨by simp only [loK];omega,by simp only [hiK];omega⟩
  have h2:(0:Int)<(xs.length:Int)+1:=by omega
  by_cases hx:x=0
  ·subst hx
   simp [natV,lenP,lenA,slT_24,aggT_138,h2,h4]
   refine⟨by omega,?_⟩
   apply hK3;clear hK3 K3
   refine AW.cond (b:=true) (by simp) (AW.skip ?_)
   simp
   apply hK2;clear hK2 K2
   refine AW.block ?_
   refine AW.regionP rfl ?_
   simp [natV,lenP,lenA,slT_24,h4]
   refine⟨⟨by omega,fun e he=>?_⟩,?_⟩
   ·rcases he with he|rfl
    ·exact W_all _ _ he
    ·rfl
   refine⟨xs,Le.slots [(0,natV xs)] (by simp [natV,AV.flat1]) (by simp),⟨by grind,by rw [← h1,trimN_snoc0]⟩,by omega⟩
  ·have hx':¬ ((x:Int)=0):=by omega
   simp [natV,lenP,lenA,slT_24,aggT_138,h2,h4]
   refine⟨by omega,?_⟩
   apply hK3;clear hK3 K3
   refine AW.cond (b:=false) (by simp [hx]) (AW.exit ?_)
   simp
   apply fin
   simp [natV,← h1,trimN_snoc hx]
end Go.Am
namespace Go.Am
open Go.Am.Ty Go.Proofs
def scC:Option (List (List DV))→CV
 | none=>.d .nilsl
 | some es=>.d (.sl es)
abbrev slA (o:Option (List (List DV))):AV:=.c (scC o)
def sO (o:Option (List (List DV))):List (List DV):=o.getD []
@[simp] theorem slA_pure (o:Option (List (List DV))):(AV.c (scC o)).pure=true:=by cases o <;> rfl
@[simp] theorem slA_flat1 (o:Option (List (List DV))):(AV.c (scC o)).flat1=true:=by cases o <;> rfl
theorem lenP_slA {P:Program}{T:TypeId}{lv:Key→LB}{o:Option (List (List DV))}(h:(slT P T).isSome=true):lenP P T lv (slA o)=some (.c (.d (.int .i64 (sO o).length)),[],[],True):=by
 obtain⟨⟨e,z⟩,h⟩:=Option.isSome_iff_exists.1 h
 cases o <;> simp [lenP,slA,scC,sO,lenA,h,keyOf]
theorem ix_slA {P:Program}{T:TypeId}{lv:Key→LB}{k':IntKind}{o:Option (List (List DV))}{i sz:Nat}(h:(slT P T).map (·.2)=some sz) (hi:i<(sO o).length) (hs:(sO o)[i].length=sz) :
 stepIndexAddr P T lv (slA o) (.c (.d (.int k' (i:Int))))=some (.c (.d (.ptr (sO o)[i])),[],[],True):=by
 obtain⟨⟨e,z⟩,h0,rfl⟩:=Option.map_eq_some_iff.1 h
 cases o with
 | none=>cases hi
 | some es=>
  have hi':i<es.length:=hi
  have hs':(es[i]'hi').length=z:=hs
  have e1:es.getD i []=es[i]'hi':=by rw [List.getD_eq_getElem?_getD,List.getElem?_eq_getElem hi'];rfl
  have e2:((0:Int)≤(i:Int)∧(i:Int)<(es.length:Int)∧(es.getD i []).length=z)=True:=by
   rw [e1,eq_iff_iff];exact⟨fun _=>trivial,fun _=>⟨by omega,by omega,hs'⟩⟩
  show stepIndexAddr P T lv (.c (.d (.sl es))) (.c (.d (.int k' (i:Int))))=some (.c (.d (.ptr (es[i]'hi'))),[],[],True)
  simp_all
theorem nb {T:TypeId}{x y:AV}{b:Bool}(hg:Tryz.prog.eqGuardType Tryz.prog.depth T=false) (hx:∃ cs,x=.agg cs) (h:eqT Tryz.prog 20 T x y=some b):stepBin Tryz.prog .neq T x y=some (.c (.d (.bool (!b))),[],[],True):=by
 obtain⟨cs,rfl⟩:=hx
 unfold stepBin
 simp [hg,eqable,h]
end Go.Am
