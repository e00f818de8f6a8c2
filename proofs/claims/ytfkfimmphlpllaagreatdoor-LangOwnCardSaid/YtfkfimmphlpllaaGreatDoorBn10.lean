/- Helpers: an abstract machine for Go functions, and walks of functions of the program. -/
import Derived.Test.YtfkfimmphlpllaaGreatDoorBn09

set_option linter.all false

namespace Go.Am
open Go.Am.Ty Go.Proofs N
@[simp] def numC (x:Rat):List CV:=[.d (.bool (decide (x.num<0))),nC (natO x.num.natAbs),nC (denO x.den)]
theorem ar225:arT Tryz.prog 225=some (2,224,3):=by kernel_rfl
theorem bs59 (lv:Key→LB)(κ:Key)(h:lv κ=.hole)(a b:CV):stepBuildSlice Tryz.prog 59 2 [0,1] lv κ [.c a,.c b]=some (.c (.lsl κ 0 2 1),[(κ,.cells true false 53 [a,b])],[],True):=by
 unfold stepBuildSlice;rw [h];kernel_rfl
set_option maxHeartbeats 4000000 in
theorem input_ok (m:Int)(p:PD)(hp:p.ok)(i:Nat)(hi:i<p.ni):CallsP Tryz.prog (GG m) 84 [p.A,.c (.d (.int .i64 i))] (.c (.d (.int .i64 (partE p 1 i)))):=by
 have hx:=fun lv=>ixI hp lv (i:Int) (by omega) (by omega)
 simp only [Int.toNat_natCast] at hx
 have hE:partE p 1 i=inE p (p.inp i):=rfl
 rw [hE]
 generalize p.inp i=x at *
 have hwf:=within_ok (GG m) x.f p.nf
 have hP1:=rat_Parse m x.lo
 have hP2:=rat_Parse m x.hi
 have q1:IntKind.i64.wrap 1=1:=by decide
 have q2:IntKind.i64.wrap 2=2:=by decide
 have z1:=ratP_sz x.lo
 have z2:=ratP_sz x.hi
 refine CallsP.of_AW0 Go.Proofs.Tryz.func84 rfl (by rw [Tryz.ntmps84];simp)  ?_
 rintro⟨_,_,w0,F0,W0,_,lv0,β0⟩ rfl rfl rfl rfl
 refine AW.seqK fun K hK=>?_
 refine AW.regionP rfl ?_
 simp
 repeat (refine And.intro (by omega) ?_)
 apply hK;clear hK K
 refine AW.seqK fun K hK=>?_
 refine AW.regionP rfl ?_
 simp [hx,setSeg]
 repeat (refine And.intro (by omega) ?_)
 apply hK;clear hK K
 refine AW.seqK fun K hK=>?_
 refine AW.seqK fun K1 hK1=>?_
 by_cases h1:0≤x.f∧x.f<p.nf
 rotate_left
 ·have hd:decide (0≤x.f∧x.f<(p.nf:Int))=false:=decide_eq_false h1
  have hr:inE p x=7:=by unfold inE;rw [if_pos h1]
  rw [hd] at hwf
  refine AW.regionP rfl ?_
  simp [lpF]
  refine CallDo.pure 2 9 (hwf) (by first|(simp;done)|rfl) (by simp) (by first|rfl|simp) ?_
  simp
  repeat (refine And.intro (by omega) ?_)
  apply hK1;clear hK1 K1
  refine AW.cond (b:=true) (by first|(simp [];done)|(simp [];omega)) ?_
  refine AW.seqK fun K1 hK1=>?_
  refine AW.regionP rfl ?_
  simp
  repeat (refine And.intro (by omega) ?_)
  apply hK1;clear hK1 K1
  exact AW.ret (κ:=0) (FinP.tmp (κ:=0) (t:=4) rfl 9 (by simp [hr]) (by first|rfl|simp) (by first|rfl|simp) (by first|rfl|simp))
 have hd:decide (0≤x.f∧x.f<(p.nf:Int))=true:=decide_eq_true h1
 rw [hd] at hwf
 have r1:inE p x=if ratE x.lo≠0 then ratE x.lo else if ratE x.hi≠0 then ratE x.hi else if hasB (p.fm x.f.toNat).1 (p.fm x.f.toNat).2 (ratP x.lo)=false then 7
  else if hasB (p.fm x.f.toNat).1 (p.fm x.f.toNat).2 (ratP x.hi)=false then 7 else if 0<cmpR (ratP x.lo) (ratP x.hi) then 7 else 0:=by
  unfold inE;rw [if_neg (not_not_intro h1)]
 refine AW.regionP rfl ?_
 simp [lpF]
 refine CallDo.pure 2 9 (hwf) (by first|(simp;done)|rfl) (by simp) (by first|rfl|simp) ?_
 simp
 repeat (refine And.intro (by omega) ?_)
 apply hK1;clear hK1 K1
 refine AW.cond (b:=false) (by first|(simp [];done)|(simp [];omega)) ?_
 refine AW.skip ?_
 simp
 repeat (refine And.intro (by omega) ?_)
 apply hK;clear hK K
 refine AW.seqK fun K hK=>?_
 refine AW.regionP rfl ?_
 simp
 repeat (refine And.intro (by omega) ?_)
 apply hK;clear hK K
 refine AW.seqK fun K hK=>?_
 refine AW.seqK fun K1 hK1=>?_
 have hbs:∀ (lv:Key→LB) (h:lv 3=.hole),stepBuildSlice Tryz.prog 59 2 [0,1] lv 3 [.c (.d (.str x.lo)),.c (.d (.str x.hi))]=some (.c (.lsl 3 0 2 1),[(3,.cells true false 53 [.d (.str x.lo),.d (.str x.hi)])],[],True):=fun lv h=>bs59 lv 3 h _ _
 refine AW.regionP rfl ?_
 simp [hbs,-stepBuildSlice]
 repeat (refine And.intro (by omega) ?_)
 apply hK1;clear hK1 K1
 refine AW.block ?_
 refine AW.loopV (fun (k:Nat)=>⟨frOf [(2,.c (.ptr 0 0)),(5,.c (.ptr 1 0)),(6,.c (.ptr 2 0)),(30,.c (.lsl 3 0 2 1)),(31,.c (.d (.int .i64 2))),(32,.c (.d (.int .i64 k)))],
  upd (upd (upd (upd (fun _=>.hole) 0 (.cells true false 154 p.cs)) 1 (.cells true false 67 [.d (.int .i64 x.f),.d (.str x.lo),.d (.str x.hi)])) 2 (.cells true false 225 (numC (if 0<k then ratP x.lo else 0)++numC (if 1<k then ratP x.hi else 0)))) 3 (.cells true false 53 [.d (.str x.lo),.d (.str x.hi)])⟩) 4
  (fun k=>k≤2∧(0<k→ratE x.lo=0)∧(1<k→ratE x.hi=0)) (fun k=>2 - k) 0 (Le.mk' _ (by simp [nC,natO,denO]) (by repeat (first|exact noMap_hole|refine noMap_upd ?_ _ _ _ _ _|(refine noMap_upd_dead ?_ _)|(refine noMap_blS ?_ _ _ _)|(refine noMap_upd_nils ?_ _)|simp)) (by simp)) ⟨by omega,fun h=>absurd h (by omega),fun h=>absurd h (by omega)⟩ ?_
 rintro k ⟨hk,k1,k2⟩
 try simp only at hk k1 k2
 refine AW.seqK fun K3 hK3=>?_
 refine AW.regionP rfl ?_
 simp
 repeat (refine And.intro (by omega) ?_)
 apply hK3;clear hK3 K3
 refine AW.seqK fun K2 hK2=>?_
 have hkc:k=0∨k=1∨k=2:=by omega
 rcases hkc with rfl|rfl|rfl
 ·refine AW.cond (b:=true) (by first|(simp [];done)|(simp [];omega)) ?_
  refine AW.skip ?_
  simp
  repeat (refine And.intro (by omega) ?_)
  apply hK2
  refine AW.seqK fun K3 hK3=>?_
  refine AW.block ?_
  refine AW.seqK fun K4 hK4=>?_
  refine AW.regionP rfl ?_
  simp
  repeat (refine And.intro (by omega) ?_)
  apply hK4;clear hK4 K4
  refine AW.seqK fun K4 hK4=>?_
  refine AW.regionP rfl ?_
  simp
  refine CallDo.pure 4 9 (hP1) (by first|(simp;done)|rfl) (by simp) (by first|rfl|simp) ?_
  simp [setSeg]
  repeat (refine And.intro (by omega) ?_)
  apply hK4;clear hK4 K4
  refine AW.seqK fun K4 hK4=>?_
  refine AW.seqK fun K5 hK5=>?_
  refine AW.regionP rfl ?_
  simp
  repeat (refine And.intro (by omega) ?_)
  apply hK5;clear hK5 K5
  by_cases he:ratE x.lo=0
  ·refine AW.cond (b:=false) (by first|(simp [he];done)|(simp [he];omega)) ?_
   refine AW.skip ?_
   simp
   repeat (refine And.intro (by omega) ?_)
   apply hK4;clear hK4 K4
   refine AW.regionP rfl ?_
   simp [ar225,loadNum,setSeg]
   repeat (refine And.intro (by omega) ?_)
   apply hK3
   refine AW.regionP rfl ?_
   simp [q1]
   exact⟨1,(Le.drop [4]  9 _ rfl (by intro k hk;simp at hk;subst hk;simp [upd]) (by intro k hk;simp at hk;simp only [upd];(repeat (any_goals split)) <;> simp_all) (by simp [upd]) (by repeat (first|exact noMap_hole|refine noMap_upd ?_ _ _ _ _ _|(refine noMap_upd_dead ?_ _)|(refine noMap_blS ?_ _ _ _)|(refine noMap_upd_nils ?_ _)|simp)) (by repeat (first|exact OffL_hole|refine OffL_upd ?_ (by simp [drG]))) (by simp [drG])),⟨by omega,fun _=>he,fun h=>absurd h (by omega)⟩,by omega⟩
  ·have hr:inE p x=ratE x.lo:=by rw [r1,if_pos he]
   refine AW.cond (b:=true) (by first|(simp [he];done)|(simp [he];omega)) ?_
   refine AW.seqK fun K5 hK5=>?_
   refine AW.regionP rfl ?_
   simp
   repeat (refine And.intro (by omega) ?_)
   apply hK5;clear hK5 K5
   exact AW.ret (κ:=0) (FinP.tmp (κ:=0) (t:=4) rfl 9 (by simp [hr]) (by first|rfl|simp) (by first|rfl|simp) (by first|rfl|simp))
 ·refine AW.cond (b:=true) (by first|(simp [];done)|(simp [];omega)) ?_
  refine AW.skip ?_
  simp
  repeat (refine And.intro (by omega) ?_)
  apply hK2
  refine AW.seqK fun K3 hK3=>?_
  refine AW.block ?_
  refine AW.seqK fun K4 hK4=>?_
  refine AW.regionP rfl ?_
  simp
  repeat (refine And.intro (by omega) ?_)
  apply hK4;clear hK4 K4
  refine AW.seqK fun K4 hK4=>?_
  refine AW.regionP rfl ?_
  simp
  refine CallDo.pure 4 9 (hP2) (by first|(simp;done)|rfl) (by simp) (by first|rfl|simp) ?_
  simp [setSeg]
  repeat (refine And.intro (by omega) ?_)
  apply hK4;clear hK4 K4
  refine AW.seqK fun K4 hK4=>?_
  refine AW.seqK fun K5 hK5=>?_
  refine AW.regionP rfl ?_
  simp
  repeat (refine And.intro (by omega) ?_)
  apply hK5;clear hK5 K5
  by_cases he:ratE x.hi=0
  ·refine AW.cond (b:=false) (by first|(simp [he];done)|(simp [he];omega)) ?_
   refine AW.skip ?_
   simp
   repeat (refine And.intro (by omega) ?_)
   apply hK4;clear hK4 K4
   refine AW.regionP rfl ?_
   simp [ar225,loadNum,setSeg]
   repeat (refine And.intro (by omega) ?_)
   apply hK3
   refine AW.regionP rfl ?_
   simp [q2]
   exact⟨2,(Le.drop [4]  9 _ rfl (by intro k hk;simp at hk;subst hk;simp [upd]) (by intro k hk;simp at hk;simp only [upd];(repeat (any_goals split)) <;> simp_all) (by simp [upd]) (by repeat (first|exact noMap_hole|refine noMap_upd ?_ _ _ _ _ _|(refine noMap_upd_dead ?_ _)|(refine noMap_blS ?_ _ _ _)|(refine noMap_upd_nils ?_ _)|simp)) (by repeat (first|exact OffL_hole|refine OffL_upd ?_ (by simp [drG]))) (by simp [drG])),⟨by omega,fun _=>k1 (by omega),fun _=>he⟩,by omega⟩
  ·have hr:inE p x=ratE x.hi:=by rw [r1,if_neg (not_not_intro (k1 (by omega))),if_pos he]
   refine AW.cond (b:=true) (by first|(simp [he];done)|(simp [he];omega)) ?_
   refine AW.seqK fun K5 hK5=>?_
   refine AW.regionP rfl ?_
   simp
   repeat (refine And.intro (by omega) ?_)
   apply hK5;clear hK5 K5
   exact AW.ret (κ:=0) (FinP.tmp (κ:=0) (t:=4) rfl 9 (by simp [hr]) (by first|rfl|simp) (by first|rfl|simp) (by first|rfl|simp))
 ·have r2:inE p x=if hasB (p.fm x.f.toNat).1 (p.fm x.f.toNat).2 (ratP x.lo)=false then 7
   else if hasB (p.fm x.f.toNat).1 (p.fm x.f.toNat).2 (ratP x.hi)=false then 7 else if 0<cmpR (ratP x.lo) (ratP x.hi) then 7 else 0:=by
   rw [r1,if_neg (not_not_intro (k1 (by omega))),if_neg (not_not_intro (k2 (by omega)))]
  refine AW.cond (b:=false) (by first|(simp [];done)|(simp [];omega)) ?_
  refine AW.exit ?_
  simp
  repeat (refine And.intro (by omega) ?_)
  apply hK
  have hxf:=fun lv=>ixF hp lv x.f h1.1 h1.2
  generalize p.fm x.f.toNat=fe at *
  have hb1:=floatsHas_ok (GG m) fe.1 fe.2 (ratP x.lo) z1
  have hb2:=floatsHas_ok (GG m) fe.1 fe.2 (ratP x.hi) z2
  have hcm:=rat_Cmp (GG m) (ratP x.lo) (ratP x.hi) (szR_mono z1 (by omega)) (szR_mono z2 (by omega))
  generalize ratP x.lo=a at *
  generalize ratP x.hi=b at *
  refine AW.seqK fun K3 hK3=>?_
  refine AW.regionP rfl ?_
  simp [hxf,setSeg]
  repeat (refine And.intro (by omega) ?_)
  apply hK3;clear hK3 K3
  refine AW.seqK fun K3 hK3=>?_
  refine AW.seqK fun K4 hK4=>?_
  cases g1:hasB fe.1 fe.2 a with
  | false=>
   have hr:inE p x=7:=by rw [r2,if_pos g1]
   rw [g1] at hb1
   refine AW.regionP rfl ?_
   simp [ar225]
   refine CallDo.pure 5 9 (hb1) (by first|(simp;done)|rfl) (by simp) (by first|rfl|simp) ?_
   simp
   repeat (refine And.intro (by omega) ?_)
   apply hK4;clear hK4 K4
   refine AW.cond (b:=true) (by first|(simp [];done)|(simp [];omega)) ?_
   refine AW.seqK fun K4 hK4=>?_
   refine AW.regionP rfl ?_
   simp
   repeat (refine And.intro (by omega) ?_)
   apply hK4;clear hK4 K4
   exact AW.ret (κ:=0) (FinP.tmp (κ:=0) (t:=4) rfl 9 (by simp [hr]) (by first|rfl|simp) (by first|rfl|simp) (by first|rfl|simp))
  | true=>
  rw [g1] at hb1
  cases g2:hasB fe.1 fe.2 b with
  | false=>
   have hr:inE p x=7:=by rw [r2,g1,if_neg (by decide),if_pos g2]
   rw [g2] at hb2
   refine AW.regionP rfl ?_
   simp [ar225]
   refine CallDo.pure 5 9 (hb1) (by first|(simp;done)|rfl) (by simp) (by first|rfl|simp) ?_
   simp [ar225]
   refine CallDo.pure 5 9 (hb2) (by first|(simp;done)|rfl) (by simp) (by first|rfl|simp) ?_
   simp
   repeat (refine And.intro (by omega) ?_)
   apply hK4;clear hK4 K4
   refine AW.cond (b:=true) (by first|(simp [];done)|(simp [];omega)) ?_
   refine AW.seqK fun K4 hK4=>?_
   refine AW.regionP rfl ?_
   simp
   repeat (refine And.intro (by omega) ?_)
   apply hK4;clear hK4 K4
   exact AW.ret (κ:=0) (FinP.tmp (κ:=0) (t:=4) rfl 9 (by simp [hr]) (by first|rfl|simp) (by first|rfl|simp) (by first|rfl|simp))
  | true=>
  rw [g2] at hb2
  by_cases g3:0<cmpR a b
  ·have hr:inE p x=7:=by rw [r2,g1,if_neg (by decide),g2,if_neg (by decide),if_pos g3]
   refine AW.regionP rfl ?_
   simp [ar225]
   refine CallDo.pure 5 9 (hb1) (by first|(simp;done)|rfl) (by simp) (by first|rfl|simp) ?_
   simp [ar225]
   refine CallDo.pure 5 9 (hb2) (by first|(simp;done)|rfl) (by simp) (by first|rfl|simp) ?_
   simp [ar225]
   refine CallDo.pure 5 9 (hcm) (by first|(simp;done)|rfl) (by simp) (by first|rfl|simp) ?_
   simp
   repeat (refine And.intro (by omega) ?_)
   apply hK4;clear hK4 K4
   refine AW.cond (b:=true) (by first|(simp [g3];done)|(simp [g3];omega)) ?_
   refine AW.seqK fun K4 hK4=>?_
   refine AW.regionP rfl ?_
   simp
   repeat (refine And.intro (by omega) ?_)
   apply hK4;clear hK4 K4
   exact AW.ret (κ:=0) (FinP.tmp (κ:=0) (t:=4) rfl 9 (by simp [hr]) (by first|rfl|simp) (by first|rfl|simp) (by first|rfl|simp))
  ·have hr:inE p x=0:=by rw [r2,g1,if_neg (by decide),g2,if_neg (by decide),if_neg g3]
   refine AW.regionP rfl ?_
   simp [ar225]
   refine CallDo.pure 5 9 (hb1) (by first|(simp;done)|rfl) (by simp) (by first|rfl|simp) ?_
   simp [ar225]
   refine CallDo.pure 5 9 (hb2) (by first|(simp;done)|rfl) (by simp) (by first|rfl|simp) ?_
   simp [ar225]
   refine CallDo.pure 5 9 (hcm) (by first|(simp;done)|rfl) (by simp) (by first|rfl|simp) ?_
   simp
   repeat (refine And.intro (by omega) ?_)
   apply hK4;clear hK4 K4
   refine AW.cond (b:=false) (by first|(simp [g3];done)|(simp [g3];omega)) ?_
   refine AW.skip ?_
   simp
   repeat (refine And.intro (by omega) ?_)
   apply hK3;clear hK3 K3
   refine AW.seqK fun K3 hK3=>?_
   refine AW.regionP rfl ?_
   simp
   repeat (refine And.intro (by omega) ?_)
   apply hK3;clear hK3 K3
   exact AW.ret (κ:=0) (FinP.tmp (κ:=0) (t:=4) rfl 9 (by simp [hr]) (by first|rfl|simp) (by first|rfl|simp) (by first|rfl|simp))
end Go.Am

namespace Go.Am
open Go.Am.Ty Go.Proofs N
@[simp] theorem updL_self2 {lv:Key→LB}{k0 k1:Key}{b0 b1:LB}(h0:lv k0=b0) (h1:lv k1=b1):updL lv [(k0,b0),(k1,b1)]=lv:=by
 subst h0;subst h1
 funext k
 simp only [updL,List.foldl,upd]
 split
 ·rename_i h;rw [h]
 ·split
  ·rename_i h;rw [h]
  ·rfl
abbrev cI (i:Int):List CV:=[.d (.int .i64 i)]
abbrev bI (i:Int):LB:=.cells false false 3 (cI i)
set_option maxHeartbeats 1000000 in
theorem other_ok (G:List (List DV))(n:Nd)(i f:Int):CallsS Tryz.prog G 165 [n.A,.c (.ptr 0 0),.c (.ptr 1 0)] [bI i,bI f] (.ret (.c (.d (.bool (othB i f n)))) [bI i,bI f] []):=by
 refine CallsS.of_AW2 Go.Proofs.Tryz.func165 rfl (by rw [Tryz.ntmps165];simp) (fun r hr=>⟨_,List.mem_singleton.1 hr⟩) (by simp) (by simp) ?_
 rintro⟨_,_,w0,F0,W0,_,lv0,β0⟩ rfl rfl rfl
 refine AW.seqK fun K hK=>?_
 refine AW.regionP rfl ?_
 simp
 repeat (refine And.intro (by omega) ?_)
 apply hK;clear hK K
 refine AW.seqK fun K hK=>?_
 by_cases h1:n.op=2
 ·by_cases h2:n.a=i
  ·by_cases h3:n.f=f
   ·refine AW.regionP rfl ?_
    simp [h1,h2,h3]
    repeat (refine And.intro (by omega) ?_)
    apply hK;clear hK K
    exact AW.ret (κ:=0) (Fin2.tmp (κ:=0) rfl 9 (by simp [othB,h1,h2,h3]) rfl (by simp) (by simp) (by simp) rfl)
   ·refine AW.regionP rfl ?_
    simp [h1,h2,h3]
    repeat (refine And.intro (by omega) ?_)
    apply hK;clear hK K
    exact AW.ret (κ:=0) (Fin2.tmp (κ:=0) rfl 9 (by simp [othB,h1,h2,h3]) rfl (by simp) (by simp) (by simp) rfl)
  ·refine AW.regionP rfl ?_
   simp [h1,h2]
   repeat (refine And.intro (by omega) ?_)
   apply hK;clear hK K
   exact AW.ret (κ:=0) (Fin2.tmp (κ:=0) rfl 9 (by simp [othB,h1,h2]) rfl (by simp) (by simp) (by simp) rfl)
 ·refine AW.regionP rfl ?_
  simp [h1]
  repeat (refine And.intro (by omega) ?_)
  apply hK;clear hK K
  exact AW.ret (κ:=0) (Fin2.tmp (κ:=0) rfl 9 (by simp [othB,h1]) rfl (by simp) (by simp) (by simp) rfl)
def idxO (i f:Int)(p:PD):Int:=match (List.range p.nn).find? (fun j=>othB i f (p.nd j)) with
 | some j=>j
 | none=>-1
theorem idxO_sgn (i f:Int)(p:PD):decide (0≤idxO i f p)=(List.range p.nn).any (fun j=>othB i f (p.nd j)):=by
 unfold idxO
 cases h:(List.range p.nn).find? (fun j=>othB i f (p.nd j)) with
 | none=>
  rw [List.find?_eq_none] at h
  have:(List.range p.nn).any (fun j=>othB i f (p.nd j))=false:=by
   rw [List.any_eq_false];exact h
  rw [this];rfl
 | some j=>
  have h1:=List.find?_some h
  have h2:=List.mem_of_find?_eq_some h
  have:(List.range p.nn).any (fun j=>othB i f (p.nd j))=true:=List.any_eq_true.2 ⟨j,h2,h1⟩
  rw [this];exact decide_eq_true (Int.natCast_nonneg j)
abbrev clO:AV:=.c (.func (.func 165) [] [.ptr 0 0,.ptr 1 0])
theorem rd_three {lv:Key→LB}(n:Nd) {i f:Int}(h0:lv 0=bI i) (h1:lv 1=bI f) {a:AV}{k:Key}(ha:a∈[n.A,.c (.ptr 0 0),.c (.ptr 1 0)]) (hk:k∈rdA lv a):k∈[9,0,1]:=by
 simp only [List.mem_cons,List.not_mem_nil,or_false] at ha
 rcases ha with rfl|rfl|rfl
 ·rw [rdA_pure rfl] at hk;cases hk
 ·simp [rdA,rdK,h0] at hk;simp [hk]
 ·simp [rdA,rdK,h1] at hk;simp [hk]
theorem rd_two {lv:Key→LB}(p:PD) {a:AV}{k:Key}{fn:Fn}{fs cs:List Ref}{R:List Key}(ha:a∈[AV.c (scC p.nodes),.c (.func fn fs cs)]) (hk:k∈rdA lv a):k∈R:=by
 simp only [List.mem_cons,List.not_mem_nil,or_false] at ha
 rcases ha with rfl|rfl
 ·rw [rdA_pure (by simp)] at hk;cases hk
 ·cases hk
set_option maxHeartbeats 1000000 in
theorem idxO_ok (G:List (List DV))(p:PD)(hp:p.ok)(hn:p.nn≤1000)(i f:Int):CallsS Tryz.prog G 241 [.c (scC p.nodes),clO] [bI i,bI f] (.ret (.c (.d (.int .i64 (idxO i f p)))) [bI i,bI f] []):=by
 have ho:=fun j=>other_ok G (p.nd j) i f
 refine CallsS.of_AW2 Go.Proofs.Tryz.func241 rfl (by rw [Tryz.ntmps241];simp) (fun r hr=>⟨_,List.mem_singleton.1 hr⟩) (by simp) (by simp) ?_
 rintro⟨_,_,w0,F0,W0,_,lv0,β0⟩ rfl rfl rfl
 refine AW.seqK fun K hK=>?_
 refine AW.regionP rfl ?_
 simp
 repeat (refine And.intro (by omega) ?_)
 apply hK;clear hK K
 refine AW.seqK fun K hK=>?_
 refine AW.seqK fun K1 hK1=>?_
 refine AW.regionP rfl ?_
 simp [lpNn]
 repeat (refine And.intro (by omega) ?_)
 apply hK1;clear hK1 K1
 refine AW.block ?_
 refine AW.loopV (fun (j:Nat)=>⟨frOf [(0,.c (scC p.nodes)),(1,clO),(7,.c (.d (.int .i64 p.nn))),(8,.c (.d (.int .i64 j)))],upd (upd (fun _=>.hole) 0 (bI i)) 1 (bI f)⟩) 1000
  (fun j=>j≤p.nn∧∀ q,q<j→othB i f (p.nd q)=false) (fun j=>p.nn - j) 0 (Le.mk' _ (by simp) (by repeat (first|exact noMap_hole|refine noMap_upd ?_ _ _ _ _ _|(refine noMap_upd_dead ?_ _)|simp)) (by simp)) ⟨by omega,fun q hq=>absurd hq (Nat.not_lt_zero q)⟩ ?_
 rintro j ⟨hj,hall⟩
 try simp only at hj hall
 refine AW.seqK fun K3 hK3=>?_
 refine AW.regionP rfl ?_
 simp
 repeat (refine And.intro (by omega) ?_)
 apply hK3;clear hK3 K3
 refine AW.seqK fun K2 hK2=>?_
 by_cases hlt:j<p.nn
 ·have hlt':(j:Int)<(p.nn:Int):=by omega
  refine AW.cond (b:=true) (by first|(simp [hlt'];done)|(simp [hlt'];omega)) ?_
  refine AW.skip ?_
  simp
  repeat (refine And.intro (by omega) ?_)
  apply hK2
  refine AW.seqK fun K3 hK3=>?_
  refine AW.block ?_
  refine AW.seqK fun K4 hK4=>?_
  refine AW.regionP rfl ?_
  simp
  repeat (refine And.intro (by omega) ?_)
  apply hK4;clear hK4 K4
  refine AW.seqK fun K4 hK4=>?_
  have hx:=fun lv=>ndAt p lv hp j hlt
  refine AW.regionP rfl ?_
  simp [hx,callTgt_c,callP_gen,refAV]
  refine CallDo.pass2 (T0:=3) (T1:=3) (cs0:=cI i) (cs1:=cI f) 1000 9 0 1 false [9,0,1] (ho j) rfl rfl rfl (by simp) (by simp) (by decide) rfl rfl ?_ ?_ (by simp) ?_
  ·intro a b c
   have:a=0∨a=1∨a=2:=by simp at b;omega
   rcases this with rfl|rfl|rfl <;> exact⟨rfl,rfl⟩
  ·intro a ha k hk
   exact rd_three (p.nd j) (i:=i) (f:=f) (by simp) (by simp) ha hk
  simp
  repeat (refine And.intro (by omega) ?_)
  apply hK4;clear hK4 K4
  cases hs:othB i f (p.nd j) with
  | true=>
   refine AW.cond (b:=true) (by first|(simp [];done)|(simp [];omega)) ?_
   refine AW.seqK fun K4 hK4=>?_
   refine AW.regionP rfl ?_
   simp
   repeat (refine And.intro (by omega) ?_)
   apply hK4;clear hK4 K4
   have hr:idxO i f p=j:=by
    unfold idxO
    have:(List.range p.nn).find? (fun j=>othB i f (p.nd j))=some j:=by
     rw [List.find?_range_eq_some]
     exact⟨hs,List.mem_range.2 hlt,fun q hq=>by rw [hall q hq];rfl⟩
    rw [this]
   exact AW.ret (κ:=0) (Fin2.tmp (κ:=0) rfl 9 (by simp [hr]) rfl (by simp) (by simp) (by simp) rfl)
  | false=>
   refine AW.cond (b:=false) (by first|(simp [];done)|(simp [];omega)) ?_
   refine AW.skip ?_
   simp
   repeat (refine And.intro (by omega) ?_)
   apply hK3
   have f12:=w64 (n:=(j:Int)+1) (by omega) (by omega)
   refine AW.regionP rfl ?_
   simp [f12]
   refine⟨j+1,Le.mk' _ (by simp) (by repeat (first|exact noMap_hole|refine noMap_upd ?_ _ _ _ _ _|(refine noMap_upd_dead ?_ _)|simp)) (by simp),⟨by omega,fun q hq=>?_⟩,by omega⟩
   by_cases hji:q=j
   ·subst hji;exact hs
   ·exact hall q (by omega)
 ·have hlt':¬ (j:Int)<(p.nn:Int):=by omega
  refine AW.cond (b:=false) (by first|(simp [hlt'];done)|(simp [hlt'];omega)) ?_
  refine AW.exit ?_
  simp
  repeat (refine And.intro (by omega) ?_)
  apply hK
  refine AW.seqK fun K3 hK3=>?_
  refine AW.regionP rfl ?_
  simp
  repeat (refine And.intro (by omega) ?_)
  apply hK3;clear hK3 K3
  have hr:idxO i f p = -1:=by
   unfold idxO
   have:(List.range p.nn).find? (fun j=>othB i f (p.nd j))=none:=by
    rw [List.find?_eq_none]
    intro q hq
    rw [hall q (by have:=List.mem_range.1 hq;omega)];decide
   rw [this]
  exact AW.ret (κ:=0) (Fin2.tmp (κ:=0) rfl 9 (by simp [hr]) rfl (by simp) (by simp) (by simp) rfl)
theorem contO_ok (G:List (List DV))(p:PD)(hp:p.ok)(hn:p.nn≤1000)(i f:Int):CallsS Tryz.prog G 166 [.c (scC p.nodes),clO] [bI i,bI f] (.ret (.c (.d (.bool ((List.range p.nn).any fun j=>othB i f (p.nd j))))) [bI i,bI f] []):=by
 have hx:=idxO_ok G p hp hn i f
 rw [← idxO_sgn]
 generalize idxO i f p=r at *
 refine CallsS.of_AW2 Go.Proofs.Tryz.func166 rfl (by rw [Tryz.ntmps166];simp) (fun r hr=>⟨_,List.mem_singleton.1 hr⟩) (by simp) (by simp) ?_
 rintro⟨_,_,w0,F0,W0,_,lv0,β0⟩ rfl rfl rfl
 refine AW.seqK fun K hK=>?_
 refine AW.regionP rfl ?_
 simp
 repeat (refine And.intro (by omega) ?_)
 apply hK;clear hK K
 refine AW.seqK fun K hK=>?_
 refine AW.regionP rfl ?_
 simp
 refine CallDo.pass2 (T0:=3) (T1:=3) (cs0:=cI i) (cs1:=cI f) 1000 9 0 1 false [9] hx rfl rfl rfl (by simp) (by simp) (by decide) rfl rfl ?_ ?_ (by simp) ?_
 ·intro a b c
  have:a=0∨a=1:=by simp at b;omega
  rcases this with rfl|rfl
  ·exact⟨by simp,by simp⟩
  ·exact⟨rfl,rfl⟩
 ·intro a ha k hk
  exact rd_two p ha hk
 simp
 repeat (refine And.intro (by omega) ?_)
 apply hK;clear hK K
 exact AW.ret (κ:=0) (Fin2.tmp (κ:=0) rfl 9 (by simp) rfl (by simp) (by simp) (by simp) rfl)
theorem gen_rng {p:PD}(h:genE p=0):0≤p.head∧p.head≤p.tail∧p.tail≤p.nn∧p.nf≤6∧p.ni≤6∧p.nn≤64∧p.ns≤4:=by
 unfold genE at h
 unfold PD.nf PD.ni PD.nn PD.ns
 (repeat' split at h) <;> first|omega|cases h
set_option maxHeartbeats 2000000 in
theorem state_ok (m:Int)(p:PD)(hp:p.ok)(hg:genE p=0)(i:Nat)(hi:i<p.ns):CallsP Tryz.prog (GG m) 86 [p.A,.c (.d (.int .i64 i))] (.c (.d (.int .i64 (partE p 3 i)))):=by
 obtain⟨g1,g2,g3,_,_,g4,_⟩:=gen_rng hg
 have hx:=fun lv=>ixS hp lv (i:Int) (by omega) (by omega)
 simp only [Int.toNat_natCast] at hx
 have hE:partE p 3 i=stE p i (p.st i):=rfl
 rw [hE]
 generalize p.st i=s at *
 have hw1:=within_ok (GG m) s.1 p.head
 have hw2:=within_ok (GG m) s.2 p.tail
 refine CallsP.of_AW Go.Proofs.Tryz.func86 rfl (by rw [Tryz.ntmps86];simp) ?_
 rintro⟨_,_,w0,F0,W0,_,lv0,β0⟩ rfl rfl rfl
 refine AW.seqK fun K hK=>?_
 refine AW.regionP rfl ?_
 simp
 repeat (refine And.intro (by omega) ?_)
 apply hK;clear hK K
 refine AW.seqK fun K hK=>?_
 refine AW.regionP rfl ?_
 simp [hx,setSeg]
 repeat (refine And.intro (by omega) ?_)
 apply hK;clear hK K
 refine AW.seqK fun K hK=>?_
 refine AW.seqK fun K1 hK1=>?_
 by_cases h1:0≤s.1∧s.1<p.head
 rotate_left
 ·have hd:decide (0≤s.1∧s.1<p.head)=false:=decide_eq_false h1
  have hr:stE p i s=7:=by unfold stE;rw [if_pos h1]
  rw [hd] at hw1
  refine AW.regionP rfl ?_
  simp
  refine CallDo.pure 3 9 (hw1) (by first|(simp;done)|rfl) (by simp) (by first|rfl|simp) ?_
  simp
  repeat (refine And.intro (by omega) ?_)
  apply hK1;clear hK1 K1
  refine AW.cond (b:=true) (by first|(simp [];done)|(simp [];omega)) ?_
  refine AW.seqK fun K1 hK1=>?_
  refine AW.regionP rfl ?_
  simp
  repeat (refine And.intro (by omega) ?_)
  apply hK1;clear hK1 K1
  exact AW.ret (κ:=0) (FinP.tmp (κ:=0) rfl 4 (by simp [hr]) (by first|rfl|simp) (by first|rfl|simp) (by first|rfl|simp))
 have hd:decide (0≤s.1∧s.1<p.head)=true:=decide_eq_true h1
 rw [hd] at hw1
 by_cases h2:0≤s.2∧s.2<p.tail
 rotate_left
 ·have hd2:decide (0≤s.2∧s.2<p.tail)=false:=decide_eq_false h2
  have hr:stE p i s=7:=by unfold stE;rw [if_neg (not_not_intro h1),if_pos h2]
  rw [hd2] at hw2
  refine AW.regionP rfl ?_
  simp
  refine CallDo.pure 3 9 (hw1) (by first|(simp;done)|rfl) (by simp) (by first|rfl|simp) ?_
  simp
  refine CallDo.pure 3 9 (hw2) (by first|(simp;done)|rfl) (by simp) (by first|rfl|simp) ?_
  simp
  repeat (refine And.intro (by omega) ?_)
  apply hK1;clear hK1 K1
  refine AW.cond (b:=true) (by first|(simp [];done)|(simp [];omega)) ?_
  refine AW.seqK fun K1 hK1=>?_
  refine AW.regionP rfl ?_
  simp
  repeat (refine And.intro (by omega) ?_)
  apply hK1;clear hK1 K1
  exact AW.ret (κ:=0) (FinP.tmp (κ:=0) rfl 4 (by simp [hr]) (by first|rfl|simp) (by first|rfl|simp) (by first|rfl|simp))
 have hd2:decide (0≤s.2∧s.2<p.tail)=true:=decide_eq_true h2
 rw [hd2] at hw2
 refine AW.regionP rfl ?_
 simp
 refine CallDo.pure 3 9 (hw1) (by first|(simp;done)|rfl) (by simp) (by first|rfl|simp) ?_
 simp
 refine CallDo.pure 3 9 (hw2) (by first|(simp;done)|rfl) (by simp) (by first|rfl|simp) ?_
 simp
 repeat (refine And.intro (by omega) ?_)
 apply hK1;clear hK1 K1
 refine AW.cond (b:=false) (by first|(simp [];done)|(simp [];omega)) ?_
 refine AW.skip ?_
 simp
 repeat (refine And.intro (by omega) ?_)
 apply hK;clear hK K
 refine AW.seqK fun K hK=>?_
 have x1:=fun lv=>ixN hp lv s.1 h1.1 (by omega)
 have x2:=fun lv=>ixN hp lv s.2 h2.1 (by omega)
 have hr:stE p i s=if (p.nd s.2.toNat).f≠(p.nd s.1.toNat).f then 143 else if (List.range p.nn).any (fun j=>othB i (p.nd s.1.toNat).f (p.nd j)) then 143 else 0:=by
  unfold stE;rw [if_neg (not_not_intro h1),if_neg (not_not_intro h2)]
 generalize p.nd s.1.toNat=n1 at *
 generalize p.nd s.2.toNat=n2 at *
 refine AW.regionP rfl ?_
 simp [x1,setSeg]
 repeat (refine And.intro (by omega) ?_)
 apply hK;clear hK K
 refine AW.seqK fun K hK=>?_
 refine AW.regionP rfl ?_
 simp [mkfA,refL,refA,funA,deepRefs]
 repeat (refine And.intro (by omega) ?_)
 apply hK;clear hK K
 refine AW.seqK fun K hK=>?_
 refine AW.seqK fun K1 hK1=>?_
 by_cases h3:n2.f=n1.f
 ·have hc:=contO_ok (GG m) p hp (by omega) i n1.f
  refine AW.drawP mixed (by kernel_rfl) rfl ?_
  simp [x2,h3]
  refine CallDo.pass2 (T0:=3) (T1:=3) (cs0:=cI i) (cs1:=cI n1.f) 4 9 1 3 true [9] hc rfl rfl rfl (by simp) (by simp) (by decide) rfl rfl ?_ ?_ (by simp) ?_
  ·intro a b c
   have:a=0∨a=1:=by simp at b;omega
   rcases this with rfl|rfl
   ·exact⟨by simp,by simp⟩
   ·exact⟨rfl,rfl⟩
  ·intro a ha k hk
   exact rd_two p ha hk
  simp
  refine⟨by kernel_rfl,?_⟩
  repeat (refine And.intro (by omega) ?_)
  apply hK1;clear hK1 K1
  cases hs:(List.range p.nn).any (fun j=>othB i n1.f (p.nd j)) with
  | true=>
   have hr2:stE p i s=143:=by rw [hr,if_neg (not_not_intro h3),if_pos hs]
   refine AW.cond (b:=true) (by first|(simp [];done)|(simp [];omega)) ?_
   refine AW.seqK fun K1 hK1=>?_
   refine AW.regionP rfl ?_
   simp
   repeat (refine And.intro (by omega) ?_)
   apply hK1;clear hK1 K1
   exact AW.ret (κ:=0) (FinP.tmp (κ:=0) rfl 4 (by simp [hr2]) (by first|rfl|simp) (by first|rfl|simp) (by first|rfl|simp))
  | false=>
   have hr2:stE p i s=0:=by rw [hr,if_neg (not_not_intro h3),hs,if_neg (by decide)]
   refine AW.cond (b:=false) (by first|(simp [];done)|(simp [];omega)) ?_
   refine AW.skip ?_
   simp
   repeat (refine And.intro (by omega) ?_)
   apply hK;clear hK K
   refine AW.seqK fun K hK=>?_
   refine AW.regionP rfl ?_
   simp
   repeat (refine And.intro (by omega) ?_)
   apply hK;clear hK K
   exact AW.ret (κ:=0) (FinP.tmp (κ:=0) rfl 4 (by simp [hr2]) (by first|rfl|simp) (by first|rfl|simp) (by first|rfl|simp))
 ·have hr2:stE p i s=143:=by rw [hr,if_pos h3]
  refine AW.drawP mixed (by kernel_rfl) rfl ?_
  simp [x2,h3]
  refine⟨by kernel_rfl,?_⟩
  repeat (refine And.intro (by omega) ?_)
  apply hK1;clear hK1 K1
  refine AW.cond (b:=true) (by first|(simp [];done)|(simp [];omega)) ?_
  refine AW.seqK fun K1 hK1=>?_
  refine AW.regionP rfl ?_
  simp
  repeat (refine And.intro (by omega) ?_)
  apply hK1;clear hK1 K1
  exact AW.ret (κ:=0) (FinP.tmp (κ:=0) rfl 4 (by simp [hr2]) (by first|rfl|simp) (by first|rfl|simp) (by first|rfl|simp))
end Go.Am

namespace Go.Am
open Go.Am.Ty Go.Proofs N
def sD:Option (List (List DV))→DV
 | none=>.nilsl
 | some es=>.sl es
theorem scC_sD (o:Option (List (List DV))):scC o=.d (sD o):=by cases o <;> rfl
def PD.dcs (p:PD):List DV:=[sD p.f,.int .i64 p.mode,sD p.ins,sD p.nodes,.int .i64 p.head,.int .i64 p.tail,sD p.states,.int .i64 p.res]
theorem dcs_cs (p:PD):p.dcs.map CV.d=p.cs:=by simp [PD.dcs,scC_sD]
theorem dAV_prog (p:PD):dAV (.agg p.dcs)=p.A:=by show AV.agg (p.dcs.map CV.d)=_;rw [dcs_cs]
theorem deepL_cs (p:PD):deepL p.cs=some p.dcs:=by
 obtain⟨f,a,i,n,b,c,s,d⟩:=p
 cases f <;> cases i <;> cases n <;> cases s <;> rfl
theorem mkf_prog (p:PD)(f:FuncId):mkfA (.func f) [.agg [scC p.f,.d (.int .i64 p.mode),scC p.ins,scC p.nodes,.d (.int .i64 p.head),.d (.int .i64 p.tail),scC p.states,.d (.int .i64 p.res)]] []=some (.c (.d (.func (.func f) [.agg p.dcs] [])),[],[],True):=by
 have h:=deepL_cs p
 simp only [PD.cs] at h
 simp only [mkfA,refL,refA,h,funA,deepRefs]
 rfl
theorem b157 (a b:CV):buildA Tryz.prog 157 [0,1] [.c a,.c b]=some (.agg [a,b],[],[],True):=by kernel_rfl
theorem bs158 (lv:Key→LB)(κ:Key)(h:lv κ=.hole)(a b c d e f g i:CV):stepBuildSlice Tryz.prog 158 4 [0,1,2,3] lv κ [.agg [a,b],.agg [c,d],.agg [e,f],.agg [g,i]]=some (.c (.lsl κ 0 4 2),[(κ,.cells true false 157 [a,b,c,d,e,f,g,i])],[],True):=by
 unfold stepBuildSlice;rw [h];kernel_rfl
theorem b154 (p:PD):buildA Tryz.prog 154 [0] [.agg [scC p.f,.d (.int .i64 p.mode),scC p.ins,scC p.nodes,.d (.int .i64 p.head),.d (.int .i64 p.tail),scC p.states,.d (.int .i64 p.res)]]=some (.agg [scC p.f,.d (.int .i64 p.mode),scC p.ins,scC p.nodes,.d (.int .i64 p.head),.d (.int .i64 p.tail),scC p.states,.d (.int .i64 p.res)],[],[],True):=
 (show ∀ a b c d e f g h:CV,buildA Tryz.prog 154 [0] [.agg [a,b,c,d,e,f,g,h]]=some (.agg [a,b,c,d,e,f,g,h],[],[],True) from fun a b c d e f g h=>by kernel_rfl) _ _ _ _ _ _ _ _
def ptC (p:PD):List CV:=[.d (.int .i64 p.nf),.d (.func (.func 83) [.agg p.dcs] []),.d (.int .i64 p.ni),.d (.func (.func 84) [.agg p.dcs] []),.d (.int .i64 p.nn),.d (.func (.func 85) [.agg p.dcs] []),.d (.int .i64 p.ns),.d (.func (.func 86) [.agg p.dcs] [])]
@[simp] theorem ptC_ren (p:PD)(g:Key→Key):(ptC p).map (CV.ren g)=ptC p:=rfl
theorem ptC_load (p:PD)(k:Nat)(hk:k<4):loadA Tryz.prog 157 ((ptC p).drop (k*2))=some (.agg [.d (.int .i64 (partN p k)),.d (.func (.func (83+k)) [.agg p.dcs] [])]):=by
 have h:k=0∨k=1∨k=2∨k=3:=by omega
 rcases h with rfl|rfl|rfl|rfl <;> simp [ptC,partN]
theorem part_ok (m:Int)(p:PD)(hp:p.ok)(hg:genE p=0)(k:Nat)(hk:k<4)(i:Nat)(hi:i<partN p k):CallsP Tryz.prog (GG m) (83+k) [p.A,.c (.d (.int .i64 i))] (.c (.d (.int .i64 (partE p k i)))):=by
 have h:k=0∨k=1∨k=2∨k=3:=by omega
 have hr:=gen_rng hg
 rcases h with rfl|rfl|rfl|rfl
 ·exact format_ok _ p hp i hi
 ·exact input_ok m p hp i hi
 ·exact node_ok m p hp i hi (by omega)
 ·exact state_ok m p hp hg i hi
theorem part_fn (k:Nat)(hk:k<4):isFn Tryz.prog (83+k)=true:=by
 have h:k=0∨k=1∨k=2∨k=3:=by omega
 rcases h with rfl|rfl|rfl|rfl <;> simp
theorem part_le {p:PD}(hg:genE p=0) (k:Nat) (hk:k<4):partN p k≤64:=by
 have h:k=0∨k=1∨k=2∨k=3:=by omega
 have hr:=gen_rng hg
 rcases h with rfl|rfl|rfl|rfl <;> simp only [partN] <;> omega
set_option maxHeartbeats 4000000 in
theorem check_ok (m:Int)(p:PD)(hp:p.ok):CallsP Tryz.prog (GG m) 31 [p.A] (.tup [.c (.d (.int .i64 (chkV p).1)),.c (.d (.int .i64 (chkV p).2.1)),.c (.d (.int .i64 (chkV p).2.2))]):=by
 have hge:=general_ok (GG m) p
 have hbl:∀ lv (h:lv 2=.hole) (a b c d e f g i:CV),stepBuildSlice Tryz.prog 158 4 [0,1,2,3] lv 2 [.agg [a,b],.agg [c,d],.agg [e,f],.agg [g,i]]=some (.c (.lsl 2 0 4 2),[(2,.cells true false 157 [a,b,c,d,e,f,g,i])],[],True):=fun lv h=>bs158 lv 2 h
 by_cases hg:genE p=0
 rotate_left
 ·have hr:chkV p=(0,0,genE p):=by unfold chkV;rw [if_pos hg]
  rw [hr]
  refine CallsP.of_AW Go.Proofs.Tryz.func31 rfl (by rw [Tryz.ntmps31];simp) ?_
  rintro⟨_,_,w0,F0,W0,_,lv0,β0⟩ rfl rfl rfl
  refine AW.seqK fun K hK=>?_
  refine AW.regionP rfl ?_
  simp
  repeat (refine And.intro (by omega) ?_)
  apply hK;clear hK K
  refine AW.seqK fun K hK=>?_
  refine AW.regionP rfl ?_
  simp [b154,setSeg]
  repeat (refine And.intro (by omega) ?_)
  apply hK;clear hK K
  refine AW.seqK fun K hK=>?_
  refine AW.seqK fun K1 hK1=>?_
  refine AW.regionP rfl ?_
  simp
  refine CallDo.pure 2 9 (hge) (by first|(simp;done)|rfl) (by simp) (by first|rfl|simp) ?_
  simp
  repeat (refine And.intro (by omega) ?_)
  apply hK1;clear hK1 K1
  refine AW.seqK fun K1 hK1=>?_
  refine AW.regionP rfl ?_
  simp
  repeat (refine And.intro (by omega) ?_)
  apply hK1;clear hK1 K1
  refine AW.cond (b:=true) (by first|(simp [hg];done)|(simp [hg];omega)) ?_
  refine AW.seqK fun K1 hK1=>?_
  refine AW.regionP rfl ?_
  simp
  repeat (refine And.intro (by omega) ?_)
  apply hK1;clear hK1 K1
  exact AW.ret (κ:=0) (FinP.tmp3 (κ:=0) rfl 9 (by simp) (by simp) (by simp) rfl rfl rfl rfl rfl rfl rfl (by decide) (by decide) (by decide))
 have hr:chkV p=partsV p 4 0:=by unfold chkV;rw [if_neg (not_not_intro hg)]
 rw [hr]
 rw [hg] at hge
 have hwi:=within_ok (GG m) p.res p.nn
 have hse:=section_ok (GG m) p p.res
 refine CallsP.of_AW0 Go.Proofs.Tryz.func31 rfl (by rw [Tryz.ntmps31];simp)  ?_
 rintro⟨_,_,w0,F0,W0,_,lv0,β0⟩ rfl rfl rfl rfl
 refine AW.seqK fun K hK=>?_
 refine AW.regionP rfl ?_
 simp
 repeat (refine And.intro (by omega) ?_)
 apply hK;clear hK K
 refine AW.seqK fun K hK=>?_
 refine AW.regionP rfl ?_
 simp [b154,setSeg]
 repeat (refine And.intro (by omega) ?_)
 apply hK;clear hK K
 refine AW.seqK fun K hK=>?_
 refine AW.seqK fun K1 hK1=>?_
 refine AW.regionP rfl ?_
 simp
 refine CallDo.pure 2 9 (hge) (by first|(simp;done)|rfl) (by simp) (by first|rfl|simp) ?_
 simp
 repeat (refine And.intro (by omega) ?_)
 apply hK1;clear hK1 K1
 refine AW.seqK fun K1 hK1=>?_
 refine AW.regionP rfl ?_
 simp
 repeat (refine And.intro (by omega) ?_)
 apply hK1;clear hK1 K1
 refine AW.cond (b:=false) (by first|(simp [];done)|(simp [];omega)) ?_
 refine AW.skip ?_
 simp
 repeat (refine And.intro (by omega) ?_)
 apply hK;clear hK K
 refine AW.seqK fun K hK=>?_
 refine AW.regionP rfl ?_
 simp [lpF,lpI,lpNn,lpS,mkf_prog,b157,hbl,-stepBuildSlice]
 repeat (refine And.intro (by omega) ?_)
 apply hK;clear hK K
 refine AW.seqK fun K hK=>?_
 refine AW.seqK fun K1 hK1=>?_
 refine AW.regionP rfl ?_
 simp
 repeat (refine And.intro (by omega) ?_)
 apply hK1;clear hK1 K1
 refine AW.block ?_
 refine AW.loopV (fun (k:Nat)=>⟨frOf [(1,.c (.ptr 0 0)),(5,.c (.ptr 1 0)),(44,.c (.lsl 2 0 4 2)),(45,.c (.d (.int .i64 4))),(46,.c (.d (.int .i64 k)))],
  upd (upd (upd (fun _=>.hole) 0 (.cells true false 27 p.cs)) 1 (.cells true false 154 p.cs)) 2 (.cells true false 157 (ptC p))⟩) 3
  (fun k=>k≤4∧partsV p (4 - k) k=partsV p 4 0) (fun k=>4 - k) 0 (Le.mk' _ (by simp [ptC]) (by repeat (first|exact noMap_hole|refine noMap_upd ?_ _ _ _ _ _|(refine noMap_upd_dead ?_ _)|(refine noMap_blS ?_ _ _ _)|(refine noMap_upd_nils ?_ _)|simp)) (by simp)) ⟨by omega,rfl⟩ ?_
 rintro k ⟨hk,hpv⟩
 try simp only at hk hpv
 refine AW.seqK fun K3 hK3=>?_
 refine AW.regionP rfl ?_
 simp
 repeat (refine And.intro (by omega) ?_)
 apply hK3;clear hK3 K3
 refine AW.seqK fun K2 hK2=>?_
 by_cases hlt:k<4
 ·have hlt':(k:Int)<4:=by omega
  have hld:=ptC_load p k hlt
  have hle:=part_le hg k hlt
  have hfn:=part_fn k hlt
  have hca:=part_ok m p hp hg k hlt
  have hstep:∀ i,i<partN p k→partE p k i≠0→(∀ j,j<i→partE p k j=0)→partsV p 4 0=((k:Int)+1,(i:Int),partE p k i):=by
   intro i hi h0 h1
   rw [← hpv,show 4 - k=(4 - (k+1))+1 by omega]
   show (match firstE (partE p k) (partN p k) with|some i=>((k:Int)+1,(i:Int),partE p k i)|none=>partsV p (4 - (k+1)) (k+1))=_
   rw [firstE_some hi h0 h1]
  have hnext:(∀ j,j<partN p k→partE p k j=0)→partsV p (4 - (k+1)) (k+1)=partsV p 4 0:=by
   intro h1
   rw [← hpv,show 4 - k=(4 - (k+1))+1 by omega]
   show _=(match firstE (partE p k) (partN p k) with|some i=>((k:Int)+1,(i:Int),partE p k i)|none=>partsV p (4 - (k+1)) (k+1))
   rw [firstE_none h1]
  generalize partN p k=N at *
  generalize partE p k=E at *
  refine AW.cond (b:=true) (by first|(simp [hlt'];done)|(simp [hlt'];omega)) ?_
  refine AW.skip ?_
  simp
  repeat (refine And.intro (by omega) ?_)
  apply hK2
  refine AW.seqK fun K3 hK3=>?_
  refine AW.block ?_
  refine AW.seqK fun K4 hK4=>?_
  refine AW.regionP rfl ?_
  simp [hlt',hld,setSeg,-loadA_agg]
  repeat (refine And.intro (by omega) ?_)
  apply hK4;clear hK4 K4
  refine AW.seqK fun K4 hK4=>?_
  refine AW.regionP rfl ?_
  simp
  repeat (refine And.intro (by omega) ?_)
  apply hK4;clear hK4 K4
  refine AW.block ?_
  refine AW.loopV (fun (i:Nat)=>⟨frOf [(1,.c (.ptr 0 0)),(5,.c (.ptr 1 0)),(8,.c (.d (.int .i64 k))),(9,.c (.ptr 3 0)),(44,.c (.lsl 2 0 4 2)),(45,.c (.d (.int .i64 4))),(46,.c (.d (.int .i64 k))),(52,.c (.d (.int .i64 N))),(53,.c (.d (.int .i64 i)))],
   upd (upd (upd (upd (fun _=>.hole) 0 (.cells true false 27 p.cs)) 1 (.cells true false 154 p.cs)) 2 (.cells true false 157 (ptC p))) 3 (.cells true false 157 [.d (.int .i64 N),.d (.func (.func (83+k)) [.agg p.dcs] [])])⟩) 4
   (fun i=>i≤N∧∀ j,j<i→E j=0) (fun i=>N - i) 0 (Le.mk' _ (by simp [setSeg]) (by repeat (first|exact noMap_hole|refine noMap_upd ?_ _ _ _ _ _|(refine noMap_upd_dead ?_ _)|(refine noMap_blS ?_ _ _ _)|(refine noMap_upd_nils ?_ _)|simp)) (by simp)) ⟨by omega,fun j hj=>absurd hj (Nat.not_lt_zero j)⟩ ?_
  rintro i ⟨hi,hall⟩
  try simp only at hi hall
  refine AW.seqK fun K5 hK5=>?_
  refine AW.regionP rfl ?_
  simp
  repeat (refine And.intro (by omega) ?_)
  apply hK5;clear hK5 K5
  refine AW.seqK fun K6 hK6=>?_
  by_cases hlt2:i<N
  ·have hlt2':(i:Int)<(N:Int):=by omega
   have hc:=hca i hlt2
   refine AW.cond (b:=true) (by first|(simp [hlt2'];done)|(simp [hlt2'];omega)) ?_
   refine AW.skip ?_
   simp
   repeat (refine And.intro (by omega) ?_)
   apply hK6
   refine AW.seqK fun K7 hK7=>?_
   refine AW.block ?_
   refine AW.seqK fun K8 hK8=>?_
   refine AW.regionP rfl ?_
   simp
   repeat (refine And.intro (by omega) ?_)
   apply hK8;clear hK8 K8
   refine AW.seqK fun K8 hK8=>?_
   refine AW.regionP rfl ?_
   simp [callTgt_d,callP_gen,dAV_prog,hfn]
   refine CallDo.pure 4 9 (hc) (by first|(simp;done)|rfl) (by simp) (by first|rfl|simp) ?_
   simp
   repeat (refine And.intro (by omega) ?_)
   apply hK8;clear hK8 K8
   refine AW.seqK fun K8 hK8=>?_
   refine AW.regionP rfl ?_
   simp
   repeat (refine And.intro (by omega) ?_)
   apply hK8;clear hK8 K8
   by_cases h0:E i=0
   ·refine AW.cond (b:=false) (by first|(simp [h0];done)|(simp [h0];omega)) ?_
    refine AW.skip ?_
    simp
    repeat (refine And.intro (by omega) ?_)
    apply hK7
    have f12:=w64 (n:=(i:Int)+1) (by omega) (by omega)
    refine AW.regionP rfl ?_
    simp [f12]
    refine⟨i+1,Le.mk' _ (by simp) (by repeat (first|exact noMap_hole|refine noMap_upd ?_ _ _ _ _ _|(refine noMap_upd_dead ?_ _)|(refine noMap_blS ?_ _ _ _)|(refine noMap_upd_nils ?_ _)|simp)) (by simp),⟨by omega,fun j hj=>?_⟩,by omega⟩
    by_cases hji:j=i
    ·subst hji;exact h0
    ·exact hall j (by omega)
   ·have hres:=hstep i hlt2 h0 hall
    have f12:=w64 (n:=(k:Int)+1) (by omega) (by omega)
    refine AW.cond (b:=true) (by first|(simp [h0];done)|(simp [h0];omega)) ?_
    refine AW.seqK fun K8 hK8=>?_
    refine AW.regionP rfl ?_
    simp [f12]
    repeat (refine And.intro (by omega) ?_)
    apply hK8;clear hK8 K8
    exact AW.ret (κ:=0) (FinP.tmp3 (κ:=0) rfl 9 (by simp [hres]) (by simp [hres]) (by simp [hres]) rfl rfl rfl (by simp) rfl rfl rfl (by decide) (by decide) (by decide))
  ·have hlt2':¬ (i:Int)<(N:Int):=by omega
   refine AW.cond (b:=false) (by first|(simp [hlt2'];done)|(simp [hlt2'];omega)) ?_
   refine AW.exit ?_
   simp
   repeat (refine And.intro (by omega) ?_)
   apply hK3
   have f12:=w64 (n:=(k:Int)+1) (by omega) (by omega)
   refine AW.regionP rfl ?_
   simp [f12]
   exact⟨k+1,(Le.drop [3]  9 _ rfl (by intro k hk;simp at hk;subst hk;simp [upd]) (by intro k hk;simp at hk;simp only [upd];(repeat (any_goals split)) <;> simp_all) (by simp [upd]) (by repeat (first|exact noMap_hole|refine noMap_upd ?_ _ _ _ _ _|(refine noMap_upd_dead ?_ _)|(refine noMap_blS ?_ _ _ _)|(refine noMap_upd_nils ?_ _)|simp)) (by repeat (first|exact OffL_hole|refine OffL_upd ?_ (by simp [drG]))) (by simp [drG])),⟨by omega,hnext fun j hj=>hall j (by omega)⟩,by omega⟩
 ·have hlt':¬ (k:Int)<4:=by omega
  have hk4:k=4:=by omega
  subst hk4
  have hfin:partsV p 4 0=if 0≤p.res∧p.res<p.nn∧secI p p.res≠1 then (0,0,0) else (5,0,7):=by rw [← hpv];rfl
  refine AW.cond (b:=false) (by first|(simp [hlt'];done)|(simp [hlt'];omega)) ?_
  refine AW.exit ?_
  simp
  repeat (refine And.intro (by omega) ?_)
  apply hK
  refine AW.seqK fun K hK=>?_
  refine AW.seqK fun K1 hK1=>?_
  by_cases h1:0≤p.res∧p.res<p.nn
  rotate_left
  ·have hd:decide (0≤p.res∧p.res<(p.nn:Int))=false:=decide_eq_false h1
   have hres:partsV p 4 0=(5,0,7):=by rw [hfin,if_neg (fun h=>h1 ⟨h.1,h.2.1⟩)]
   rw [hd] at hwi
   refine AW.regionP rfl ?_
   simp [lpNn]
   refine CallDo.pure 3 9 (hwi) (by first|(simp;done)|rfl) (by simp) (by first|rfl|simp) ?_
   simp
   repeat (refine And.intro (by omega) ?_)
   apply hK1;clear hK1 K1
   refine AW.cond (b:=true) (by first|(simp [];done)|(simp [];omega)) ?_
   refine AW.seqK fun K1 hK1=>?_
   refine AW.regionP rfl ?_
   simp
   repeat (refine And.intro (by omega) ?_)
   apply hK1;clear hK1 K1
   exact AW.ret (κ:=0) (FinP.tmp3 (κ:=0) rfl 9 (by simp [hres]) (by simp [hres]) (by simp [hres]) rfl rfl rfl (by simp) rfl rfl rfl (by decide) (by decide) (by decide))
  have hd:decide (0≤p.res∧p.res<(p.nn:Int))=true:=decide_eq_true h1
  rw [hd] at hwi
  by_cases h2:secI p p.res=1
  ·have hres:partsV p 4 0=(5,0,7):=by rw [hfin,if_neg (fun h=>h.2.2 h2)]
   rw [h2] at hse
   refine AW.regionP rfl ?_
   simp [lpNn]
   refine CallDo.pure 3 9 (hwi) (by first|(simp;done)|rfl) (by simp) (by first|rfl|simp) ?_
   simp
   refine CallDo.pure 3 9 (hse) (by first|(simp;done)|rfl) (by simp) (by first|rfl|simp) ?_
   simp
   repeat (refine And.intro (by omega) ?_)
   apply hK1;clear hK1 K1
   refine AW.cond (b:=true) (by first|(simp [];done)|(simp [];omega)) ?_
   refine AW.seqK fun K1 hK1=>?_
   refine AW.regionP rfl ?_
   simp
   repeat (refine And.intro (by omega) ?_)
   apply hK1;clear hK1 K1
   exact AW.ret (κ:=0) (FinP.tmp3 (κ:=0) rfl 9 (by simp [hres]) (by simp [hres]) (by simp [hres]) rfl rfl rfl (by simp) rfl rfl rfl (by decide) (by decide) (by decide))
  ·have hres:partsV p 4 0=(0,0,0):=by rw [hfin,if_pos ⟨h1.1,h1.2,h2⟩]
   refine AW.regionP rfl ?_
   simp [lpNn]
   refine CallDo.pure 3 9 (hwi) (by first|(simp;done)|rfl) (by simp) (by first|rfl|simp) ?_
   simp
   refine CallDo.pure 3 9 (hse) (by first|(simp;done)|rfl) (by simp) (by first|rfl|simp) ?_
   simp [h2]
   repeat (refine And.intro (by omega) ?_)
   apply hK1;clear hK1 K1
   refine AW.cond (b:=false) (by first|(simp [h2];done)|(simp [h2];omega)) ?_
   refine AW.skip ?_
   simp
   repeat (refine And.intro (by omega) ?_)
   apply hK;clear hK K
   refine AW.seqK fun K hK=>?_
   refine AW.regionP rfl ?_
   simp
   repeat (refine And.intro (by omega) ?_)
   apply hK;clear hK K
   exact AW.ret (κ:=0) (FinP.tmp3 (κ:=0) rfl 9 (by simp [hres]) (by simp [hres]) (by simp [hres]) rfl rfl rfl (by simp) rfl rfl rfl (by decide) (by decide) (by decide))
end Go.Am

namespace Go.Am
open Go.Am.Ty Go.Proofs N
theorem valid_ok (m:Int)(p:PD)(hp:p.ok):CallsP Tryz.prog (GG m) 45 [p.A] (.c (.d (.int .i64 (chkV p).2.2))):=by
 have h:=check_ok m p hp
 generalize chkV p=v at *
 refine CallsP.of_AW Go.Proofs.Tryz.func45 rfl (by rw [Tryz.ntmps45];simp) ?_
 rintro⟨_,_,w0,F0,W0,_,lv0,β0⟩ rfl rfl rfl
 refine AW.seqK fun K hK=>?_
 refine AW.regionP rfl ?_
 simp
 repeat (refine And.intro (by omega) ?_)
 apply hK;clear hK K
 refine AW.seqK fun K hK=>?_
 refine AW.regionP rfl ?_
 simp
 refine CallDo.pure 1 9 (h) (by first|(simp;done)|rfl) (by simp) (by first|rfl|simp) ?_
 simp
 repeat (refine And.intro (by omega) ?_)
 apply hK;clear hK K
 refine AW.seqK fun K hK=>?_
 refine AW.regionP rfl ?_
 simp
 repeat (refine And.intro (by omega) ?_)
 apply hK;clear hK K
 exact AW.ret (κ:=0) (FinP.tmp (κ:=0) rfl 2 (by simp []) (by first|rfl|simp) (by first|rfl|simp) (by first|rfl|simp))
@[simp] theorem blS_ren (E:TypeId)(o:Option (List (List DV)))(g:Key→Key):(blS E o).ren g=blS E o:=by
 cases o with
 | none=>rfl
 | some es=>simp only [blS,LB.ren_cells,flat_ren]
@[simp] theorem blS_fix (E:TypeId)(o:Option (List (List DV)))(b:Bool):(blS E o).fix b=blS E o:=by cases o <;> rfl
theorem blS_ne (E:TypeId)(o:Option (List (List DV))):blS E o≠.hole:=by cases o <;> (intro h;cases h)
theorem blS_as (E:TypeId)(o:Option (List (List DV)))(g:Key→Key):(blS E o).like (blS E o) g:=by
 cases o with
 | none=>rfl
 | some es=>exact flat_like E es g
abbrev lP (p:PD)(a b c d:Key):List CV:=[.lsl a 0 p.nf 2,.d (.int .i64 p.mode),.lsl b 0 p.ni 3,.lsl c 0 p.nn 7,.d (.int .i64 p.head),.d (.int .i64 p.tail),.lsl d 0 p.ns 2,.d (.int .i64 p.res)]
structure PD.tiny (p:PD):Prop where
 f:p.nf≤1000
 i:p.ni≤1000
 n:p.nn≤1000
 s:p.ns≤1000
theorem load27 (a b c d e f g h:CV):loadA Tryz.prog 27 [a,b,c,d,e,f,g,h]=some (.agg [a,b,c,d,e,f,g,h]):=by kernel_rfl
set_option maxHeartbeats 2000000 in
theorem cloneP_ok (G:List (List DV))(p:PD)(hp:p.ok)(ht:p.tiny):CallsS Tryz.prog G 78 [p.A] [] (.ret (.agg (lP p 1000 1001 1002 1003)) [] [blS 81 p.f,blS 67 p.ins,blS 55 p.nodes,blS 69 p.states]):=by
 have c1:=cloneN47_ok G p.f (fun e he=>is2_len (hp.f e he)) (Nat.le_trans ht.f (by decide))
 have c2:=cloneN48_ok G p.ins (fun e he=>is3_len (hp.ins e he)) (Nat.le_trans ht.i (by decide))
 have c3:=cloneN156_ok G p.nodes (fun e he=>is7_len (hp.nodes e he)) (Nat.le_trans ht.n (by decide))
 have c4:=cloneN157_ok G p.states (fun e he=>is2_len (hp.states e he)) (Nat.le_trans ht.s (by decide))
 refine CallsS.of_AWn Go.Proofs.Tryz.func78 rfl (by rw [Tryz.ntmps78];simp)  ?_
 rintro⟨_,_,w0,F0,W0,_,lv0,β0⟩ rfl rfl rfl rfl
 refine AW.seqK fun K hK=>?_
 refine AW.regionP rfl ?_
 simp
 repeat (refine And.intro (by omega) ?_)
 apply hK;clear hK K
 refine AW.seqK fun K hK=>?_
 refine AW.drawP mixed (by kernel_rfl) rfl ?_
 simp
 refine CallDo.newN 3 19 [2] [blS 81 p.f] c1 (by simp) (by simp) (by simp) rfl (by simp) (by simp) (by simp [blS_ne]) ?_
 simp [backW,keyMap]
 refine CallDo.newN 4 19 [3] [blS 67 p.ins] c2 (by simp) (by simp) (by simp) rfl (by simp) (by simp) (by simp [blS_ne]) ?_
 simp [backW,keyMap,setSeg]
 refine⟨by kernel_rfl,?_⟩
 repeat (refine And.intro (by omega) ?_)
 apply hK;clear hK K
 refine AW.seqK fun K hK=>?_
 refine AW.drawP mixed (by kernel_rfl) rfl ?_
 simp
 refine CallDo.newN 5 19 [4] [blS 55 p.nodes] c3 (by simp) (by simp) (by simp) rfl (by simp) (by simp) (by simp [blS_ne]) ?_
 simp [backW,keyMap]
 refine CallDo.newN 6 19 [5] [blS 69 p.states] c4 (by simp) (by simp) (by simp) rfl (by simp) (by simp) (by simp [blS_ne]) ?_
 simp [backW,keyMap,setSeg]
 refine⟨by kernel_rfl,?_⟩
 repeat (refine And.intro (by omega) ?_)
 apply hK;clear hK K
 refine AW.seqK fun K hK=>?_
 refine AW.regionP rfl ?_
 simp
 repeat (refine And.intro (by omega) ?_)
 apply hK;clear hK K
 refine AW.ret (κ:=0) ⟨[(1000,2,blS 81 p.f),(1001,3,blS 67 p.ins),(1002,4,blS 55 p.nodes),(1003,5,blS 69 p.states)],19,lvOf_n4 _ _ _ _,by simp,by simp,by simp,?_,rfl,?_⟩
 ·simp [blS_as]
 ·show resA _ _ [.cell 2 27]=_
  simp [resA,resL,resV,kmap,setSeg,PD.nf,PD.ni,PD.nn,PD.ns]
theorem CallsP.of_new {P:Program}{G:List (List DV)}{f:FuncId}{us:List AV}{X x:AV}{ν:List LB}{ks:List Key}(h:CallsS P G f us [] (.ret X [] ν)) (hd:dRes (lvOf [] ν) X=some (x,ks)):CallsP P G f us x:=by
 refine CallsP.of_CallG (lv':=lvOf [] ν) (fun F β w vs hS hl hv=>?_) hd
 have hlv:lvOf [] []=fun _=>LB.hole:=lvOf_nil'
 have h2:=h F β w vs (by rw [hlv];exact hS) hl (by rw [hlv];exact hv)
 refine h2.mono fun e w' he=>?_
 obtain⟨v,F',β',h3,h4,h5⟩:=he
 exact⟨v,F',β',h3,by rw [hlv] at h4;exact h4,h5⟩
theorem toDV_blS {lv:Key→LB}{k:Key}{E:TypeId}{o:Option (List (List DV))}{sz n:Nat}(h:lv k=blS E o) (hs:∀ e∈sO o,e.length=sz) (hl:(sO o).length≤1000) :
 toDV lv (n+1) (.lsl k 0 (sO o).length sz)=some (sD o,if o.isSome then [k] else []):=by
 cases o with
 | none=>simp only [blS] at h;simp only [toDV,h];rfl
 | some es=>
  simp only [blS] at h
  have hs:∀ e∈es,e.length=sz:=hs
  have hl:es.length≤1000:=hl
  have h1:=dRes_sl (sz:=sz) h hs (by omega)
  show toDV lv (n+1) (.lsl k 0 es.length sz)=some (.sl es,[k])
  have hlen:es.flatten.length=es.length*sz:=by
   rw [List.length_flatten]
   have:∀ l:List (List DV),(∀ e∈l,e.length=sz)→(l.map List.length).sum=l.length*sz:=by
    intro l
    induction l with
    | nil=>intro _;simp
    | cons a l ih=>intro h;simp [ih fun x hx=>h x (by simp [hx]),h a (by simp),Nat.succ_mul];omega
   exact this es hs
  have ht:(es.flatten.map CV.d).take (es.length*sz)=es.flatten.map CV.d:=List.take_of_length_le (by rw [List.length_map,hlen];exact Nat.le_refl _)
  have hl2:es.length≤9223372036854775807:=by omega
  simp only [toDV,h,List.length_map,hlen,Nat.zero_add,Nat.le_refl,hl2,and_self,if_true,List.drop_zero,ht,toDVs_d,Option.map_some,chunk_flat es hs]
theorem dRes_prog {lv:Key→LB}{p:PD}{a b c d:Key}(hp:p.ok) (ht:p.tiny) (h1:lv a=blS 81 p.f) (h2:lv b=blS 67 p.ins) (h3:lv c=blS 55 p.nodes) (h4:lv d=blS 69 p.states) :
 dArg lv (.agg (lP p a b c d))=some (p.A,(if p.f.isSome then [a] else [])++((if p.ins.isSome then [b] else [])++((if p.nodes.isSome then [c] else [])++(if p.states.isSome then [d] else [])))):=by
 have e1:=toDV_blS (n:=7) h1 (fun e he=>is2_len (hp.f e he)) ht.f
 have e2:=toDV_blS (n:=7) h2 (fun e he=>is3_len (hp.ins e he)) ht.i
 have e3:=toDV_blS (n:=7) h3 (fun e he=>is7_len (hp.nodes e he)) ht.n
 have e4:=toDV_blS (n:=7) h4 (fun e he=>is2_len (hp.states e he)) ht.s
 have f1:∀ n:Int,toDV lv 8 (.d (.int .i64 n))=some (.int .i64 n,[]):=fun n=>rfl
 simp only [dArg,PD.nf,PD.ni,PD.nn,PD.ns,toDVs,e1,e2,e3,e4,f1,Option.map_some,List.append_nil,List.nil_append]
 show some (AV.agg (p.dcs.map CV.d),_)=_
 rw [dcs_cs]
theorem cloneD_ok (G:List (List DV))(p:PD)(hp:p.ok)(ht:p.tiny):CallsP Tryz.prog G 78 [p.A] p.A:=
 CallsP.of_new (cloneP_ok G p hp ht) (dRes_prog hp ht (by rw [lvOf_n4];simp) (by rw [lvOf_n4];simp) (by rw [lvOf_n4];simp) (by rw [lvOf_n4];simp))
def pd0:PD:=⟨none,0,none,none,0,0,none,0⟩
theorem b27:buildA Tryz.prog 27 [] []=some (.agg pd0.cs,[],[],True):=by kernel_rfl
theorem dRes_pd (lv:Key→LB)(p:PD)(n:Int):dRes lv (.tup [p.A,.c (.d (.int .i64 n))])=some (.tup [p.A,.c (.d (.int .i64 n))],[]):=by
 obtain⟨f,a,i,nn,b,c,s,d⟩:=p
 cases f <;> cases i <;> cases nn <;> cases s <;> rfl
@[simp] theorem PD.tpure (p:PD)(n:Int):(AV.tup [.agg [scC p.f,.d (.int .i64 p.mode),scC p.ins,scC p.nodes,.d (.int .i64 p.head),.d (.int .i64 p.tail),scC p.states,.d (.int .i64 p.res)],.c (.d (.int .i64 n))]).pure=true:=by
 obtain⟨f,a,i,nn,b,c,s,d⟩:=p
 cases f <;> cases i <;> cases nn <;> cases s <;> rfl
theorem chk_gen {p:PD}(h:(chkV p).2.2=0):genE p=0:=by
 unfold chkV at h
 by_cases hg:genE p=0
 ·exact hg
 ·rw [if_pos hg] at h;exact absurd h hg
theorem chk_tiny {p:PD}(h:(chkV p).2.2=0):p.tiny:=by
 have:=gen_rng (chk_gen h)
 exact⟨by omega,by omega,by omega,by omega⟩
def chgV (p:PD):PD:=if (chkV p).2.2=0 then p else pd0
theorem changed_ok (m:Int)(p:PD)(hp:p.ok):CallsP Tryz.prog (GG m) 105 [p.A] (.tup [(chgV p).A,.c (.d (.int .i64 (chkV p).2.2))]):=by
 have h:=valid_ok m p hp
 by_cases h0:(chkV p).2.2=0
 ·have e:chgV p=p:=if_pos h0
  rw [e]
  rw [h0] at h ⊢
  refine CallsP.of_AWc Go.Proofs.Tryz.func105 rfl (by rw [Tryz.ntmps105];simp) (fun lv=>dRes_pd lv _ _) ?_
  rintro⟨_,_,w0,F0,W0,_,lv0,β0⟩ rfl rfl rfl
  refine AW.seqK fun K hK=>?_
  refine AW.regionP rfl ?_
  simp
  repeat (refine And.intro (by omega) ?_)
  apply hK;clear hK K
  refine AW.seqK fun K hK=>?_
  refine AW.seqK fun K1 hK1=>?_
  refine AW.regionP rfl ?_
  simp
  refine CallDo.pure 2 9 (h) (by first|(simp;done)|rfl) (by simp) (by first|rfl|simp) ?_
  simp
  repeat (refine And.intro (by omega) ?_)
  apply hK1;clear hK1 K1
  refine AW.seqK fun K1 hK1=>?_
  refine AW.regionP rfl ?_
  simp
  repeat (refine And.intro (by omega) ?_)
  apply hK1;clear hK1 K1
  refine AW.cond (b:=false) (by first|(simp [];done)|(simp [];omega)) ?_
  refine AW.skip ?_
  simp
  repeat (refine And.intro (by omega) ?_)
  apply hK;clear hK K
  refine AW.seqK fun K hK=>?_
  refine AW.regionP rfl ?_
  simp
  repeat (refine And.intro (by omega) ?_)
  apply hK;clear hK K
  refine AW.ret ?_
  refine FinC.cell2 (κ:=0) (T:=27) (t:=2) (u:=3) (k:=1) (off:=0) (own:=true) (fz:=false) (U:=27) (cs:=p.cs) rfl ?_ ?_ ?_ ?_ rfl rfl
  ·simp
  ·simp [setSeg]
  ·rw [List.drop_zero];exact load27 ..
  ·simp
 ·have e:chgV p=pd0:=if_neg h0
  rw [e]
  refine CallsP.of_AWc Go.Proofs.Tryz.func105 rfl (by rw [Tryz.ntmps105];simp) (fun lv=>dRes_pd lv _ _) ?_
  rintro⟨_,_,w0,F0,W0,_,lv0,β0⟩ rfl rfl rfl
  refine AW.seqK fun K hK=>?_
  refine AW.regionP rfl ?_
  simp
  repeat (refine And.intro (by omega) ?_)
  apply hK;clear hK K
  refine AW.seqK fun K hK=>?_
  refine AW.seqK fun K1 hK1=>?_
  refine AW.regionP rfl ?_
  simp
  refine CallDo.pure 2 9 (h) (by first|(simp;done)|rfl) (by simp) (by first|rfl|simp) ?_
  simp [h0]
  repeat (refine And.intro (by omega) ?_)
  apply hK1;clear hK1 K1
  refine AW.seqK fun K1 hK1=>?_
  refine AW.regionP rfl ?_
  simp
  repeat (refine And.intro (by omega) ?_)
  apply hK1;clear hK1 K1
  refine AW.cond (b:=true) (by first|(simp [h0];done)|(simp [h0];omega)) ?_
  refine AW.seqK fun K1 hK1=>?_
  refine AW.regionP rfl ?_
  simp [b27]
  repeat (refine And.intro (by omega) ?_)
  apply hK1;clear hK1 K1
  refine AW.ret ?_
  refine FinC.cell2 (κ:=0) (T:=27) (t:=2) (u:=3) (k:=1) (off:=0) (own:=true) (fz:=false) (U:=27) (cs:=pd0.cs) rfl ?_ ?_ ?_ ?_ rfl rfl
  ·simp
  ·simp [setSeg]
  ·rw [List.drop_zero];exact load27 ..
  ·simp
def PD.setRes (p:PD)(n:Int):PD:=⟨p.f,p.mode,p.ins,p.nodes,p.head,p.tail,p.states,n⟩
def subV (p:PD)(n:Int):PD × Int:=if (chkV p).2.2≠0 then (pd0,(chkV p).2.2) else if 0≤n∧n<p.nn∧secI p n≠1 then (p.setRes n,0) else (pd0,7)
set_option maxHeartbeats 2000000 in
theorem sub_ok (m:Int)(p:PD)(hp:p.ok)(n:Int):CallsP Tryz.prog (GG m) 39 [p.A,.c (.d (.int .i64 n))] (.tup [(subV p n).1.A,.c (.d (.int .i64 (subV p n).2))]):=by
 have h:=valid_ok m p hp
 by_cases h0:(chkV p).2.2=0
 rotate_left
 ·have e:subV p n=(pd0,(chkV p).2.2):=if_pos h0
  rw [e]
  refine CallsP.of_AWc Go.Proofs.Tryz.func39 rfl (by rw [Tryz.ntmps39];simp) (fun lv=>dRes_pd lv _ _) ?_
  rintro⟨_,_,w0,F0,W0,_,lv0,β0⟩ rfl rfl rfl
  refine AW.seqK fun K hK=>?_
  refine AW.regionP rfl ?_
  simp
  repeat (refine And.intro (by omega) ?_)
  apply hK;clear hK K
  refine AW.seqK fun K hK=>?_
  refine AW.seqK fun K1 hK1=>?_
  refine AW.regionP rfl ?_
  simp
  refine CallDo.pure 2 9 (h) (by first|(simp;done)|rfl) (by simp) (by first|rfl|simp) ?_
  simp [h0]
  repeat (refine And.intro (by omega) ?_)
  apply hK1;clear hK1 K1
  refine AW.seqK fun K1 hK1=>?_
  refine AW.regionP rfl ?_
  simp
  repeat (refine And.intro (by omega) ?_)
  apply hK1;clear hK1 K1
  refine AW.cond (b:=true) (by first|(simp [h0];done)|(simp [h0];omega)) ?_
  refine AW.seqK fun K1 hK1=>?_
  refine AW.regionP rfl ?_
  simp [b27]
  repeat (refine And.intro (by omega) ?_)
  apply hK1;clear hK1 K1
  refine AW.ret ?_
  refine FinC.cell2 (κ:=0) (T:=27) (t:=4) (u:=5) (k:=1) (off:=0) (own:=true) (fz:=false) (U:=27) (cs:=pd0.cs) rfl ?_ ?_ ?_ ?_ rfl rfl
  ·simp
  ·simp [setSeg]
  ·rw [List.drop_zero];exact load27 ..
  ·simp
 have ht:=chk_tiny h0
 have hcl:=cloneD_ok (GG m) p hp ht
 have hwi:=within_ok (GG m) n p.nn
 have hse:=section_ok (GG m) p n
 rw [h0] at h
 have e0:subV p n=if 0≤n∧n<p.nn∧secI p n≠1 then (p.setRes n,0) else (pd0,7):=if_neg (not_not_intro h0)
 by_cases h1:0≤n∧n<p.nn
 rotate_left
 ·have e:subV p n=(pd0,7):=by rw [e0,if_neg (fun h=>h1 ⟨h.1,h.2.1⟩)]
  have hd:decide (0≤n∧n<(p.nn:Int))=false:=decide_eq_false h1
  rw [hd] at hwi
  rw [e]
  refine CallsP.of_AWc Go.Proofs.Tryz.func39 rfl (by rw [Tryz.ntmps39];simp) (fun lv=>dRes_pd lv _ _) ?_
  rintro⟨_,_,w0,F0,W0,_,lv0,β0⟩ rfl rfl rfl
  refine AW.seqK fun K hK=>?_
  refine AW.regionP rfl ?_
  simp
  repeat (refine And.intro (by omega) ?_)
  apply hK;clear hK K
  refine AW.seqK fun K hK=>?_
  refine AW.seqK fun K1 hK1=>?_
  refine AW.regionP rfl ?_
  simp
  refine CallDo.pure 2 9 (h) (by first|(simp;done)|rfl) (by simp) (by first|rfl|simp) ?_
  simp
  repeat (refine And.intro (by omega) ?_)
  apply hK1;clear hK1 K1
  refine AW.seqK fun K1 hK1=>?_
  refine AW.regionP rfl ?_
  simp
  repeat (refine And.intro (by omega) ?_)
  apply hK1;clear hK1 K1
  refine AW.cond (b:=false) (by first|(simp [];done)|(simp [];omega)) ?_
  refine AW.skip ?_
  simp
  repeat (refine And.intro (by omega) ?_)
  apply hK;clear hK K
  refine AW.seqK fun K hK=>?_
  refine AW.seqK fun K1 hK1=>?_
  refine AW.regionP rfl ?_
  simp [lpNn]
  refine CallDo.pure 2 9 (hwi) (by first|(simp;done)|rfl) (by simp) (by first|rfl|simp) ?_
  simp
  repeat (refine And.intro (by omega) ?_)
  apply hK1;clear hK1 K1
  refine AW.cond (b:=true) (by first|(simp [];done)|(simp [];omega)) ?_
  refine AW.seqK fun K1 hK1=>?_
  refine AW.regionP rfl ?_
  simp [b27]
  repeat (refine And.intro (by omega) ?_)
  apply hK1;clear hK1 K1
  refine AW.ret ?_
  refine FinC.cell2 (κ:=0) (T:=27) (t:=4) (u:=5) (k:=1) (off:=0) (own:=true) (fz:=false) (U:=27) (cs:=pd0.cs) rfl ?_ ?_ ?_ ?_ rfl rfl
  ·simp
  ·simp [setSeg]
  ·rw [List.drop_zero];exact load27 ..
  ·simp
 have hd:decide (0≤n∧n<(p.nn:Int))=true:=decide_eq_true h1
 rw [hd] at hwi
 by_cases h2:secI p n=1
 ·have e:subV p n=(pd0,7):=by rw [e0,if_neg (fun h=>h.2.2 h2)]
  rw [h2] at hse
  rw [e]
  refine CallsP.of_AWc Go.Proofs.Tryz.func39 rfl (by rw [Tryz.ntmps39];simp) (fun lv=>dRes_pd lv _ _) ?_
  rintro⟨_,_,w0,F0,W0,_,lv0,β0⟩ rfl rfl rfl
  refine AW.seqK fun K hK=>?_
  refine AW.regionP rfl ?_
  simp
  repeat (refine And.intro (by omega) ?_)
  apply hK;clear hK K
  refine AW.seqK fun K hK=>?_
  refine AW.seqK fun K1 hK1=>?_
  refine AW.regionP rfl ?_
  simp
  refine CallDo.pure 2 9 (h) (by first|(simp;done)|rfl) (by simp) (by first|rfl|simp) ?_
  simp
  repeat (refine And.intro (by omega) ?_)
  apply hK1;clear hK1 K1
  refine AW.seqK fun K1 hK1=>?_
  refine AW.regionP rfl ?_
  simp
  repeat (refine And.intro (by omega) ?_)
  apply hK1;clear hK1 K1
  refine AW.cond (b:=false) (by first|(simp [];done)|(simp [];omega)) ?_
  refine AW.skip ?_
  simp
  repeat (refine And.intro (by omega) ?_)
  apply hK;clear hK K
  refine AW.seqK fun K hK=>?_
  refine AW.seqK fun K1 hK1=>?_
  refine AW.regionP rfl ?_
  simp [lpNn]
  refine CallDo.pure 2 9 (hwi) (by first|(simp;done)|rfl) (by simp) (by first|rfl|simp) ?_
  simp [b154]
  refine CallDo.pure 2 9 (hse) (by first|(simp;done)|rfl) (by simp) (by first|rfl|simp) ?_
  simp
  repeat (refine And.intro (by omega) ?_)
  apply hK1;clear hK1 K1
  refine AW.cond (b:=true) (by first|(simp [];done)|(simp [];omega)) ?_
  refine AW.seqK fun K1 hK1=>?_
  refine AW.regionP rfl ?_
  simp [b27]
  repeat (refine And.intro (by omega) ?_)
  apply hK1;clear hK1 K1
  refine AW.ret ?_
  refine FinC.cell2 (κ:=0) (T:=27) (t:=4) (u:=5) (k:=1) (off:=0) (own:=true) (fz:=false) (U:=27) (cs:=pd0.cs) rfl ?_ ?_ ?_ ?_ rfl rfl
  ·simp
  ·simp [setSeg]
  ·rw [List.drop_zero];exact load27 ..
  ·simp
 ·have e:subV p n=(p.setRes n,0):=by rw [e0,if_pos ⟨h1.1,h1.2,h2⟩]
  rw [e]
  refine CallsP.of_AWc Go.Proofs.Tryz.func39 rfl (by rw [Tryz.ntmps39];simp) (fun lv=>dRes_pd lv _ _) ?_
  rintro⟨_,_,w0,F0,W0,_,lv0,β0⟩ rfl rfl rfl
  refine AW.seqK fun K hK=>?_
  refine AW.regionP rfl ?_
  simp
  repeat (refine And.intro (by omega) ?_)
  apply hK;clear hK K
  refine AW.seqK fun K hK=>?_
  refine AW.seqK fun K1 hK1=>?_
  refine AW.regionP rfl ?_
  simp
  refine CallDo.pure 2 9 (h) (by first|(simp;done)|rfl) (by simp) (by first|rfl|simp) ?_
  simp
  repeat (refine And.intro (by omega) ?_)
  apply hK1;clear hK1 K1
  refine AW.seqK fun K1 hK1=>?_
  refine AW.regionP rfl ?_
  simp
  repeat (refine And.intro (by omega) ?_)
  apply hK1;clear hK1 K1
  refine AW.cond (b:=false) (by first|(simp [];done)|(simp [];omega)) ?_
  refine AW.skip ?_
  simp
  repeat (refine And.intro (by omega) ?_)
  apply hK;clear hK K
  refine AW.seqK fun K hK=>?_
  refine AW.seqK fun K1 hK1=>?_
  refine AW.regionP rfl ?_
  simp [lpNn]
  refine CallDo.pure 2 9 (hwi) (by first|(simp;done)|rfl) (by simp) (by first|rfl|simp) ?_
  simp [b154]
  refine CallDo.pure 2 9 (hse) (by first|(simp;done)|rfl) (by simp) (by first|rfl|simp) ?_
  simp [h2]
  repeat (refine And.intro (by omega) ?_)
  apply hK1;clear hK1 K1
  refine AW.cond (b:=false) (by first|(simp [h2];done)|(simp [h2];omega)) ?_
  refine AW.skip ?_
  simp
  repeat (refine And.intro (by omega) ?_)
  apply hK;clear hK K
  refine AW.seqK fun K hK=>?_
  refine AW.regionP rfl ?_
  simp
  refine CallDo.pure 2 9 (hcl) (by first|(simp;done)|rfl) (by simp) (by first|rfl|simp) ?_
  simp
  repeat (refine And.intro (by omega) ?_)
  apply hK;clear hK K
  refine AW.seqK fun K hK=>?_
  refine AW.regionP rfl ?_
  simp [setSeg]
  repeat (refine And.intro (by omega) ?_)
  apply hK;clear hK K
  refine AW.seqK fun K hK=>?_
  refine AW.regionP rfl ?_
  simp
  repeat (refine And.intro (by omega) ?_)
  apply hK;clear hK K
  refine AW.ret ?_
  refine FinC.cell2 (κ:=0) (T:=27) (t:=4) (u:=5) (k:=1) (off:=0) (own:=true) (fz:=false) (U:=27) (cs:=(p.setRes n).cs) rfl ?_ ?_ ?_ ?_ rfl rfl
  ·simp
  ·simp [setSeg,PD.setRes]
  ·rw [List.drop_zero];exact load27 ..
  ·simp
end Go.Am

namespace Go.Am
open Go.Am.Ty Go.Proofs N
def flN (l:List Nd):List CV:=(l.flatMap Nd.e).map CV.d
def flI (l:List In):List CV:=(l.flatMap In.e).map CV.d
theorem setSeg_app {α:Type}(a b xs:List α) (k:Nat):setSeg (a++b) (a.length+k) xs=a++setSeg b k xs:=by
 have e1:(a++b).take (a.length+k)=a++b.take k:=by rw [List.take_append,List.take_of_length_le (by omega),Nat.add_sub_cancel_left]
 have e2:(a++b).drop (a.length+k+xs.length)=b.drop (k+xs.length):=by rw [List.drop_append,List.drop_eq_nil_of_le (by omega),List.nil_append,Nat.add_assoc,Nat.add_sub_cancel_left]
 simp only [setSeg,e1,e2,List.append_assoc]
theorem flN_cons (n:Nd)(l:List Nd):flN (n::l)=[CV.d (.int .i64 n.op),.d (.int .i64 n.a),.d (.int .i64 n.b),.d (.int .i64 n.c),.d (.int .i64 n.d),.d (.int .i64 n.f),.d (.str n.v)]++flN l:=by
 simp [flN]
theorem flI_cons (n:In)(l:List In):flI (n::l)=[CV.d (.int .i64 n.f),.d (.str n.lo),.d (.str n.hi)]++flI l:=by
 simp [flI]
def Nd.setF (n:Nd)(x:Int):Nd:=⟨n.op,n.a,n.b,n.c,n.d,x,n.v⟩
def In.setB (n:In)(a b:List UInt8):In:=⟨n.f,a,b⟩
theorem flN_set:∀ (l:List Nd) (i:Nat) (x:Int) (n:Nd),l[i]?=some n→setSeg (flN l) (i*7+5) [CV.d (.int .i64 x)]=flN (l.set i (n.setF x))
 | [],i,x,n,h=>by cases h
 | a::l,0,x,n,h=>by
  simp only [List.getElem?_cons_zero,Option.some.injEq] at h
  subst h
  simp [flN_cons,setSeg,Nd.setF]
 | a::l,i+1,x,n,h=>by
  have ih:=flN_set l i x n (by simpa using h)
  rw [flN_cons,show (i+1)*7+5=[CV.d (.int .i64 a.op),.d (.int .i64 a.a),.d (.int .i64 a.b),.d (.int .i64 a.c),.d (.int .i64 a.d),.d (.int .i64 a.f),.d (.str a.v)].length+(i*7+5) by simp;omega,setSeg_app,ih,List.set_cons_succ,flN_cons]
theorem flI_set:∀ (l:List In) (i:Nat) (x y:List UInt8) (n:In),l[i]?=some n→setSeg (setSeg (flI l) (i*3+1) [CV.d (.str x)]) (i*3+2) [CV.d (.str y)]=flI (l.set i (n.setB x y))
 | [],i,x,y,n,h=>by cases h
 | a::l,0,x,y,n,h=>by
  simp only [List.getElem?_cons_zero,Option.some.injEq] at h
  subst h
  simp [flI_cons,setSeg,In.setB]
 | a::l,i+1,x,y,n,h=>by
  have ih:=flI_set l i x y n (by simpa using h)
  rw [flI_cons,show (i+1)*3+1=[CV.d (.int .i64 a.f),.d (.str a.lo),.d (.str a.hi)].length+(i*3+1) by simp;omega,setSeg_app,
   show (i+1)*3+2=[CV.d (.int .i64 a.f),.d (.str a.lo),.d (.str a.hi)].length+(i*3+2) by simp;omega,setSeg_app,ih,List.set_cons_succ,flI_cons]
theorem flN_len (l:List Nd):(flN l).length=l.length*7:=by
 induction l with
 | nil=>rfl
 | cons a l ih=>rw [flN_cons,List.length_append,ih];simp;omega
theorem flI_len (l:List In):(flI l).length=l.length*3:=by
 induction l with
 | nil=>rfl
 | cons a l ih=>rw [flI_cons,List.length_append,ih];simp;omega
def PD.N (p:PD):List Nd:=(sO p.nodes).map ndOf
def PD.I (p:PD):List In:=(sO p.ins).map inOf
theorem PD.N_e {p:PD}(hp:p.ok):p.N.map Nd.e=sO p.nodes:=by
 unfold PD.N
 rw [List.map_map]
 conv=>rhs;rw [← List.map_id (sO p.nodes)]
 exact List.map_congr_left fun e he=>(ndOf_e (hp.nodes e he)).symm
theorem PD.I_e {p:PD}(hp:p.ok):p.I.map In.e=sO p.ins:=by
 unfold PD.I
 rw [List.map_map]
 conv=>rhs;rw [← List.map_id (sO p.ins)]
 exact List.map_congr_left fun e he=>(inOf_e (hp.ins e he)).symm
theorem PD.N_fl {p:PD}(hp:p.ok):(sO p.nodes).flatten.map CV.d=flN p.N:=by
 unfold flN;rw [← PD.N_e hp,List.flatMap_def]
theorem PD.I_fl {p:PD}(hp:p.ok):(sO p.ins).flatten.map CV.d=flI p.I:=by
 unfold flI;rw [← PD.I_e hp,List.flatMap_def]
theorem PD.N_len (p:PD):p.N.length=p.nn:=by simp [PD.N,PD.nn]
theorem PD.I_len (p:PD):p.I.length=p.ni:=by simp [PD.I,PD.ni]
end Go.Am

namespace Go.Am
open Go.Am.Ty Go.Proofs N
def HasL (lv:Key→LB)(k:Key)(E:TypeId)(o:Option (List (List DV))):Prop:=match o with
 | none=>lv k=.nils
 | some es=>∃ own fz,lv k=.cells own fz E (es.flatten.map CV.d)
theorem toDV_HasL {lv:Key→LB}{k:Key}{E:TypeId}{o:Option (List (List DV))}{sz n:Nat}(h:HasL lv k E o) (hs:∀ e∈sO o,e.length=sz) (hl:(sO o).length≤1000) :
 toDV lv (n+1) (.lsl k 0 (sO o).length sz)=some (sD o,if o.isSome then [k] else []):=by
 cases o with
 | none=>exact toDV_blS (E:=E) h hs hl
 | some es=>
  obtain⟨own,fz,h⟩:=h
  have e:toDV lv (n+1) (.lsl k 0 (sO (some es)).length sz)=toDV (upd lv k (.cells true false E (es.flatten.map CV.d))) (n+1) (.lsl k 0 (sO (some es)).length sz):=by
   simp only [toDV,h,upd_same]
   rw [toDVs_congr (f:=toDV lv n) (g:=toDV (upd lv k (.cells true false E (es.flatten.map CV.d))) n)]
   intro x hx
   have hx:=List.mem_of_mem_drop (List.mem_of_mem_take hx)
   obtain⟨d,_,rfl⟩:=List.mem_map.1 hx
   cases n <;> rfl
  rw [e]
  exact toDV_blS (E:=E) (upd_same _ _ _) hs hl
theorem dArg_prog {lv:Key→LB}{p:PD}{a b c d:Key}(hp:p.ok) (ht:p.tiny) (h1:HasL lv a 81 p.f) (h2:HasL lv b 67 p.ins) (h3:HasL lv c 55 p.nodes) (h4:HasL lv d 69 p.states) :
 dArg lv (.agg (lP p a b c d))=some (p.A,(if p.f.isSome then [a] else [])++((if p.ins.isSome then [b] else [])++((if p.nodes.isSome then [c] else [])++(if p.states.isSome then [d] else [])))):=by
 have e1:=toDV_HasL (n:=7) h1 (fun e he=>is2_len (hp.f e he)) ht.f
 have e2:=toDV_HasL (n:=7) h2 (fun e he=>is3_len (hp.ins e he)) ht.i
 have e3:=toDV_HasL (n:=7) h3 (fun e he=>is7_len (hp.nodes e he)) ht.n
 have e4:=toDV_HasL (n:=7) h4 (fun e he=>is2_len (hp.states e he)) ht.s
 have f1:∀ n:Int,toDV lv 8 (.d (.int .i64 n))=some (.int .i64 n,[]):=fun n=>rfl
 simp only [dArg,PD.nf,PD.ni,PD.nn,PD.ns,toDVs,e1,e2,e3,e4,f1,Option.map_some,List.append_nil,List.nil_append]
 show some (AV.agg (p.dcs.map CV.d),_)=_
 rw [dcs_cs]
def zS (k:Key)(E:TypeId):Option (List (List DV))→List (Key × TypeId × List CV)
 | none=>[]
 | some es=>[(k,E,es.flatten.map CV.d)]
theorem zS_keys (k:Key)(E:TypeId)(o:Option (List (List DV))):(zS k E o).map (·.1)=if o.isSome then [k] else []:=by cases o <;> rfl
theorem HasL_frz {lv:Key→LB}{k:Key}{E:TypeId}{o:Option (List (List DV))}{Z:List (Key × TypeId × List CV)}(h:lv k=blS E o) (hn:(Z.map (·.1)).Nodup) (hz:∀ z∈zS k E o,z∈Z) (hk:o=none→k ∉ Z.map (·.1)):HasL (updL lv (frzW Z)) k E o:=by
 cases o with
 | none=>
  show updL lv (frzW Z) k=.nils
  rw [updL_not (by rw [frzW_keys];exact hk rfl)];exact h
 | some es=>
  have hm:=hz (k,E,es.flatten.map CV.d) (by simp [zS])
  refine⟨true,true,?_⟩
  exact updL_mem (by rw [frzW_keys];exact hn) (by simp only [frzW,List.mem_map];exact⟨_,hm,rfl⟩)
theorem rdA_prog {lv:Key→LB}{p:PD}{a b c d:Key}(h1:HasL lv a 81 p.f) (h2:HasL lv b 67 p.ins) (h3:HasL lv c 55 p.nodes) (h4:HasL lv d 69 p.states) {k:Key}(hk:k∈rdA lv (.agg (lP p a b c d))):k=a∨k=b∨k=c∨k=d:=by
 have key:∀ {k':Key}{E:TypeId}{o:Option (List (List DV))}{n sz:Nat},HasL lv k' E o→k∈rdK lv 8 (.lsl k' 0 n sz)→k=k':=by
  intro k' E o n sz h hm
  simp only [rdK,List.mem_cons] at hm
  rcases hm with hm|hm
  ·exact hm
  ·exfalso
   cases o with
   | none=>rw [show lv k'=.nils from h] at hm;cases hm
   | some es=>
    obtain⟨own,fz,h⟩:=h
    rw [h] at hm
    simp only [List.mem_flatMap,List.mem_map] at hm
    obtain⟨x,⟨y,_,rfl⟩,hx⟩:=hm
    cases hx
 simp only [rdA,List.mem_flatMap,List.mem_cons,List.not_mem_nil,or_false] at hk
 obtain⟨x,hx,hk⟩:=hk
 rcases hx with rfl|rfl|rfl|rfl|rfl|rfl|rfl|rfl
 ·exact .inl (key h1 hk)
 ·cases hk
 ·exact .inr (.inl (key h2 hk))
 ·exact .inr (.inr (.inl (key h3 hk)))
 ·cases hk
 ·cases hk
 ·exact .inr (.inr (.inr (key h4 hk)))
 ·cases hk
theorem CallDo.prog {c:Ctx}{f:FuncId}{lv:Key→LB}{K:AV→List (Key × LB)→List Key→Nat→Prop}(κ' kh a b d e:Key) (p:PD) (hp:p.ok) (ht:p.tiny) {x:AV}(hc:CallsP c.P c.G f [p.A] x) (hx:x.pure=true)
 (h1:lv a=blS 81 p.f) (h2:lv b=blS 67 p.ins) (h3:lv d=blS 55 p.nodes) (h4:lv e=blS 69 p.states) (hn:[a,b,d,e].Nodup) (hh:lv kh=.hole)
 (hK:∀ us,(∀ k,k≠a→k≠b→k≠d→k≠e→updL lv us k=lv k)→K x us [kh,a,b,d,e] κ'):CallDo c f [.agg (lP p a b d e)] lv K:=by
 obtain⟨Z,hZ⟩:∃ Z,Z=zS a 81 p.f++(zS b 67 p.ins++(zS d 55 p.nodes++zS e 69 p.states)):=⟨_,rfl⟩
 have hZk:Z.map (·.1)=(if p.f.isSome then [a] else [])++((if p.ins.isSome then [b] else [])++((if p.nodes.isSome then [d] else [])++(if p.states.isSome then [e] else []))):=by
  rw [hZ];simp only [List.map_append,zS_keys]
 simp only [List.nodup_cons,List.mem_cons,List.not_mem_nil,or_false,not_or,List.nodup_nil,and_true,not_false_eq_true] at hn
 obtain⟨⟨n1,n2,n3⟩,⟨n4,n5⟩,n6⟩:=hn
 have hsub:∀ k,k∈Z.map (·.1)→k=a∨k=b∨k=d∨k=e:=by
  intro k hk
  rw [hZk] at hk
  simp only [List.mem_append] at hk
  rcases hk with h|h|h|h <;> split at h <;> simp_all
 have hZn:(Z.map (·.1)).Nodup:=by
  rw [hZk]
  (repeat' split) <;> simp_all
 have hmem:∀ z∈Z,lv z.1=.cells true false z.2.1 z.2.2:=by
  have g:∀ {k E o},lv k=blS E o→∀ z∈zS k E o,lv z.1=.cells true false z.2.1 z.2.2:=by
   intro k E o h z hz
   cases o with
   | none=>cases hz
   | some es=>simp only [zS,List.mem_singleton] at hz;subst hz;exact h
  intro z hz
  rw [hZ] at hz
  simp only [List.mem_append] at hz
  rcases hz with h|h|h|h
  ·exact g h1 z h
  ·exact g h2 z h
  ·exact g h3 z h
  ·exact g h4 z h
 have q1:HasL (updL lv (frzW Z)) a 81 p.f:=HasL_frz h1 hZn (fun z hz=>by rw [hZ];simp [hz]) (fun h=>by rw [hZk,h];intro hk;simp only [List.mem_append] at hk;(rcases hk with h|h|h|h <;> split at h <;> simp_all))
 have q2:HasL (updL lv (frzW Z)) b 67 p.ins:=HasL_frz h2 hZn (fun z hz=>by rw [hZ];simp [hz]) (fun h=>by rw [hZk,h];intro hk;simp only [List.mem_append] at hk;(rcases hk with h|h|h|h <;> split at h <;> simp_all))
 have q3:HasL (updL lv (frzW Z)) d 55 p.nodes:=HasL_frz h3 hZn (fun z hz=>by rw [hZ];simp [hz]) (fun h=>by rw [hZk,h];intro hk;simp only [List.mem_append] at hk;(rcases hk with h|h|h|h <;> split at h <;> simp_all))
 have q4:HasL (updL lv (frzW Z)) e 69 p.states:=HasL_frz h4 hZn (fun z hz=>by rw [hZ];simp [hz]) (fun h=>by rw [hZk,h];intro hk;simp only [List.mem_append] at hk;(rcases hk with h|h|h|h <;> split at h <;> simp_all))
 refine CallDo.frzL (us:=[p.A]) κ' kh Z [kh,a,b,d,e] hc hx hmem hZn hh rfl (fun i p' q'=>?_) (fun x hx k hk=>?_) (by simp) (hK _ fun k k1 k2 k3 k4=>?_)
 ·have hi:i=0:=by simp at p';omega
  subst hi
  right
  exact⟨_,dArg_prog hp ht q1 q2 q3 q4,fun k hk=>by rw [hZk];exact hk⟩
 ·simp only [List.mem_singleton] at hx;subst hx
  left
  rcases rdA_prog q1 q2 q3 q4 hk with h|h|h|h <;> simp [h]
 ·refine updL_not ?_
  rw [frzW_keys]
  intro hk
  rcases hsub k hk with h|h|h|h
  ·exact k1 h
  ·exact k2 h
  ·exact k3 h
  ·exact k4 h
end Go.Am

namespace Go.Am
open Go.Am.Ty Go.Proofs N
def setFm (l:List Nd)(fs:List Int):Nat→List Nd
 | 0=>l
 | i+1=>(setFm l fs i).set i ((l.getD i default).setF (fs.getD i 0))
theorem setFm_len (l:List Nd)(fs:List Int):∀ i,(setFm l fs i).length=l.length
 | 0=>rfl
 | i+1=>by simp only [setFm,List.length_set,setFm_len l fs i]
theorem setFm_ge (l:List Nd)(fs:List Int):∀ (i j:Nat),i≤j→(setFm l fs i)[j]?=l[j]?
 | 0,j,_=>rfl
 | i+1,j,h=>by
  simp only [setFm]
  rw [List.getElem?_set_ne (by omega),setFm_ge l fs i j (by omega)]
theorem setFm_step (l:List Nd)(fs:List Int){i:Nat}(hi:i<l.length) (hf:i<fs.length):setSeg (flN (setFm l fs i)) (i*7+5) [CV.d (.int .i64 fs[i])]=flN (setFm l fs (i+1)):=by
 have h1:(setFm l fs i)[i]?=some (l.getD i default):=by
  rw [setFm_ge l fs i i (Nat.le_refl _),List.getD_eq_getElem?_getD,List.getElem?_eq_getElem hi];rfl
 rw [flN_set _ _ _ _ h1]
 simp only [setFm]
 rw [show fs.getD i 0=fs[i] by rw [List.getD_eq_getElem?_getD,List.getElem?_eq_getElem hf];rfl]
def setBx (l:List In)(lo hi:List (List UInt8)):Nat→List In
 | 0=>l
 | i+1=>(setBx l lo hi i).set i ((l.getD i default).setB (lo.getD i []) (hi.getD i []))
theorem setBx_len (l:List In)(lo hi:List (List UInt8)):∀ i,(setBx l lo hi i).length=l.length
 | 0=>rfl
 | i+1=>by simp only [setBx,List.length_set,setBx_len l lo hi i]
theorem setBx_ge (l:List In)(lo hi:List (List UInt8)):∀ (i j:Nat),i≤j→(setBx l lo hi i)[j]?=l[j]?
 | 0,j,_=>rfl
 | i+1,j,h=>by
  simp only [setBx]
  rw [List.getElem?_set_ne (by omega),setBx_ge l lo hi i j (by omega)]
theorem setBx_step (l:List In)(lo hi:List (List UInt8)){i:Nat}(hi':i<l.length) (hf:i<lo.length) (hg:i<hi.length) :
 setSeg (setSeg (flI (setBx l lo hi i)) (i*3+1) [CV.d (.str lo[i])]) (i*3+2) [CV.d (.str hi[i])]=flI (setBx l lo hi (i+1)):=by
 have h1:(setBx l lo hi i)[i]?=some (l.getD i default):=by
  rw [setBx_ge l lo hi i i (Nat.le_refl _),List.getD_eq_getElem?_getD,List.getElem?_eq_getElem hi'];rfl
 rw [flI_set _ _ _ _ _ h1]
 simp only [setBx]
 rw [show lo.getD i []=lo[i] by rw [List.getD_eq_getElem?_getD,List.getElem?_eq_getElem hf];rfl,show hi.getD i []=hi[i] by rw [List.getD_eq_getElem?_getD,List.getElem?_eq_getElem hg];rfl]
def PD.setN (p:PD)(l:List Nd):PD:=⟨p.f,p.mode,p.ins,some (l.map Nd.e),p.head,p.tail,p.states,p.res⟩
def PD.setI (p:PD)(l:List In):PD:=⟨p.f,p.mode,if p.ins.isSome then some (l.map In.e) else none,p.nodes,p.head,p.tail,p.states,p.res⟩
theorem PD.setN_ok {p:PD}(hp:p.ok) (l:List Nd):(p.setN l).ok:=
 ⟨hp.f,hp.ins,fun e he=>by simp only [PD.setN,sO,Option.getD_some,List.mem_map] at he;obtain⟨n,_,rfl⟩:=he;exact is7_e n,hp.states⟩
theorem PD.setN_nn (p:PD)(l:List Nd):(p.setN l).nn=l.length:=by simp [PD.setN,PD.nn,sO]
theorem PD.N_get (p:PD){i:Nat}(hi:i<p.N.length):p.N[i]=p.nd i:=by
 unfold PD.N PD.nd at *
 simp only [List.length_map] at hi
 rw [List.getElem_map,List.getD_eq_getElem?_getD,List.getElem?_eq_getElem hi];rfl
theorem PD.I_get (p:PD){i:Nat}(hi:i<p.I.length):p.I[i]=p.inp i:=by
 unfold PD.I PD.inp at *
 simp only [List.length_map] at hi
 rw [List.getElem_map,List.getD_eq_getElem?_getD,List.getElem?_eq_getElem hi];rfl
@[simp] theorem LB.fix_cells {own fz b:Bool}{T:TypeId}{cs:List CV}:(LB.cells own fz T cs).fix b=.cells (own || b) fz T cs:=rfl
@[simp] theorem flN_ren (l:List Nd)(g:Key→Key):(flN l).map (CV.ren g)=flN l:=by
 unfold flN;rw [List.map_map];rfl
@[simp] theorem flI_ren (l:List In)(g:Key→Key):(flI l).map (CV.ren g)=flI l:=by
 unfold flI;rw [List.map_map];rfl
def withV (p:PD)(fs:List Int):PD × Int:=
 if (chkV p).2.2≠0 then (pd0,(chkV p).2.2)
 else if fs.length≠p.nn then (pd0,2)
 else if fs.all (fun f=>decide (0≤f∧f<(p.nf:Int)))=true then (chgV (p.setN (setFm p.N fs p.nn)),(chkV (p.setN (setFm p.N fs p.nn))).2.2)
 else (pd0,7)
theorem nn_some {p:PD}(h:genE p=0):∃ es,p.nodes=some es:=by
 have h1:p.nn≠0:=by
  intro h0
  unfold genE at h
  unfold PD.nn at h0
  rw [h0] at h
  split at h
  ·cases h
  ·simp at h
 cases e:p.nodes with
 | none=>exact absurd (by simp [PD.nn,e,sO]) h1
 | some es=>exact⟨es,rfl⟩
theorem noMap_upd_nils {lv:Key→LB}(h:noMap lv) (k:Key):noMap (upd lv k .nils):=by
 intro k' own es h';unfold upd at h';split at h'
 ·cases h'
 ·exact h _ _ _ h'
@[simp] theorem noMap_blS {lv:Key→LB}(h:noMap lv) (k:Key) (E:TypeId) (o:Option (List (List DV))):noMap (upd lv k (blS E o)):=by
 cases o with
 | none=>intro k' own es h';simp only [blS,upd] at h';split at h';cases h';exact h _ _ _ h'
 | some es=>exact noMap_upd h k true false E (es.flatten.map CV.d)
set_option maxHeartbeats 8000000 in
theorem with_ok' (m:Int)(p:PD)(hp:p.ok)(o:Option (List Int))(hol:(zL o).length≤1000):CallsP Tryz.prog (GG m) 41 [p.A,.c (zC o)] (.tup [(withV p (zL o)).1.A,.c (.d (.int .i64 (withV p (zL o)).2))]):=by
 have h:=valid_ok m p hp
 have lpz:=fun lv=>lpZ (T:=30) (by simp) lv o
 by_cases h0:(chkV p).2.2=0
 rotate_left
 ·have e:withV p (zL o)=(pd0,(chkV p).2.2):=if_pos h0
  rw [e]
  refine CallsP.of_AWc Go.Proofs.Tryz.func41 rfl (by rw [Tryz.ntmps41];simp) (fun lv=>dRes_pd lv _ _) ?_
  rintro⟨_,_,w0,F0,W0,_,lv0,β0⟩ rfl rfl rfl
  refine AW.seqK fun K hK=>?_
  refine AW.regionP rfl ?_
  simp
  repeat (refine And.intro (by omega) ?_)
  apply hK;clear hK K
  refine AW.seqK fun K hK=>?_
  refine AW.seqK fun K1 hK1=>?_
  refine AW.regionP rfl ?_
  simp
  refine CallDo.pure 2 9 (h) (by first|(simp;done)|rfl) (by simp) (by first|rfl|simp) ?_
  simp [h0]
  repeat (refine And.intro (by omega) ?_)
  apply hK1;clear hK1 K1
  refine AW.seqK fun K1 hK1=>?_
  refine AW.regionP rfl ?_
  simp
  repeat (refine And.intro (by omega) ?_)
  apply hK1;clear hK1 K1
  refine AW.cond (b:=true) (by first|(simp [h0];done)|(simp [h0];omega)) ?_
  refine AW.seqK fun K1 hK1=>?_
  refine AW.regionP rfl ?_
  simp [b27]
  repeat (refine And.intro (by omega) ?_)
  apply hK1;clear hK1 K1
  refine AW.ret ?_
  refine FinC.cell2 (κ:=0) (T:=27) (t:=4) (u:=5) (k:=1) (off:=0) (own:=true) (fz:=false) (U:=27) (cs:=pd0.cs) rfl ?_ ?_ ?_ ?_ rfl rfl
  ·simp
  ·simp [setSeg]
  ·rw [List.drop_zero];exact load27 ..
  ·simp
 have ht:=chk_tiny h0
 have hg:=chk_gen h0
 have hcl:=cloneP_ok (GG m) p hp ht
 rw [h0] at h
 by_cases h1:(zL o).length=p.nn
 rotate_left
 ·have e:withV p (zL o)=(pd0,2):=by unfold withV;rw [if_neg (not_not_intro h0),if_pos h1]
  have h1':¬ ((zL o).length:Int)=(p.nn:Int):=by omega
  rw [e]
  refine CallsP.of_AWc Go.Proofs.Tryz.func41 rfl (by rw [Tryz.ntmps41];simp) (fun lv=>dRes_pd lv _ _) ?_
  rintro⟨_,_,w0,F0,W0,_,lv0,β0⟩ rfl rfl rfl
  refine AW.seqK fun K hK=>?_
  refine AW.regionP rfl ?_
  simp
  repeat (refine And.intro (by omega) ?_)
  apply hK;clear hK K
  refine AW.seqK fun K hK=>?_
  refine AW.seqK fun K1 hK1=>?_
  refine AW.regionP rfl ?_
  simp
  refine CallDo.pure 2 9 (h) (by first|(simp;done)|rfl) (by simp) (by first|rfl|simp) ?_
  simp
  repeat (refine And.intro (by omega) ?_)
  apply hK1;clear hK1 K1
  refine AW.seqK fun K1 hK1=>?_
  refine AW.regionP rfl ?_
  simp
  repeat (refine And.intro (by omega) ?_)
  apply hK1;clear hK1 K1
  refine AW.cond (b:=false) (by first|(simp [];done)|(simp [];omega)) ?_
  refine AW.skip ?_
  simp
  repeat (refine And.intro (by omega) ?_)
  apply hK;clear hK K
  refine AW.seqK fun K hK=>?_
  refine AW.seqK fun K1 hK1=>?_
  refine AW.regionP rfl ?_
  simp [lpNn,lpz,h1']
  repeat (refine And.intro (by omega) ?_)
  apply hK1;clear hK1 K1
  refine AW.cond (b:=true) (by first|(simp [];done)|(simp [];omega)) ?_
  refine AW.seqK fun K1 hK1=>?_
  refine AW.regionP rfl ?_
  simp [b27]
  repeat (refine And.intro (by omega) ?_)
  apply hK1;clear hK1 K1
  refine AW.ret ?_
  refine FinC.cell2 (κ:=0) (T:=27) (t:=4) (u:=5) (k:=1) (off:=0) (own:=true) (fz:=false) (U:=27) (cs:=pd0.cs) rfl ?_ ?_ ?_ ?_ rfl rfl
  ·simp
  ·simp [setSeg]
  ·rw [List.drop_zero];exact load27 ..
  ·simp
 obtain⟨es,hes⟩:=nn_some hg
 have hbn:blS 55 p.nodes=.cells true false 55 (flN p.N):=by
  rw [← PD.N_fl hp,hes];rfl
 have e0:withV p (zL o)=if (zL o).all (fun f=>decide (0≤f∧f<(p.nf:Int)))=true then (chgV (p.setN (setFm p.N (zL o) p.nn)),(chkV (p.setN (setFm p.N (zL o) p.nn))).2.2) else (pd0,7):=by
  unfold withV;rw [if_neg (not_not_intro h0),if_neg (not_not_intro h1)]
 have hdr:∀ lv,dRes lv (.tup [(withV p (zL o)).1.A,.c (.d (.int .i64 (withV p (zL o)).2))])=some (.tup [(withV p (zL o)).1.A,.c (.d (.int .i64 (withV p (zL o)).2))],[]):=fun lv=>dRes_pd lv _ _
 refine CallsP.of_AWc Go.Proofs.Tryz.func41 rfl (by rw [Tryz.ntmps41];simp) hdr ?_
 rintro⟨_,_,w0,F0,W0,_,lv0,β0⟩ rfl rfl rfl
 refine AW.seqK fun K hK=>?_
 refine AW.regionP rfl ?_
 simp
 repeat (refine And.intro (by omega) ?_)
 apply hK;clear hK K
 refine AW.seqK fun K hK=>?_
 refine AW.seqK fun K1 hK1=>?_
 refine AW.regionP rfl ?_
 simp
 refine CallDo.pure 2 9 (h) (by first|(simp;done)|rfl) (by simp) (by first|rfl|simp) ?_
 simp
 repeat (refine And.intro (by omega) ?_)
 apply hK1;clear hK1 K1
 refine AW.seqK fun K1 hK1=>?_
 refine AW.regionP rfl ?_
 simp
 repeat (refine And.intro (by omega) ?_)
 apply hK1;clear hK1 K1
 refine AW.cond (b:=false) (by first|(simp [];done)|(simp [];omega)) ?_
 refine AW.skip ?_
 simp
 repeat (refine And.intro (by omega) ?_)
 apply hK;clear hK K
 refine AW.seqK fun K hK=>?_
 refine AW.seqK fun K1 hK1=>?_
 refine AW.regionP rfl ?_
 simp [lpNn,lpz,h1]
 repeat (refine And.intro (by omega) ?_)
 apply hK1;clear hK1 K1
 refine AW.cond (b:=false) (by first|(simp [];done)|(simp [];omega)) ?_
 refine AW.skip ?_
 simp
 repeat (refine And.intro (by omega) ?_)
 apply hK;clear hK K
 refine AW.seqK fun K hK=>?_
 refine AW.regionP rfl ?_
 simp
 refine CallDo.newN 6 19 [2,3,4,5] [blS 81 p.f,blS 67 p.ins,blS 55 p.nodes,blS 69 p.states] hcl (by simp) (by simp) (by simp) rfl (by simp) (by simp) (by simp [blS_ne]) ?_
 simp [backW,keyMap,updL,hbn,setSeg]
 repeat (refine And.intro (by omega) ?_)
 apply hK;clear hK K
 refine AW.seqK fun K hK=>?_
 refine AW.seqK fun K1 hK1=>?_
 refine AW.regionP rfl ?_
 simp [lpz]
 repeat (refine And.intro (by omega) ?_)
 apply hK1;clear hK1 K1
 refine AW.block ?_
 refine AW.loopV (fun (i:Nat)=>⟨frOf [(2,.c (.ptr 0 0)),(4,.c (.ptr 1 0)),(7,.c (.ptr 6 0)),(25,.c (zC o)),(26,.c (.d (.int .i64 (zL o).length))),(27,.c (.d (.int .i64 i)))],
  upd (upd (upd (upd (upd (upd (upd (fun _=>.hole) 0 (.cells true false 27 p.cs)) 1 (.cells true false 27 pd0.cs)) 2 (blS 81 p.f)) 3 (blS 67 p.ins)) 4 (.cells true false 55 (flN (setFm p.N (zL o) i)))) 5 (blS 69 p.states)) 6 (.cells true false 27 (lP p 2 3 4 5))⟩) 7
  (fun i=>i≤(zL o).length∧∀ j (hj:j<i) (h:j<(zL o).length),0≤(zL o)[j]∧(zL o)[j]<(p.nf:Int)) (fun i=>(zL o).length - i) 0 (Le.mk' _ (by simp [setFm,pd0,scC]) (by repeat (first|exact noMap_hole|refine noMap_upd ?_ _ _ _ _ _|(refine noMap_upd_dead ?_ _)|(refine noMap_blS ?_ _ _ _)|(refine noMap_upd_nils ?_ _)|simp)) (by simp)) ⟨Nat.zero_le _,fun j hj=>absurd hj (Nat.not_lt_zero j)⟩ ?_
 rintro i ⟨hi,hall⟩
 try simp only at hi hall
 refine AW.seqK fun K3 hK3=>?_
 refine AW.regionP rfl ?_
 simp
 repeat (refine And.intro (by omega) ?_)
 apply hK3;clear hK3 K3
 refine AW.seqK fun K2 hK2=>?_
 by_cases hlt:i<(zL o).length
 ·have hlt':(i:Int)<((zL o).length:Int):=by omega
  have hxz:=fun lv=>ixZ (T:=30) (by simp) lv o hlt
  have hwi:=within_ok (GG m) (zL o)[i] p.nf
  refine AW.cond (b:=true) (by first|(simp [hlt'];done)|(simp [hlt'];omega)) ?_
  refine AW.skip ?_
  simp
  repeat (refine And.intro (by omega) ?_)
  apply hK2
  refine AW.seqK fun K3 hK3=>?_
  refine AW.block ?_
  refine AW.seqK fun K4 hK4=>?_
  refine AW.regionP rfl ?_
  simp [hxz]
  repeat (refine And.intro (by omega) ?_)
  apply hK4;clear hK4 K4
  refine AW.seqK fun K4 hK4=>?_
  refine AW.seqK fun K5 hK5=>?_
  by_cases h2:0≤(zL o)[i]∧(zL o)[i]<(p.nf:Int)
  ·have hd:decide (0≤(zL o)[i]∧(zL o)[i]<(p.nf:Int))=true:=decide_eq_true h2
   rw [hd] at hwi
   have hst:=setFm_step p.N (zL o) (i:=i) (by rw [PD.N_len];omega) hlt
   have hle:i*7+5+1≤(flN (setFm p.N (zL o) i)).length:=by rw [flN_len,setFm_len,PD.N_len];omega
   have hin:i<p.nn:=by omega
   refine AW.regionP rfl ?_
   simp [lpF]
   refine CallDo.pure 7 9 (hwi) (by first|(simp;done)|rfl) (by simp) (by first|rfl|simp) ?_
   simp
   repeat (refine And.intro (by omega) ?_)
   apply hK5;clear hK5 K5
   refine AW.cond (b:=false) (by first|(simp [];done)|(simp [];omega)) ?_
   refine AW.skip ?_
   simp
   repeat (refine And.intro (by omega) ?_)
   apply hK4;clear hK4 K4
   refine AW.regionP rfl ?_
   simp [hst,hle,hin]
   repeat (refine And.intro (by omega) ?_)
   apply hK3
   have f12:=w64 (n:=(i:Int)+1) (by omega) (by omega)
   refine AW.regionP rfl ?_
   simp [f12]
   refine⟨i+1,Le.mk' _ (by rw [upd_comm _ _ _ (by decide:(6:Nat)≠4),upd_comm _ _ _ (by decide:(5:Nat)≠4),upd_upd]) (by repeat (first|exact noMap_hole|refine noMap_upd ?_ _ _ _ _ _|(refine noMap_upd_dead ?_ _)|(refine noMap_blS ?_ _ _ _)|(refine noMap_upd_nils ?_ _)|simp)) (by simp),⟨by omega,fun j hj h=>?_⟩,by omega⟩
   by_cases hji:j=i
   ·subst hji;exact h2
   ·exact hall j (by omega) h
  ·have hd:decide (0≤(zL o)[i]∧(zL o)[i]<(p.nf:Int))=false:=decide_eq_false h2
   rw [hd] at hwi
   have e:withV p (zL o)=(pd0,7):=by
    rw [e0,if_neg]
    intro ha
    rw [List.all_eq_true] at ha
    exact h2 (of_decide_eq_true (ha _ (List.getElem_mem hlt)))
   refine AW.regionP rfl ?_
   simp [lpF]
   refine CallDo.pure 7 9 (hwi) (by first|(simp;done)|rfl) (by simp) (by first|rfl|simp) ?_
   simp
   repeat (refine And.intro (by omega) ?_)
   apply hK5;clear hK5 K5
   refine AW.cond (b:=true) (by first|(simp [];done)|(simp [];omega)) ?_
   refine AW.seqK fun K5 hK5=>?_
   refine AW.regionP rfl ?_
   simp [b27]
   repeat (refine And.intro (by omega) ?_)
   apply hK5;clear hK5 K5
   rw [e]
   refine AW.ret ?_
   refine FinC.cell2 (κ:=0) (T:=27) (t:=4) (u:=5) (k:=1) (off:=0) (own:=true) (fz:=false) (U:=27) (cs:=pd0.cs) rfl ?_ ?_ ?_ ?_ rfl rfl
   ·simp
   ·simp [setSeg,pd0,scC]
   ·rw [List.drop_zero];exact load27 ..
   ·simp
 ·have hlt':¬ (i:Int)<((zL o).length:Int):=by omega
  have hie:i=p.nn:=by omega
  have e:withV p (zL o)=(chgV (p.setN (setFm p.N (zL o) p.nn)),(chkV (p.setN (setFm p.N (zL o) p.nn))).2.2):=by
   rw [e0,if_pos]
   rw [List.all_eq_true]
   intro x hx
   obtain⟨j,hj,rfl⟩:=List.mem_iff_getElem.1 hx
   exact decide_eq_true (hall j (by omega) hj)
  have hq:=PD.setN_ok hp (setFm p.N (zL o) p.nn)
  have hqn:(p.setN (setFm p.N (zL o) p.nn)).nn=p.nn:=by rw [PD.setN_nn,setFm_len,PD.N_len]
  have hch:=changed_ok m _ hq
  have hfl:blS 55 (p.setN (setFm p.N (zL o) p.nn)).nodes=.cells true false 55 (flN (setFm p.N (zL o) p.nn)):=by
   simp only [PD.setN,blS]
   rw [flN,List.flatMap_def]
  subst hie
  refine AW.cond (b:=false) (by first|(simp [hlt'];done)|(simp [hlt'];omega)) ?_
  refine AW.exit ?_
  simp
  repeat (refine And.intro (by omega) ?_)
  apply hK
  have hlp:AV.agg (lP p 2 3 4 5)=AV.agg (lP (p.setN (setFm p.N (zL o) p.nn)) 2 3 4 5):=by
   simp only [lP,hqn];rfl
  have hqt:(p.setN (setFm p.N (zL o) p.nn)).tiny:=⟨ht.f,ht.i,by rw [hqn];exact ht.n,ht.s⟩
  have hrw:∀ lv,dRes lv (.tup [(chgV (p.setN (setFm p.N (zL o) p.nn))).A,.c (.d (.int .i64 (chkV (p.setN (setFm p.N (zL o) p.nn))).2.2))])=some (.tup [(chgV (p.setN (setFm p.N (zL o) p.nn))).A,.c (.d (.int .i64 (chkV (p.setN (setFm p.N (zL o) p.nn))).2.2))],[]):=fun lv=>dRes_pd lv _ _
  refine AW.seqK fun K3 hK3=>?_
  refine AW.regionP rfl ?_
  simp
  rw [hlp]
  refine CallDo.prog 7 19 2 3 4 5 (p.setN (setFm p.N (zL o) p.nn)) hq hqt hch (by simp) rfl rfl hfl.symm rfl (by decide) rfl ?_
  intro us hus
  generalize updL _ us=lv2 at hus ⊢
  have e1:lv2 1=.cells true false 27 pd0.cs:=by rw [hus 1 (by decide) (by decide) (by decide) (by decide)];rfl
  generalize chgV (p.setN (setFm p.N (zL o) p.nn))=r1 at *
  generalize (chkV (p.setN (setFm p.N (zL o) p.nn))).2.2=r2 at *
  simp [e1,setSeg]
  repeat (refine And.intro (by omega) ?_)
  apply hK3;clear hK3 K3
  rw [e]
  refine AW.ret ?_
  refine FinC.cell2 (κ:=0) (T:=27) (t:=4) (u:=5) (k:=1) (off:=0) (own:=true) (fz:=false) (U:=27) (cs:=r1.cs) rfl ?_ ?_ ?_ ?_ rfl rfl
  ·simp
  ·simp [pd0,scC]
  ·rw [List.drop_zero];exact load27 ..
  ·simp
end Go.Am

namespace Go.Am
open Go.Am.Ty Go.Proofs N
def tD (l:List (List UInt8)):List (List DV):=l.map fun s=>[DV.str s]
def tC:Option (List (List UInt8))→CV
 | none=>.d .nilsl
 | some l=>.d (.sl (tD l))
def tL (o:Option (List (List UInt8))):List (List UInt8):=o.getD []
theorem tC_scC (o:Option (List (List UInt8))):tC o=scC (o.map tD):=by cases o <;> rfl
@[simp] theorem tC_pure (o:Option (List (List UInt8))):(AV.c (tC o)).pure=true:=by cases o <;> rfl
@[simp] theorem tC_flat1 (o:Option (List (List UInt8))):(AV.c (tC o)).flat1=true:=by cases o <;> rfl
@[simp] theorem tC_ren (o:Option (List (List UInt8)))(g:Key→Key):(tC o).ren g=tC o:=by cases o <;> rfl
theorem lpT {T:TypeId}(h:(slT Tryz.prog T).isSome=true) (lv:Key→LB) (o:Option (List (List UInt8))):lenP Tryz.prog T lv (.c (tC o))=some (.c (.d (.int .i64 (tL o).length)),[],[],True):=by
 rw [tC_scC]
 rw [lenP_slA h]
 cases o <;> simp [sO,tL,tD]
theorem ixT {T:TypeId}(h:(slT Tryz.prog T).map (·.2)=some 1) (lv:Key→LB) (o:Option (List (List UInt8))) {i:Nat}(hi:i<(tL o).length):stepIndexAddr Tryz.prog T lv (.c (tC o)) (.c (.d (.int .i64 (i:Int))))=some (.c (.d (.ptr [.str (tL o)[i]])),[],[],True):=by
 cases o with
 | none=>cases hi
 | some l=>
  rw [tC_scC]
  have hi0:i<l.length:=hi
  have hi':i<(sO (Option.map tD (some l))).length:=by show i<(tD l).length;unfold tD;rw [List.length_map];exact hi0
  have e:(sO (Option.map tD (some l)))[i]=[.str (tL (some l))[i]]:=by simp [sO,tD,tL]
  rw [ix_slA h hi' (by rw [e];rfl),e]
  rfl
theorem setI_none {p:PD}(h:p.ins=none) (l:List In):p.setI l=p:=by
 obtain⟨f,a,i,n,b,c,s,d⟩:=p
 simp only at h;subst h;rfl
theorem PD.setI_ins {p:PD}{es:List (List DV)}(h:p.ins=some es) (l:List In):(p.setI l).ins=some (l.map In.e):=by
 unfold PD.setI;rw [h];rfl
theorem PD.setI_ok {p:PD}(hp:p.ok) (l:List In):(p.setI l).ok:=by
 refine⟨hp.f,fun e he=>?_,hp.nodes,hp.states⟩
 cases h:p.ins with
 | none=>rw [setI_none h,h] at he;cases he
 | some es=>
  rw [PD.setI_ins h] at he
  simp only [sO,Option.getD_some,List.mem_map] at he
  obtain⟨n,_,rfl⟩:=he;exact is3_e n
theorem PD.setI_ni {p:PD}{es:List (List DV)}(h:p.ins=some es) (l:List In):(p.setI l).ni=l.length:=by
 unfold PD.ni;rw [PD.setI_ins h];simp [sO]
def boxV (p:PD)(lo hi:List (List UInt8)):PD × Int:=
 if (chkV p).2.2≠0 then (pd0,(chkV p).2.2)
 else if lo.length≠p.ni∨hi.length≠p.ni then (pd0,2)
 else (chgV (p.setI (setBx p.I lo hi p.ni)),(chkV (p.setI (setBx p.I lo hi p.ni))).2.2)
theorem setSeg_len {α:Type}{cs xs:List α}{o:Nat}(h:o+xs.length≤cs.length):(setSeg cs o xs).length=cs.length:=by
 simp [setSeg];omega
set_option maxHeartbeats 8000000 in
theorem box_ok (m:Int)(p:PD)(hp:p.ok)(o o':Option (List (List UInt8)))(hol:(tL o).length≤1000)(hol':(tL o').length≤1000) :
 CallsP Tryz.prog (GG m) 43 [p.A,.c (tC o),.c (tC o')] (.tup [(boxV p (tL o) (tL o')).1.A,.c (.d (.int .i64 (boxV p (tL o) (tL o')).2))]):=by
 have h:=valid_ok m p hp
 have lpz:=fun lv=>lpT (T:=59) (by simp) lv o
 have lpz':=fun lv=>lpT (T:=59) (by simp) lv o'
 by_cases h0:(chkV p).2.2=0
 rotate_left
 ·have e:boxV p (tL o) (tL o')=(pd0,(chkV p).2.2):=if_pos h0
  rw [e]
  refine CallsP.of_AWc Go.Proofs.Tryz.func43 rfl (by rw [Tryz.ntmps43];simp) (fun lv=>dRes_pd lv _ _) ?_
  rintro⟨_,_,w0,F0,W0,_,lv0,β0⟩ rfl rfl rfl
  refine AW.seqK fun K hK=>?_
  refine AW.regionP rfl ?_
  simp
  repeat (refine And.intro (by omega) ?_)
  apply hK;clear hK K
  refine AW.seqK fun K hK=>?_
  refine AW.seqK fun K1 hK1=>?_
  refine AW.regionP rfl ?_
  simp
  refine CallDo.pure 2 9 (h) (by first|(simp;done)|rfl) (by simp) (by first|rfl|simp) ?_
  simp [h0]
  repeat (refine And.intro (by omega) ?_)
  apply hK1;clear hK1 K1
  refine AW.seqK fun K1 hK1=>?_
  refine AW.regionP rfl ?_
  simp
  repeat (refine And.intro (by omega) ?_)
  apply hK1;clear hK1 K1
  refine AW.cond (b:=true) (by first|(simp [h0];done)|(simp [h0];omega)) ?_
  refine AW.seqK fun K1 hK1=>?_
  refine AW.regionP rfl ?_
  simp [b27]
  repeat (refine And.intro (by omega) ?_)
  apply hK1;clear hK1 K1
  refine AW.ret ?_
  refine FinC.cell2 (κ:=0) (T:=27) (t:=6) (u:=7) (k:=1) (off:=0) (own:=true) (fz:=false) (U:=27) (cs:=pd0.cs) rfl ?_ ?_ ?_ ?_ rfl rfl
  ·simp
  ·simp [setSeg]
  ·rw [List.drop_zero];exact load27 ..
  ·simp
 have ht:=chk_tiny h0
 have hg:=chk_gen h0
 have hcl:=cloneP_ok (GG m) p hp ht
 rw [h0] at h
 have bad:¬ ((tL o).length=p.ni∧(tL o').length=p.ni)→boxV p (tL o) (tL o')=(pd0,2):=by
  intro hb;unfold boxV;rw [if_neg (not_not_intro h0),if_pos];omega
 by_cases h1:(tL o).length=p.ni
 rotate_left
 ·have e:=bad (fun h=>h1 h.1)
  have h1':¬ ((tL o).length:Int)=(p.ni:Int):=by omega
  rw [e]
  refine CallsP.of_AWc Go.Proofs.Tryz.func43 rfl (by rw [Tryz.ntmps43];simp) (fun lv=>dRes_pd lv _ _) ?_
  rintro⟨_,_,w0,F0,W0,_,lv0,β0⟩ rfl rfl rfl
  refine AW.seqK fun K hK=>?_
  refine AW.regionP rfl ?_
  simp
  repeat (refine And.intro (by omega) ?_)
  apply hK;clear hK K
  refine AW.seqK fun K hK=>?_
  refine AW.seqK fun K1 hK1=>?_
  refine AW.regionP rfl ?_
  simp
  refine CallDo.pure 2 9 (h) (by first|(simp;done)|rfl) (by simp) (by first|rfl|simp) ?_
  simp
  repeat (refine And.intro (by omega) ?_)
  apply hK1;clear hK1 K1
  refine AW.seqK fun K1 hK1=>?_
  refine AW.regionP rfl ?_
  simp
  repeat (refine And.intro (by omega) ?_)
  apply hK1;clear hK1 K1
  refine AW.cond (b:=false) (by first|(simp [];done)|(simp [];omega)) ?_
  refine AW.skip ?_
  simp
  repeat (refine And.intro (by omega) ?_)
  apply hK;clear hK K
  refine AW.seqK fun K hK=>?_
  refine AW.seqK fun K1 hK1=>?_
  refine AW.regionP rfl ?_
  simp [lpI,lpz,h1']
  repeat (refine And.intro (by omega) ?_)
  apply hK1;clear hK1 K1
  refine AW.cond (b:=true) (by first|(simp [];done)|(simp [];omega)) ?_
  refine AW.seqK fun K1 hK1=>?_
  refine AW.regionP rfl ?_
  simp [b27]
  repeat (refine And.intro (by omega) ?_)
  apply hK1;clear hK1 K1
  refine AW.ret ?_
  refine FinC.cell2 (κ:=0) (T:=27) (t:=6) (u:=7) (k:=1) (off:=0) (own:=true) (fz:=false) (U:=27) (cs:=pd0.cs) rfl ?_ ?_ ?_ ?_ rfl rfl
  ·simp
  ·simp [setSeg]
  ·rw [List.drop_zero];exact load27 ..
  ·simp
 by_cases h2:(tL o').length=p.ni
 rotate_left
 ·have e:=bad (fun h=>h2 h.2)
  have h2':¬ ((tL o').length:Int)=(p.ni:Int):=by omega
  rw [e]
  refine CallsP.of_AWc Go.Proofs.Tryz.func43 rfl (by rw [Tryz.ntmps43];simp) (fun lv=>dRes_pd lv _ _) ?_
  rintro⟨_,_,w0,F0,W0,_,lv0,β0⟩ rfl rfl rfl
  refine AW.seqK fun K hK=>?_
  refine AW.regionP rfl ?_
  simp
  repeat (refine And.intro (by omega) ?_)
  apply hK;clear hK K
  refine AW.seqK fun K hK=>?_
  refine AW.seqK fun K1 hK1=>?_
  refine AW.regionP rfl ?_
  simp
  refine CallDo.pure 2 9 (h) (by first|(simp;done)|rfl) (by simp) (by first|rfl|simp) ?_
  simp
  repeat (refine And.intro (by omega) ?_)
  apply hK1;clear hK1 K1
  refine AW.seqK fun K1 hK1=>?_
  refine AW.regionP rfl ?_
  simp
  repeat (refine And.intro (by omega) ?_)
  apply hK1;clear hK1 K1
  refine AW.cond (b:=false) (by first|(simp [];done)|(simp [];omega)) ?_
  refine AW.skip ?_
  simp
  repeat (refine And.intro (by omega) ?_)
  apply hK;clear hK K
  refine AW.seqK fun K hK=>?_
  refine AW.seqK fun K1 hK1=>?_
  refine AW.regionP rfl ?_
  simp [lpI,lpz,lpz',h1,h2']
  repeat (refine And.intro (by omega) ?_)
  apply hK1;clear hK1 K1
  refine AW.cond (b:=true) (by first|(simp [];done)|(simp [];omega)) ?_
  refine AW.seqK fun K1 hK1=>?_
  refine AW.regionP rfl ?_
  simp [b27]
  repeat (refine And.intro (by omega) ?_)
  apply hK1;clear hK1 K1
  refine AW.ret ?_
  refine FinC.cell2 (κ:=0) (T:=27) (t:=6) (u:=7) (k:=1) (off:=0) (own:=true) (fz:=false) (U:=27) (cs:=pd0.cs) rfl ?_ ?_ ?_ ?_ rfl rfl
  ·simp
  ·simp [setSeg]
  ·rw [List.drop_zero];exact load27 ..
  ·simp
 have e:boxV p (tL o) (tL o')=(chgV (p.setI (setBx p.I (tL o) (tL o') p.ni)),(chkV (p.setI (setBx p.I (tL o) (tL o') p.ni))).2.2):=by
  unfold boxV;rw [if_neg (not_not_intro h0),if_neg (by omega)]
 have hq:=PD.setI_ok hp (setBx p.I (tL o) (tL o') p.ni)
 have hch:=changed_ok m _ hq
 rw [e]
 obtain⟨q,hQ⟩:∃ q,p.setI (setBx p.I (tL o) (tL o') p.ni)=q:=⟨_,rfl⟩
 rw [hQ] at hq hch ⊢
 refine CallsP.of_AWc Go.Proofs.Tryz.func43 rfl (by rw [Tryz.ntmps43];simp) (fun lv=>dRes_pd lv _ _) ?_
 rintro⟨_,_,w0,F0,W0,_,lv0,β0⟩ rfl rfl rfl
 refine AW.seqK fun K hK=>?_
 refine AW.regionP rfl ?_
 simp
 repeat (refine And.intro (by omega) ?_)
 apply hK;clear hK K
 refine AW.seqK fun K hK=>?_
 refine AW.seqK fun K1 hK1=>?_
 refine AW.regionP rfl ?_
 simp
 refine CallDo.pure 2 9 (h) (by first|(simp;done)|rfl) (by simp) (by first|rfl|simp) ?_
 simp
 repeat (refine And.intro (by omega) ?_)
 apply hK1;clear hK1 K1
 refine AW.seqK fun K1 hK1=>?_
 refine AW.regionP rfl ?_
 simp
 repeat (refine And.intro (by omega) ?_)
 apply hK1;clear hK1 K1
 refine AW.cond (b:=false) (by first|(simp [];done)|(simp [];omega)) ?_
 refine AW.skip ?_
 simp
 repeat (refine And.intro (by omega) ?_)
 apply hK;clear hK K
 refine AW.seqK fun K hK=>?_
 refine AW.seqK fun K1 hK1=>?_
 refine AW.regionP rfl ?_
 simp [lpI,lpz,lpz',h1,h2]
 repeat (refine And.intro (by omega) ?_)
 apply hK1;clear hK1 K1
 refine AW.cond (b:=false) (by first|(simp [];done)|(simp [];omega)) ?_
 refine AW.skip ?_
 simp
 repeat (refine And.intro (by omega) ?_)
 apply hK;clear hK K
 refine AW.seqK fun K hK=>?_
 refine AW.regionP rfl ?_
 simp
 refine CallDo.newN 6 19 [2,3,4,5] [blS 81 p.f,blS 67 p.ins,blS 55 p.nodes,blS 69 p.states] hcl (by simp) (by simp) (by simp) rfl (by simp) (by simp) (by simp [blS_ne]) ?_
 simp [backW,keyMap,updL,setSeg]
 repeat (refine And.intro (by omega) ?_)
 apply hK;clear hK K
 refine AW.seqK fun K hK=>?_
 refine AW.seqK fun K1 hK1=>?_
 have fin:∀ (fr:Nat→AV) (κ:Nat) (lv:Key→LB),fr 6=.c (.ptr 1 0)→fr 9=.c (.ptr 6 0)→lv 1=.cells true false 27 pd0.cs→lv 2=blS 81 q.f→lv 3=blS 67 q.ins→lv 4=blS 55 q.nodes→lv 5=blS 69 q.states→lv 6=.cells true false 27 (lP q 2 3 4 5)→lv 19=.hole→q.tiny→K ⟨fr,lv⟩ κ:=by
  intro fr κ lv z6 z9 l1 l2 l3 l4 l5 l6 l19 hqt
  repeat (refine And.intro (by omega) ?_)
  apply hK
  refine AW.seqK fun K3 hK3=>?_
  refine AW.regionP rfl ?_
  simp [z6,z9,l6]
  refine CallDo.prog κ 19 2 3 4 5 q hq hqt hch (by simp) l2 l3 l4 l5 (by decide) l19 ?_
  intro us hus
  generalize updL _ us=lv2 at hus ⊢
  have e1:lv2 1=.cells true false 27 pd0.cs:=by rw [hus 1 (by decide) (by decide) (by decide) (by decide)];exact l1
  generalize chgV q=r1 at *
  generalize (chkV q).2.2=r2 at *
  simp [z6,e1,setSeg]
  repeat (refine And.intro (by omega) ?_)
  apply hK3;clear hK3 K3
  refine AW.ret ?_
  refine FinC.cell2 (κ:=0) (T:=27) (t:=6) (u:=7) (k:=1) (off:=0) (own:=true) (fz:=false) (U:=27) (cs:=r1.cs) rfl ?_ ?_ ?_ ?_ rfl rfl
  ·simp [z6]
  ·simp [pd0,scC]
  ·rw [List.drop_zero];exact load27 ..
  ·simp
 cases hins:p.ins with
 | none=>
  have hqp:q=p:=by rw [← hQ];exact setI_none hins _
  have hni:p.ni=0:=by unfold PD.ni;rw [hins];rfl
  have hb:blS 67 (none:Option (List (List DV)))=.nils:=rfl
  refine AW.regionP rfl ?_
  simp [hb,hni]
  repeat (refine And.intro (by omega) ?_)
  apply hK1;clear hK1 K1
  refine AW.block ?_
  refine AW.loopV (fun (_:Unit)=>⟨frOf [(6,.c (.ptr 1 0)),(9,.c (.ptr 6 0)),(36,.c (.d (.int .i64 0))),(37,.c (.d (.int .i64 0)))],_⟩) 7
   (fun _=>True) (fun _=>0) () (Le.mk' _ rfl (by repeat (first|exact noMap_hole|refine noMap_upd ?_ _ _ _ _ _|(refine noMap_upd_dead ?_ _)|(refine noMap_blS ?_ _ _ _)|(refine noMap_upd_nils ?_ _)|simp)) (by simp)) trivial ?_
  rintro⟨⟩ _
  refine AW.seqK fun K3 hK3=>?_
  refine AW.regionP rfl ?_
  simp
  repeat (refine And.intro (by omega) ?_)
  apply hK3;clear hK3 K3
  refine AW.seqK fun K3 hK3=>?_
  refine AW.cond (b:=false) (by first|(simp [];done)|(simp [];omega)) ?_
  refine AW.exit ?_
  simp
  refine fin _ _ _ (by simp) (by simp) rfl ?_ ?_ ?_ ?_ ?_ rfl (by rw [hqp];exact ht)
  ·rw [hqp];rfl
  ·rw [hqp,hins];rfl
  ·rw [hqp];rfl
  ·rw [hqp];rfl
  ·rw [hqp];simp only [lP,hni];rfl
 | some es=>
  have hbi:blS 67 (some es)=.cells true false 67 (flI p.I):=by
   rw [← PD.I_fl hp,hins];rfl
  have hni:p.ni≤9223372036854775807:=by have:=ht.i;omega
  refine AW.regionP rfl ?_
  simp [hbi,hni]
  repeat (refine And.intro (by omega) ?_)
  apply hK1;clear hK1 K1
  refine AW.block ?_
  refine AW.loopV (fun (i:Nat)=>⟨frOf [(1,.c (tC o)),(2,.c (tC o')),(6,.c (.ptr 1 0)),(9,.c (.ptr 6 0)),(36,.c (.d (.int .i64 p.ni))),(37,.c (.d (.int .i64 i)))],
   upd (upd (upd (upd (upd (upd (upd (fun _=>.hole) 0 (.cells true false 27 p.cs)) 1 (.cells true false 27 pd0.cs)) 2 (blS 81 p.f)) 3 (.cells true false 67 (flI (setBx p.I (tL o) (tL o') i)))) 4 (blS 55 p.nodes)) 5 (blS 69 p.states)) 6 (.cells true false 27 (lP p 2 3 4 5))⟩) 7
   (fun i=>i≤p.ni) (fun i=>p.ni - i) 0 (Le.mk' _ (by simp [pd0,scC,hbi,setBx,hins]) (by repeat (first|exact noMap_hole|refine noMap_upd ?_ _ _ _ _ _|(refine noMap_upd_dead ?_ _)|(refine noMap_blS ?_ _ _ _)|(refine noMap_upd_nils ?_ _)|simp)) (by simp)) (Nat.zero_le _) ?_
  rintro i hi
  try simp only at hi
  refine AW.seqK fun K3 hK3=>?_
  refine AW.regionP rfl ?_
  simp
  repeat (refine And.intro (by omega) ?_)
  apply hK3;clear hK3 K3
  refine AW.seqK fun K2 hK2=>?_
  by_cases hlt:i<p.ni
  ·have hlt':(i:Int)<(p.ni:Int):=by omega
   have hx1:=fun lv=>ixT (T:=59) (by simp) lv o (i:=i) (by omega)
   have hx2:=fun lv=>ixT (T:=59) (by simp) lv o' (i:=i) (by omega)
   have hst:=setBx_step p.I (tL o) (tL o') (i:=i) (by rw [PD.I_len];exact hlt) (by omega) (by omega)
   have hle:i*3+1+1≤(flI (setBx p.I (tL o) (tL o') i)).length:=by rw [flI_len,setBx_len,PD.I_len];omega
   have hle2:i*3+2+1≤(setSeg (flI (setBx p.I (tL o) (tL o') i)) (i*3+1) [CV.d (.str ((tL o)[i]'(by omega)))]).length:=by
    rw [setSeg_len (by simpa using hle),flI_len,setBx_len,PD.I_len];omega
   refine AW.cond (b:=true) (by first|(simp [hlt'];done)|(simp [hlt'];omega)) ?_
   refine AW.skip ?_
   simp
   repeat (refine And.intro (by omega) ?_)
   apply hK2
   refine AW.seqK fun K3 hK3=>?_
   refine AW.block ?_
   refine AW.seqK fun K4 hK4=>?_
   refine AW.regionP rfl ?_
   simp
   repeat (refine And.intro (by omega) ?_)
   apply hK4;clear hK4 K4
   refine AW.drawP mixed (by kernel_rfl) rfl ?_
   simp [hx1,hx2,hlt',hst,hle,hle2]
   refine⟨by kernel_rfl,?_⟩
   repeat (refine And.intro (by omega) ?_)
   apply hK3
   have f12:=w64 (n:=(i:Int)+1) (by omega) (by omega)
   refine AW.regionP rfl ?_
   simp [f12]
   exact⟨i+1,Le.mk' _ (by rw [upd_comm _ _ _ (by decide:(6:Nat)≠3),upd_comm _ _ _ (by decide:(5:Nat)≠3),upd_comm _ _ _ (by decide:(4:Nat)≠3),upd_upd]) (by repeat (first|exact noMap_hole|refine noMap_upd ?_ _ _ _ _ _|(refine noMap_upd_dead ?_ _)|(refine noMap_blS ?_ _ _ _)|(refine noMap_upd_nils ?_ _)|simp)) (by simp),by omega,by omega⟩
  ·have hlt':¬ (i:Int)<(p.ni:Int):=by omega
   have hie:i=p.ni:=by omega
   subst hie
   refine AW.cond (b:=false) (by first|(simp [hlt'];done)|(simp [hlt'];omega)) ?_
   refine AW.exit ?_
   simp
   have hqi:q.ins=some ((setBx p.I (tL o) (tL o') p.ni).map In.e):=by rw [← hQ];exact PD.setI_ins hins _
   have hqn:q.ni=p.ni:=by rw [← hQ,PD.setI_ni hins,setBx_len,PD.I_len]
   have hqt:q.tiny:=⟨by rw [← hQ];exact ht.f,by rw [hqn];exact ht.i,by rw [← hQ];exact ht.n,by rw [← hQ];exact ht.s⟩
   have hlp:lP p 2 3 4 5=lP q 2 3 4 5:=by
    simp only [lP,hqn];rw [← hQ];rfl
   have hfl:LB.cells true false 67 (flI (setBx p.I (tL o) (tL o') p.ni))=blS 67 q.ins:=by
    rw [hqi];simp only [blS];rw [flI,List.flatMap_def]
   refine fin _ _ _ (by simp) (by simp) (by simp) ?_ ?_ ?_ ?_ ?_ (by simp) hqt
   ·rw [← hQ];rfl
   ·rw [← hfl];rfl
   ·rw [← hQ];rfl
   ·rw [← hQ];rfl
   ·rw [← hlp];rfl
end Go.Am

namespace Go.Am
open Go.Am.Ty Go.Proofs N
theorem parts_ok {p:PD}:∀ (n k:Nat),(partsV p n k).2.2=0→(∀ j,k≤j→j<k+n→∀ i,i<partN p j→partE p j i=0)∧(0≤p.res∧p.res<p.nn∧secI p p.res≠1)
 | 0,k,h=>by
  refine⟨fun j h1 h2=>by omega,?_⟩
  by_cases hc:0≤p.res∧p.res<p.nn∧secI p p.res≠1
  ·exact hc
  ·have e:partsV p 0 k=(5,0,7):=if_neg hc
   rw [e] at h;cases h
 | n+1,k,h=>by
  have e:partsV p (n+1) k=match firstE (partE p k) (partN p k) with|some i=>((k:Int)+1,(i:Int),partE p k i)|none=>partsV p n (k+1):=rfl
  rw [e] at h
  cases hf:firstE (partE p k) (partN p k) with
  | some i=>
   rw [hf] at h
   unfold firstE at hf
   have:=List.find?_some hf
   exact absurd h (by simpa using this)
  | none=>
   rw [hf] at h
   obtain⟨h1,h2⟩:=parts_ok n (k+1) h
   refine⟨fun j g1 g2 i hi=>?_,h2⟩
   by_cases hj:j=k
   ·subst hj
    unfold firstE at hf
    rw [List.find?_eq_none] at hf
    have:=hf i (List.mem_range.2 hi)
    simpa using this
   ·exact h1 j (by omega) (by omega) i hi
structure PD.good (p:PD):Prop where
 ok:p.ok
 gen:genE p=0
 fmts:∀ i,i<p.nf→fmtE (p.fm i).1 (p.fm i).2=0
 ins:∀ i,i<p.ni→inE p (p.inp i)=0
 nodes:∀ i,i<p.nn→ndE p i (p.nd i)=0
 states:∀ i,i<p.ns→stE p i (p.st i)=0
 res:0≤p.res∧p.res<p.nn∧secI p p.res≠1
theorem chk_good {p:PD}(hp:p.ok) (h:(chkV p).2.2=0):p.good:=by
 have hg:=chk_gen h
 have e:chkV p=partsV p 4 0:=by unfold chkV;rw [if_neg (not_not_intro hg)]
 rw [e] at h
 obtain⟨h1,h2⟩:=parts_ok 4 0 h
 exact⟨hp,hg,h1 0 (by omega) (by omega),h1 1 (by omega) (by omega),h1 2 (by omega) (by omega),h1 3 (by omega) (by omega),h2⟩
theorem ndE_f {p:PD}{i:Int}{n:Nd}(h:ndE p i n=0):0≤n.f∧n.f<p.nf:=by
 by_cases hf:0≤n.f∧n.f<p.nf
 ·exact hf
 ·exfalso
  unfold ndE at h
  by_cases h1:1≤n.op∧n.op≤15
  ·rw [if_neg (not_not_intro h1)] at h
   by_cases h2:idleB n=false
   ·rw [if_pos h2] at h;cases h
   ·rw [if_neg h2,if_pos hf] at h;cases h
  ·rw [if_pos h1] at h;cases h
theorem setF_self (n:Nd):n.setF n.f=n:=rfl
theorem setB_self (n:In):n.setB n.lo n.hi=n:=rfl
theorem set_self {α:Type}{l:List α}{i:Nat}{a:α}(h:l[i]?=some a):l.set i a=l:=by
 obtain⟨hi,rfl⟩:=List.getElem?_eq_some_iff.1 h
 exact List.set_getElem_self hi
theorem setFm_self (l:List Nd):∀ i,setFm l (l.map Nd.f) i=l
 | 0=>rfl
 | i+1=>by
  simp only [setFm,setFm_self l i]
  cases h:l[i]? with
  | none=>rw [List.set_eq_of_length_le (by rw [List.getElem?_eq_none_iff] at h;exact h)]
  | some n=>
   have e1:l.getD i default=n:=by rw [List.getD_eq_getElem?_getD,h];rfl
   have e2:(l.map Nd.f).getD i 0=n.f:=by rw [List.getD_eq_getElem?_getD,List.getElem?_map,h];rfl
   rw [e1,e2,setF_self,set_self h]
theorem setBx_self (l:List In):∀ i,setBx l (l.map In.lo) (l.map In.hi) i=l
 | 0=>rfl
 | i+1=>by
  simp only [setBx,setBx_self l i]
  cases h:l[i]? with
  | none=>rw [List.set_eq_of_length_le (by rw [List.getElem?_eq_none_iff] at h;exact h)]
  | some n=>
   have e1:l.getD i default=n:=by rw [List.getD_eq_getElem?_getD,h];rfl
   have e2:(l.map In.lo).getD i []=n.lo:=by rw [List.getD_eq_getElem?_getD,List.getElem?_map,h];rfl
   have e3:(l.map In.hi).getD i []=n.hi:=by rw [List.getD_eq_getElem?_getD,List.getElem?_map,h];rfl
   rw [e1,e2,e3,setB_self,set_self h]
theorem setN_self {p:PD}(hp:p.ok) {es:List (List DV)}(h:p.nodes=some es):p.setN p.N=p:=by
 have e:=PD.N_e hp
 have e2:some (p.N.map Nd.e)=p.nodes:=by rw [e,h];rfl
 unfold PD.setN
 rw [e2]
theorem setI_self {p:PD}(hp:p.ok):p.setI p.I=p:=by
 have e:=PD.I_e hp
 have e2:(if p.ins.isSome then some (p.I.map In.e) else none)=p.ins:=by
  rw [e]
  cases h:p.ins with
  | none=>rfl
  | some es=>rfl
 unfold PD.setI
 rw [e2]
theorem sub_self {p:PD}(hp:p.ok) (h:(chkV p).2.2=0):subV p p.res=(p,0):=by
 have hg:=chk_good hp h
 unfold subV
 rw [if_neg (not_not_intro h),if_pos hg.res]
 rfl
theorem with_self {p:PD}(hp:p.ok) (h:(chkV p).2.2=0):withV p (p.N.map Nd.f)=(p,0):=by
 have hg:=chk_good hp h
 obtain⟨es,hes⟩:=nn_some hg.gen
 have e:chgV p=p:=if_pos h
 unfold withV
 rw [if_neg (not_not_intro h),if_neg (by rw [List.length_map,PD.N_len];exact fun h=>h rfl),if_pos,setFm_self,setN_self hp hes,e,h]
 rw [List.all_eq_true]
 intro x hx
 obtain⟨n,hn,rfl⟩:=List.mem_map.1 hx
 obtain⟨i,hi,rfl⟩:=List.mem_iff_getElem.1 hn
 rw [PD.N_get p hi]
 exact decide_eq_true (ndE_f (hg.nodes i (by rw [PD.N_len] at hi;exact hi)))
theorem box_self {p:PD}(hp:p.ok) (h:(chkV p).2.2=0):boxV p (p.I.map In.lo) (p.I.map In.hi)=(p,0):=by
 have e:chgV p=p:=if_pos h
 unfold boxV
 rw [if_neg (not_not_intro h),if_neg (by rw [List.length_map,List.length_map,PD.I_len];omega),setBx_self,setI_self hp,e,h]
end Go.Am

namespace Go.Am
open Go.Am.Ty Go.Proofs N
def sameB (p q:PD):Bool:=decide (p.mode=q.mode) && decide (p.head=q.head) && decide (p.tail=q.tail) && decide (p.res=q.res) &&
 eqL (sO p.f) (sO q.f) && eqL (sO p.ins) (sO q.ins) && eqL (sO p.nodes) (sO q.nodes) && eqL (sO p.states) (sO q.states)
theorem eqD_refl2 {e:List DV}(h:is2 e):eqD e e=true:=by obtain⟨a,b,rfl⟩:=h;simp [eqD,dEq]
theorem eqD_refl3 {e:List DV}(h:is3 e):eqD e e=true:=by obtain⟨a,b,c,rfl⟩:=h;simp [eqD,dEq]
theorem eqD_refl7 {e:List DV}(h:is7 e):eqD e e=true:=by obtain⟨a1,a2,a3,a4,a5,a6,s,rfl⟩:=h;simp [eqD,dEq]
theorem eqL_refl:∀ {l:List (List DV)},(∀ e∈l,eqD e e=true)→eqL l l=true
 | [],_=>rfl
 | a::l,h=>by simp only [eqL,Bool.and_eq_true];exact⟨h a (List.mem_cons_self ..),eqL_refl fun e he=>h e (List.mem_cons_of_mem _ he)⟩
theorem sameB_refl {p:PD}(h:p.ok):sameB p p=true:=by
 simp [sameB,eqL_refl (fun e he=>eqD_refl2 (h.f e he)),eqL_refl (fun e he=>eqD_refl3 (h.ins e he)),eqL_refl (fun e he=>eqD_refl7 (h.nodes e he)),eqL_refl (fun e he=>eqD_refl2 (h.states e he))]
set_option maxHeartbeats 2000000 in
theorem same_ok (G:List (List DV))(p q:PD)(hp:p.ok)(hq:q.ok):CallsP Tryz.prog G 37 [p.A,q.A] (.c (.d (.bool (sameB p q)))):=by
 refine CallsP.of_AW Go.Proofs.Tryz.func37 rfl (by rw [Tryz.ntmps37];simp) ?_
 rintro⟨_,_,w0,F0,W0,_,lv0,β0⟩ rfl rfl rfl
 refine AW.seqK fun K hK=>?_
 refine AW.regionP rfl ?_
 simp
 repeat (refine And.intro (by omega) ?_)
 apply hK;clear hK K
 refine AW.seqK fun K hK=>?_
 by_cases h1:p.mode=q.mode
 rotate_left
 ·refine AW.regionP rfl ?_
  simp [h1]
  repeat (refine And.intro (by omega) ?_)
  apply hK;clear hK K
  exact AW.ret (κ:=0) (FinP.tmp (κ:=0) rfl 4 (by simp [sameB,h1]) (by first|rfl|simp) (by first|rfl|simp) (by first|rfl|simp))
 by_cases h2:p.head=q.head
 rotate_left
 ·refine AW.regionP rfl ?_
  simp [h1,h2]
  repeat (refine And.intro (by omega) ?_)
  apply hK;clear hK K
  exact AW.ret (κ:=0) (FinP.tmp (κ:=0) rfl 4 (by simp [sameB,h2]) (by first|rfl|simp) (by first|rfl|simp) (by first|rfl|simp))
 by_cases h3:p.tail=q.tail
 rotate_left
 ·refine AW.regionP rfl ?_
  simp [h1,h2,h3]
  repeat (refine And.intro (by omega) ?_)
  apply hK;clear hK K
  exact AW.ret (κ:=0) (FinP.tmp (κ:=0) rfl 4 (by simp [sameB,h3]) (by first|rfl|simp) (by first|rfl|simp) (by first|rfl|simp))
 by_cases h4:p.res=q.res
 rotate_left
 ·refine AW.regionP rfl ?_
  simp [h1,h2,h3,h4]
  repeat (refine And.intro (by omega) ?_)
  apply hK;clear hK K
  exact AW.ret (κ:=0) (FinP.tmp (κ:=0) rfl 4 (by simp [sameB,h4]) (by first|rfl|simp) (by first|rfl|simp) (by first|rfl|simp))
 refine AW.regionP rfl ?_
 simp [h1,h2,h3,h4]
 refine CallDo.pure 2 7 (equal100_ok _ _ _ hp.f hq.f) (by simp) (by simp) rfl ?_
 by_cases f1:eqL (sO p.f) (sO q.f)=true
 rotate_left
 ·simp [f1]
  repeat (refine And.intro (by omega) ?_)
  apply hK;clear hK K
  exact AW.ret (κ:=0) (FinP.tmp (κ:=0) rfl 4 (by simp [sameB,f1]) (by first|rfl|simp) (by first|rfl|simp) (by first|rfl|simp))
 simp [f1]
 refine CallDo.pure 2 7 (equal101_ok _ _ _ hp.ins hq.ins) (by simp) (by simp) rfl ?_
 by_cases f2:eqL (sO p.ins) (sO q.ins)=true
 rotate_left
 ·simp [f2]
  repeat (refine And.intro (by omega) ?_)
  apply hK;clear hK K
  exact AW.ret (κ:=0) (FinP.tmp (κ:=0) rfl 4 (by simp [sameB,f2]) (by first|rfl|simp) (by first|rfl|simp) (by first|rfl|simp))
 simp [f2]
 refine CallDo.pure 2 7 (equal102_ok _ _ _ hp.nodes hq.nodes) (by simp) (by simp) rfl ?_
 by_cases f3:eqL (sO p.nodes) (sO q.nodes)=true
 rotate_left
 ·simp [f3]
  repeat (refine And.intro (by omega) ?_)
  apply hK;clear hK K
  exact AW.ret (κ:=0) (FinP.tmp (κ:=0) rfl 4 (by simp [sameB,f3]) (by first|rfl|simp) (by first|rfl|simp) (by first|rfl|simp))
 simp [f3]
 refine CallDo.pure 2 7 (equal103_ok _ _ _ hp.states hq.states) (by simp) (by simp) rfl ?_
 simp
 repeat (refine And.intro (by omega) ?_)
 apply hK;clear hK K
 exact AW.ret (κ:=0) (FinP.tmp (κ:=0) rfl 4 (by simp [sameB,h1,h2,h3,h4,f1,f2,f3]) (by first|rfl|simp) (by first|rfl|simp) (by first|rfl|simp))
end Go.Am

namespace Go.Am
open Go.Am.Ty Go.Proofs N
theorem likeD (own fz:Bool)(T:TypeId)(l:List DV)(g:Key→Key):(LB.cells own fz T (l.map CV.d)).like (.cells own fz T (l.map CV.d)) g:=LB.like_cells.2 ⟨rfl,rfl,by rw [List.map_map];rfl,id⟩
theorem like_box (T:TypeId)(p:PD)(g:Key→Key):(LB.cells true false T p.cs).like (.cells true false T p.cs) g:=by
 rw [← dcs_cs];exact likeD ..
theorem like_z (l:List Int)(g:Key→Key):(LB.cells true false 3 (zK l)).like (.cells true false 3 (zK l)) g:=by
 rw [zK_map];exact likeD ..
def tK (l:List (List UInt8)):List CV:=l.map fun s=>CV.d (.str s)
theorem tK_map (l:List (List UInt8)):tK l=(l.map fun s=>DV.str s).map CV.d:=by simp [tK]
theorem like_t (l:List (List UInt8))(g:Key→Key):(LB.cells true false 53 (tK l)).like (.cells true false 53 (tK l)) g:=by
 rw [tK_map];exact likeD ..
def zB (l:List Int):LB:=if l=[] then .hole else .cells true false 3 (zK l)
def zS' (k:Key)(l:List Int):AV:=if l=[] then .c (.d .nilsl) else .c (.lsl k 0 l.length 1)
def tB (l:List (List UInt8)):LB:=if l=[] then .hole else .cells true false 53 (tK l)
def tS' (k:Key)(l:List (List UInt8)):AV:=if l=[] then .c (.d .nilsl) else .c (.lsl k 0 l.length 1)
theorem bs30 (lv:Key→LB)(κ:Key)(h:lv κ=.hole)(a:CV):stepBuildSlice Tryz.prog 30 1 [0] lv κ [.c a]=some (.c (.lsl κ 0 1 1),[(κ,.cells true false 3 [a])],[],True):=by
 unfold stepBuildSlice;rw [h];kernel_rfl
theorem bs591 (lv:Key→LB)(κ:Key)(h:lv κ=.hole)(a:CV):stepBuildSlice Tryz.prog 59 1 [0] lv κ [.c a]=some (.c (.lsl κ 0 1 1),[(κ,.cells true false 53 [a])],[],True):=by
 unfold stepBuildSlice;rw [h];kernel_rfl
theorem dArg_K {lv:Key→LB}{k:Key}{own fz:Bool}{T:TypeId}{l:List DV}(h:lv k=.cells own fz T (l.map CV.d)) (hl:l.length≤1000):dArg lv (.c (.lsl k 0 l.length 1))=some (.c (.d (.sl (l.map fun x=>[x]))),[k]):=by
 have h1:((l.map CV.d).drop 0).take (l.length*1)=l.map CV.d:=by rw [List.drop_zero,Nat.mul_one];exact List.take_of_length_le (by simp)
 have h2:0+l.length*1≤(l.map CV.d).length∧l.length≤9223372036854775807:=⟨by simp,by omega⟩
 show (toDV lv 8 (.lsl k 0 l.length 1)).map _=_
 simp only [toDV,h]
 rw [if_pos h2,h1,toDVs_d]
 simp only [Option.map_some,chunk_one]
theorem rdA_K {lv:Key→LB}{k:Key}{own fz:Bool}{T:TypeId}{l:List DV}{n:Nat}(h:lv k=.cells own fz T (l.map CV.d)) {j:Key}(hj:j∈rdA lv (.c (.lsl k 0 n 1))):j=k:=by
 simp only [rdA,rdK,h,List.mem_cons,List.mem_flatMap,List.mem_map] at hj
 rcases hj with hj|⟨x,⟨y,_,rfl⟩,hx⟩
 ·exact hj
 ·cases hx
theorem CallDo.list1 {c:Ctx}{f:FuncId}{lv:Key→LB}{K:AV→List (Key × LB)→List Key→Nat→Prop}(κ' kh k:Key) {T:TypeId}{l:List DV}{n:Nat}(p:PD) {y x:AV}(hnl:n=l.length) (hl:l.length≤1000) (hy:(y=.c (.d (.sl (l.map fun x=>[x]))))) (hc:CallsP c.P c.G f [p.A,y] x) (hx:x.pure=true)
 (hk:lv k=.cells true false T (l.map CV.d)) (hh:lv kh=.hole) (hK:K x [(k,.cells true true T (l.map CV.d))] [kh,k] κ'):CallDo c f [p.A,.c (.lsl k 0 n 1)] lv K:=by
 subst hy;subst hnl
 have e:updL lv (frzW [(k,T,l.map CV.d)]) k=.cells true true T (l.map CV.d):=by simp [frzW,updL,upd]
 refine CallDo.frzL (us:=[p.A,.c (.d (.sl (l.map fun x=>[x])))]) κ' kh [(k,T,l.map CV.d)] [kh,k] hc hx (by simpa using hk) (by simp) hh rfl (fun i p' q'=>?_) (fun a ha j hj=>?_) (by simp) hK
 ·have hi:i=0∨i=1:=by simp at p';omega
  rcases hi with rfl|rfl
  ·exact .inl ⟨PD.pureS p,rfl⟩
  ·exact .inr ⟨[k],dArg_K e hl,by simp⟩
 ·simp only [List.mem_cons,List.not_mem_nil,or_false] at ha
  rcases ha with rfl|rfl
  ·have e0:rdA (updL lv (frzW [(k,T,l.map CV.d)])) p.A=[]:=rdA_pure (PD.pureS p)
   rw [e0] at hj;cases hj
  ·left;rw [rdA_K e hj];simp
theorem CallDo.list2 {c:Ctx}{f:FuncId}{lv:Key→LB}{K:AV→List (Key × LB)→List Key→Nat→Prop}(κ' kh k k2:Key) {T T2:TypeId}{l l2:List DV}{n n2:Nat}(p:PD) {y y2 x:AV}(hnl:n=l.length) (hnl2:n2=l2.length) (hl:l.length≤1000) (hl2:l2.length≤1000) (hy:(y=.c (.d (.sl (l.map fun x=>[x]))))) (hy2:(y2=.c (.d (.sl (l2.map fun x=>[x])))))
 (hc:CallsP c.P c.G f [p.A,y,y2] x) (hx:x.pure=true)
 (hk:lv k=.cells true false T (l.map CV.d)) (hk2:lv k2=.cells true false T2 (l2.map CV.d)) (hn:k≠k2) (hh:lv kh=.hole) (hK:K x [(k,.cells true true T (l.map CV.d)),(k2,.cells true true T2 (l2.map CV.d))] [kh,k,k2] κ'):CallDo c f [p.A,.c (.lsl k 0 n 1),.c (.lsl k2 0 n2 1)] lv K:=by
 subst hy;subst hy2;subst hnl;subst hnl2
 have e:updL lv (frzW [(k,T,l.map CV.d),(k2,T2,l2.map CV.d)]) k=.cells true true T (l.map CV.d):=by simp [frzW,updL,upd,hn]
 have e2:updL lv (frzW [(k,T,l.map CV.d),(k2,T2,l2.map CV.d)]) k2=.cells true true T2 (l2.map CV.d):=by simp [frzW,updL,upd]
 refine CallDo.frzL (us:=[p.A,.c (.d (.sl (l.map fun x=>[x]))),.c (.d (.sl (l2.map fun x=>[x])))]) κ' kh [(k,T,l.map CV.d),(k2,T2,l2.map CV.d)] [kh,k,k2] hc hx (by intro z hz;simp only [List.mem_cons,List.not_mem_nil,or_false] at hz;rcases hz with rfl|rfl <;> assumption) (by simpa using hn) hh rfl (fun i p' q'=>?_) (fun a ha j hj=>?_) (by simp) hK
 ·have hi:i=0∨i=1∨i=2:=by simp at p';omega
  rcases hi with rfl|rfl|rfl
  ·exact .inl ⟨PD.pureS p,rfl⟩
  ·exact .inr ⟨[k],dArg_K e hl,by simp⟩
  ·exact .inr ⟨[k2],dArg_K e2 hl2,by simp⟩
 ·simp only [List.mem_cons,List.not_mem_nil,or_false] at ha
  rcases ha with rfl|rfl|rfl
  ·have e0:rdA (updL lv (frzW [(k,T,l.map CV.d),(k2,T2,l2.map CV.d)])) p.A=[]:=rdA_pure (PD.pureS p)
   rw [e0] at hj;cases hj
  ·left;rw [rdA_K e hj];simp
  ·left;rw [rdA_K e2 hj];simp
theorem upd_hole {lv:Key→LB}{k:Key}(h:lv k=.hole):upd lv k .hole=lv:=by
 funext j
 unfold upd
 split
 ·rename_i e;rw [e,h]
 ·rfl
theorem inAt (p:PD)(lv:Key→LB)(hp:p.ok)(i:Nat)(hi:i<p.ni):stepIndexAddr Tryz.prog 23 lv (.c (scC p.ins)) (.c (.d (.int .i64 (i:Int))))=some (.c (.d (.ptr (p.inp i).e)),[],[],True):=by
 have:=ixI hp lv (i:Int) (by omega) (by omega)
 rwa [Int.toNat_natCast] at this
theorem take_z {p:PD}{i:Nat}(hi:i<p.nn):(p.N.map Nd.f).take (i+1)=(p.N.map Nd.f).take i++[(p.nd i).f]:=by
 have h:i<(p.N.map Nd.f).length:=by rw [List.length_map,PD.N_len];exact hi
 rw [List.take_add_one,List.getElem?_eq_getElem h,List.getElem_map,PD.N_get];rfl
theorem take_lo {p:PD}{i:Nat}(hi:i<p.ni):(p.I.map In.lo).take (i+1)=(p.I.map In.lo).take i++[(p.inp i).lo]:=by
 have h:i<(p.I.map In.lo).length:=by rw [List.length_map,PD.I_len];exact hi
 rw [List.take_add_one,List.getElem?_eq_getElem h,List.getElem_map,PD.I_get];rfl
theorem take_hi {p:PD}{i:Nat}(hi:i<p.ni):(p.I.map In.hi).take (i+1)=(p.I.map In.hi).take i++[(p.inp i).hi]:=by
 have h:i<(p.I.map In.hi).length:=by rw [List.length_map,PD.I_len];exact hi
 rw [List.take_add_one,List.getElem?_eq_getElem h,List.getElem_map,PD.I_get];rfl
theorem zB_snoc (l:List Int)(x:Int):zB (l++[x])=.cells true false 3 (zK l++[.d (.int .i64 x)]):=by
 unfold zB;rw [if_neg (by simp)];simp [zK]
theorem zS_snoc (k:Key)(l:List Int)(x:Int):zS' k (l++[x])=.c (.lsl k 0 (l.length+1) 1):=by
 unfold zS';rw [if_neg (by simp)];simp
theorem tB_snoc (l:List (List UInt8))(x:List UInt8):tB (l++[x])=.cells true false 53 (tK l++[.d (.str x)]):=by
 unfold tB;rw [if_neg (by simp)];simp [tK]
theorem tS_snoc (k:Key)(l:List (List UInt8))(x:List UInt8):tS' k (l++[x])=.c (.lsl k 0 (l.length+1) 1):=by
 unfold tS';rw [if_neg (by simp)];simp
end Go.Am
