/- Helpers: an abstract machine for Go functions, and walks of functions of the program. -/
import Derived.Test.YtfkfimmphlpllaaGreatDoorBn13

set_option linter.all false

namespace Go.Am
open Go.Am.Ty Go.Proofs N
theorem sub_own (m:Int){p:PD}(hp:p.ok) (h:(chkV p).2.2=0):CallsP Tryz.prog (GG m) 39 [p.A,.c (.d (.int .i64 p.res))] (.tup [p.A,.c (.d (.int .i64 0))]):=by
 have:=sub_ok m p hp p.res
 rw [sub_self hp h] at this;exact this
theorem with_own (m:Int){p:PD}(hp:p.ok) (h:(chkV p).2.2=0):CallsP Tryz.prog (GG m) 41 [p.A,.c (zC (some (p.N.map Nd.f)))] (.tup [p.A,.c (.d (.int .i64 0))]):=by
 have ht:=chk_tiny h
 have:=with_ok' m p hp (some (p.N.map Nd.f)) (by show (p.N.map Nd.f).length≤1000;rw [List.length_map,PD.N_len];exact ht.n)
 rw [show zL (some (p.N.map Nd.f))=p.N.map Nd.f from rfl,with_self hp h] at this;exact this
theorem box_own (m:Int){p:PD}(hp:p.ok) (h:(chkV p).2.2=0) (o o':Option (List (List UInt8))) (e:tL o=p.I.map In.lo) (e':tL o'=p.I.map In.hi):CallsP Tryz.prog (GG m) 43 [p.A,.c (tC o),.c (tC o')] (.tup [p.A,.c (.d (.int .i64 0))]):=by
 have ht:=chk_tiny h
 have:=box_ok m p hp o o' (by rw [e,List.length_map,PD.I_len];exact ht.i) (by rw [e',List.length_map,PD.I_len];exact ht.i)
 rw [e,e',box_self hp h] at this;exact this
set_option maxHeartbeats 8000000 in
theorem langOwn_ok (m:Int)(p:PD)(hp:p.ok):CallsP Tryz.prog (GG m) 15 [p.A] (.c (.d (.bool true))):=by
 have hgr:=great_ok (GG m) p hp
 have hsh:=shown_ok m
 have hck:=check_ok m p hp
 have hsm:=same_ok (GG m) p p hp hp
 rw [sameB_refl hp] at hsm
 cases hgb:greatB p with
 | true=>
  rw [hgb] at hgr
  refine CallsP.of_AW Go.Proofs.Tryz.func15 rfl (by rw [Tryz.ntmps15];simp) ?_
  rintro⟨_,_,w0,F0,W0,_,lv0,β0⟩ rfl rfl rfl
  refine AW.seqK fun K hK=>?_
  refine AW.regionP rfl ?_
  simp
  repeat (refine And.intro (by omega) ?_)
  apply hK;clear hK K
  refine AW.seqK fun K hK=>?_
  refine AW.seqK fun K1 hK1=>?_
  refine AW.regionP rfl ?_
  simp
  refine CallDo.pure 1 9 (hgr) (by first|(simp;done)|rfl) (by simp) (by first|rfl|simp) ?_
  simp
  repeat (refine And.intro (by omega) ?_)
  apply hK1;clear hK1 K1
  refine AW.cond (b:=true) (by first|(simp [];done)|(simp [];omega)) ?_
  refine AW.seqK fun K1 hK1=>?_
  refine AW.regionP rfl ?_
  simp
  refine CallDo.pure 1 9 (hsh) (by first|(simp;done)|rfl) (by simp) (by first|rfl|simp) ?_
  simp
  repeat (refine And.intro (by omega) ?_)
  apply hK1;clear hK1 K1
  exact AW.ret (κ:=0) (FinP.tmp (κ:=0) rfl 2 (by simp []) (by first|rfl|simp) (by first|rfl|simp) (by first|rfl|simp))
 | false=>
 rw [hgb] at hgr
 by_cases h0:(chkV p).2.2=0
 rotate_left
 ·generalize chkV p=cv at *
  refine CallsP.of_AW Go.Proofs.Tryz.func15 rfl (by rw [Tryz.ntmps15];simp) ?_
  rintro⟨_,_,w0,F0,W0,_,lv0,β0⟩ rfl rfl rfl
  refine AW.seqK fun K hK=>?_
  refine AW.regionP rfl ?_
  simp
  repeat (refine And.intro (by omega) ?_)
  apply hK;clear hK K
  refine AW.seqK fun K hK=>?_
  refine AW.seqK fun K1 hK1=>?_
  refine AW.regionP rfl ?_
  simp
  refine CallDo.pure 1 9 (hgr) (by first|(simp;done)|rfl) (by simp) (by first|rfl|simp) ?_
  simp
  repeat (refine And.intro (by omega) ?_)
  apply hK1;clear hK1 K1
  refine AW.cond (b:=false) (by first|(simp [];done)|(simp [];omega)) ?_
  refine AW.skip ?_
  simp
  repeat (refine And.intro (by omega) ?_)
  apply hK;clear hK K
  refine AW.seqK fun K hK=>?_
  refine AW.regionP rfl ?_
  simp
  refine CallDo.pure 1 9 (hck) (by first|(simp;done)|rfl) (by simp) (by first|rfl|simp) ?_
  simp
  repeat (refine And.intro (by omega) ?_)
  apply hK;clear hK K
  refine AW.seqK fun K hK=>?_
  refine AW.seqK fun K1 hK1=>?_
  refine AW.regionP rfl ?_
  simp
  repeat (refine And.intro (by omega) ?_)
  apply hK1;clear hK1 K1
  refine AW.cond (b:=true) (by first|(simp [h0];done)|(simp [h0];omega)) ?_
  refine AW.seqK fun K1 hK1=>?_
  refine AW.regionP rfl ?_
  simp
  refine CallDo.pure 1 9 (hsh) (by first|(simp;done)|rfl) (by simp) (by first|rfl|simp) ?_
  simp
  repeat (refine And.intro (by omega) ?_)
  apply hK1;clear hK1 K1
  exact AW.ret (κ:=0) (FinP.tmp (κ:=0) (t:=2) rfl 9 (by simp []) (by first|rfl|simp) (by first|rfl|simp) (by first|rfl|simp))
 have ht:=chk_tiny h0
 have hsub:=sub_own m hp h0
 have hwi:=with_own m hp h0
 have hbo:=box_own m hp h0
 have hgd:=chk_good hp h0
 obtain⟨v1,v2,v3,hv⟩:∃ a b c,chkV p=(a,b,c):=⟨_,_,_,rfl⟩
 rw [hv] at h0 hck
 simp only at h0
 subst h0
 have hnn:0<p.nn:=by have:=hgd.res;omega
 have htn:=ht.n
 have hti:=ht.i
 have hfl:(p.N.map Nd.f).length=p.nn:=by rw [List.length_map,PD.N_len]
 have hll:(p.I.map In.lo).length=p.ni:=by rw [List.length_map,PD.I_len]
 have hlh:(p.I.map In.hi).length=p.ni:=by rw [List.length_map,PD.I_len]
 refine CallsP.of_AW0 Go.Proofs.Tryz.func15 rfl (by rw [Tryz.ntmps15];simp)  ?_
 rintro⟨_,_,w0,F0,W0,_,lv0,β0⟩ rfl rfl rfl rfl
 refine AW.seqK fun K hK=>?_
 refine AW.regionP rfl ?_
 simp
 repeat (refine And.intro (by omega) ?_)
 apply hK;clear hK K
 refine AW.seqK fun K hK=>?_
 refine AW.seqK fun K1 hK1=>?_
 refine AW.regionP rfl ?_
 simp
 refine CallDo.pure 1 9 (hgr) (by first|(simp;done)|rfl) (by simp) (by first|rfl|simp) ?_
 simp
 repeat (refine And.intro (by omega) ?_)
 apply hK1;clear hK1 K1
 refine AW.cond (b:=false) (by first|(simp [];done)|(simp [];omega)) ?_
 refine AW.skip ?_
 simp
 repeat (refine And.intro (by omega) ?_)
 apply hK;clear hK K
 refine AW.seqK fun K hK=>?_
 refine AW.regionP rfl ?_
 simp
 refine CallDo.pure 1 9 (hck) (by first|(simp;done)|rfl) (by simp) (by first|rfl|simp) ?_
 simp
 repeat (refine And.intro (by omega) ?_)
 apply hK;clear hK K
 refine AW.seqK fun K hK=>?_
 refine AW.seqK fun K1 hK1=>?_
 refine AW.regionP rfl ?_
 simp
 repeat (refine And.intro (by omega) ?_)
 apply hK1;clear hK1 K1
 refine AW.cond (b:=false) (by first|(simp [];done)|(simp [];omega)) ?_
 refine AW.skip ?_
 simp
 repeat (refine And.intro (by omega) ?_)
 apply hK;clear hK K
 refine AW.seqK fun K hK=>?_
 refine AW.regionP rfl ?_
 simp
 repeat (refine And.intro (by omega) ?_)
 apply hK;clear hK K
 refine AW.seqK fun K hK=>?_
 refine AW.seqK fun K1 hK1=>?_
 refine AW.regionP rfl ?_
 simp
 repeat (refine And.intro (by omega) ?_)
 apply hK1;clear hK1 K1
 refine AW.block ?_
 refine AW.loopV (fun (i:Nat)=>⟨frOf [(1,.c (.ptr 0 0)),(6,zS' 1 ((p.N.map Nd.f).take i)),(7,.c (.d (.int .i64 i)))],upd (upd (fun _=>.hole) 0 (.cells true false 27 p.cs)) 1 (zB ((p.N.map Nd.f).take i))⟩) 2
  (fun i=>i≤p.nn) (fun i=>p.nn - i) 0 (Le.mk' _ (by simp only [List.take_zero,zB,if_true];exact (upd_hole rfl).symm) (by repeat (first|exact noMap_hole|refine noMap_upd ?_ _ _ _ _ _|(refine noMap_upd_dead ?_ _)|(refine noMap_blS ?_ _ _ _)|(refine noMap_upd_nils ?_ _)|simp)) (by simp [zS'])) (Nat.zero_le _) ?_
 rintro i hi
 try simp only at hi
 refine AW.seqK fun K3 hK3=>AW.seqK fun K4 hK4=>?_
 refine AW.regionP rfl ?_
 simp [lpNn]
 repeat (refine And.intro (by omega) ?_)
 apply hK4;clear hK4 K4
 by_cases hlt:i<p.nn
 ·have hlt':(i:Int)<(p.nn:Int):=by omega
  have hx:=fun lv=>ndAt p lv hp i hlt
  have hbs:∀ (lv:Key→LB) (h:lv 2=.hole) (a:CV),stepBuildSlice Tryz.prog 30 1 [0] lv 2 [.c a]=some (.c (.lsl 2 0 1 1),[(2,.cells true false 3 [a])],[],True):=fun lv h a=>bs30 lv 2 h a
  have hnx:=take_z (p:=p) hlt
  have hle:((p.N.map Nd.f).take i).length≤1000:=by rw [List.length_take];omega
  have hli:((p.N.map Nd.f).take i).length=i:=by rw [List.length_take];omega
  have f12:=w64 (n:=(i:Int)+1) (by omega) (by omega)
  generalize (p.N.map Nd.f).take i=l at *
  refine AW.cond (b:=true) (by first|(simp [hlt'];done)|(simp [hlt'];omega)) ?_
  refine AW.skip ?_
  simp
  repeat (refine And.intro (by omega) ?_)
  apply hK3
  refine AW.seqK fun K5 hK5=>?_
  refine AW.block ?_
  by_cases hl:l=[]
  ·subst hl
   refine AW.regionP rfl ?_
   simp [hx,zB,zS',hbs,srcA,keyOf,-stepBuildSlice]
   repeat (refine And.intro (by omega) ?_)
   apply hK5;clear hK5 K5
   refine AW.regionP rfl ?_
   simp [f12]
   refine⟨i+1,Le.keys [(0,0,.cells true false 27 p.cs),(1,3,zB ([]++[(p.nd i).f]))] 19 _ (by rw [hnx];rfl) rfl (by simp) (by simp) (by simp) ?_ ?_,by omega,by omega⟩
   ·intro e he
    simp only [List.mem_cons,List.not_mem_nil,or_false] at he
    rcases he with rfl|rfl
    ·exact like_box 27 p _
    ·rw [zB_snoc];exact like_z [(p.nd i).f] _
   ·rw [hnx,zS_snoc];simp [kmap]
  ·have hzb:zB l=.cells true false 3 (zK l):=if_neg hl
   have hzs:zS' 1 l=.c (.lsl 1 0 l.length 1):=if_neg hl
   have hzl:(zK l).length=l.length:=zK_len l
   refine AW.regionP rfl ?_
   simp [hx,hzb,hzs,hbs,srcA,keyOf,hzl,-stepBuildSlice]
   repeat (refine And.intro (by omega) ?_)
   apply hK5;clear hK5 K5
   refine AW.regionP rfl ?_
   simp [f12]
   refine⟨i+1,Le.keys [(0,0,.cells true false 27 p.cs),(1,3,zB (l++[(p.nd i).f]))] 19 _ (by rw [hnx];rfl) rfl (by simp) (by simp) (by simp) ?_ ?_,by omega,by omega⟩
   ·intro e he
    simp only [List.mem_cons,List.not_mem_nil,or_false] at he
    rcases he with rfl|rfl
    ·exact like_box 27 p _
    ·rw [zB_snoc,show zK l++[CV.d (.int .i64 (p.nd i).f)]=zK (l++[(p.nd i).f]) by simp [zK]]
     exact like_z (l++[(p.nd i).f]) _
   ·rw [hnx,zS_snoc];simp [kmap]
 have hlt':¬ (i:Int)<(p.nn:Int):=by omega
 have hie:i=p.nn:=by omega
 subst hie
 have htk:(p.N.map Nd.f).take p.nn=p.N.map Nd.f:=List.take_of_length_le (by omega)
 have hne:p.N.map Nd.f≠[]:=by intro e;rw [e] at hfl;simp at hfl;omega
 rw [htk]
 have hzb:zB (p.N.map Nd.f)=.cells true false 3 (zK (p.N.map Nd.f)):=if_neg hne
 have hzs:zS' 1 (p.N.map Nd.f)=.c (.lsl 1 0 p.nn 1):=by unfold zS';rw [if_neg hne,hfl]
 rw [hzb,hzs]
 refine AW.cond (b:=false) (by first|(simp [hlt'];done)|(simp [hlt'];omega)) ?_
 refine AW.exit ?_
 simp
 repeat (refine And.intro (by omega) ?_)
 apply hK
 refine AW.seqK fun K3 hK3=>?_
 refine AW.regionP rfl ?_
 simp
 repeat (refine And.intro (by omega) ?_)
 apply hK3;clear hK3 K3
 refine AW.seqK fun K3 hK3=>?_
 refine AW.seqK fun K4 hK4=>?_
 refine AW.regionP rfl ?_
 simp
 repeat (refine And.intro (by omega) ?_)
 apply hK4;clear hK4 K4
 refine AW.block ?_
 refine AW.loopV (fun (i:Nat)=>⟨frOf [(1,.c (.ptr 0 0)),(6,.c (.lsl 1 0 p.nn 1)),(8,tS' 2 ((p.I.map In.lo).take i)),(9,tS' 3 ((p.I.map In.hi).take i)),(10,.c (.d (.int .i64 i)))],
  upd (upd (upd (upd (fun _=>.hole) 0 (.cells true false 27 p.cs)) 1 (.cells true false 3 (zK (p.N.map Nd.f)))) 2 (tB ((p.I.map In.lo).take i))) 3 (tB ((p.I.map In.hi).take i))⟩) 4
  (fun i=>i≤p.ni) (fun i=>p.ni - i) 0 (Le.mk' _ (by simp only [List.take_zero,tB,if_true];exact ((upd_hole (k:=3) rfl).trans (upd_hole rfl)).symm) (by repeat (first|exact noMap_hole|refine noMap_upd ?_ _ _ _ _ _|(refine noMap_upd_dead ?_ _)|(refine noMap_blS ?_ _ _ _)|(refine noMap_upd_nils ?_ _)|simp)) (by simp [tS'])) (Nat.zero_le _) ?_
 rintro i hi
 try simp only at hi
 refine AW.seqK fun K5 hK5=>AW.seqK fun K6 hK6=>?_
 refine AW.regionP rfl ?_
 simp [lpI]
 repeat (refine And.intro (by omega) ?_)
 apply hK6;clear hK6 K6
 by_cases hlt:i<p.ni
 ·have hlt':(i:Int)<(p.ni:Int):=by omega
  have hx:=fun lv=>inAt p lv hp i hlt
  have hn1:=take_lo (p:=p) hlt
  have hn2:=take_hi (p:=p) hlt
  have hli:((p.I.map In.lo).take i).length=i:=by rw [List.length_take];omega
  have hli2:((p.I.map In.hi).take i).length=i:=by rw [List.length_take];omega
  have f12:=w64 (n:=(i:Int)+1) (by omega) (by omega)
  generalize (p.I.map In.lo).take i=l at *
  generalize (p.I.map In.hi).take i=l2 at *
  refine AW.cond (b:=true) (by first|(simp [hlt'];done)|(simp [hlt'];omega)) ?_
  refine AW.skip ?_
  simp
  repeat (refine And.intro (by omega) ?_)
  apply hK5
  refine AW.seqK fun K7 hK7=>?_
  refine AW.block ?_
  by_cases hl:l=[]
  ·have hl2:l2=[]:=List.length_eq_zero_iff.1 (by rw [hli2,← hli,hl];rfl)
   subst hl;subst hl2
   refine AW.drawP mixed (by kernel_rfl) rfl ?_
   simp [hx,tB,tS',bs591,srcA,keyOf,-stepBuildSlice]
   refine⟨by kernel_rfl,?_⟩
   repeat (refine And.intro (by omega) ?_)
   apply hK7;clear hK7 K7
   refine AW.regionP rfl ?_
   simp [f12]
   refine⟨i+1,Le.keys [(0,0,.cells true false 27 p.cs),(1,1,.cells true false 3 (zK (p.N.map Nd.f))),(2,5,tB ([]++[(p.inp i).lo])),(3,7,tB ([]++[(p.inp i).hi]))] 19 _ (by rw [hn1,hn2];rfl) rfl (by simp) (by simp) (by simp) ?_ ?_,by omega,by omega⟩
   ·intro e he
    simp only [List.mem_cons,List.not_mem_nil,or_false] at he
    rcases he with rfl|rfl|rfl|rfl
    ·exact like_box 27 p _
    ·exact like_z _ _
    ·rw [tB_snoc];exact like_t [(p.inp i).lo] _
    ·rw [tB_snoc];exact like_t [(p.inp i).hi] _
   ·rw [hn1,hn2,tS_snoc,tS_snoc];simp [kmap]
  ·have hl2:l2≠[]:=by intro e;apply hl;exact List.length_eq_zero_iff.1 (by rw [hli,← hli2,e];rfl)
   have hzb:tB l=.cells true false 53 (tK l):=if_neg hl
   have hzs:tS' 2 l=.c (.lsl 2 0 l.length 1):=if_neg hl
   have hzl:(tK l).length=l.length:=by simp [tK]
   have hzb2:tB l2=.cells true false 53 (tK l2):=if_neg hl2
   have hzs2:tS' 3 l2=.c (.lsl 3 0 l2.length 1):=if_neg hl2
   have hzl2:(tK l2).length=l2.length:=by simp [tK]
   refine AW.drawP mixed (by kernel_rfl) rfl ?_
   simp [hx,hzb,hzs,hzb2,hzs2,bs591,srcA,keyOf,hzl,hzl2,-stepBuildSlice]
   repeat (refine And.intro (by omega) ?_)
   refine⟨by kernel_rfl,?_⟩
   repeat (refine And.intro (by omega) ?_)
   apply hK7;clear hK7 K7
   refine AW.regionP rfl ?_
   simp [f12]
   refine⟨i+1,Le.keys [(0,0,.cells true false 27 p.cs),(1,1,.cells true false 3 (zK (p.N.map Nd.f))),(2,5,tB (l++[(p.inp i).lo])),(3,7,tB (l2++[(p.inp i).hi]))] 19 _ (by rw [hn1,hn2];rfl) rfl (by simp) (by simp) (by simp) ?_ ?_,by omega,by omega⟩
   ·intro e he
    simp only [List.mem_cons,List.not_mem_nil,or_false] at he
    rcases he with rfl|rfl|rfl|rfl
    ·exact like_box 27 p _
    ·exact like_z _ _
    ·rw [tB_snoc,show tK l++[CV.d (.str (p.inp i).lo)]=tK (l++[(p.inp i).lo]) by simp [tK]]
     exact like_t (l++[(p.inp i).lo]) _
    ·rw [tB_snoc,show tK l2++[CV.d (.str (p.inp i).hi)]=tK (l2++[(p.inp i).hi]) by simp [tK]]
     exact like_t (l2++[(p.inp i).hi]) _
   ·rw [hn1,hn2,tS_snoc,tS_snoc];simp [kmap]
 have hlt':¬ (i:Int)<(p.ni:Int):=by omega
 have hie:i=p.ni:=by omega
 subst hie
 have htl:(p.I.map In.lo).take p.ni=p.I.map In.lo:=List.take_of_length_le (by omega)
 have hth:(p.I.map In.hi).take p.ni=p.I.map In.hi:=List.take_of_length_le (by omega)
 rw [htl,hth]
 refine AW.cond (b:=false) (by first|(simp [hlt'];done)|(simp [hlt'];omega)) ?_
 refine AW.exit ?_
 simp
 repeat (refine And.intro (by omega) ?_)
 apply hK3
 have hz1:zK (p.N.map Nd.f)=((p.N.map Nd.f).map fun x=>DV.int .i64 x).map CV.d:=zK_map _
 have hy1:AV.c (zC (some (p.N.map Nd.f)))=.c (.d (.sl (((p.N.map Nd.f).map fun x=>DV.int .i64 x).map fun x=>[x]))):=by rw [List.map_map];rfl
 have hfl1:p.nn=((p.N.map Nd.f).map fun x=>DV.int .i64 x).length:=by rw [List.length_map,hfl]
 refine AW.seqK fun K5 hK5=>?_
 refine AW.regionP rfl ?_
 simp
 refine CallDo.pure 4 9 (hsub) (by first|(simp;done)|rfl) (by simp) (by first|rfl|simp) ?_
 simp [setSeg]
 repeat (refine And.intro (by omega) ?_)
 apply hK5;clear hK5 K5
 refine AW.seqK fun K5 hK5=>?_
 refine AW.regionP rfl ?_
 simp
 refine CallDo.list1 (T:=3) (l:=(p.N.map Nd.f).map fun x=>DV.int .i64 x) 5 19 1 p hfl1 (by rw [← hfl1];exact htn) hy1 hwi (by simp) (by rw [← hz1];rfl) rfl ?_
 rw [← hz1]
 simp [setSeg]
 repeat (refine And.intro (by omega) ?_)
 apply hK5;clear hK5 K5
 refine AW.seqK fun K5 hK5=>?_
 have fin:∀ (fr:Nat→AV) (κ:Nat) (lv:Key→LB),fr 1=.c (.ptr 0 0)→fr 5=.c (.d (.int .i64 0))→fr 13=.c (.d (.int .i64 0))→fr 15=.c (.d (.int .i64 0))→fr 11=.c (.ptr 4 0)→fr 12=.c (.ptr 5 0)→fr 14=.c (.ptr 6 0) →
  lv 0=.cells true false 27 p.cs→lv 4=.cells true false 27 p.cs→lv 5=.cells true false 27 p.cs→lv 6=.cells true false 27 p.cs→lv 9=.hole→K5 ⟨fr,lv⟩ κ:=by
  intro fr κ lv z1 z5 z13 z15 z11 z12 z14 l0 l4 l5 l6 l9
  repeat (refine And.intro (by omega) ?_)
  apply hK5
  refine AW.seqK fun K7 hK7=>?_
  refine AW.regionP rfl ?_
  simp [z1,z5,z13,z15,z11,z12,z14,l0,l4,l5,l6]
  refine CallDo.pure κ 9 hsm (by simp) (by simp) l9 ?_
  simp [z1,z5,z13,z15,z11,z12,z14,l0,l4,l5,l6]
  refine CallDo.pure κ 9 hsm (by simp) (by simp) l9 ?_
  simp [z1,z5,z13,z15,z11,z12,z14,l0,l4,l5,l6]
  refine CallDo.pure κ 9 hsm (by simp) (by simp) l9 ?_
  simp [z1,z5,z13,z15,z11,z12,z14,l0,l4,l5,l6]
  refine CallDo.pure κ 9 hsh (by simp) (by simp) l9 ?_
  simp
  repeat (refine And.intro (by omega) ?_)
  apply hK7;clear hK7 K7
  exact AW.ret (κ:=0) (FinP.tmp (κ:=0) (t:=2) rfl 9 (by simp) rfl (by simp [l9]) rfl)
 by_cases hni:p.ni=0
 ·have el:p.I.map In.lo=[]:=List.length_eq_zero_iff.1 (by omega)
  have eh:p.I.map In.hi=[]:=List.length_eq_zero_iff.1 (by omega)
  have hb:CallsP Tryz.prog (GG m) 43 [p.A,.c (.d .nilsl),.c (.d .nilsl)] (.tup [p.A,.c (.d (.int .i64 0))]):=hbo none none (by rw [el];rfl) (by rw [eh];rfl)
  rw [el,eh]
  refine AW.regionP rfl ?_
  simp [tS',tB]
  refine CallDo.pure 6 9 hb (by simp) (by simp) (by simp) ?_
  simp [setSeg]
  exact fin _ _ _ (by simp) (by simp) (by simp) (by simp) (by simp) (by simp) (by simp) (by simp) (by simp) (by simp) (by simp) (by simp)
 ·have nl:p.I.map In.lo≠[]:=by intro e;rw [e] at hll;simp at hll;omega
  have nh:p.I.map In.hi≠[]:=by intro e;rw [e] at hlh;simp at hlh;omega
  have q1:tB (p.I.map In.lo)=.cells true false 53 (tK (p.I.map In.lo)):=if_neg nl
  have q2:tB (p.I.map In.hi)=.cells true false 53 (tK (p.I.map In.hi)):=if_neg nh
  have q3:tS' 2 (p.I.map In.lo)=.c (.lsl 2 0 p.ni 1):=by unfold tS';rw [if_neg nl,hll]
  have q4:tS' 3 (p.I.map In.hi)=.c (.lsl 3 0 p.ni 1):=by unfold tS';rw [if_neg nh,hlh]
  have hb:=hbo (some (p.I.map In.lo)) (some (p.I.map In.hi)) rfl rfl
  have hz2:=tK_map (p.I.map In.lo)
  have hz3:=tK_map (p.I.map In.hi)
  have hy2:AV.c (tC (some (p.I.map In.lo)))=.c (.d (.sl (((p.I.map In.lo).map fun x=>DV.str x).map fun x=>[x]))):=by rw [List.map_map];rfl
  have hy3:AV.c (tC (some (p.I.map In.hi)))=.c (.d (.sl (((p.I.map In.hi).map fun x=>DV.str x).map fun x=>[x]))):=by rw [List.map_map];rfl
  have hl2:p.ni=((p.I.map In.lo).map fun x=>DV.str x).length:=by rw [List.length_map,hll]
  have hl3:p.ni=((p.I.map In.hi).map fun x=>DV.str x).length:=by rw [List.length_map,hlh]
  rw [q1,q2,q3,q4]
  refine AW.regionP rfl ?_
  simp
  refine CallDo.list2 (T:=53) (T2:=53) (l:=(p.I.map In.lo).map fun x=>DV.str x) (l2:=(p.I.map In.hi).map fun x=>DV.str x) 6 19 2 3 p hl2 hl3 (by rw [← hl2];exact hti) (by rw [← hl3];exact hti) hy2 hy3 hb (by simp) (by rw [← hz2];rfl) (by rw [← hz3];rfl) (by decide) rfl ?_
  rw [← hz2,← hz3]
  simp [setSeg,updL]
  exact fin _ _ _ (by simp) (by simp) (by simp) (by simp) (by simp) (by simp) (by simp) (by simp) (by simp) (by simp) (by simp) (by simp)
end Go.Am
