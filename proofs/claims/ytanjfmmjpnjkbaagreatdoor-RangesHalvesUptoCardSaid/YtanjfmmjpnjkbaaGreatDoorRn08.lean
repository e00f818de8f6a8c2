/- Helpers: an abstract machine for Go functions, and walks of functions of the program. -/
import Derived.Test.YtanjfmmjpnjkbaaGreatDoorRn07
import Derived.Shelf.Strings.Search1
import Derived.Shelf.Strings.Search2
import Derived.Shelf.Strings.Search3
import Derived.Shelf.Strings.Cut
import Derived.Shelf.Strings.Count
import Derived.Test.YtanjfmmjpnjkbaaGreatDoorProg
import Derived.Lib.Builder
import Derived.TacticsIn
import Derived.TacticsInMore
import Derived.RegionIn
import Derived.OwnWalkIn
import Derived.WalkKit
import Derived.RangeFuncOwn

set_option linter.all false
set_option maxHeartbeats 8000000
set_option maxRecDepth 100000
namespace Go.Am
open Go.Am.Ty Go.Proofs N
theorem mixed:Tryz.prog.follows .mixedOrders=true:=by kernel_rfl
theorem exact_cmp_ok {a b:Option (List Nat)}{G:List (List DV)}(ha:can 4294967296 (dO a)) (hb:can 4294967296 (dO b)):CallsP Tryz.prog G 40 [nK .u32 a,nK .u32 b] (.c (.d (.int .i64 (cmpN (val 4294967296 (dO a)) (val 4294967296 (dO b)))))):=by
 refine CallsS.know 0 (by simp) (fun V v h=>nK_rng h) fun hra=>?_
 refine CallsS.know 1 (by simp) (fun V v h=>nK_rng h) fun hrb=>?_
 refine CallsP.en Go.Proofs.Tryz.func40 rfl fun _=>AW.q ?_
 refine AW.seqK fun K hK=>AW.q ?_
 by_cases hl:(dO a).length=(dO b).length
 ·refine AW.fn (by simp_all) (AW.skip (hK _ _ (AW.seqK fun K hK=>AW.sr fun K1 hK1=>?_)))
  simp
  have e1:=w64 (n:=((dO a).length:Int) - 1) (by omega) (by omega)
  simp only [e1]
  apply hK1
  refine AW.block ?_
  refine AW.loopV (fun (k:Nat)=>⟨frOf [(0,nK .u32 a),(1,nK .u32 b),(5,.c (.d (.int .i64 ((k:Int) - 1))))],fun _=>.hole⟩) 0 (fun k=>k≤(dO a).length∧(dO a).drop k=(dO b).drop k) (fun k=>k) (dO a).length (Le.mk' _ rfl noMap_hole (by simp)) ⟨Nat.le_refl _,by grind⟩ ?_
  rintro k ⟨h1,h2⟩
  refine AW.seqK fun K3 hK3=>AW.q ?_
  cases k with
  | zero=>
   refine AW.cn (AW.exit (hK _ _ (AW.q ?_)))
   simp only [List.drop_zero] at h2
   exact AW.r0 (FinP.rt rfl 0 (by simp [cmpN_eq (congrArg (val 4294967296) h2)]))
  | succ k=>
   have h3:k<(dO b).length:=by omega
   have h4:k<(dO a).length:=by omega
   have e2:((k+1:Nat):Int) - 1=k:=by omega
   simp only [e2]
   refine AW.cy (AW.skip (hK3 _ _ (AW.seqK fun K5 hK5=>AW.block (AW.seqK fun K6 hK6=>?_))))
   refine AW.drawQ mixed (by kernel_rfl) rfl rfl ?_
   simp [h3,h4]
   apply hK6
   by_cases hd:(dO a)[k]=(dO b)[k]
   ·refine AW.fn (by simp_all) (AW.skip (hK5 _ _ (AW.rP ?_)))
    simp
    have e3:=w64 (n:=(k:Int) - 1) (by omega) (by omega)
    simp [e3]
    refine⟨k,Le.mk' _ (by simp) (by simp) (by simp),⟨by omega,?_⟩,by omega⟩
    rw [List.drop_eq_getElem_cons h4,List.drop_eq_getElem_cons h3,hd,h2]
   ·refine AW.fy (by simp <;> omega) (AW.seqK fun K6 hK6=>AW.seqK fun K7 hK7=>?_)
    refine AW.drawQ mixed (by kernel_rfl) rfl rfl ?_
    simp [h3,h4]
    apply hK7
    by_cases hlt:(dO a)[k]<(dO b)[k]
    ·refine AW.fy (by simp_all) (AW.q ?_)
     have:=val_lt_at ha.1 h4 h3 h2 hlt
     exact AW.r0 (FinP.rt rfl 0 (by simp [cmpN_lt this]))
    ·refine AW.fn (by simp_all) (AW.skip (hK6 _ _ (AW.q ?_)))
     have:=val_lt_at hb.1 h3 h4 h2.symm (by omega)
     exact AW.r0 (FinP.rt rfl 0 (by simp [cmpN_gt this]))
 ·refine AW.fy (by simp <;> omega) (AW.seqK fun K2 hK2=>AW.q ?_)
  by_cases hlt:(dO a).length<(dO b).length
  ·refine AW.fy (by simp_all) (AW.q ?_)
   exact AW.r0 (FinP.rt rfl 0 (by simp [cmpN_lt (can_len_lt (by omega) ha hb hlt)]))
  ·refine AW.fn (by simp_all) (AW.skip (hK2 _ _ (AW.q ?_)))
   exact AW.r0 (FinP.rt rfl 0 (by simp [cmpN_gt (can_len_lt (by omega) hb ha (by omega))]))
abbrev N32:=nK .u32
theorem exact_cut_ok (G:List (List DV))(l:List Nat):CallsP Tryz.prog G 81 [N32 (some l)] (N32 (some (trimN l))):=by
 refine CallsP.of_AW Go.Proofs.Tryz.func81 rfl (by simp) ?_
 rintro⟨_,_,w0,F0,W0,_,lv0,β0⟩ rfl rfl rfl
 refine AW.seqK fun K hK=>?_
 refine AW.regionP rfl ?_
 simp
 apply hK;clear hK K
 refine AW.seqK fun K hK=>?_
 refine AW.regionP rfl ?_
 simp [isFn_131]
 refine CallDo.pure 0 0 (exact_trim_ok _ l) rfl (by simp [N32]) rfl ?_
 simp
 apply hK;clear hK K
 exact AW.ret (FinP.tmp rfl 0 (by simp;rfl) rfl rfl rfl)
theorem exact_add_ok (G:List (List DV))(a b:Option (List Nat))(ha:(dO a).length≤1000000000000)(hb:(dO b).length≤1000000000000) :
 CallsP Tryz.prog G 39 [N32 a,N32 b] (N32 (some (dig 4294967296 (val 4294967296 (dO a)+val 4294967296 (dO b))))):=by
 refine CallsS.know 0 (by simp) (fun V v h=>nK_rng h) fun hra=>?_
 refine CallsS.know 1 (by simp) (fun V v h=>nK_rng h) fun hrb=>?_
 refine CallsP.of_AW Go.Proofs.Tryz.func39 rfl (by simp) ?_
 rintro⟨_,_,w0,F0,W0,_,lv0,β0⟩ rfl rfl rfl
 refine AW.seqK fun K hK=>?_
 refine AW.regionP rfl ?_
 simp
 apply hK;clear hK K
 refine AW.seqK fun K hK=>?_
 refine AW.seqK fun K2 hK2=>?_
 refine AW.regionP rfl ?_
 simp [lenP_nK slT_25]
 apply hK2;clear hK2 K2
 have main:∀ (a' b':Option (List Nat)) (fr:Nat→AV) (κ:Nat),fr 0=N32 a'→fr 1=N32 b'→(dO b').length≤(dO a').length→(dO a').length≤1000000000000 →
  ok 4294967296 (dO a')→ok 4294967296 (dO b')→val 4294967296 (dO a')+val 4294967296 (dO b')=val 4294967296 (dO a)+val 4294967296 (dO b)→K ⟨fr,fun _=>.hole⟩ κ:=by
  intro a' b' fr κ f0 f1 hle hla oka okb hv
  apply hK;clear hK
  refine AW.seqK fun K hK=>?_
  refine AW.regionP rfl ?_
  have e1:=w64 (n:=((dO a').length:Int)+1) (by omega) (by omega)
  simp [f0,lenP_nK slT_25,e1,slT_25,zcells_138,tbytes_138,repl_one]
  refine⟨by omega,?_⟩
  apply hK;clear hK K
  refine AW.at0 1 ?_
  generalize hκ:κ=κ0
  refine AW.seqK fun K hK=>?_
  refine AW.regionP rfl ?_
  simp
  apply hK;clear hK K
  refine AW.seqK fun K hK=>AW.seqK fun K1 hK1=>?_
  refine AW.regionP rfl ?_
  simp [f0,lenP_nK slT_25]
  apply hK1;clear hK1 K1
  refine AW.block ?_
  refine AW.loopV (fun (p:List Nat × Nat)=>⟨frOf [(0,N32 a'),(1,N32 b'),(5,.c (.lsl κ0 0 ((dO a').length+1) 1)),(6,.c (.d (.int .u64 p.2))),(20,N32 a'),(21,.c (.d (.int .i64 (dO a').length))),(22,.c (.d (.int .i64 p.1.length)))],
   upd (fun _=>.hole) κ0 (.cells true false 138 (wK .u32 (p.1++List.replicate ((dO a').length+1 - p.1.length) 0)))⟩) (κ0+1)
   (fun p=>p.1.length≤(dO a').length∧ok 4294967296 p.1∧p.2≤1∧val 4294967296 p.1+4294967296 ^ p.1.length*p.2=val 4294967296 ((dO a').take p.1.length)+val 4294967296 ((dO b').take p.1.length))
   (fun p=>(dO a').length - p.1.length) ([],0) (Le.mk' _ (by simp [wK_zeros]) (by simp) (by simp [f0,f1])) (by simp [ok_nil]) ?_
  rintro⟨pre,c⟩ ⟨h1,h2,h3,h4⟩
  simp only at h1 h2 h3 h4
  refine AW.seqK fun K3 hK3=>?_
  refine AW.regionP rfl ?_
  simp
  apply hK3;clear hK3 K3
  refine AW.seqK fun K2 hK2=>?_
  by_cases hlt:pre.length<(dO a').length
  ·refine AW.cond (b:=true) (by simp [hlt]) (AW.skip ?_)
   simp
   apply hK2
   have hz:(dO a').length+1 - pre.length=((dO a').length - pre.length)+1:=by omega
   refine AW.seqK fun K3 hK3=>AW.block ?_
   refine AW.seqK fun K4 hK4=>?_
   refine AW.regionP rfl ?_
   simp [ix_nK slT_25 hlt,aggT_138]
   apply hK4;clear hK4 K4
   refine AW.seqK fun K4 hK4=>?_
   refine AW.regionP rfl ?_
   simp [intT_138,intT_135]
   have hx:(dO a')[pre.length]<4294967296:=oka _ (List.getElem_mem hlt)
   generalize hxe:(dO a')[pre.length]=x at hx
   have e3:=wu64 (n:=(x:Int)) (by omega) (by omega)
   have e4:=wu64 (n:=(c:Int)+x) (by omega) (by omega)
   simp only [e3,e4]
   apply hK4;clear hK4 K4
   refine AW.seqK fun K5 hK5=>AW.seqK fun K6 hK6=>?_
   have fin:∀ (y:Nat) (fr:Nat→AV) (κ:Nat),y<4294967296→val 4294967296 ((dO b').take (pre.length+1))=val 4294967296 ((dO b').take pre.length)+4294967296 ^ pre.length*y →
    fr 0=N32 a'→fr 1=N32 b'→fr 5=.c (.lsl κ0 0 ((dO a').length+1) 1)→fr 6=.c (.d (.int .u64 ((c:Int)+x+y)))→fr 7=.c (.d (.int .i64 pre.length)) →
    fr 20=N32 a'→fr 21=.c (.d (.int .i64 (dO a').length))→fr 22=.c (.d (.int .i64 pre.length)) →
    K5 ⟨fr,upd (fun _=>.hole) κ0 (.cells true false 138 (wK .u32 (pre++List.replicate ((dO a').length+1 - pre.length) 0)))⟩ κ:=by
    intro y fr κ hy hbv q0 q1 q5 q6 q7 q20 q21 q22
    apply hK5
    refine AW.at0 (κ0+2) ?_
    refine AW.seqK fun K5 hK5=>?_
    refine AW.regionP rfl ?_
    have e5:IntKind.u32.wrap ((c:Int)+x+y)=((c+x+y) % 4294967296:Nat):=by rw [wu32m];omega
    have e6:setSeg (wK .u32 (pre++List.replicate ((dO a').length+1 - pre.length) 0)) pre.length [CV.d (.int .u32 (((c+x+y) % 4294967296:Nat):Int))]=wK .u32 (pre++[(c+x+y) % 4294967296]++List.replicate ((dO a').length - pre.length) 0):=by
     rw [hz,wK_set _ (by simp),set_zeros]
    have e7:(pre.length:Int)<((dO a').length:Int)+1:=by omega
    simp [q5,q6,q7,slT_25,intT_138,intT_135,e5,e6,infoS_138,szT_138,-Int.natCast_emod,-Int.natCast_add]
    refine⟨by omega,by omega,?_⟩
    apply hK5;clear hK5 K5
    refine AW.regionP rfl ?_
    have e8:(((c:Int)+x+y) / 4294967296)=(((c+x+y) / 4294967296:Nat):Int):=by omega
    have e8':Int.fdiv ((c:Int)+x+y) 4294967296=(((c+x+y) / 4294967296:Nat):Int):=by rw [Int.fdiv_eq_ediv_of_nonneg _ (by omega)];exact e8
    simp [q6,IntKind.bits,e8',-Int.natCast_ediv,-Int.natCast_add]
    apply hK3
    refine AW.regionP rfl ?_
    have e9:=w64 (n:=(pre.length:Int)+1) (by omega) (by omega)
    simp [q22,e9]
    have e10:(dO a').length - pre.length=(dO a').length+1 - (pre.length+1):=by omega
    refine⟨pre++[(c+x+y) % 4294967296],(c+x+y) / 4294967296,Le.mk' _ (by simp) (by simp) (by simp [q0,q1,q5,q20,q21]),⟨by simp;omega,?_,by omega,?_⟩,by simp;omega⟩
    ·exact ok_append.2 ⟨h2,ok_cons.2 ⟨by omega,ok_nil _⟩⟩
    ·have:=snoc_carry 4294967296 pre (c+x+y)
     rw [List.length_append,List.length_singleton,this,val_take_succ hlt,hxe,hbv,Nat.mul_add,Nat.mul_add]
     omega
   refine AW.regionP rfl ?_
   simp [lenP_nK slT_25]
   apply hK6;clear hK6 K6
   by_cases hlb:pre.length<(dO b').length
   ·refine AW.cond (b:=true) (by simp [hlb]) ?_
    refine AW.regionP rfl ?_
    have hy:(dO b')[pre.length]<4294967296:=okb _ (List.getElem_mem hlb)
    have e5:=wu64 (n:=((dO b')[pre.length]:Int)) (by omega) (by omega)
    have e6:=wu64 (n:=(c:Int)+x+(dO b')[pre.length]) (by omega) (by omega)
    simp [ix_nK slT_25 hlb,aggT_138,intT_138,intT_135,e5,e6]
    exact fin _ _ _ hy (val_take_succ hlb) (by simp) (by simp) (by simp) (by simp) (by simp) (by simp) (by simp) (by simp)
   ·refine AW.cond (b:=false) (by simp [hlb]) (AW.skip ?_)
    simp
    exact fin 0 _ _ (by omega) (by rw [val_take_ge (by omega),val_take_ge (by omega)];rfl) (by simp) (by simp) (by simp) (by simp) (by simp) (by simp) (by simp) (by simp)
  ·refine AW.cond (b:=false) (by simp [hlt]) (AW.exit ?_)
   simp
   have e2:pre.length=(dO a').length:=by omega
   apply hK
   refine AW.seqK fun K hK=>?_
   refine AW.regionP rfl ?_
   have e3:=wu32 (n:=(c:Int)) (by omega) (by omega)
   have e4:setSeg (wK .u32 (pre++[0])) pre.length [CV.d (.int .u32 (c:Int))]=wK .u32 (pre++[c]):=by
    rw [wK_set _ (by simp)];simp
   simp only [← e2]
   simp [lenP_nK slT_25,← e2,slT_25,intT_138,intT_135,e3,e4,infoS_138,szT_138]
   refine⟨by omega,?_⟩
   apply hK;clear hK K
   refine AW.seqK fun K hK=>?_
   refine AW.regionP rfl ?_
   simp [isFn_81]
   have hl:pre.length+1=(pre++[c]).length:=by simp
   rw [hl]
   have hout:trimN (pre++[c])=dig 4294967296 (val 4294967296 (dO a)+val 4294967296 (dO b)):=by
    refine trim_dig (by decide) (ok_append.2 ⟨h2,ok_cons.2 ⟨by omega,ok_nil _⟩⟩) ?_
    rw [val_snoc,h4,val_take_ge (by omega),val_take_ge (by omega),hv]
   refine CallP.frzN 0 (κ0+1) κ0 (by simp;rfl) (by simp;omega) (exact_cut_ok _ _) (by simp) (by simp) (by simp) ?_
   simp
   apply hK;clear hK K
   exact AW.ret (FinP.tmp rfl (κ0+1) (by simp [hout]) (by simp) (by simp) (by simp))
 have oka:ok 4294967296 (dO a):=fun d hd=>by have:=hra.2 d hd;simp only [hiK] at this;omega
 have okb:ok 4294967296 (dO b):=fun d hd=>by have:=hrb.2 d hd;simp only [hiK] at this;omega
 by_cases hlt:(dO a).length<(dO b).length
 ·refine AW.cond (b:=true) (by simp [hlt]) ?_
  refine AW.regionP rfl ?_
  simp
  exact main b a _ _ (by simp) (by simp) (by omega) hb okb oka (by omega)
 ·refine AW.cond (b:=false) (by simp [hlt]) (AW.skip ?_)
  simp
  exact main a b _ _ (by simp) (by simp) (by omega) ha oka okb rfl
theorem sub_step {x c y:Nat}(hx:x<4294967296) (hc:c≤1) (hy:y<4294967296) :
 ∃ v b:Nat,v<4294967296∧b≤1∧v+c+y=x+4294967296*b∧IntKind.u32.wrap (IntKind.u64.wrap (IntKind.u64.wrap ((x:Int) - c) - y))=v∧Int.fdiv (IntKind.u64.wrap (IntKind.u64.wrap ((x:Int) - c) - y)) 9223372036854775808=b:=by
 simp only [wu32m,wu64m]
 by_cases h:c+y≤x
 ·refine⟨x - c - y,0,by omega,by omega,by omega,by omega,?_⟩
  grind
 ·refine⟨x+4294967296 - c - y,1,by omega,by omega,by omega,by omega,?_⟩
  grind
theorem sub_step0 {x c:Nat}(hx:x<4294967296) (hc:c≤1):IntKind.u64.wrap (IntKind.u64.wrap ((x:Int) - c) - (0:Nat))=IntKind.u64.wrap ((x:Int) - c):=by
 simp only [wu64m];omega
theorem exact_sub_ok (G:List (List DV))(a b:Option (List Nat))(ha:(dO a).length≤1000000000000)(hv:val 4294967296 (dO b)≤val 4294967296 (dO a)) :
 CallsP Tryz.prog G 41 [nK .u32 a,nK .u32 b] (nK .u32 (some (dig 4294967296 (val 4294967296 (dO a) - val 4294967296 (dO b))))):=by
 refine CallsS.know 0 (by simp) (fun V v h=>nK_rng h) fun hra=>?_
 refine CallsS.know 1 (by simp) (fun V v h=>nK_rng h) fun hrb=>?_
 have oka:ok 4294967296 (dO a):=fun d hd=>by have:=hra.2 d hd;simp only [hiK] at this;omega
 have okb:ok 4294967296 (dO b):=fun d hd=>by have:=hrb.2 d hd;simp only [hiK] at this;omega
 refine CallsP.en Go.Proofs.Tryz.func41 rfl fun _=>AW.q ?_
 refine AW.sr fun K hK=>?_
 simp
 repeat refine and_o ?_
 apply hK
 refine AW.q ?_
 refine AW.seqK fun K hK=>AW.q ?_
 refine AW.block ?_
 refine AW.loopV (fun (p:List Nat × Nat)=>⟨frOf [(0,nK .u32 a),(1,nK .u32 b),(5,.c (.lsl 0 0 (dO a).length 1)),(6,.c (.d (.int .u64 p.2))),(13,nK .u32 a),(14,.c (.d (.int .i64 (dO a).length))),(15,.c (.d (.int .i64 p.1.length)))],
  upd (fun _=>.hole) 0 (.cells true false 138 (wK .u32 (p.1++List.replicate ((dO a).length - p.1.length) 0)))⟩) 1
  (fun p=>p.1.length≤(dO a).length∧ok 4294967296 p.1∧p.2≤1∧val 4294967296 p.1+val 4294967296 ((dO b).take p.1.length)=val 4294967296 ((dO a).take p.1.length)+4294967296 ^ p.1.length*p.2)
  (fun p=>(dO a).length - p.1.length) ([],0) (Le.mk' _ (by simp [wK_zeros]) (by simp) (by simp)) (by simp [ok_nil]) ?_
 rintro⟨pre,c⟩ ⟨h1,h2,h3,h4⟩
 simp only at h1 h2 h3 h4
 refine AW.q ?_
 refine AW.seqK fun K2 hK2=>?_
 by_cases hlt:pre.length<(dO a).length
 ·refine AW.fy (by simp_all) (AW.skip (hK2 _ _ ?_))
  have hz:(dO a).length - pre.length=((dO a).length - pre.length - 1)+1:=by omega
  refine AW.seqK fun K3 hK3=>AW.block (AW.sr fun K4 hK4=>?_)
  simp [hlt]
  apply hK4
  refine AW.sr fun K4 hK4=>?_
  simp
  have hx:(dO a)[pre.length]<4294967296:=oka _ (List.getElem_mem hlt)
  generalize hxe:(dO a)[pre.length]=x at hx
  have e3:=wu64 (n:=(x:Int)) (by omega) (by omega)
  simp only [e3]
  apply hK4
  refine AW.seqK fun K5 hK5=>AW.seqK fun K6 hK6=>?_
  have fin:∀ (y:Nat) (fr:Nat→AV) (κ:Nat),y<4294967296→val 4294967296 ((dO b).take (pre.length+1))=val 4294967296 ((dO b).take pre.length)+4294967296 ^ pre.length*y →
   fr 0=nK .u32 a→fr 1=nK .u32 b→fr 5=.c (.lsl 0 0 (dO a).length 1)→fr 9=.c (.d (.int .u64 (IntKind.u64.wrap (IntKind.u64.wrap ((x:Int) - c) - y))))→fr 7=.c (.d (.int .i64 pre.length)) →
   fr 13=nK .u32 a→fr 14=.c (.d (.int .i64 (dO a).length))→fr 15=.c (.d (.int .i64 pre.length)) →
   K5 ⟨fr,upd (fun _=>.hole) 0 (.cells true false 138 (wK .u32 (pre++List.replicate ((dO a).length - pre.length) 0)))⟩ κ:=by
   intro y fr κ hy hbv q0 q1 q5 q9 q7 q13 q14 q15
   obtain⟨v,bb,g1,g2,g3,g4,g5⟩:=sub_step hx h3 hy
   apply hK5
   refine AW.at0 2 ?_
   have e6:setSeg (wK .u32 (pre++List.replicate ((dO a).length - pre.length) 0)) pre.length [CV.d (.int .u32 (v:Int))]=wK .u32 (pre++[v]++List.replicate ((dO a).length - pre.length - 1) 0):=by
    rw [hz,wK_set _ (by simp),set_zeros];simp
   have e7:(pre.length:Int)<((dO a).length:Int):=by omega
   refine AW.sr fun K7 hK7=>?_
   simp [q5,q9,q7,g4,e6,e7]
   repeat refine and_o ?_
   apply hK7
   refine AW.rP ?_
   simp [q9,IntKind.bits,g5]
   apply hK3
   have e9:=w64 (n:=(pre.length:Int)+1) (by omega) (by omega)
   refine AW.rP ?_
   simp [q15,e9]
   have e10:(dO a).length - pre.length - 1=(dO a).length - (pre.length+1):=by omega
   refine⟨pre++[v],bb,Le.mk' _ (by simp [e10]) (by simp) (by simp [q0,q1,q5,q13,q14]),⟨by simp;omega,ok_append.2 ⟨h2,ok_cons.2 ⟨g1,ok_nil _⟩⟩,g2,?_⟩,by simp;omega⟩
   rw [List.length_append,List.length_singleton,val_snoc,val_take_succ hlt,hxe,hbv,Nat.pow_succ]
   have g6:4294967296 ^ pre.length*(v+c+y)=4294967296 ^ pre.length*(x+4294967296*bb):=by rw [g3]
   rw [Nat.mul_add,Nat.mul_add,Nat.mul_add,← Nat.mul_assoc] at g6
   omega
  refine AW.l0 (hK6 _ _ ?_)
  by_cases hlb:pre.length<(dO b).length
  ·refine AW.fy (by simp [hlb] <;> omega) ?_
   have hy:(dO b)[pre.length]<4294967296:=okb _ (List.getElem_mem hlb)
   have e5:=wu64 (n:=((dO b)[pre.length]:Int)) (by omega) (by omega)
   refine AW.rP ?_
   simp [hlb,e5]
   exact fin _ _ _ hy (val_take_succ hlb) (by simp) (by simp) (by simp) (by simp) (by simp) (by simp) (by simp) (by simp)
  ·refine AW.fn (by simp [hlb] <;> omega) (AW.skip ?_)
   simp
   exact fin 0 _ _ (by omega) (by rw [val_take_ge (by omega),val_take_ge (by omega)];rfl) (by simp) (by simp) (by simp) (by rw [sub_step0 hx h3];simp) (by simp) (by simp) (by simp) (by simp)
 ·refine AW.fn (by simp_all) (AW.exit ?_)
  simp
  have e2:pre.length=(dO a).length:=by omega
  apply hK
  refine AW.sr fun K hK=>?_
  simp
  have hlb:val 4294967296 ((dO b).take pre.length)=val 4294967296 (dO b):=by
   by_cases hb:(dO b).length≤pre.length
   ·exact val_take_ge hb
   ·have g1:=val_take_drop (B:=4294967296) (dO b) pre.length (by omega)
    have g2:=val_lt oka
    rw [← e2] at g2
    have g3:val 4294967296 ((dO b).drop pre.length)=0:=by
     apply Classical.byContradiction
     intro hne
     have:4294967296 ^ pre.length*1≤4294967296 ^ pre.length*val 4294967296 ((dO b).drop pre.length):=Nat.mul_le_mul_left _ (by omega)
     omega
    grind
  have hva:val 4294967296 ((dO a).take pre.length)=val 4294967296 (dO a):=val_take_ge (by omega)
  have hc:c=0:=by
   apply Classical.byContradiction
   intro hne
   have:c=1:=by omega
   subst this
   have:=val_lt h2
   rw [hlb,hva] at h4
   omega
  subst hc
  have hout:trimN pre=dig 4294967296 (val 4294967296 (dO a) - val 4294967296 (dO b)):=by
   refine trim_dig (by decide) h2 ?_
   rw [hlb,hva] at h4;omega
  rw [← e2]
  simp only [Nat.sub_self,List.replicate_zero,List.append_nil]
  refine CallP.frzN 0 1 0 (by simp;rfl) (by omega) (exact_cut_ok _ _) (by simp) (by simp) (by simp) ?_
  simp
  apply hK
  exact AW.r0 (FinP.rt rfl 1 (by simp [hout]))
theorem mul_step {B i j T x y V o c L L':Nat}(h1:L+B ^ (i+j)*c=T+B ^ i*(x*V)) (h2:L'+B ^ (i+j)*o=L+B ^ (i+j)*((c+(x*y+o)) % B)) :
 L'+B ^ (i+j+1)*((c+(x*y+o)) / B)=T+B ^ i*(x*(V+B ^ j*y)):=by
 have h3:=mod_div_pow B (i+j) (c+(x*y+o))
 grind
theorem exact_mul_ok (G:List (List DV))(a b:Option (List Nat))(ha:(dO a).length≤1000000000000)(hb:(dO b).length≤1000000000000) :
 CallsP Tryz.prog G 36 [nK .u32 a,nK .u32 b] (nK .u32 (some (dig 4294967296 (val 4294967296 (dO a)*val 4294967296 (dO b))))):=by
 refine CallsS.know 0 (by simp) (fun V v h=>nK_rng h) fun hra=>?_
 refine CallsS.know 1 (by simp) (fun V v h=>nK_rng h) fun hrb=>?_
 have oka:ok 4294967296 (dO a):=fun d hd=>by have:=hra.2 d hd;simp only [hiK] at this;omega
 have okb:ok 4294967296 (dO b):=fun d hd=>by have:=hrb.2 d hd;simp only [hiK] at this;omega
 refine CallsP.en Go.Proofs.Tryz.func36 rfl fun _=>AW.q ?_
 refine AW.seqK fun K hK=>?_
 have e0:IntKind.i64.wrap (((dO a).length:Int)+(dO b).length)=(((dO a).length+(dO b).length:Nat):Int):=by rw [w64 (by omega) (by omega)];omega
 refine AW.rP ?_
 simp [e0,-Int.natCast_add]
 repeat refine and_o ?_
 apply hK
 refine AW.seqK fun K hK=>AW.q ?_
 refine AW.block ?_
 refine AW.loopV (fun (p:Nat × List Nat)=>⟨frOf [(0,nK .u32 a),(1,nK .u32 b),(5,.c (.lsl 0 0 ((dO a).length+(dO b).length) 1)),(17,nK .u32 a),(18,.c (.d (.int .i64 (dO a).length))),(19,.c (.d (.int .i64 p.1)))],
  upd (fun _=>.hole) 0 (.cells true false 138 (wK .u32 (p.2++List.replicate ((dO a).length - p.1) 0)))⟩) 1
  (fun p=>p.1≤(dO a).length∧p.2.length=p.1+(dO b).length∧ok 4294967296 p.2∧val 4294967296 p.2=val 4294967296 ((dO a).take p.1)*val 4294967296 (dO b))
  (fun p=>(dO a).length - p.1) (0,List.replicate (dO b).length 0) (Le.mk' _ (by simp [wK_zeros,Nat.add_comm]) (by simp) (by simp)) ⟨by simp,by simp,ok_zeros (by omega) _,by simp [val_zeros]⟩ ?_
 rintro⟨i,lo⟩ ⟨h1,h2,h3,h4⟩
 simp only at h1 h2 h3 h4
 refine AW.q ?_
 refine AW.seqK fun K2 hK2=>?_
 by_cases hlt:i<(dO a).length
 ·refine AW.fy (by simp_all) (AW.skip (hK2 _ _ (AW.seqK fun K3 hK3=>AW.block (AW.sr fun K4 hK4=>?_))))
  simp [hlt]
  apply hK4
  refine AW.sr fun K4 hK4=>?_
  simp
  have hx:(dO a)[i]<4294967296:=oka _ (List.getElem_mem hlt)
  generalize hxe:(dO a)[i]=x at hx
  apply hK4
  refine AW.seqK fun K4 hK4=>AW.sr fun K5 hK5=>?_
  simp
  apply hK5
  refine AW.block ?_
  refine AW.loopV (fun (p:Nat × List Nat × Nat)=>⟨frOf [(0,nK .u32 a),(1,nK .u32 b),(5,.c (.lsl 0 0 ((dO a).length+(dO b).length) 1)),(17,nK .u32 a),(18,.c (.d (.int .i64 (dO a).length))),(19,.c (.d (.int .i64 i))),
   (6,.c (.d (.int .i64 i))),(7,.c (.d (.int .u32 x))),(8,.c (.d (.int .u64 p.2.2))),(24,nK .u32 b),(25,.c (.d (.int .i64 (dO b).length))),(26,.c (.d (.int .i64 p.1)))],
   upd (fun _=>.hole) 0 (.cells true false 138 (wK .u32 (p.2.1++List.replicate ((dO a).length - i) 0)))⟩) 2
   (fun p=>p.1≤(dO b).length∧p.2.1.length=i+(dO b).length∧ok 4294967296 p.2.1∧p.2.2<4294967296∧val 4294967296 p.2.1+4294967296 ^ (i+p.1)*p.2.2=val 4294967296 ((dO a).take i)*val 4294967296 (dO b)+4294967296 ^ i*(x*val 4294967296 ((dO b).take p.1)))
   (fun p=>(dO b).length - p.1) (0,lo,0) (Le.mk' _ (by simp) (by simp) (by simp)) ⟨by simp,h2,h3,by simp,by simp [h4]⟩ ?_
  rintro⟨j,lo2,c⟩ ⟨g1,g2,g3,g4,g5⟩
  simp only at g1 g2 g3 g4 g5
  refine AW.q ?_
  refine AW.seqK fun K7 hK7=>?_
  by_cases hlj:j<(dO b).length
  ·refine AW.fy (by simp [hlj] <;> omega) (AW.skip (hK7 _ _ (AW.seqK fun K8 hK8=>AW.block (AW.sr fun K9 hK9=>?_))))
   simp [hlj]
   apply hK9
   refine AW.seqK fun K9 hK9=>?_
   have hy:(dO b)[j]<4294967296:=okb _ (List.getElem_mem hlj)
   have hij:i+j<lo2.length:=by omega
   have hij2:i+j<(lo2++List.replicate ((dO a).length - i) 0).length:=by simp;omega
   have hij3:i+j<lo2.length+((dO a).length - i):=by omega
   have ho:lo2[i+j]<4294967296:=g3 _ (List.getElem_mem hij)
   have ho2:(lo2++List.replicate ((dO a).length - i) 0)[i+j]=lo2[i+j]:=List.getElem_append_left hij
   have hb2:val 4294967296 ((dO b).take (j+1))=val 4294967296 ((dO b).take j)+4294967296 ^ j*(dO b)[j]:=val_take_succ hlj
   have hset:=val_set (B:=4294967296) hij
   generalize (dO b)[j]=y at hy hb2
   generalize lo2[i+j]=o at ho ho2 hset
   have hxy:x*y≤4294967295*4294967295:=Nat.mul_le_mul (by omega) (by omega)
   have e1:IntKind.i64.wrap ((i:Int)+j)=((i+j:Nat):Int):=by rw [w64 (by omega) (by omega)];omega
   have e2:=wu64 (n:=(x:Int)) (by omega) (by omega)
   have e3:=wu64 (n:=(y:Int)) (by omega) (by omega)
   have e4:IntKind.u64.wrap ((x:Int)*y)=((x*y:Nat):Int):=by
    rw [← Int.natCast_mul];generalize x*y=p at hxy;exact wu64 (by omega) (by omega)
   have e5:=wu64 (n:=(o:Int)) (by omega) (by omega)
   have e6:IntKind.u64.wrap (((x*y:Nat):Int)+o)=((x*y+o:Nat):Int):=by
    generalize x*y=p at hxy;rw [wu64 (by omega) (by omega)];omega
   have e7:IntKind.u64.wrap ((c:Int)+((x*y+o:Nat):Int))=((c+(x*y+o):Nat):Int):=by
    generalize x*y=p at hxy;rw [wu64 (by omega) (by omega)];omega
   refine AW.rP ?_
   simp [e1,e2,e3,e4,e5,e6,e7,hij3,ho2,-Int.natCast_add,-Int.natCast_mul]
   repeat refine and_o ?_
   apply hK9
   have hbd:c+(x*y+o)<18446744073709551616:=by generalize x*y=p at hxy;omega
   generalize hm:c+(x*y+o)=m at hbd
   have f1:IntKind.u32.wrap (m:Int)=((m % 4294967296:Nat):Int):=by rw [wu32m];omega
   have f2:setSeg (wK .u32 (lo2++List.replicate ((dO a).length - i) 0)) (i+j) [CV.d (.int .u32 ((m % 4294967296:Nat):Int))]=wK .u32 (lo2.set (i+j) (m % 4294967296)++List.replicate ((dO a).length - i) 0):=by
    rw [wK_set _ hij2,List.set_append_left _ _ hij]
   have f3:Int.fdiv (m:Int) 4294967296=((m / 4294967296:Nat):Int):=by rw [Int.fdiv_eq_ediv_of_nonneg _ (by omega)];omega
   have f4:(i+j:Int)<(dO a).length+(dO b).length:=by omega
   refine AW.sr fun K9 hK9=>?_
   simp [e1,f1,f2,-Int.natCast_add,-Int.natCast_emod]
   repeat refine and_o ?_
   apply hK9
   refine AW.rP ?_
   simp [IntKind.bits,f3,-Int.natCast_ediv]
   apply hK8
   have f5:=w64 (n:=(j:Int)+1) (by omega) (by omega)
   refine AW.rP ?_
   simp [f5]
   refine⟨j+1,lo2.set (i+j) (m % 4294967296),m / 4294967296,Le.mk' _ (by simp) (by simp) (by simp),⟨by omega,by simp [g2],ok_set g3 _ (Nat.mod_lt _ (by omega)),?_,?_⟩,by omega⟩
   ·omega
   ·rw [hb2,← hm,← Nat.add_assoc i j 1]
    exact mul_step g5 (by grind)
  ·refine AW.fn (by simp [hlj] <;> omega) (AW.exit (hK4 _ _ ?_))
   have ej:j=(dO b).length:=by omega
   subst ej
   rw [val_take_ge (Nat.le_refl _)] at g5
   have e1:IntKind.i64.wrap ((i:Int)+(dO b).length)=((i+(dO b).length:Nat):Int):=by rw [w64 (by omega) (by omega)];omega
   have e2:=wu32 (n:=(c:Int)) (by omega) (by omega)
   have hz:(dO a).length - i=((dO a).length - i - 1)+1:=by omega
   have f2:setSeg (wK .u32 (lo2++List.replicate ((dO a).length - i) 0)) (i+(dO b).length) [CV.d (.int .u32 (c:Int))]=wK .u32 (lo2++[c]++List.replicate ((dO a).length - i - 1) 0):=by
    rw [wK_set _ (by simp;omega),hz,← g2,set_zeros];simp
   have f6:i+(dO b).length<lo2.length+((dO a).length - i):=by omega
   refine AW.rP ?_
   simp [e1,e2,f2,-Int.natCast_add]
   repeat refine and_o ?_
   apply hK3
   have f5:=w64 (n:=(i:Int)+1) (by omega) (by omega)
   refine AW.rP ?_
   simp [f5]
   have f7:(dO a).length - (i+1)=(dO a).length - i - 1:=by omega
   refine⟨i+1,lo2++[c],Le.mk' _ (by simp [f7]) (by simp) (by simp),⟨by omega,by simp;omega,ok_append.2 ⟨g3,ok_cons.2 ⟨g4,ok_nil _⟩⟩,?_⟩,by omega⟩
   rw [val_snoc,g2,g5,val_take_succ hlt,hxe,Nat.add_mul,Nat.mul_assoc]
 ·refine AW.fn (by simp_all) (AW.exit (hK _ _ ?_))
  have e2:i=(dO a).length:=by omega
  subst e2
  refine AW.sr fun K hK=>?_
  simp
  rw [← h2]
  have hout:trimN lo=dig 4294967296 (val 4294967296 (dO a)*val 4294967296 (dO b)):=by
   refine trim_dig (by decide) h3 ?_
   rw [h4,val_take_ge (Nat.le_refl _)]
  refine CallP.frzN 0 1 0 (by simp;rfl) (by omega) (exact_cut_ok _ _) (by simp) (by simp) (by simp) ?_
  simp
  apply hK
  exact AW.r0 (FinP.rt rfl 1 (by simp [hout]))
theorem exact_small_ok (G:List (List DV))(a:Option (List Nat))(b:Nat)(hb:b≠0)(ha:(dO a).length≤1000000000000) :
 CallsP Tryz.prog G 84 [nK .u32 a,.c (.d (.int .u32 b))] (.tup [nK .u32 (some (dig 4294967296 (val 4294967296 (dO a) / b))),.c (.d (.int .u32 ((val 4294967296 (dO a) % b:Nat):Int)))]):=by
 refine CallsS.know 0 (by simp) (fun V v h=>nK_rng h) fun hra=>?_
 refine CallsS.know 1 (by simp) (fun V v h=>Vw.int_rng h) fun hrb=>?_
 have oka:ok 4294967296 (dO a):=fun d hd=>by have:=hra.2 d hd;simp only [hiK] at this;omega
 rw [wrap_iff] at hrb;simp only [loK,hiK] at hrb
 refine CallsP.en Go.Proofs.Tryz.func84 rfl fun _=>AW.q ?_
 refine AW.q ?_
 refine AW.q ?_
 refine AW.seqK fun K hK=>AW.seqK fun K1 hK1=>?_
 have e1:=w64 (n:=((dO a).length:Int) - 1) (by omega) (by omega)
 refine AW.l1 e1 (hK1 _ _ ?_)
 refine AW.block ?_
 refine AW.loopV (fun (p:Nat × List Nat × Nat)=>⟨frOf [(0,nK .u32 a),(1,.c (.d (.int .u32 b))),(4,.c (.lsl 0 0 (dO a).length 1)),(6,.c (.d (.int .u64 p.2.2))),(7,.c (.d (.int .i64 ((p.1:Int) - 1))))],
  upd (fun _=>.hole) 0 (.cells true false 138 (wK .u32 (List.replicate p.1 0++p.2.1)))⟩) 1
  (fun p=>p.1+p.2.1.length=(dO a).length∧ok 4294967296 p.2.1∧p.2.2<b∧val 4294967296 ((dO a).drop p.1)=val 4294967296 p.2.1*b+p.2.2)
  (fun p=>p.1) ((dO a).length,[],0) (Le.mk' _ (by simp [wK_zeros]) (by simp) (by simp)) (by simp [ok_nil];omega) ?_
 rintro⟨k,qs,r⟩ ⟨h1,h2,h3,h4⟩
 simp only at h1 h2 h3 h4
 refine AW.seqK fun K3 hK3=>AW.q ?_
 cases k with
 | zero=>
  refine AW.cn (AW.exit (hK _ _ (AW.sr fun K hK=>?_)))
  simp
  have e2:(dO a).length=qs.length:=by omega
  have e3:=wu32 (n:=(r:Int)) (by omega) (by omega)
  rw [e2]
  simp only [List.drop_zero] at *
  have hq:val 4294967296 (dO a) / b=val 4294967296 qs:=by
   rw [h4,Nat.add_comm,Nat.add_mul_div_right _ _ (by omega),Nat.div_eq_of_lt h3];omega
  have hr:val 4294967296 (dO a) % b=r:=by
   rw [h4,Nat.add_comm,Nat.add_mul_mod_self_right,Nat.mod_eq_of_lt h3]
  have hout:trimN qs=dig 4294967296 (val 4294967296 (dO a) / b):=trim_dig (by decide) h2 hq.symm
  refine CallP.frzN 0 1 0 (by simp;rfl) (by omega) (exact_cut_ok _ _) (by simp) (by simp) (by simp) ?_
  simp [e3]
  apply hK
  exact AW.r0 (FinP.t2 rfl 1 (by simp [hout]) (by simp [hr]))
 | succ k=>
  have hk:k<(dO a).length:=by omega
  have e2:((k+1:Nat):Int) - 1=k:=by omega
  simp only [e2]
  refine AW.cy (AW.skip (hK3 _ _ (AW.seqK fun K5 hK5=>AW.block (AW.seqK fun K6 hK6=>?_))))
  have hx:(dO a)[k]<4294967296:=oka _ (List.getElem_mem hk)
  have hd:val 4294967296 ((dO a).drop k)=(dO a)[k]+4294967296*val 4294967296 ((dO a).drop (k+1)):=val_drop hk
  generalize hxe:(dO a)[k]=x at hx hd
  have f1:IntKind.u64.wrap ((r:Int)*4294967296)=((r*4294967296:Nat):Int):=by rw [wu64 (by omega) (by omega)];omega
  have f2:=wu64 (n:=(x:Int)) (by omega) (by omega)
  have f3:=or_add64 (m:=r) (y:=x) (by omega) hx
  refine AW.rP ?_
  simp [hk,hxe,f1,f2,f3,IntKind.bits,-Int.natCast_add,-Int.natCast_mul]
  apply hK6
  have hb1:r*4294967296+x<b*4294967296:=by
   have:(r+1)*4294967296≤b*4294967296:=Nat.mul_le_mul_right _ h3
   omega
  generalize hm:r*4294967296+x=m at hb1
  have g1:=wu64 (n:=(b:Int)) (by omega) (by omega)
  have g2:m / b<4294967296:=by rw [Nat.div_lt_iff_lt_mul (by omega),Nat.mul_comm];exact hb1
  have hdm:=Nat.div_add_mod m b
  have hml:m % b<b:=Nat.mod_lt _ (by omega)
  have g3:Int.tdiv (m:Int) b=((m / b:Nat):Int):=by rw [Int.tdiv_eq_ediv_of_nonneg (Int.natCast_nonneg m),← Int.natCast_ediv]
  have g8:Int.tmod (m:Int) b=((m % b:Nat):Int):=by rw [Int.tmod_eq_emod_of_nonneg (Int.natCast_nonneg m),← Int.natCast_emod]
  generalize m / b=q at g2 g3 hdm
  generalize m % b=r' at g8 hdm hml
  have g3':=wu64 (n:=(q:Int)) (by omega) (by omega)
  have g4:=wu32 (n:=(q:Int)) (by omega) (by omega)
  have g5:setSeg (wK .u32 (List.replicate (k+1) 0++qs)) k [CV.d (.int .u32 (q:Int))]=wK .u32 (List.replicate k 0++(q::qs)):=by
   rw [wK_set _ (by simp;omega),zeros_set]
  have g6:¬ ((b:Int)=0):=by omega
  have g7:(k:Int)<(dO a).length:=by omega
  refine AW.f7 g1 g3 g3' g4 g5 hb hk ?_
  refine AW.rP ?_
  simp [g1,g8,hb]
  apply hK5
  have g9:=w64 (n:=(k:Int) - 1) (by omega) (by omega)
  refine AW.rP ?_
  simp [g9]
  refine⟨k,q::qs,r',Le.mk' _ (by simp) (by simp) (by simp),⟨by simp;omega,ok_cons.2 ⟨g2,h2⟩,hml,?_⟩,by omega⟩
  rw [hd,h4,val_cons]
  grind
theorem exact_of_ok (G:List (List DV))(n:Nat)(hn:n<18446744073709551616):CallsP Tryz.prog G 78 [.c (.d (.int .u64 n))] (nK .u32 (some (dig 4294967296 n))):=by
 refine CallsP.en Go.Proofs.Tryz.func78 rfl fun _=>AW.q ?_
 refine AW.seqK fun K hK=>?_
 have e1:IntKind.u32.wrap (n:Int)=((n % 4294967296:Nat):Int):=by rw [wu32m];omega
 have e2:Int.fdiv (n:Int) 4294967296=((n / 4294967296:Nat):Int):=by rw [Int.fdiv_eq_ediv_of_nonneg _ (by omega)];omega
 have e3:IntKind.u32.wrap ((n / 4294967296:Nat):Int)=((n / 4294967296:Nat):Int):=wu32 (by omega) (by omega)
 have hok:ok 4294967296 [n % 4294967296,n / 4294967296]:=ok_cons.2 ⟨by omega,ok_cons.2 ⟨by omega,ok_nil _⟩⟩
 have hout:trimN [n % 4294967296,n / 4294967296]=dig 4294967296 n:=trim_dig (by decide) hok (by simp;omega)
 generalize hq:n / 4294967296=q at *
 generalize hr:n % 4294967296=r at *
 refine AW.rP ?_
 simp [IntKind.bits,e1,e2,e3,stepBuildSlice,fillA,setSeg,repl]
 refine CallP.frzN (l:=[r,q]) 0 1 0 (by simp [wK];rfl) (by simp) (exact_cut_ok _ _) (by simp) (by simp) (by simp) ?_
 simp
 apply hK
 exact AW.r0 (FinP.rt rfl 1 (by simp [hout]))
theorem exact_is1_ok (G:List (List DV))(a:Option (List Nat))(ha:can 4294967296 (dO a)):CallsP Tryz.prog G 79 [nK .u32 a] (.c (.d (.bool (decide (val 4294967296 (dO a)=1))))):=by
 refine CallsP.en Go.Proofs.Tryz.func79 rfl fun _=>AW.q ?_
 refine AW.seqK fun K hK=>?_
 have h0:(dO a).length=1↔∃ x,dO a=[x]:=by
  constructor
  ·intro h;match hd:dO a,h with|[x],_=>exact⟨x,rfl⟩
  ·grind
 by_cases hl:(dO a).length=1
 ·obtain⟨x,hx⟩:=h0.1 hl
  have h1:0<(dO a).length:=by omega
  have h2:(dO a)[0]=x:=by simp [hx]
  have h3:val 4294967296 (dO a)=x:=by simp [hx]
  have h4:=ix_nK' (P:=Tryz.prog) (T:=25) (lv:=fun _=>.hole) (k:=.u32) (k':=.i64) (o:=a) (i:=0) (by simp) h1
  simp only [Int.natCast_zero,h2] at h4
  refine AW.l2 hl h4 (hK _ _ ?_)
  have h5:(x:Int)=1↔x=1:=by omega
  exact AW.r0 (FinP.rt rfl 0 (by simp_all))
 ·have h3:¬ val 4294967296 (dO a)=1:=by
   intro h
   have:=dig_of (by decide:2≤4294967296) ha h
   rw [this] at hl
   exact hl rfl
  have h4:¬ ((dO a).length:Int)=1:=by omega
  refine AW.l2 hl h4 (hK _ _ ?_)
  exact AW.r0 (FinP.rt rfl 0 (by simp [h3]))
def blen (n:Nat):Nat:=if n=0 then 0 else Nat.log2 n+1
theorem blen_of {n k:Nat}(h1:2 ^ k≤n) (h2:n<2 ^ (k+1)):blen n=k+1:=by
 have h0:n≠0:=by have:=Nat.pow_pos (a:=2) (n:=k) (by decide);omega
 have:=(Nat.log2_eq_iff h0).2 ⟨h1,h2⟩
 simp [blen,h0,this]
theorem blen_lt (n:Nat):n<2 ^ blen n:=by
 unfold blen;split
 ·simp [*]
 ·exact Nat.lt_log2_self
theorem blen_le {n:Nat}(h:n≠0):2 ^ (blen n - 1)≤n:=by
 simp only [blen,h,if_false,Nat.add_sub_cancel];exact Nat.log2_self_le h
theorem blen_shift {n k:Nat}(h:2 ^ k≤n):blen n=blen (n / 2 ^ k)+k:=by
 have hk:=Nat.pow_pos (a:=2) (n:=k) (by decide)
 have h0:n / 2 ^ k≠0:=by have:=Nat.div_pos h hk;omega
 have h1:=blen_le h0
 have h2:=blen_lt (n / 2 ^ k)
 have h3:0<blen (n / 2 ^ k):=by simp [blen,h0]
 have h4:2 ^ (blen (n / 2 ^ k) - 1)*2 ^ k≤n:=Nat.le_trans (Nat.mul_le_mul_right _ h1) (Nat.div_mul_le_self n _)
 have h5:n<2 ^ blen (n / 2 ^ k)*2 ^ k:=by rw [← Nat.div_lt_iff_lt_mul hk];exact h2
 rw [← Nat.pow_add] at h4 h5
 have h6:=blen_of h4 (by grind)
 omega
theorem len8 (f:List UInt8)(hf:(List.range 256).all (fun i=>(f[i]?.getD 0).toNat == blen i)=true)(x:Nat)(hx:x<256):(f[x]?.getD 0).toNat=blen x:=by
 grind
theorem bits_Len32_ok (G:List (List DV))(n:Nat)(hn:n<4294967296):CallsP Tryz.prog G 178 [.c (.d (.int .u32 n))] (.c (.d (.int .i64 (blen n)))):=by
 refine CallsP.en Go.Proofs.Tryz.func178 rfl fun _=>AW.q ?_
 refine AW.seqK fun K hK=>AW.q ?_
 have step2:∀ (x m:Nat) (fr:Nat→AV) (κ:Nat),x<65536→m≤16→blen n=m+blen x→fr 0=.c (.d (.int .u32 x))→fr 2=.c (.d (.int .i64 m))→K ⟨fr,fun _=>.hole⟩ κ:=by
  intro x m fr κ hx hm hb f0 f2
  apply hK
  refine AW.seqK fun K hK=>AW.f1 f0 ?_
  have step3:∀ (x m:Nat) (fr:Nat→AV) (κ:Nat),x<256→m≤24→blen n=m+blen x→fr 0=.c (.d (.int .u32 x))→fr 2=.c (.d (.int .i64 m))→K ⟨fr,fun _=>.hole⟩ κ:=by
   intro x m fr κ hx hm hb f0 f2
   apply hK
   refine AW.seqK fun K hK=>?_
   have e1:IntKind.u8.wrap (x:Int)=x:=wrap_in ⟨by simp only [loK];omega,by simp only [hiK];omega⟩
   have hbl:blen x≤8:=by
    by_cases h0:x=0
    ·subst h0;decide
    ·have:=blen_le h0
     apply Classical.byContradiction
     intro hc
     have h9:2 ^ 8≤2 ^ (blen x - 1):=Nat.pow_le_pow_right (by decide) (by omega)
     omega
   refine AW.rP ?_
   simp [f0,f2,e1]
   rw [len8 (x:=x) (hx:=hx)]
   ·have e2:=w64 (n:=(blen x:Int)) (by omega) (by omega)
    have e3:=w64 (n:=(m:Int)+blen x) (by omega) (by omega)
    rw [e2,e3]
    repeat refine and_o ?_
    apply hK
    exact AW.r0 (FinP.rt rfl 0 (by simp [hb]))
   ·kernel_rfl
  by_cases h:256≤x
  ·refine AW.fy (by simp <;> omega) ?_
   have e1:Int.fdiv (x:Int) 256=((x / 256:Nat):Int):=by rw [Int.fdiv_eq_ediv_of_nonneg _ (by omega)];omega
   have e2:=w64 (n:=(m:Int)+8) (by omega) (by omega)
   refine AW.sr fun K1 hK1=>?_
   simp [f0,IntKind.bits,e1,-Int.natCast_ediv]
   apply hK1
   refine AW.rP ?_
   simp [f2,e2]
   refine step3 (x / 256) (m+8) _ _ (by omega) (by omega) ?_ (by simp) (by simp)
   have:=blen_shift (n:=x) (k:=8) (by omega)
   grind
  ·refine AW.fn (by simp <;> omega) (AW.skip ?_)
   simp
   exact step3 x m _ _ (by omega) (by omega) hb (by simp [f0]) (by simp [f2])
 by_cases h:65536≤n
 ·refine AW.fy (by simp <;> omega) ?_
  have e1:Int.fdiv (n:Int) 65536=((n / 65536:Nat):Int):=by rw [Int.fdiv_eq_ediv_of_nonneg _ (by omega)];omega
  refine AW.sr fun K1 hK1=>?_
  simp [IntKind.bits,e1,-Int.natCast_ediv]
  apply hK1
  refine AW.rP ?_
  simp
  refine step2 (n / 65536) 16 _ _ (by omega) (by omega) ?_ (by simp) (by simp)
  have:=blen_shift (n:=n) (k:=16) (by omega)
  grind
 ·refine AW.fn (by simp <;> omega) (AW.skip ?_)
  simp
  exact step2 n 0 _ _ (by omega) (by omega) (by simp) (by simp) (by simp)
theorem bits_LeadingZeros32_ok (G:List (List DV))(n:Nat)(hn:n<4294967296):CallsP Tryz.prog G 132 [.c (.d (.int .u32 n))] (.c (.d (.int .i64 (32 - (blen n:Int))))):=by
 have hbl:blen n≤32:=by
  by_cases h0:n=0
  ·subst h0;decide
  ·have:=blen_le h0
   apply Classical.byContradiction
   intro hc
   have h9:2 ^ 32≤2 ^ (blen n - 1):=Nat.pow_le_pow_right (by decide) (by omega)
   omega
 refine CallsP.en Go.Proofs.Tryz.func132 rfl fun _=>AW.q ?_
 refine AW.sr fun K hK=>?_
 simp
 refine CallDo.pure 0 0 (bits_Len32_ok _ n hn) rfl (by simp) rfl ?_
 have e2:=w64 (n:=32 - (blen n:Int)) (by omega) (by omega)
 simp [e2]
 apply hK
 exact AW.r0 (FinP.rt rfl 0 (by simp))
theorem exact_bits_ok (G:List (List DV))(a:Option (List Nat))(ha:can 4294967296 (dO a))(hl:(dO a).length≤1000000000000):CallsP Tryz.prog G 245 [nK .u32 a] (.c (.d (.int .i64 (blen (val 4294967296 (dO a)))))):=by
 refine CallsP.en Go.Proofs.Tryz.func245 rfl fun _=>AW.q ?_
 refine AW.q ?_
 refine AW.seqK fun K hK=>AW.q ?_
 by_cases h0:dO a=[]
 ·refine AW.fy (by simp_all) (AW.q ?_)
  exact AW.r0 (FinP.rt rfl 0 (by simp [h0,blen]))
 ·refine AW.fn (by simp_all) (AW.skip (hK _ _ (AW.seqK fun K hK=>?_)))
  have h0':0<(dO a).length:=List.length_pos_iff.2 h0
  have hk:(dO a).length - 1<(dO a).length:=by omega
  have e1:IntKind.i64.wrap (((dO a).length:Int) - 1)=(((dO a).length - 1:Nat):Int):=by rw [w64 (by omega) (by omega)];omega
  have e2:=w64 (n:=32*(((dO a).length - 1:Nat):Int)) (by omega) (by omega)
  have hx:(dO a)[(dO a).length - 1]<4294967296:=ha.1 _ (List.getElem_mem hk)
  have hx0:(dO a)[(dO a).length - 1]≠0:=ha.2 _ (by grind)
  have hv:=val_take_drop (B:=4294967296) (dO a) ((dO a).length - 1) (by omega)
  rw [val_drop hk,val_drop_ge (l:=dO a) (i:=(dO a).length - 1+1) (by omega)] at hv
  have hlt:=val_lt (ok_take ha.1 ((dO a).length - 1))
  rw [List.length_take,Nat.min_eq_left (by omega)] at hlt
  generalize (dO a).length - 1=k at *
  generalize hxe:(dO a)[k]=x at *
  have hbl:blen x≤32:=by
   have:=blen_le hx0
   apply Classical.byContradiction
   intro hc
   have h9:2 ^ 32≤2 ^ (blen x - 1):=Nat.pow_le_pow_right (by decide) (by omega)
   omega
  have hb:blen (val 4294967296 (dO a))=32*k+blen x:=by
   have hP:(4294967296:Nat) ^ k=2 ^ (32*k):=by rw [Nat.pow_mul]
   rw [hP] at hv hlt
   have h1:val 4294967296 (dO a) / 2 ^ (32*k)=x:=by
    rw [hv,Nat.mul_zero,Nat.add_zero,Nat.add_mul_div_left _ _ (Nat.pow_pos (by decide)),Nat.div_eq_of_lt hlt,Nat.zero_add]
   have h2:=blen_shift (n:=val 4294967296 (dO a)) (k:=32*k) (by
    have:2 ^ (32*k)*1≤2 ^ (32*k)*(x+4294967296*0):=Nat.mul_le_mul_left _ (by omega)
    omega)
   rw [h1] at h2;omega
  refine AW.rP ?_
  simp [e1,e2,hk,hxe]
  refine CallDo.pure 0 0 (bits_Len32_ok _ x hx) rfl (by simp) rfl ?_
  have e3:=w64 (n:=32*(k:Int)+blen x) (by omega) (by omega)
  simp [e3]
  apply hK
  exact AW.r0 (FinP.rt rfl 0 (by simp [hb]))
theorem shl_word {x s:Nat}(hx:x<4294967296) (hs:s<32):∃ y h:Nat,(x*2 ^ s) % 4294967296=y*2 ^ s∧(x*2 ^ s) / 4294967296=h∧y*2 ^ s+2 ^ s≤4294967296∧h<2 ^ s∧x*2 ^ s<18446744073709551616:=by
 have hP:(2:Nat) ^ (32 - s)*2 ^ s=4294967296:=by rw [← Nat.pow_add,Nat.sub_add_cancel (by omega)]
 have h0:0<2 ^ s:=Nat.pow_pos (by decide)
 have h1:0<2 ^ (32 - s):=Nat.pow_pos (by decide)
 refine⟨x % 2 ^ (32 - s),_,?_,rfl,?_,?_,?_⟩
 ·rw [← hP,Nat.mul_mod_mul_right]
 ·have:=Nat.mod_lt x h1
  calc x % 2 ^ (32 - s)*2 ^ s+2 ^ s=(x % 2 ^ (32 - s)+1)*2 ^ s:=by grind
   _≤2 ^ (32 - s)*2 ^ s:=Nat.mul_le_mul_right _ this
   _=4294967296:=hP
 ·rw [Nat.div_lt_iff_lt_mul (by decide),Nat.mul_comm]
  simp_all
 ·have h2:2 ^ s<4294967296:=Nat.pow_lt_pow_right (by decide) hs |> fun h=>h
  calc x*2 ^ s≤4294967295*2 ^ s:=Nat.mul_le_mul_right _ (by omega)
   _≤4294967295*4294967295:=Nat.mul_le_mul_left _ (by omega)
   _<_:=by decide
theorem exact_shl_ok (G:List (List DV))(a:Option (List Nat))(k:Nat)(ha:(dO a).length≤1000000000000)(hk:k≤1000000000000) :
 CallsP Tryz.prog G 83 [nK .u32 a,.c (.d (.int .i64 k))] (if dO a=[] then nK .u32 none else nK .u32 (some (dig 4294967296 (val 4294967296 (dO a)*2 ^ k)))):=by
 refine CallsS.know 0 (by simp) (fun V v h=>nK_rng h) fun hra=>?_
 have oka:ok 4294967296 (dO a):=fun d hd=>by have:=hra.2 d hd;simp only [hiK] at this;omega
 by_cases h0:dO a=[]
 ·rw [if_pos h0]
  refine CallsP.en Go.Proofs.Tryz.func83 rfl fun _=>AW.q ?_
  refine AW.seqK fun K hK=>AW.q ?_
  refine AW.fy (by simp_all) (AW.q ?_)
  exact AW.r0 (FinP.rt rfl 0 (by simp [nK]))
 ·rw [if_neg h0]
  refine CallsP.en Go.Proofs.Tryz.func83 rfl fun _=>AW.q ?_
  refine AW.seqK fun K hK=>AW.q ?_
  refine AW.fn (by simp_all) (AW.skip (hK _ _ (AW.seqK fun K hK=>?_)))
  have d1:Int.tdiv (k:Int) 32=((k / 32:Nat):Int):=by rw [Int.tdiv_eq_ediv_of_nonneg (by omega)];omega
  have d2:Int.tmod (k:Int) 32=((k % 32:Nat):Int):=by rw [Int.tmod_eq_emod_of_nonneg (by omega)];omega
  have hks:k=32*(k / 32)+k % 32:=by omega
  have hs:k % 32<32:=by omega
  have hw:k / 32≤1000000000000:=by omega
  have d3:=w64 (n:=((k / 32:Nat):Int)) (by omega) (by omega)
  have d4:=wu64 (n:=((k % 32:Nat):Int)) (by omega) (by omega)
  generalize k / 32=w at *
  generalize k % 32=s at *
  refine AW.l4 d1 d2 d3 d4 (hK _ _ ?_)
  have e1:IntKind.i64.wrap (((dO a).length:Int)+w)=(((dO a).length+w:Nat):Int):=by rw [w64 (by omega) (by omega)];omega
  have e2:IntKind.i64.wrap ((((dO a).length+w:Nat):Int)+1)=(((dO a).length+w+1:Nat):Int):=by rw [w64 (by omega) (by omega)];omega
  refine AW.sr fun K hK=>?_
  simp [e1,e2,-Int.natCast_add]
  repeat refine and_o ?_
  apply hK
  refine AW.seqK fun K hK=>AW.q ?_
  refine AW.block ?_
  refine AW.loopV (fun (p:Nat × List Nat)=>⟨frOf [(0,nK .u32 a),(5,.c (.d (.int .i64 w))),(6,.c (.d (.int .u64 s))),(7,.c (.lsl 0 0 ((dO a).length+w+1) 1)),(25,nK .u32 a),(26,.c (.d (.int .i64 (dO a).length))),(27,.c (.d (.int .i64 p.1)))],
   upd (fun _=>.hole) 0 (.cells true false 138 (wK .u32 (p.2++List.replicate ((dO a).length - p.1) 0)))⟩) 1
   (fun p=>p.1≤(dO a).length∧p.2.length=p.1+w+1∧ok 4294967296 p.2∧p.2.getD (p.1+w) 0<2 ^ s∧val 4294967296 p.2=4294967296 ^ w*(val 4294967296 ((dO a).take p.1)*2 ^ s))
   (fun p=>(dO a).length - p.1) (0,List.replicate (w+1) 0) (Le.mk' _ (by simp [wK_zeros,show (dO a).length+w+1=w+1+(dO a).length by omega]) (by simp) (by simp)) ⟨by simp,by simp,ok_zeros (by omega) _,by grind,by simp [val_zeros]⟩ ?_
  rintro⟨i,lo⟩ ⟨h1,h2,h3,h4,h5⟩
  simp only at h1 h2 h3 h4 h5
  refine AW.q ?_
  refine AW.seqK fun K2 hK2=>?_
  by_cases hlt:i<(dO a).length
  ·refine AW.fy (by simp_all) (AW.skip (hK2 _ _ (AW.seqK fun K3 hK3=>AW.block (AW.sr fun K4 hK4=>?_))))
   simp [hlt]
   apply hK4
   refine AW.seqK fun K4 hK4=>?_
   have hx:(dO a)[i]<4294967296:=oka _ (List.getElem_mem hlt)
   have hbt:val 4294967296 ((dO a).take (i+1))=val 4294967296 ((dO a).take i)+4294967296 ^ i*(dO a)[i]:=val_take_succ hlt
   generalize (dO a)[i]=x at hx hbt
   obtain⟨y,hh,g1,g2,g3,g4,g5⟩:=shl_word hx hs
   have e3:=wu64 (n:=(x:Int)) (by omega) (by omega)
   have e4:IntKind.u64.wrap ((x:Int)*2 ^ min s 64)=((x*2 ^ s:Nat):Int):=by
    rw [Nat.min_eq_left (by omega),show ((x:Int)*2 ^ s)=((x*2 ^ s:Nat):Int) by rfl]
    generalize x*2 ^ s=z at g5
    exact wu64 (by omega) (by omega)
   refine AW.rP ?_
   simp [e3,IntKind.bits,e4,-Int.natCast_mul,-Int.natCast_pow]
   apply hK4
   have hij:i+w<lo.length:=by omega
   have hij2:i+w<(lo++List.replicate ((dO a).length - i) 0).length:=by simp;omega
   have hij3:i+w<lo.length+((dO a).length - i):=by omega
   have ht:lo[i+w]<2 ^ s:=by rw [List.getD_eq_getElem?_getD,List.getElem?_eq_getElem hij] at h4;exact h4
   have ho2:(lo++List.replicate ((dO a).length - i) 0)[i+w]=lo[i+w]:=List.getElem_append_left hij
   have hset:=val_set (B:=4294967296) hij
   generalize lo[i+w]=t at ht ho2 hset
   have f1:IntKind.i64.wrap ((i:Int)+w)=((i+w:Nat):Int):=by rw [w64 (by omega) (by omega)];omega
   have f2:IntKind.u32.wrap ((x*2 ^ s:Nat):Int)=((y*2 ^ s:Nat):Int):=by rw [← g1,wu32m];generalize x*2 ^ s=z;omega
   have f3:orI .u32 (t:Int) ((y*2 ^ s:Nat):Int)=((y*2 ^ s+t:Nat):Int):=or_add32 ht (by omega)
   have f8:y*2 ^ s+t<4294967296:=by omega
   have f4:setSeg (wK .u32 (lo++List.replicate ((dO a).length - i) 0)) (i+w) [CV.d (.int .u32 ((y*2 ^ s+t:Nat):Int))]=wK .u32 (lo.set (i+w) (y*2 ^ s+t)++List.replicate ((dO a).length - i) 0):=by
    rw [wK_set _ hij2,List.set_append_left _ _ hij]
   have f5:i+w<(dO a).length+w+1:=by omega
   refine AW.sr fun K4 hK4=>?_
   simp [f1,f2,f3,f4,f5,hij3,ho2,-Int.natCast_mul,-Int.natCast_pow,-Int.natCast_add]
   repeat refine and_o ?_
   apply hK4
   have f6:Int.fdiv ((x*2 ^ s:Nat):Int) 4294967296=(hh:Int):=by rw [Int.fdiv_eq_ediv_of_nonneg _ (by omega),← g2];generalize x*2 ^ s=z;omega
   have f7:IntKind.i64.wrap (((i+w:Nat):Int)+1)=((i+w+1:Nat):Int):=by rw [w64 (by omega) (by omega)];omega
   have hs32:(2:Nat) ^ s<4294967296:=Nat.pow_lt_pow_right (by decide) hs |> fun h=>h
   have f9:=wu32 (n:=(hh:Int)) (by omega) (by omega)
   have hz:(dO a).length - i=((dO a).length - i - 1)+1:=by omega
   have f10:setSeg (wK .u32 (lo.set (i+w) (y*2 ^ s+t)++List.replicate ((dO a).length - i) 0)) (i+w+1) [CV.d (.int .u32 (hh:Int))]=wK .u32 (lo.set (i+w) (y*2 ^ s+t)++[hh]++List.replicate ((dO a).length - i - 1) 0):=by
    rw [wK_set _ (by simp;omega),hz]
    have:i+w+1=(lo.set (i+w) (y*2 ^ s+t)).length:=by simp;omega
    rw [this,set_zeros];simp
   have f11:i+w+1<lo.length+((dO a).length - i):=by omega
   refine AW.rP ?_
   simp [f1,f6,f7,f9,f10,IntKind.bits,-Int.natCast_mul,-Int.natCast_pow,-Int.natCast_add]
   repeat refine and_o ?_
   apply hK3
   have f12:=w64 (n:=(i:Int)+1) (by omega) (by omega)
   refine AW.rP ?_
   simp [f12]
   have f13:(dO a).length - (i+1)=(dO a).length - i - 1:=by omega
   refine⟨i+1,lo.set (i+w) (y*2 ^ s+t)++[hh],Le.mk' _ (by simp [f13]) (by simp) (by simp),⟨by omega,by simp;omega,ok_append.2 ⟨ok_set h3 _ f8,ok_cons.2 ⟨by omega,ok_nil _⟩⟩,?_,?_⟩,by omega⟩
   ·grind
   ·rw [val_snoc,List.length_set,h2,hbt]
    have p1:=hset (y*2 ^ s+t)
    have p2:=mod_div_pow 4294967296 (i+w) (x*2 ^ s)
    grind
  ·refine AW.fn (by simp_all) (AW.exit ?_)
   simp
   have e9:i=(dO a).length:=by omega
   subst e9
   apply hK
   refine AW.sr fun K hK=>?_
   simp
   rw [← h2]
   have hout:trimN lo=dig 4294967296 (val 4294967296 (dO a)*2 ^ k):=by
    refine trim_dig (by decide) h3 ?_
    rw [h5,val_take_ge (Nat.le_refl _),hks,Nat.pow_add,Nat.pow_mul]
    generalize 2 ^ s=S
    generalize val 4294967296 (dO a)=V
    have:(2:Nat) ^ 32=4294967296:=by decide
    rw [this]
    generalize 4294967296 ^ w=W
    grind
   refine CallP.frzN 0 1 0 (by simp;rfl) (by omega) (exact_cut_ok _ _) (by simp) (by simp) (by simp) ?_
   simp
   apply hK
   exact AW.r0 (FinP.rt rfl 1 (by simp [hout]))
theorem val_div_pow {B:Nat}{l:List Nat}(h:ok B l) (i:Nat) (hi:i≤l.length):val B l / B ^ i=val B (l.drop i):=by
 have h1:=val_take_drop (B:=B) l i hi
 have h2:=val_lt (ok_take h i)
 rw [List.length_take,Nat.min_eq_left hi] at h2
 have hp:0<B ^ i:=by omega
 rw [h1,Nat.add_mul_div_left _ _ hp,Nat.div_eq_of_lt h2,Nat.zero_add]
theorem shr_digit {D x y z s:Nat}(hs:s<32) (hD:D=x+4294967296*(y+4294967296*z)):D / 2 ^ s % 4294967296=(y*4294967296+x) / 2 ^ s % 4294967296:=by
 have hP:(2:Nat) ^ (32 - s)*2 ^ s=4294967296:=by rw [← Nat.pow_add,Nat.sub_add_cancel (by omega)]
 have h0:0<2 ^ s:=Nat.pow_pos (by decide)
 have e:D=(y*4294967296+x)+2 ^ s*(4294967296*(2 ^ (32 - s)*z)):=by
  have aux:∀ S T B:Nat,T*S=B→S*(B*(T*z))=B*(B*z):=by
   intro S T B h
   calc S*(B*(T*z))=(T*S)*(B*z):=by ac_rfl
    _=_:=by rw [h]
  have this:=aux (2 ^ s) (2 ^ (32 - s)) 4294967296 hP
  rw [this,hD];omega
 rw [e,Nat.add_mul_div_left _ _ h0,Nat.add_mul_mod_self_left]
theorem exact_shr_ok (G:List (List DV))(a:Option (List Nat))(k:Nat)(ha:(dO a).length≤1000000000000)(hk:k≤1000000000000) :
 CallsP Tryz.prog G 135 [nK .u32 a,.c (.d (.int .i64 k))] (if (dO a).length≤k / 32 then nK .u32 none else nK .u32 (some (dig 4294967296 (val 4294967296 (dO a) / 2 ^ k)))):=by
 refine CallsS.know 0 (by simp) (fun V v h=>nK_rng h) fun hra=>?_
 have oka:ok 4294967296 (dO a):=fun d hd=>by have:=hra.2 d hd;simp only [hiK] at this;omega
 have d1:Int.tdiv (k:Int) 32=((k / 32:Nat):Int):=by rw [Int.tdiv_eq_ediv_of_nonneg (by omega)];omega
 have d2:Int.tmod (k:Int) 32=((k % 32:Nat):Int):=by rw [Int.tmod_eq_emod_of_nonneg (by omega)];omega
 have hks:k=32*(k / 32)+k % 32:=by omega
 have hs:k % 32<32:=by omega
 have hw:k / 32≤1000000000000:=by omega
 have d3:=w64 (n:=((k / 32:Nat):Int)) (by omega) (by omega)
 have d4:=wu64 (n:=((k % 32:Nat):Int)) (by omega) (by omega)
 generalize k / 32=w at *
 generalize k % 32=s at *
 by_cases h0:(dO a).length≤w
 ·rw [if_pos h0]
  refine CallsP.en Go.Proofs.Tryz.func135 rfl fun _=>AW.q ?_
  refine AW.f4 d1 d2 d3 d4 ?_
  refine AW.seqK fun K hK=>AW.q ?_
  refine AW.fy (by simp_all) (AW.q ?_)
  exact AW.r0 (FinP.rt rfl 0 (by simp [nK]))
 ·rw [if_neg h0]
  refine CallsP.en Go.Proofs.Tryz.func135 rfl fun _=>AW.q ?_
  refine AW.f4 d1 d2 d3 d4 ?_
  refine AW.seqK fun K hK=>AW.q ?_
  refine AW.fn (by simp_all) (AW.skip (hK _ _ ?_))
  have e1:IntKind.i64.wrap (((dO a).length:Int) - w)=(((dO a).length - w:Nat):Int):=by rw [w64 (by omega) (by omega)];omega
  have hw1:w≤(dO a).length:=by omega
  have hD:=val_div_pow oka w hw1
  refine AW.f1 e1 ?_
  refine AW.seqK fun K hK=>AW.q ?_
  refine AW.block ?_
  refine AW.loopV (fun (pre:List Nat)=>⟨frOf [(0,nK .u32 a),(5,.c (.d (.int .i64 w))),(6,.c (.d (.int .u64 s))),(7,.c (.lsl 0 0 ((dO a).length - w) 1)),(25,.c (.d (.int .i64 ((dO a).length - w:Nat)))),(26,.c (.d (.int .i64 pre.length)))],
   upd (fun _=>.hole) 0 (.cells true false 138 (wK .u32 (pre++List.replicate ((dO a).length - w - pre.length) 0)))⟩) 1
   (fun pre=>pre.length≤(dO a).length - w∧ok 4294967296 pre∧val 4294967296 pre=(val 4294967296 ((dO a).drop w) / 2 ^ s) % 4294967296 ^ pre.length)
   (fun pre=>(dO a).length - w - pre.length) [] (Le.mk' _ (by simp [wK_zeros]) (by simp) (by simp)) ⟨by simp,ok_nil _,by simp [Nat.mod_one]⟩ ?_
  rintro pre ⟨h1,h2,h3⟩
  refine AW.q ?_
  refine AW.seqK fun K2 hK2=>?_
  by_cases hlt:pre.length<(dO a).length - w
  ·refine AW.fy (by simp_all) (AW.skip (hK2 _ _ (AW.seqK fun K3 hK3=>AW.block (AW.q ?_))))
   refine AW.seqK fun K4 hK4=>?_
   have hi:pre.length+w<(dO a).length:=by omega
   have f1:IntKind.i64.wrap ((pre.length:Int)+w)=((pre.length+w:Nat):Int):=by rw [w64 (by omega) (by omega)];omega
   have f2:IntKind.i64.wrap (((pre.length+w:Nat):Int)+1)=((pre.length+w+1:Nat):Int):=by rw [w64 (by omega) (by omega)];omega
   have hx:(dO a)[pre.length+w]<4294967296:=oka _ (List.getElem_mem hi)
   have hdr:val 4294967296 ((dO a).drop w) / 4294967296 ^ pre.length=(dO a)[pre.length+w]+4294967296*val 4294967296 ((dO a).drop (pre.length+w+1)):=by
    rw [val_div_pow (ok_drop oka w) _ (by simp;omega),List.drop_drop,Nat.add_comm w,val_drop hi]
   have hix:=ix_nK' (P:=Tryz.prog) (T:=25) (lv:=upd (fun _=>.hole) 0 (.cells true false 138 (wK .u32 (pre++List.replicate ((dO a).length - w - pre.length) 0)))) (k:=.u32) (k':=.i64) (o:=a) (i:=pre.length+w) (by simp) hi
   generalize (dO a)[pre.length+w]=x at hx hdr hix
   have e3:=wu64 (n:=(x:Int)) (by omega) (by omega)
   refine AW.rP ?_
   simp [f1,hix,e3,-Int.natCast_add]
   apply hK4
   refine AW.seqK fun K5 hK5=>AW.seqK fun K6 hK6=>?_
   have fin:∀ (y z:Nat) (fr:Nat→AV) (κ:Nat),y<4294967296→val 4294967296 ((dO a).drop (pre.length+w+1))=y+4294967296*z →
    fr 0=nK .u32 a→fr 5=.c (.d (.int .i64 w))→fr 6=.c (.d (.int .u64 s))→fr 7=.c (.lsl 0 0 ((dO a).length - w) 1)→fr 8=.c (.d (.int .i64 pre.length))→fr 9=.c (.d (.int .u64 ((y*4294967296+x:Nat):Int))) →
    fr 25=.c (.d (.int .i64 ((dO a).length - w:Nat)))→fr 26=.c (.d (.int .i64 pre.length)) →
    K5 ⟨fr,upd (fun _=>.hole) 0 (.cells true false 138 (wK .u32 (pre++List.replicate ((dO a).length - w - pre.length) 0)))⟩ κ:=by
    intro y z fr κ hy hyz q0 q5 q6 q7 q8 q9 q25 q26
    apply hK5
    refine AW.at0 2 ?_
    have g1:Int.fdiv ((y*4294967296+x:Nat):Int) (2 ^ min s 64)=(((y*4294967296+x) / 2 ^ s:Nat):Int):=by
     rw [Nat.min_eq_left (by omega),Int.fdiv_eq_ediv_of_nonneg _ (Int.le_of_lt (Int.pow_pos (by decide)))]
     generalize y*4294967296+x=m
     rw [Int.natCast_ediv];congr 1
    have g2:IntKind.u32.wrap (((y*4294967296+x) / 2 ^ s:Nat):Int)=(((y*4294967296+x) / 2 ^ s % 4294967296:Nat):Int):=by
     rw [wu32m];generalize (y*4294967296+x) / 2 ^ s=m;omega
    have hdig:=shr_digit (x:=x) (y:=y) (z:=z) hs (D:=val 4294967296 ((dO a).drop w) / 4294967296 ^ pre.length) (by omega)
    have hv:(y*4294967296+x) / 2 ^ s % 4294967296<4294967296:=Nat.mod_lt _ (by omega)
    generalize (y*4294967296+x) / 2 ^ s % 4294967296=v at g2 hdig hv
    have hz:(dO a).length - w - pre.length=((dO a).length - w - pre.length - 1)+1:=by omega
    have g3:setSeg (wK .u32 (pre++List.replicate ((dO a).length - w - pre.length) 0)) pre.length [CV.d (.int .u32 (v:Int))]=wK .u32 (pre++[v]++List.replicate ((dO a).length - w - pre.length - 1) 0):=by
     rw [hz,wK_set _ (by simp),set_zeros];simp
    refine AW.rP ?_
    simp [q6,q7,q8,q9,IntKind.bits,g1,g2,g3,hlt,-Int.natCast_add,-Int.natCast_mul,-Int.natCast_ediv,-Int.natCast_pow]
    repeat refine and_o ?_
    apply hK3
    have g4:=w64 (n:=(pre.length:Int)+1) (by omega) (by omega)
    refine AW.rP ?_
    simp [q26,g4]
    have g5:(dO a).length - w - (pre.length+1)=(dO a).length - w - pre.length - 1:=by omega
    refine⟨pre++[v],Le.mk' _ (by simp [g5]) (by simp) (by simp [q0,q5,q6,q7,q25]),⟨by simp;omega,ok_append.2 ⟨h2,ok_cons.2 ⟨hv,ok_nil _⟩⟩,?_⟩,by simp;omega⟩
    rw [val_snoc,List.length_append,List.length_singleton,Nat.mod_pow_succ,h3,Nat.div_div_eq_div_mul,Nat.mul_comm (2 ^ s),← Nat.div_div_eq_div_mul,hdig]
   refine AW.rP ?_
   simp [f1,f2,-Int.natCast_add]
   apply hK6
   by_cases hlb:pre.length+w+1<(dO a).length
   ·refine AW.fy (by simp [hlb] <;> omega) ?_
    have hy:(dO a)[pre.length+w+1]<4294967296:=oka _ (List.getElem_mem hlb)
    have hyz:=val_drop (B:=4294967296) hlb
    have hiy:=ix_nK' (P:=Tryz.prog) (T:=25) (lv:=upd (fun _=>.hole) 0 (.cells true false 138 (wK .u32 (pre++List.replicate ((dO a).length - w - pre.length) 0)))) (k:=.u32) (k':=.i64) (o:=a) (i:=pre.length+w+1) (by simp) hlb
    generalize (dO a)[pre.length+w+1]=y at hy hyz hiy
    have p1:=wu64 (n:=(y:Int)) (by omega) (by omega)
    have p2:IntKind.u64.wrap ((y:Int)*4294967296)=((y*4294967296:Nat):Int):=by rw [wu64 (by omega) (by omega)];omega
    have p3:orI .u64 (x:Int) ((y*4294967296:Nat):Int)=((y*4294967296+x:Nat):Int):=by rw [orI_comm];exact or_add64 hy hx
    refine AW.rP ?_
    simp [f1,f2,hiy,p1,p2,p3,IntKind.bits,-Int.natCast_add,-Int.natCast_mul]
    exact fin y _ _ _ hy hyz (by simp) (by simp) (by simp) (by simp) (by simp) (by simp) (by simp) (by simp)
   ·refine AW.fn (by simp [hlb] <;> omega) (AW.skip ?_)
    simp
    exact fin 0 0 _ _ (by omega) (by rw [val_drop_ge (by omega)]) (by simp) (by simp) (by simp) (by simp) (by simp) (by simp) (by simp) (by simp)
  ·refine AW.fn (by simp_all) (AW.exit ?_)
   simp
   have e9:pre.length=(dO a).length - w:=by omega
   apply hK
   refine AW.sr fun K hK=>?_
   simp
   have hout:trimN pre=dig 4294967296 (val 4294967296 (dO a) / 2 ^ k):=by
    refine trim_dig (by decide) h2 ?_
    have hl:=val_lt (ok_drop oka w)
    rw [List.length_drop,← e9] at hl
    rw [h3,Nat.mod_eq_of_lt (Nat.lt_of_le_of_lt (Nat.div_le_self _ _) hl),← hD,Nat.div_div_eq_div_mul,hks,Nat.pow_add,Nat.pow_mul]
   rw [← e9]
   simp only [Nat.sub_self,List.replicate_zero,List.append_nil]
   refine CallP.frzN 0 1 0 (by simp;rfl) (by omega) (exact_cut_ok _ _) (by simp) (by simp) (by simp) ?_
   simp
   apply hK
   exact AW.r0 (FinP.rt rfl 1 (by simp [hout]))
theorem take_step {x0 cb b:Nat}(hx:x0<4294967296) (hc:cb<4294967296) (hb:b≤1) :
 ∃ v b':Nat,v<4294967296∧b'≤1∧v+cb+b=x0+4294967296*b'∧IntKind.u32.wrap (IntKind.u64.wrap (IntKind.u64.wrap ((x0:Int) - cb) - b))=v∧Int.fdiv (IntKind.u64.wrap (IntKind.u64.wrap ((x0:Int) - cb) - b)) 9223372036854775808=b':=by
 simp only [wu32m,wu64m]
 by_cases h:cb+b≤x0
 ·refine⟨x0 - cb - b,0,by omega,by omega,by omega,by omega,?_⟩
  grind
 ·refine⟨x0+4294967296 - cb - b,1,by omega,by omega,by omega,by omega,?_⟩
  grind
theorem wK_pure (k:IntKind)(l:List Nat):∀ x∈wK k l,x.pure=true:=by
 intro x hx;simp only [wK,List.mem_map] at hx;obtain⟨y,_,rfl⟩:=hx;rfl
def takeB (w m:Nat):Nat:=if w<m then 1 else 0
theorem take_fin {L W M R bb:Nat}(hbb:bb≤1) (h:R+M=W+L*bb) (hR:R<L):bb=takeB W M∧R=W+L*takeB W M - M:=by
 unfold takeB
 have:bb=0∨bb=1:=by omega
 grind
theorem exact_take_ok (G:List (List DV))(lo win hi:List Nat)(n t:Nat)(v:Option (List Nat))(hw:win.length=(dO v).length+1)(hn:win.length≤n)(okw:ok 4294967296 win)(ht:t<4294967296)(hl:(lo++win++hi).length≤1000000000000) :
 CallsS Tryz.prog G 133 [.c (.lsl 0 lo.length n 1),nK .u32 v,.c (.d (.int .u64 t))] [.cells false false 138 (wK .u32 (lo++win++hi))]
  (.ret (.c (.d (.bool (decide (takeB (val 4294967296 win) (t*val 4294967296 (dO v))=1))))) [.cells false false 138 (wK .u32 (lo++digL 4294967296 win.length (val 4294967296 win+4294967296 ^ win.length*takeB (val 4294967296 win) (t*val 4294967296 (dO v)) - t*val 4294967296 (dO v))++hi))] []):=by
 refine CallsS.know 1 (by simp) (fun V v h=>nK_rng h) fun hrv=>?_
 have okv:ok 4294967296 (dO v):=fun d hd=>by have:=hrv.2 d hd;simp only [hiK] at this;omega
 simp only [List.length_append] at hl
 refine CallsS.en1 Go.Proofs.Tryz.func133 rfl fun _=>AW.q ?_
 refine AW.q ?_
 refine AW.seqK fun K hK=>AW.q ?_
 refine AW.block ?_
 refine AW.loopV (fun (p:List Nat × Nat × Nat)=>⟨frOf [(0,.c (.lsl 0 lo.length n 1)),(1,nK .u32 v),(2,.c (.d (.int .u64 t))),(7,.c (.d (.int .u64 p.2.1))),(8,.c (.d (.int .u64 p.2.2))),(13,nK .u32 v),(14,.c (.d (.int .i64 (dO v).length))),(15,.c (.d (.int .i64 p.1.length)))],
  upd (fun _=>.hole) 0 (.cells false false 138 (wK .u32 (lo++(p.1++win.drop p.1.length)++hi)))⟩) 1000
  (fun p=>p.1.length≤(dO v).length∧ok 4294967296 p.1∧p.2.1<4294967296∧p.2.2≤1∧val 4294967296 p.1+t*val 4294967296 ((dO v).take p.1.length)=val 4294967296 (win.take p.1.length)+4294967296 ^ p.1.length*(p.2.1+p.2.2))
  (fun p=>(dO v).length - p.1.length) ([],0,0) (Le.mk' _ (by simp) (by simp) (by simp)) ⟨by simp,ok_nil _,by simp,by simp,by simp⟩ ?_
 rintro⟨pre,c,b⟩ ⟨h1,h2,h3,h4,h5⟩
 simp only at h1 h2 h3 h4 h5
 have hwl:pre.length<win.length:=by omega
 have hwd:win.drop pre.length=win[pre.length]::win.drop (pre.length+1):=List.drop_eq_getElem_cons hwl
 have hwx:win[pre.length]<4294967296:=okw _ (List.getElem_mem hwl)
 have hwt:=val_take_succ (B:=4294967296) hwl
 generalize hx0:win[pre.length]=x0 at hwd hwx hwt
 generalize hB:lo++(pre++win.drop pre.length)++hi=BL
 rw [hwd] at hB
 have hget:BL[lo.length+pre.length]?=some x0:=by rw [← hB];exact mid_get hi
 have hBl:BL.length=lo.length+(win.length+hi.length):=by rw [← hB];simp;omega
 refine AW.q ?_
 refine AW.seqK fun K2 hK2=>?_
 by_cases hlt:pre.length<(dO v).length
 ·refine AW.fy (by simp_all) (AW.skip (hK2 _ _ (AW.seqK fun K3 hK3=>AW.block (AW.sr fun K4 hK4=>?_))))
  simp [hlt]
  apply hK4
  refine AW.seqK fun K4 hK4=>?_
  have hx:(dO v)[pre.length]<4294967296:=okv _ (List.getElem_mem hlt)
  have hvt:=val_take_succ (B:=4294967296) hlt
  generalize (dO v)[pre.length]=x at hx hvt
  have htx:t*x≤4294967295*4294967295:=Nat.mul_le_mul (by omega) (by omega)
  have e1:=wu64 (n:=(x:Int)) (by omega) (by omega)
  have e2:IntKind.u64.wrap ((t:Int)*x)=((t*x:Nat):Int):=by
   rw [← Int.natCast_mul];generalize t*x=p at htx;exact wu64 (by omega) (by omega)
  have e3:IntKind.u64.wrap ((c:Int)+((t*x:Nat):Int))=((c+t*x:Nat):Int):=by
   generalize t*x=p at htx;rw [wu64 (by omega) (by omega)];omega
  refine AW.rP ?_
  simp [e1,e2,e3,-Int.natCast_add,-Int.natCast_mul]
  apply hK4
  generalize hm:c+t*x=m at *
  have hml:m<18446744073709551616:=by rw [← hm];generalize t*x=p at htx;omega
  have e4:IntKind.u32.wrap (m:Int)=((m % 4294967296:Nat):Int):=by rw [wu32m];omega
  have e5:=wu64 (n:=((m % 4294967296:Nat):Int)) (by omega) (by omega)
  have e6:=wu64 (n:=(x0:Int)) (by omega) (by omega)
  have hcb:m % 4294967296<4294967296:=Nat.mod_lt _ (by omega)
  have hdm:=Nat.div_add_mod m 4294967296
  obtain⟨d,b',g1,g2,g3,g4,g5⟩:=take_step hwx hcb h4
  have e7:Int.fdiv (m:Int) 4294967296=((m / 4294967296:Nat):Int):=by rw [Int.fdiv_eq_ediv_of_nonneg _ (by omega)];omega
  generalize m % 4294967296=mr at *
  generalize m / 4294967296=mq at *
  have i1:=wK_load? (P:=Tryz.prog) (T:=138) (by simp) .u32 hget
  have i2:setSeg (wK .u32 BL) (lo.length+pre.length) [CV.d (.int .u32 (d:Int))]=wK .u32 (lo++((pre++[d])++win.drop (pre.length+1))++hi):=by
   rw [wK_set _ (by omega),← hB,mid_set]
  have i3:lo.length+pre.length+1≤BL.length:=by omega
  have i4:pre.length<n:=by omega
  refine AW.sr fun K4 hK4=>?_
  simp [i1,e4,e5,e6,i4,-Int.natCast_emod]
  apply hK4
  refine AW.f4 g4 i2 i3 i4 ?_
  refine AW.sr fun K4 hK4=>?_
  simp [IntKind.bits,g5]
  apply hK4
  refine AW.rP ?_
  simp [IntKind.bits,e7,-Int.natCast_ediv]
  apply hK3
  have e8:=w64 (n:=(pre.length:Int)+1) (by omega) (by omega)
  refine AW.rP ?_
  simp [e8]
  refine⟨pre++[d],mq,b',Le.mk' _ (by simp) (by simp) (by simp),⟨by simp;omega,ok_append.2 ⟨h2,ok_cons.2 ⟨g1,ok_nil _⟩⟩,by omega,g2,?_⟩,by simp;omega⟩
  rw [List.length_append,List.length_singleton,val_snoc,hvt,hwt,Nat.pow_succ]
  grind
 ·refine AW.fn (by simp_all) (AW.exit ?_)
  simp
  have ek:pre.length=(dO v).length:=by omega
  apply hK
  have hgl:win.drop (pre.length+1)=[]:=List.drop_eq_nil_of_le (by omega)
  obtain⟨d,b',g1,g2,g3,g4,g5⟩:=take_step hwx h3 h4
  have e6:=wu64 (n:=(x0:Int)) (by omega) (by omega)
  have i1:=wK_load? (P:=Tryz.prog) (T:=138) (by simp) .u32 hget
  have i2:setSeg (wK .u32 BL) (lo.length+pre.length) [CV.d (.int .u32 (d:Int))]=wK .u32 (lo++(pre++[d])++hi):=by
   rw [wK_set _ (by omega),← hB,mid_set,hgl,List.append_nil]
  have i3:lo.length+pre.length+1≤BL.length:=by omega
  have i4:pre.length<n:=by omega
  rw [← ek]
  refine AW.sr fun K hK=>?_
  simp [← ek,i1,e6,i4]
  apply hK
  refine AW.sr fun K hK=>?_
  simp [← ek,i2,i3,i4,g4]
  apply hK
  refine AW.sr fun K hK=>?_
  simp [IntKind.bits,g5]
  apply hK
  have hvv:val 4294967296 ((dO v).take pre.length)=val 4294967296 (dO v):=val_take_ge (by omega)
  have hww:val 4294967296 (win.take (pre.length+1))=val 4294967296 win:=val_take_ge (by omega)
  have hL:win.length=pre.length+1:=by omega
  rw [hvv] at h5
  have hfin:val 4294967296 (pre++[d])+t*val 4294967296 (dO v)=val 4294967296 win+4294967296 ^ win.length*b':=by
   rw [hL,val_snoc,← hww,hwt,Nat.pow_succ]
   have j1:4294967296 ^ pre.length*(d+c+b)=4294967296 ^ pre.length*(x0+4294967296*b'):=by rw [g3]
   rw [Nat.mul_add,Nat.mul_add,Nat.mul_add,← Nat.mul_assoc] at j1
   rw [Nat.mul_add] at h5
   omega
  have hok:ok 4294967296 (pre++[d]):=ok_append.2 ⟨h2,ok_cons.2 ⟨g1,ok_nil _⟩⟩
  have hlt2:=val_lt hok
  rw [List.length_append,List.length_singleton,← hL] at hlt2
  obtain⟨q1,q2⟩:=take_fin g2 hfin hlt2
  have hdig:=digL_of hok q2
  rw [List.length_append,List.length_singleton,← hL] at hdig
  rw [← hdig]
  have q3:(b':Int)=1↔takeB (val 4294967296 win) (t*val 4294967296 (dO v))=1:=by rw [← q1];omega
  refine AW.ret (κ:=0) (FinS.tmp (κ:=0) rfl (by simp [q3]) rfl (by simp) (by simp))
theorem digL_mod {B n:Nat}(hB:0<B) {l:List Nat}(h:ok B l) (hv:val B l=n % B ^ l.length):l=digL B l.length n:=by
 have h1:=digL_of (digL_ok hB l.length n) (digL_val l.length n)
 rw [digL_len] at h1
 rw [h1];exact digL_of h hv
theorem exact_give_ok (G:List (List DV))(lo win hi:List Nat)(n:Nat)(v:Option (List Nat))(hw:win.length=(dO v).length+1)(hn:win.length≤n)(okw:ok 4294967296 win)(hl:(lo++win++hi).length≤1000000000000) :
 CallsS Tryz.prog G 134 [.c (.lsl 0 lo.length n 1),nK .u32 v] [.cells false false 138 (wK .u32 (lo++win++hi))]
  (.ret (.tup []) [.cells false false 138 (wK .u32 (lo++digL 4294967296 win.length (val 4294967296 win+val 4294967296 (dO v))++hi))] []):=by
 refine CallsS.know 1 (by simp) (fun V v h=>nK_rng h) fun hrv=>?_
 have okv:ok 4294967296 (dO v):=fun d hd=>by have:=hrv.2 d hd;simp only [hiK] at this;omega
 simp only [List.length_append] at hl
 refine CallsS.en1 Go.Proofs.Tryz.func134 rfl fun _=>AW.q ?_
 refine AW.seqK fun K hK=>AW.q ?_
 refine AW.block ?_
 refine AW.loopV (fun (p:List Nat × Nat)=>⟨frOf [(0,.c (.lsl 0 lo.length n 1)),(1,nK .u32 v),(4,.c (.d (.int .u64 p.2))),(7,nK .u32 v),(8,.c (.d (.int .i64 (dO v).length))),(9,.c (.d (.int .i64 p.1.length)))],
  upd (fun _=>.hole) 0 (.cells false false 138 (wK .u32 (lo++(p.1++win.drop p.1.length)++hi)))⟩) 1000
  (fun p=>p.1.length≤(dO v).length∧ok 4294967296 p.1∧p.2≤1∧val 4294967296 p.1+4294967296 ^ p.1.length*p.2=val 4294967296 (win.take p.1.length)+val 4294967296 ((dO v).take p.1.length))
  (fun p=>(dO v).length - p.1.length) ([],0) (Le.mk' _ (by simp) (by simp) (by simp)) ⟨by simp,ok_nil _,by simp,by simp⟩ ?_
 rintro⟨pre,c⟩ ⟨h1,h2,h4,h5⟩
 simp only at h1 h2 h4 h5
 have hwl:pre.length<win.length:=by omega
 have hwd:win.drop pre.length=win[pre.length]::win.drop (pre.length+1):=List.drop_eq_getElem_cons hwl
 have hwx:win[pre.length]<4294967296:=okw _ (List.getElem_mem hwl)
 have hwt:=val_take_succ (B:=4294967296) hwl
 generalize hx0:win[pre.length]=x0 at hwd hwx hwt
 generalize hB:lo++(pre++win.drop pre.length)++hi=BL
 rw [hwd] at hB
 have hget:BL[lo.length+pre.length]?=some x0:=by rw [← hB];exact mid_get hi
 have hBl:BL.length=lo.length+(win.length+hi.length):=by rw [← hB];simp;omega
 have i1:=wK_load? (P:=Tryz.prog) (T:=138) (by simp) .u32 hget
 have i3:lo.length+pre.length+1≤BL.length:=by omega
 have i4:pre.length<n:=by omega
 refine AW.q ?_
 refine AW.seqK fun K2 hK2=>?_
 by_cases hlt:pre.length<(dO v).length
 ·refine AW.fy (by simp_all) (AW.skip (hK2 _ _ (AW.seqK fun K3 hK3=>AW.block (AW.sr fun K4 hK4=>?_))))
  simp [hlt]
  apply hK4
  refine AW.seqK fun K4 hK4=>?_
  have hx:(dO v)[pre.length]<4294967296:=okv _ (List.getElem_mem hlt)
  have hvt:=val_take_succ (B:=4294967296) hlt
  generalize (dO v)[pre.length]=x at hx hvt
  have e1:=wu64 (n:=(x:Int)) (by omega) (by omega)
  have e2:=wu64 (n:=(x0:Int)) (by omega) (by omega)
  have e3:IntKind.u64.wrap ((x0:Int)+x)=((x0+x:Nat):Int):=by rw [wu64 (by omega) (by omega)];omega
  have e4:IntKind.u64.wrap ((c:Int)+((x0+x:Nat):Int))=((c+(x0+x):Nat):Int):=by rw [wu64 (by omega) (by omega)];omega
  refine AW.rP ?_
  simp [i1,i4,e1,e2,e3,e4,-Int.natCast_add]
  apply hK4
  have hs:=snoc_carry 4294967296 pre (c+(x0+x))
  have hml:c+(x0+x)<8589934592:=by omega
  generalize hm:c+(x0+x)=m at *
  have e5:IntKind.u32.wrap (m:Int)=((m % 4294967296:Nat):Int):=by rw [wu32m];omega
  have e7:Int.fdiv (m:Int) 4294967296=((m / 4294967296:Nat):Int):=by rw [Int.fdiv_eq_ediv_of_nonneg _ (by omega)];omega
  have hd:m % 4294967296<4294967296:=Nat.mod_lt _ (by omega)
  have hq:m / 4294967296≤1:=by omega
  generalize m % 4294967296=d at *
  generalize m / 4294967296=q at *
  have i2:setSeg (wK .u32 BL) (lo.length+pre.length) [CV.d (.int .u32 (d:Int))]=wK .u32 (lo++((pre++[d])++win.drop (pre.length+1))++hi):=by
   rw [wK_set _ (by omega),← hB,mid_set]
  refine AW.f4 e5 i2 i3 i4 ?_
  refine AW.rP ?_
  simp [IntKind.bits,e7]
  apply hK3
  have e8:=w64 (n:=(pre.length:Int)+1) (by omega) (by omega)
  refine AW.rP ?_
  simp [e8]
  refine⟨pre++[d],q,Le.mk' _ (by simp) (by simp) (by simp),⟨by simp;omega,ok_append.2 ⟨h2,ok_cons.2 ⟨hd,ok_nil _⟩⟩,hq,?_⟩,by simp;omega⟩
  rw [List.length_append,List.length_singleton,hs,hvt,hwt,← hm,Nat.mul_add,Nat.mul_add]
  omega
 ·refine AW.fn (by simp_all) (AW.exit ?_)
  simp
  have ek:pre.length=(dO v).length:=by omega
  apply hK
  have hgl:win.drop (pre.length+1)=[]:=List.drop_eq_nil_of_le (by omega)
  have e1:=wu32 (n:=(c:Int)) (by omega) (by omega)
  have hs:=snoc_carry 4294967296 pre (x0+c)
  have e2:IntKind.u32.wrap ((x0:Int)+c)=(((x0+c) % 4294967296:Nat):Int):=by rw [wu32m];omega
  have hd:(x0+c) % 4294967296<4294967296:=Nat.mod_lt _ (by omega)
  generalize (x0+c) / 4294967296=q at *
  generalize (x0+c) % 4294967296=d at *
  have i2:setSeg (wK .u32 BL) (lo.length+pre.length) [CV.d (.int .u32 (d:Int))]=wK .u32 (lo++(pre++[d])++hi):=by
   rw [wK_set _ (by omega),← hB,mid_set,hgl,List.append_nil]
  refine AW.rP ?_
  simp [← ek,i1,i2,i3,i4,e1,e2]
  have hvv:val 4294967296 ((dO v).take pre.length)=val 4294967296 (dO v):=val_take_ge (by omega)
  have hww:val 4294967296 (win.take (pre.length+1))=val 4294967296 win:=val_take_ge (by omega)
  have hL:win.length=(pre++[d]).length:=by simp;omega
  rw [hvv] at h5
  have hok:ok 4294967296 (pre++[d]):=ok_append.2 ⟨h2,ok_cons.2 ⟨hd,ok_nil _⟩⟩
  have hlt2:=val_lt hok
  have hval:val 4294967296 win+val 4294967296 (dO v)=val 4294967296 (pre++[d])+4294967296 ^ (pre++[d]).length*q:=by
   rw [List.length_append,List.length_singleton,hs,← hww,hwt,Nat.mul_add];omega
  have hdig:pre++[d]=digL 4294967296 win.length (val 4294967296 win+val 4294967296 (dO v)):=by
   rw [hL]
   refine digL_mod (by decide) hok ?_
   rw [hval,Nat.add_mul_mod_self_left,Nat.mod_eq_of_lt hlt2]
  refine FinS.none (.inl rfl) rfl (by simp) ?_
  grind
theorem div_easy1 (G:List (List DV))(a b:Option (List Nat))(ha:can 4294967296 (dO a))(hb:can 4294967296 (dO b))(h:val 4294967296 (dO a)<val 4294967296 (dO b)) :
 CallsP Tryz.prog G 82 [nK .u32 a,nK .u32 b] (.tup [nK .u32 none,nK .u32 a]):=by
 refine CallsP.en Go.Proofs.Tryz.func82 rfl fun _=>AW.q ?_
 refine AW.scope ?_
 refine AW.q ?_
 refine AW.seqK fun K hK=>AW.block (AW.sr fun K1 hK1=>?_)
 simp
 refine CallDo.pure 0 0 (exact_cmp_ok ha hb) rfl (by simp) rfl ?_
 simp [cmpN_lt h]
 apply hK1
 refine AW.cy (AW.q ?_)
 exact AW.r0 (FinP.t2 rfl 0 (by simp [nK]) (by simp))
theorem div_easy2 (G:List (List DV))(a b:Option (List Nat))(ha:can 4294967296 (dO a))(hb:can 4294967296 (dO b))(h:val 4294967296 (dO b)≤val 4294967296 (dO a))(hn:(dO b).length=1)(hl:(dO a).length≤1000000000000) :
 CallsP Tryz.prog G 82 [nK .u32 a,nK .u32 b] (.tup [nK .u32 (some (dig 4294967296 (val 4294967296 (dO a) / val 4294967296 (dO b)))),nK .u32 (some (dig 4294967296 (val 4294967296 (dO a) % val 4294967296 (dO b))))]):=by
 obtain⟨x,hx⟩:∃ x,dO b=[x]:=by
  match hd:dO b,hn with|[x],_=>exact⟨x,rfl⟩
 have hxv:val 4294967296 (dO b)=x:=by simp [hx]
 have hx0:x≠0:=hb.2 x (by grind)
 have hxl:x<4294967296:=hb.1 x (by grind)
 have hlt:(0:Nat)<(dO b).length:=by omega
 have hix:=ix_nK' (P:=Tryz.prog) (T:=25) (lv:=fun _=>.hole) (k:=.u32) (k':=.i64) (o:=b) (i:=0) (by simp) hlt
 have hg:(dO b)[0]=x:=by simp [hx]
 simp only [hg,Int.natCast_zero] at hix
 refine CallsP.en Go.Proofs.Tryz.func82 rfl fun _=>AW.q ?_
 refine AW.scope ?_
 refine AW.q ?_
 refine AW.seqK fun K hK=>AW.block (AW.seqK fun K1 hK1=>?_)
 have hc:¬ cmpN (val 4294967296 (dO a)) (val 4294967296 (dO b))<0:=by unfold cmpN;(repeat' split) <;> omega
 refine AW.rP ?_
 simp
 refine CallDo.pure 0 0 (exact_cmp_ok ha hb) rfl (by simp) rfl ?_
 simp only [hxv] at hc ⊢
 simp [hc]
 apply hK1
 refine AW.fn (by rfl) (AW.q ?_)
 refine AW.fy (by simp_all) (AW.sr fun K1 hK1=>?_)
 simp [hix]
 refine CallDo.pure 0 0 (exact_small_ok _ a x hx0 hl) (by simp [AV.pure,AV.pure0];exact⟨rfl,rfl⟩) (by simp) rfl ?_
 simp [-Int.natCast_emod]
 apply hK1
 have hml:val 4294967296 (dO a) % x<x:=Nat.mod_lt _ (by omega)
 generalize hr:val 4294967296 (dO a) % x=r at *
 have e1:=wu64 (n:=(r:Int)) (by omega) (by omega)
 refine AW.sr fun K1 hK1=>?_
 simp [e1]
 refine CallDo.pure 0 0 (exact_of_ok _ r (by omega)) (by simp) (by simp) rfl ?_
 simp
 apply hK1
 exact AW.r0 (FinP.t2 rfl 0 (by simp [hxv]) (by simp_all))
theorem srcA_nK {lv:Key→LB}(k:IntKind) (l:List Nat):srcA lv 1 (nK k (some l))=some (l.length,wK k l):=by
 have h1:(dK k l).all (fun e=>e.length == 1)=true:=by simp [dK]
 have h2:(dK k l).flatten.map CV.d=wK k l:=by
  induction l with
  | nil=>rfl
  | cons x l ih=>simp only [dK,wK,List.map_cons,List.flatten_cons,List.map_append] at ih ⊢;simp [ih]
 simp only [srcA,nK,h1,if_true,h2]
 simp [dK]
theorem mid_get' {lo wl hi:List Nat}{i:Nat}(h:i<wl.length):(lo++wl++hi)[lo.length+i]?=wl[i]?:=by
 grind
theorem top3 {B:Nat}{l:List Nat}{n:Nat}(hn:2≤n) (hl:l.length=n+1):val B l=((l[n]*B+l[n - 1])*B+l[n - 2])*B ^ (n - 2)+val B (l.take (n - 2)):=by
 have h1:=val_take_drop (B:=B) l (n - 2) (by omega)
 have e1:n - 2+1=n - 1:=by omega
 have e2:n - 1+1=n:=by omega
 rw [val_drop (by omega:n - 2<l.length)] at h1
 simp only [e1] at h1
 rw [val_drop (by omega:n - 1<l.length)] at h1
 simp only [e2] at h1
 rw [val_drop (by omega:n<l.length),val_drop_ge (by omega)] at h1
 grind
theorem top2 {B:Nat}{l:List Nat}{n:Nat}(hn:2≤n) (hl:l.length=n):val B l=(l[n - 1]*B+l[n - 2])*B ^ (n - 2)+val B (l.take (n - 2)):=by
 have h1:=val_take_drop (B:=B) l (n - 2) (by omega)
 have e1:n - 2+1=n - 1:=by omega
 rw [val_drop (by omega:n - 2<l.length)] at h1
 simp only [e1] at h1
 rw [val_drop (by omega:n - 1<l.length),val_drop_ge (by omega)] at h1
 grind
structure Dv (dV:List Nat) (n la m U0:Nat):Prop where
 hn:2≤n
 hla:la≤1000000000000
 hm:m+n=la+1
 hm1:1≤m
 okV:ok 4294967296 dV
 lenV:dV.length=n
 topV:2147483648≤dV.getD (n - 1) 0
def dvI (dV:List Nat)(n m U0:Nat)(p:Nat × List Nat × List Nat × List Nat):Prop:=
 p.1≤m∧p.2.1.length=p.1∧p.2.2.1.length=n∧ok 4294967296 p.2.1∧ok 4294967296 p.2.2.1∧p.2.2.2.length+p.1=m∧ok 4294967296 p.2.2.2∧val 4294967296 p.2.2.1<val 4294967296 dV ∧
  val 4294967296 p.2.1+4294967296 ^ p.1*(val 4294967296 p.2.2.1+val 4294967296 dV*val 4294967296 p.2.2.2)=U0
def dvS (dV:List Nat)(n la m s:Nat)(p:Nat × List Nat × List Nat × List Nat):LSt:=
 ⟨frOf [(4,.c (.lsl 1 0 m 1)),(6,.c (.d (.int .i64 n))),(9,.c (.d (.int .i64 s))),(10,nK .u32 (some dV)),(11,.c (.lsl 0 0 (la+1) 1)),(12,.c (.d (.int .i64 ((p.1:Int) - 1))))],
  upd (upd (fun _=>.hole) 0 (.cells true false 138 (wK .u32 (p.2.1++p.2.2.1++List.replicate (m - p.1) 0)))) 1 (.cells true false 138 (wK .u32 (List.replicate p.1 0++p.2.2.2)))⟩
theorem norm_b {b:List Nat}{n:Nat}(hb:can 4294967296 b) (hn:b.length=n) (h1:1≤n):∃ t s,b[n - 1]?=some t∧t<4294967296∧s≤31∧blen t+s=32∧val 4294967296 b*2 ^ s<4294967296 ^ n∧4294967296 ^ (n - 1)*2147483648≤val 4294967296 b*2 ^ s:=by
 have hlt:n - 1<b.length:=by omega
 have ht0:b[n - 1]≠0:=hb.2 _ (by grind)
 have htl:b[n - 1]<4294967296:=hb.1 _ (List.getElem_mem hlt)
 have hv:=val_take_drop (B:=4294967296) b (n - 1) (by omega)
 rw [val_drop hlt,val_drop_ge (by omega)] at hv
 have hl:=val_lt (ok_take hb.1 (n - 1))
 rw [List.length_take,Nat.min_eq_left (by omega)] at hl
 refine⟨b[n - 1],32 - blen b[n - 1],List.getElem?_eq_getElem hlt,htl,?_⟩
 generalize b[n - 1]=t at *
 have hb1:=blen_le ht0
 have hb2:=blen_lt t
 have hb3:1≤blen t:=by simp [blen,ht0]
 have hb4:blen t≤32:=by
  apply Classical.byContradiction
  intro hc
  have h9:2 ^ 32≤2 ^ (blen t - 1):=Nat.pow_le_pow_right (by decide) (by omega)
  omega
 have p1:2 ^ blen t*2 ^ (32 - blen t)=4294967296:=by
  rw [← Nat.pow_add];have:blen t+(32 - blen t)=32:=by omega
  rw [this]
 have p2:2 ^ (blen t - 1)*2 ^ (32 - blen t)=2147483648:=by
  rw [← Nat.pow_add];have:blen t - 1+(32 - blen t)=31:=by omega
  rw [this]
 refine⟨by omega,by omega,?_,?_⟩
 ·have q1:val 4294967296 b+1≤4294967296 ^ (n - 1)*2 ^ blen t:=by
   have:4294967296 ^ (n - 1)*(t+1)≤4294967296 ^ (n - 1)*2 ^ blen t:=Nat.mul_le_mul_left _ hb2
   rw [Nat.mul_add,Nat.mul_one] at this
   simp only [Nat.mul_zero,Nat.add_zero] at hv
   omega
  have q2:(val 4294967296 b+1)*2 ^ (32 - blen t)≤4294967296 ^ (n - 1)*2 ^ blen t*2 ^ (32 - blen t):=Nat.mul_le_mul_right _ q1
  have q3:4294967296 ^ (n - 1)*4294967296=4294967296 ^ n:=by rw [← Nat.pow_succ];congr 1;omega
  rw [Nat.mul_assoc,p1,q3,Nat.add_mul,Nat.one_mul] at q2
  grind
 ·rw [← p2,← Nat.mul_assoc]
  refine Nat.mul_le_mul_right _ ?_
  have:4294967296 ^ (n - 1)*2 ^ (blen t - 1)≤4294967296 ^ (n - 1)*t:=Nat.mul_le_mul_left _ hb1
  grind
theorem dgMod {B:Nat}(hB:0<B) (L n:Nat):digL B L (n % B ^ L)=digL B L n:=by
 have h:=digL_of (digL_ok hB L n) rfl
 rw [digL_len,digL_val] at h
 grind
theorem digL_addp {B:Nat}(hB:0<B) (L n:Nat):digL B L (B ^ L+n)=digL B L n:=by
 rw [← dgMod hB,Nat.add_mod_left,dgMod hB]
theorem updSwap {a b c:LB}:upd (upd (upd (fun _=>LB.hole) 0 a) 1 b) 0 c=upd (upd (fun _=>LB.hole) 0 c) 1 b:=by
 funext k
 simp only [upd]
 grind
theorem div_hard (a b:Option (List Nat))(ha:can 4294967296 (dO a))(hb:can 4294967296 (dO b))(h:val 4294967296 (dO b)≤val 4294967296 (dO a))(hn:2≤(dO b).length)(hl:(dO a).length<1000000000000) :
 ∀ G,CallsP Tryz.prog G 82 [nK .u32 a,nK .u32 b] (.tup [nK .u32 (some (dig 4294967296 (val 4294967296 (dO a) / val 4294967296 (dO b)))),nK .u32 (if val 4294967296 (dO a) % val 4294967296 (dO b)=0 then none else some (dig 4294967296 (val 4294967296 (dO a) % val 4294967296 (dO b))))]):=by
 intro G
 obtain⟨t,s,ht,htl,hs,hts,hV1,hV2⟩:=norm_b hb rfl (by omega)
 have hlen:(dO b).length≤(dO a).length:=by
  apply Classical.byContradiction
  intro hc
  have:=can_len_lt (by omega) ha hb (by omega)
  omega
 have hb0:dO b≠[]:=fun e=>by grind
 have ha0:dO a≠[]:=fun e=>by grind
 obtain⟨hk,hte⟩:=List.getElem?_eq_some_iff.1 ht
 have hlz:=bits_LeadingZeros32_ok G t htl
 have e0:(32 - (blen t:Int))=(s:Int):=by omega
 rw [e0] at hlz
 have hsb:=exact_shl_ok G b s (by omega) (by omega)
 have hsa:=exact_shl_ok G a s (by omega) (by omega)
 rw [if_neg hb0] at hsb
 rw [if_neg ha0] at hsa
 refine CallsP.en Go.Proofs.Tryz.func82 rfl fun _=>AW.q ?_
 refine AW.scope ?_
 refine AW.q ?_
 refine AW.seqK fun K hK=>AW.block (AW.seqK fun K1 hK1=>?_)
 have hc:¬ cmpN (val 4294967296 (dO a)) (val 4294967296 (dO b))<0:=by unfold cmpN;(repeat' split) <;> omega
 refine AW.rP ?_
 simp
 refine CallDo.pure 0 0 (exact_cmp_ok ha hb) rfl (by simp) rfl ?_
 simp [hc]
 apply hK1
 refine AW.fn (by rfl) (AW.q ?_)
 have hn1:¬ (dO b).length=1:=by omega
 refine AW.fn (by simp <;> omega) (AW.skip (hK _ _ ?_))
 have e1:IntKind.i64.wrap (((dO b).length:Int) - 1)=(((dO b).length - 1:Nat):Int):=by rw [w64 (by omega) (by omega)];omega
 refine AW.sr fun K hK=>?_
 simp [e1,hk,hte]
 refine CallDo.pure 0 0 hlz rfl (by simp) rfl ?_
 simp
 apply hK
 refine AW.sr fun K hK=>?_
 simp
 refine CallDo.pure 0 0 hsb (by simp) (by simp) rfl ?_
 simp
 apply hK
 have e2:=w64 (n:=((dO a).length:Int)+1) (by omega) (by omega)
 refine AW.f1 e2 ?_
 refine AW.sr fun K hK=>?_
 simp
 refine CallDo.pure 1 5 hsa (by simp) (by simp) (by simp) ?_
 simp [stepCopy,srcA_nK]
 have hA:=dig_lt (B:=4294967296) (n:=val 4294967296 (dO a)) (by decide)
 rw [← dig_of (by decide) ha rfl] at hA
 have hU1:val 4294967296 (dO a)*2 ^ s<4294967296 ^ (dO a).length*2 ^ s:=Nat.mul_lt_mul_of_pos_right hA (Nat.pow_pos (by decide))
 have hs31:(2:Nat) ^ s≤2147483648:=Nat.pow_le_pow_right (n:=2) (by decide) hs
 have hU2:val 4294967296 (dO a)*2 ^ s<4294967296 ^ ((dO a).length+1):=by
  rw [Nat.pow_succ]
  refine Nat.lt_of_lt_of_le hU1 (Nat.mul_le_mul_left _ (by omega))
 have hApos:0<val 4294967296 (dO a):=can_pos ha ha0
 have hBpos:0<val 4294967296 (dO b):=can_pos hb hb0
 have hU0:val 4294967296 (dO a)*2 ^ s≠0:=Nat.ne_of_gt (Nat.mul_pos hApos (Nat.pow_pos (by decide)))
 have hV0:val 4294967296 (dO b)*2 ^ s≠0:=Nat.ne_of_gt (Nat.mul_pos hBpos (Nat.pow_pos (by decide)))
 have hUl:=dig_len_le (by decide) hU2
 have hUp:0<(dig 4294967296 (val 4294967296 (dO a)*2 ^ s)).length:=List.length_pos_iff.2 (fun e=>hU0 ((dig_nil (by decide)).1 e))
 have okU:=(dig_can (B:=4294967296) (by decide) (val 4294967296 (dO a)*2 ^ s)).1
 have vU:=dig_val (B:=4294967296) (by decide) (val 4294967296 (dO a)*2 ^ s)
 have canV:=dig_can (B:=4294967296) (by decide) (val 4294967296 (dO b)*2 ^ s)
 have vV:=dig_val (B:=4294967296) (by decide) (val 4294967296 (dO b)*2 ^ s)
 have lV:(dig 4294967296 (val 4294967296 (dO b)*2 ^ s)).length=(dO b).length:=by
  refine Nat.le_antisymm (dig_len_le (by decide) hV1) ?_
  apply Classical.byContradiction
  intro hc
  have g1:=dig_lt (B:=4294967296) (n:=val 4294967296 (dO b)*2 ^ s) (by decide)
  have g2:4294967296 ^ (dig 4294967296 (val 4294967296 (dO b)*2 ^ s)).length≤4294967296 ^ ((dO b).length - 1):=Nat.pow_le_pow_right (by decide) (by omega)
  have g3:4294967296 ^ ((dO b).length - 1)*1≤4294967296 ^ ((dO b).length - 1)*2147483648:=Nat.mul_le_mul_left _ (by decide)
  omega
 have hq:val 4294967296 (dO a) / val 4294967296 (dO b)=(val 4294967296 (dO a)*2 ^ s) / (val 4294967296 (dO b)*2 ^ s):=(Nat.mul_div_mul_right _ _ (Nat.pow_pos (by decide))).symm
 have hr:(val 4294967296 (dO a)*2 ^ s) % (val 4294967296 (dO b)*2 ^ s)=(val 4294967296 (dO a) % val 4294967296 (dO b))*2 ^ s:=Nat.mul_mod_mul_right _ _ _
 generalize hdV:dig 4294967296 (val 4294967296 (dO b)*2 ^ s)=dV at *
 generalize hdU:dig 4294967296 (val 4294967296 (dO a)*2 ^ s)=dU at *
 rw [Nat.min_eq_left hUl]
 have hseg:setSeg (wK .u32 (List.replicate ((dO a).length+1) 0)) 0 ((wK .u32 dU).take dU.length)=wK .u32 (dU++List.replicate ((dO a).length+1 - dU.length) 0):=by
  simp [setSeg,wK,← List.map_take]
 refine⟨⟨hUp,hUl,by omega⟩,?_⟩
 simp only [List.take_of_length_le (by simp:(wK .u32 dU).length≤dU.length)] at hseg ⊢
 rw [wK_zeros,hseg]
 apply hK
 refine AW.at0 1 ?_
 have e3:IntKind.i64.wrap (((dO a).length:Int) - (dO b).length)=(((dO a).length - (dO b).length:Nat):Int):=by rw [w64 (by omega) (by omega)];omega
 have e4:IntKind.i64.wrap ((((dO a).length - (dO b).length:Nat):Int)+1)=(((dO a).length - (dO b).length+1:Nat):Int):=by rw [w64 (by omega) (by omega)];omega
 obtain⟨m,hm⟩:∃ m,m=(dO a).length - (dO b).length+1:=⟨_,rfl⟩
 rw [← hm] at e4
 refine AW.f2 e3 e4 ?_
 refine AW.seqK fun K hK=>AW.label ?_
 simp
 apply hK
 have e5:IntKind.i64.wrap ((m:Int) - 1)=(m:Int) - 1:=w64 (by omega) (by omega)
 refine AW.seqK fun K hK=>AW.f1 e5 ?_
 refine AW.block ?_
 have hlu:(dU++List.replicate ((dO a).length+1 - dU.length) 0).length=(dO a).length+1:=by simp;omega
 have hok:ok 4294967296 (dU++List.replicate ((dO a).length+1 - dU.length) 0):=ok_append.2 ⟨okU,ok_zeros (by decide) _⟩
 have hvu:val 4294967296 (dU++List.replicate ((dO a).length+1 - dU.length) 0)=val 4294967296 (dO a)*2 ^ s:=by rw [val_append,val_zeros,vU];omega
 generalize hu0:dU++List.replicate ((dO a).length+1 - dU.length) 0=u0 at *
 have htd:=val_take_drop (B:=4294967296) u0 m (by omega)
 have hdv:=val_div_pow hok m (by omega)
 have hrV:val 4294967296 (u0.drop m)<val 4294967296 dV:=by
  rw [← hdv,hvu,vV]
  have g1:val 4294967296 (dO a)*2 ^ s<4294967296 ^ m*(4294967296 ^ ((dO b).length - 1)*2147483648):=by
   have:4294967296 ^ (dO a).length*2 ^ s≤4294967296 ^ m*(4294967296 ^ ((dO b).length - 1)*2147483648):=by
    rw [← Nat.mul_assoc,← Nat.pow_add]
    have:m+((dO b).length - 1)=(dO a).length:=by omega
    rw [this]
    exact Nat.mul_le_mul_left _ hs31
   omega
  refine Nat.div_lt_of_lt_mul (Nat.lt_of_lt_of_le g1 (Nat.mul_le_mul_left _ hV2))
 have hI0:dvI dV (dO b).length m (val 4294967296 (dO a)*2 ^ s) (m,u0.take m,u0.drop m,[]):=by
  refine⟨Nat.le_refl _,by simp;omega,by simp;omega,ok_take hok _,ok_drop hok _,by simp,ok_nil _,hrV,?_⟩
  simp only [val_nil,Nat.mul_zero,Nat.add_zero]
  rw [← htd,hvu]
 refine AW.loopV (dvS dV (dO b).length (dO a).length m s) 2 (dvI dV (dO b).length m (val 4294967296 (dO a)*2 ^ s)) (fun p=>p.1) (m,u0.take m,u0.drop m,[]) (Le.mk' _ (by simp [wK_zeros]) (by simp) (by simp)) hI0 ?_
 rintro⟨k,lo,r,qs⟩ ⟨i1,i2,i3,i4,i5,i6,i7,i8,i9⟩
 simp only at i1 i2 i3 i4 i5 i6 i7 i8 i9
 unfold dvS
 refine AW.seqK fun K3 hK3=>AW.q ?_
 cases k with
 | zero=>
  refine AW.cn (AW.exit (hK _ _ (AW.seqK fun K hK=>?_)))
  have el:lo=[]:=List.length_eq_zero_iff.1 i2
  subst el
  simp only [val_nil,Nat.pow_zero,Nat.one_mul,Nat.zero_add] at i9
  simp only [Nat.add_zero] at i6
  have hQ:(val 4294967296 (dO a)*2 ^ s) / (val 4294967296 (dO b)*2 ^ s)=val 4294967296 qs:=by
   rw [← vV,← i9,Nat.add_mul_div_left _ _ (by omega),Nat.div_eq_of_lt i8,Nat.zero_add]
  have hR:(val 4294967296 (dO a)*2 ^ s) % (val 4294967296 (dO b)*2 ^ s)=val 4294967296 r:=by
   rw [← vV,← i9,Nat.add_mul_mod_self_left,Nat.mod_eq_of_lt i8]
  refine AW.drawP mixed (by kernel_rfl) rfl ?_
  simp
  have hlq:qs.length=m:=i6
  have hQt:trimN (qs.take m)=dig 4294967296 (val 4294967296 (dO a) / val 4294967296 (dO b)):=by
   rw [List.take_of_length_le (by omega)]
   exact trim_dig (by decide) i7 (by rw [hq,hQ])
  have hrt:(r++List.replicate m 0).take (dO b).length=r:=by rw [← i3];simp
  have hRt:trimN ((r++List.replicate m 0).take (dO b).length)=dig 4294967296 ((val 4294967296 (dO a) % val 4294967296 (dO b))*2 ^ s):=by
   rw [hrt];exact trim_dig (by decide) i5 (by omega)
  refine CallPD.frzN (l:=qs) 2 5 1 m (by omega) (by simp;rfl) (by omega) (exact_cut_ok _ _) (by simp) (by simp) (by simp) ?_
  have hlr:(dO b).length≤(dO a).length+1:=by omega
  simp [slT_25]
  repeat refine and_o ?_
  refine CallPD.frzN (l:=r++List.replicate m 0) 2 5 0 (dO b).length (by simp;omega) (by simp;rfl) (by simp;omega) (exact_cut_ok _ _) (by simp) (by simp) (by simp) ?_
  simp only [hQt,hRt]
  simp
  have hsh:∀ G,CallsP Tryz.prog G 135 [nK .u32 (some (dig 4294967296 ((val 4294967296 (dO a) % val 4294967296 (dO b))*2 ^ s))),.c (.d (.int .i64 s))] (nK .u32 (if val 4294967296 (dO a) % val 4294967296 (dO b)=0 then none else some (dig 4294967296 (val 4294967296 (dO a) % val 4294967296 (dO b))))):=by
   intro G
   have hx:(dig 4294967296 ((val 4294967296 (dO a) % val 4294967296 (dO b))*2 ^ s)).length≤1000000000000:=by
    rw [← hRt,hrt]
    exact Nat.le_trans (trim_len r) (by omega)
   have key:=exact_shr_ok G (some (dig 4294967296 ((val 4294967296 (dO a) % val 4294967296 (dO b))*2 ^ s))) s hx (by omega)
   have hs0:s / 32=0:=by omega
   simp only [dO_some,hs0] at key
   rw [dig_val (by decide),Nat.mul_div_cancel _ (Nat.pow_pos (by decide))] at key
   by_cases hz:val 4294967296 (dO a) % val 4294967296 (dO b)=0
   ·simp_all
   ·rw [if_neg hz]
    rw [if_neg] at key
    ·exact key
    ·intro hc
     have h9:=List.length_eq_zero_iff.1 (Nat.le_zero.1 hc)
     have:=(dig_nil (by decide)).1 h9
     have h8:=Nat.mul_pos (Nat.pos_of_ne_zero hz) (Nat.pow_pos (a:=2) (n:=s) (by decide))
     omega
  refine CallDo.pure 2 5 (hsh _) (by simp) (by simp) (by simp) ?_
  simp
  refine⟨by kernel_rfl,?_⟩
  apply hK
  exact AW.r0 (FinP.t2 rfl 5 (by simp) (by simp))
 | succ j=>
  refine AW.cy (AW.skip (hK3 _ _ ?_))
  rcases List.eq_nil_or_concat lo with rfl|⟨lo',x,rfl⟩
  ·simp at i2
  rw [List.concat_eq_append] at *
  have hlo:lo'.length=j:=by simp at i2;exact i2
  obtain⟨oklo,hx1⟩:=ok_append.1 i4
  have hx:x<4294967296:=(ok_cons.1 hx1).1
  have e6:((j+1:Nat):Int) - 1=j:=by omega
  simp only [e6]
  have hwl:(x::r).length=(dO b).length+1:=by simp [i3]
  have okw:ok 4294967296 (x::r):=ok_cons.2 ⟨hx,i5⟩
  have hWv:val 4294967296 (x::r)=x+4294967296*val 4294967296 r:=rfl
  have hWV:val 4294967296 (x::r)<4294967296*val 4294967296 dV:=by
   have:4294967296*(val 4294967296 r+1)≤4294967296*val 4294967296 dV:=Nat.mul_le_mul_left _ i8
   rw [Nat.mul_add] at this;omega
  have hEW:=top3 (B:=4294967296) hn hwl
  have hEV:=top2 (B:=4294967296) hn lV
  have hWl:=val_lt (ok_take okw ((dO b).length - 2))
  rw [List.length_take,Nat.min_eq_left (by omega)] at hWl
  have okV:=canV.1
  have hVl:=val_lt (ok_take okV ((dO b).length - 2))
  rw [List.length_take,Nat.min_eq_left (by omega)] at hVl
  have hv1':val 4294967296 dV / 4294967296 ^ ((dO b).length - 1)=dV[(dO b).length - 1]:=by
   rw [val_div_pow okV _ (by omega),val_drop (by omega:(dO b).length - 1<dV.length),val_drop_ge (l:=dV) (i:=(dO b).length - 1+1) (by omega)];rfl
  have hv1:2147483648≤dV[(dO b).length - 1]:=by
   rw [← hv1',Nat.le_div_iff_mul_le (Nat.pow_pos (by decide)),vV,Nat.mul_comm];exact hV2
  generalize hBL:lo'++[x]++(r++List.replicate (m - (j+1)) 0)=BL
  have hBL':lo'++(x::r)++List.replicate (m - (j+1)) 0=BL:=by rw [← hBL];simp
  have hBLl:BL.length=(dO a).length+1:=by rw [← hBL'];simp;omega
  have hb0:BL[j+(dO b).length]?=some (x::r)[(dO b).length]:=by
   rw [← hBL',← hlo,mid_get' (by omega),List.getElem?_eq_getElem (by omega)]
  have hb1:BL[j+(dO b).length - 1]?=some (x::r)[(dO b).length - 1]:=by
   have:j+(dO b).length - 1=lo'.length+((dO b).length - 1):=by omega
   rw [← hBL',this,mid_get' (by omega),List.getElem?_eq_getElem (by omega)]
  have hb2:BL[j+(dO b).length - 2]?=some (x::r)[(dO b).length - 2]:=by
   have:j+(dO b).length - 2=lo'.length+((dO b).length - 2):=by omega
   rw [← hBL',this,mid_get' (by omega),List.getElem?_eq_getElem (by omega)]
  have ha0l:(x::r)[(dO b).length]<4294967296:=okw _ (List.getElem_mem (by omega))
  have ha1l:(x::r)[(dO b).length - 1]<4294967296:=okw _ (List.getElem_mem (by omega))
  have ha2l:(x::r)[(dO b).length - 2]<4294967296:=okw _ (List.getElem_mem (by omega))
  have hv1l:dV[(dO b).length - 1]<4294967296:=okV _ (List.getElem_mem (by omega))
  have hv2l:dV[(dO b).length - 2]<4294967296:=okV _ (List.getElem_mem (by omega))
  have hxv1:(dO b).length - 1<(dO (some dV)).length:=by simp;omega
  have hxv2:(dO b).length - 2<(dO (some dV)).length:=by simp;omega
  have gv1:∀ lv,stepIndexAddr Tryz.prog 25 lv (nK .u32 (some dV)) (.c (.d (.int .i64 (((dO b).length - 1:Nat):Int))))=some (.c (.d (.ptr [DV.int .u32 (dV[(dO b).length - 1]:Int)])),[],[],True):=fun lv=>ix_nK' (by simp) hxv1
  have gv2:∀ lv,stepIndexAddr Tryz.prog 25 lv (nK .u32 (some dV)) (.c (.d (.int .i64 (((dO b).length - 2:Nat):Int))))=some (.c (.d (.ptr [DV.int .u32 (dV[(dO b).length - 2]:Int)])),[],[],True):=fun lv=>ix_nK' (by simp) hxv2
  have hEst:Est 4294967296 (4294967296 ^ ((dO b).length - 2)) (val 4294967296 dV) (val 4294967296 (x::r)) dV[(dO b).length - 1] dV[(dO b).length - 2] (val 4294967296 (dV.take ((dO b).length - 2))) ((x::r)[(dO b).length]*4294967296+(x::r)[(dO b).length - 1]) (x::r)[(dO b).length - 2] (val 4294967296 ((x::r).take ((dO b).length - 2))):=
   ⟨hEV,hEW,hVl,hWl,hv2l,ha2l,hWV,by omega,by omega⟩
  generalize (x::r)[(dO b).length]=a0 at *
  generalize (x::r)[(dO b).length - 1]=a1 at *
  generalize (x::r)[(dO b).length - 2]=a2 at *
  generalize dV[(dO b).length - 1]=v1 at *
  generalize dV[(dO b).length - 2]=v2 at *
  have l0:=wK_load? (P:=Tryz.prog) (T:=138) (by simp) .u32 hb0
  have l1:=wK_load? (P:=Tryz.prog) (T:=138) (by simp) .u32 hb1
  have l2:=wK_load? (P:=Tryz.prog) (T:=138) (by simp) .u32 hb2
  have f1:IntKind.i64.wrap ((j:Int)+(dO b).length)=((j+(dO b).length:Nat):Int):=by rw [w64 (by omega) (by omega)];omega
  have f2:IntKind.i64.wrap (((j+(dO b).length:Nat):Int) - 1)=((j+(dO b).length - 1:Nat):Int):=by rw [w64 (by omega) (by omega)];omega
  have f3:IntKind.i64.wrap (((j+(dO b).length:Nat):Int) - 2)=((j+(dO b).length - 2:Nat):Int):=by rw [w64 (by omega) (by omega)];omega
  have f4:=wu64 (n:=(a0:Int)) (by omega) (by omega)
  have f5:=wu64 (n:=(a1:Int)) (by omega) (by omega)
  have f6:=wu64 (n:=(a2:Int)) (by omega) (by omega)
  have f7:=wu64 (n:=(v1:Int)) (by omega) (by omega)
  have f8:=wu64 (n:=(v2:Int)) (by omega) (by omega)
  have f9:IntKind.u64.wrap ((a0:Int)*4294967296)=((a0*4294967296:Nat):Int):=by rw [wu64 (by omega) (by omega)];omega
  obtain⟨top,htp⟩:∃ t,t=a0*4294967296+a1:=⟨_,rfl⟩
  have f10:orI .u64 ((a0*4294967296:Nat):Int) (a1:Int)=(top:Int):=by rw [htp];exact or_add64 ha0l ha1l
  rw [← htp] at hEst
  have htop:=hEst.top_lt
  refine AW.seqK fun K5 hK5=>AW.block (AW.seqK fun K6 hK6=>?_)
  refine AW.drawQ mixed (by kernel_rfl) rfl rfl ?_
  simp [f1,f2,l0,l1,f4,f5,f9,f10,IntKind.bits,-Int.natCast_add,-Int.natCast_mul]
  repeat refine and_o ?_
  apply hK6
  have htop64:top<18446744073709551616:=by omega
  have f11:Int.tdiv (top:Int) v1=((top / v1:Nat):Int):=by rw [Int.tdiv_eq_ediv_of_nonneg (Int.natCast_nonneg top),← Int.natCast_ediv]
  have f12:Int.tmod (top:Int) v1=((top % v1:Nat):Int):=by rw [Int.tmod_eq_emod_of_nonneg (Int.natCast_nonneg top),← Int.natCast_emod]
  have hdm:=Nat.div_add_mod top v1
  have hml:top % v1<v1:=Nat.mod_lt _ (by omega)
  have hq0:val 4294967296 (x::r) / val 4294967296 dV*val 4294967296 dV≤val 4294967296 (x::r):=Nat.div_mul_le_self _ _
  have hVp:0<val 4294967296 dV:=hEst.V0
  have hq1:val 4294967296 (x::r)<(val 4294967296 (x::r) / val 4294967296 dV+1)*val 4294967296 dV:=by
   rw [Nat.mul_comm];exact Nat.lt_mul_div_succ _ hVp
  have hqB:val 4294967296 (x::r) / val 4294967296 dV<4294967296:=by rw [Nat.div_lt_iff_lt_mul hVp];exact hWV
  have hqf:=hEst.first hq0
  have hg0:top / v1≤4294967297:=by
   apply Nat.lt_succ_iff.1
   rw [Nat.div_lt_iff_lt_mul (by omega)]
   omega
  obtain⟨qt,hqt⟩:∃ qt,qt=val 4294967296 (x::r) / val 4294967296 dV:=⟨_,rfl⟩
  rw [← hqt] at hq0 hq1 hqB hqf
  obtain⟨g0,hg0'⟩:∃ g,g=top / v1:=⟨_,rfl⟩
  obtain⟨o0,ho0'⟩:∃ o,o=top % v1:=⟨_,rfl⟩
  rw [← hg0'] at f11 hdm hqf hg0
  rw [← ho0'] at f12 hdm hml
  have f13:=wu64 (n:=(g0:Int)) (by omega) (by omega)
  have hv10:¬ v1=0:=by omega
  have f14:IntKind.i64.wrap (((dO b).length:Int) - 1)=(((dO b).length - 1:Nat):Int):=e1
  refine AW.seqK fun K6 hK6=>?_
  refine AW.drawQ mixed (by kernel_rfl) rfl rfl ?_
  simp [f14,gv1,f7,f11,f12,f13,hv10]
  apply hK6
  have close:∀ (fr:Nat→AV) (κ:Nat),fr 4=.c (.lsl 1 0 m 1)→fr 6=.c (.d (.int .i64 (dO b).length))→fr 9=.c (.d (.int .i64 s))→fr 10=nK .u32 (some dV)→fr 11=.c (.lsl 0 0 ((dO a).length+1) 1)→fr 12=.c (.d (.int .i64 j)) →
   K5 ⟨fr,upd (upd (fun _=>.hole) 0 (.cells true false 138 (wK .u32 (lo'++(digL 4294967296 (dO b).length (val 4294967296 (x::r) % val 4294967296 dV)++List.replicate (m - j) 0))))) 1 (.cells true false 138 (wK .u32 (List.replicate j 0++(qt::qs))))⟩ κ:=by
   intro fr κ q4 q6 q9 q10 q11 q12
   apply hK5
   have g1:=w64 (n:=(j:Int) - 1) (by omega) (by omega)
   refine AW.rP ?_
   simp [q12,g1]
   have hml2:val 4294967296 (x::r) % val 4294967296 dV<val 4294967296 dV:=Nat.mod_lt _ hVp
   have hVn:val 4294967296 dV<4294967296 ^ (dO b).length:=by rw [vV];exact hV1
   refine⟨j,lo',digL 4294967296 (dO b).length (val 4294967296 (x::r) % val 4294967296 dV),qt::qs,Le.mk' _ (by simp) (by simp) (by simp [q4,q6,q9,q10,q11]),⟨by omega,hlo,digL_len _ _ _,oklo,digL_ok (by decide) _ _,by simp only [List.length_cons];omega,ok_cons.2 ⟨hqB,i7⟩,?_,?_⟩,by omega⟩
   ·simp only [digL_val];rw [Nat.mod_eq_of_lt (Nat.lt_trans hml2 hVn)];omega
   ·simp only [digL_val]
    rw [val_cons 4294967296 qt qs,Nat.mod_eq_of_lt (Nat.lt_trans hml2 hVn),← i9,val_append,hlo,Nat.pow_succ]
    have hdm2:=Nat.mod_add_div (val 4294967296 (x::r)) (val 4294967296 dV)
    rw [← hqt] at hdm2
    have h1:val 4294967296 (x::r) % val 4294967296 dV+val 4294967296 dV*(qt+4294967296*val 4294967296 qs)=x+4294967296*(val 4294967296 r+val 4294967296 dV*val 4294967296 qs):=by
     rw [Nat.mul_add,← Nat.add_assoc,hdm2,hWv,Nat.mul_add,Nat.mul_left_comm,Nat.add_assoc]
    rw [h1,val_cons,val_nil,Nat.mul_zero,Nat.add_zero,Nat.mul_add,Nat.mul_assoc,Nat.add_assoc]
  refine AW.seqK fun K6 hK6=>AW.block ?_
  have fin:∀ (g:Nat) (fr:Nat→AV) (κ:Nat),g<4294967296→qt≤g→g≤qt+1→fr 4=.c (.lsl 1 0 m 1)→fr 6=.c (.d (.int .i64 (dO b).length))→fr 9=.c (.d (.int .i64 s))→fr 10=nK .u32 (some dV)→fr 11=.c (.lsl 0 0 ((dO a).length+1) 1)→fr 12=.c (.d (.int .i64 j))→fr 14=.c (.d (.int .u64 g)) →
   K6 ⟨fr,upd (upd (fun _=>.hole) 0 (.cells true false 138 (wK .u32 BL))) 1 (.cells true false 138 (wK .u32 (List.replicate (j+1) 0++qs)))⟩ κ:=by
   intro g fr κ hg1 hg2 hg3 q4 q6 q9 q10 q11 q12 q14
   apply hK6
   refine AW.at0 2 ?_
   have hVn:val 4294967296 dV<4294967296 ^ (dO b).length:=by rw [vV];exact hV1
   have hmlt:val 4294967296 (x::r) % val 4294967296 dV<4294967296 ^ (dO b).length:=Nat.lt_trans (Nat.mod_lt _ hVp) hVn
   have hsn:digL 4294967296 ((dO b).length+1) (val 4294967296 (x::r) % val 4294967296 dV)=digL 4294967296 (dO b).length (val 4294967296 (x::r) % val 4294967296 dV)++[0]:=digL_snoc0 hmlt
   have hmj1:m - j=(m - (j+1))+1:=by rw [Nat.sub_succ];exact (Nat.succ_pred_eq_of_pos (Nat.sub_pos_of_lt i1)).symm
   have hmj:List.replicate (m - j) (0:Nat)=0::List.replicate (m - (j+1)) 0:=by
    rw [hmj1];exact List.replicate_succ
   have hmodq:val 4294967296 (x::r) % val 4294967296 dV=val 4294967296 (x::r) - qt*val 4294967296 dV:=by
    rw [hqt,Nat.mul_comm];exact Nat.mod_def _ _
   have hLq:List.replicate (j+1) (0:Nat)++qs=List.replicate j 0++(0::qs):=by
    rw [List.replicate_succ',List.append_assoc];rfl
   refine AW.seqK fun K7 hK7=>AW.f1 q14 ?_
   by_cases hgz:g=0
   ·refine AW.fy (by simp [hgz] <;> omega) (AW.exit ?_)
    simp
    have hqz:qt=0:=by omega
    have e9:digL 4294967296 ((dO b).length+1) (val 4294967296 (x::r))=x::r:=by rw [← hwl];exact digL_id okw
    have e8:val 4294967296 (x::r) % val 4294967296 dV=val 4294967296 (x::r):=by rw [hmodq,hqz];simp
    have e6:digL 4294967296 (dO b).length (val 4294967296 (x::r) % val 4294967296 dV)++[0]=x::r:=by rw [← hsn,e8,e9]
    have e5:∀ (A B:List Nat),A++(0::B)=(A++[0])++B:=fun A B=>by simp
    have e7:lo'++(digL 4294967296 (dO b).length (val 4294967296 (x::r) % val 4294967296 dV)++List.replicate (m - j) 0)=BL:=by
     rw [hmj,e5,e6,← hBL',List.append_assoc]
    have hcl:∀ (fr':Nat→AV) (κ':Nat),fr' 4=.c (.lsl 1 0 m 1)→fr' 6=.c (.d (.int .i64 (dO b).length))→fr' 9=.c (.d (.int .i64 s))→fr' 10=nK .u32 (some dV)→fr' 11=.c (.lsl 0 0 ((dO a).length+1) 1)→fr' 12=.c (.d (.int .i64 j)) →
     K5 ⟨fr',upd (upd (fun _=>.hole) 0 (.cells true false 138 (wK .u32 BL))) 1 (.cells true false 138 (wK .u32 (List.replicate (j+1) 0++qs)))⟩ κ':=by
     intro fr' κ' z1 z2 z3 z4 z5 z6
     have hcl:=close fr' κ' z1 z2 z3 z4 z5 z6
     rw [e7,hqz,← hLq] at hcl
     exact hcl
    exact hcl _ _ (by simp [q4]) (by simp [q6]) (by simp [q9]) (by simp [q10]) (by simp [q11]) (by simp [q12])
   ·refine AW.fn (by simp [hgz] <;> omega) (AW.skip (hK7 _ _ (AW.seqK fun K7 hK7=>AW.seqK fun K8 hK8=>?_)))
    have store:∀ (fr':Nat→AV) (κ':Nat),fr' 4=.c (.lsl 1 0 m 1)→fr' 6=.c (.d (.int .i64 (dO b).length))→fr' 9=.c (.d (.int .i64 s))→fr' 10=nK .u32 (some dV)→fr' 11=.c (.lsl 0 0 ((dO a).length+1) 1)→fr' 12=.c (.d (.int .i64 j))→fr' 14=.c (.d (.int .u64 qt)) →
     K7 ⟨fr',upd (upd (fun _=>.hole) 0 (.cells true false 138 (wK .u32 (lo'++(digL 4294967296 ((dO b).length+1) (val 4294967296 (x::r) % val 4294967296 dV)++List.replicate (m - (j+1)) 0))))) 1 (.cells true false 138 (wK .u32 (List.replicate (j+1) 0++qs)))⟩ κ':=by
     intro fr' κ' z1 z2 z3 z4 z5 z6 z7
     apply hK7
     have y1:IntKind.u32.wrap (qt:Int)=(qt:Int):=wu32 (by omega) (by omega)
     have y2:setSeg (wK .u32 (List.replicate (j+1) 0++qs)) j [CV.d (.int .u32 (qt:Int))]=wK .u32 (List.replicate j 0++(qt::qs)):=by
      rw [wK_set _ (by simp;omega),zeros_set]
     have y3:lo'++(digL 4294967296 (dO b).length (val 4294967296 (x::r) % val 4294967296 dV)++List.replicate (m - j) 0)=lo'++(digL 4294967296 ((dO b).length+1) (val 4294967296 (x::r) % val 4294967296 dV)++List.replicate (m - (j+1)) 0):=by
      rw [hmj,hsn];simp only [List.append_assoc,List.cons_append,List.nil_append]
     refine AW.rP ?_
     simp [z1,z6,z7,y1,y2,-val_cons,-List.append_assoc]
     refine⟨by omega,?_⟩
     have hcl:=close (κ:=κ'+1) (fr:=upd (upd (upd (upd (upd fr' 156 (.c (.lsl 1 0 m 1))) 157 (.c (.d (.int .i64 j)))) 158 (.c (.d (.int .u64 qt)))) 159 (.c (.d (.int .u32 qt)))) 160 (.c (.ptr 1 j))) (by simp [z1]) (by simp [z2]) (by simp [z3]) (by simp [z4]) (by simp [z5]) (by simp [z6])
     rw [y3] at hcl
     exact hcl
    have hwin:(x::r).length=(dO (some dV)).length+1:=by rw [hwl];simp [lV]
    have hT:=fun (G:List (List DV))=>exact_take_ok G lo' (x::r) (List.replicate (m - (j+1)) 0) ((dO a).length+1 - j) g (some dV) hwin (by rw [hwl];omega) okw hg1 (by rw [hBL',hBLl];omega)
    simp only [hBL',hlo,hwl,dO_some] at hT
    have hWB:val 4294967296 (x::r)<4294967296 ^ ((dO b).length+1):=by
     have:=val_lt okw;rwa [hwl] at this
    by_cases too:val 4294967296 (x::r)<g*val 4294967296 dV
    ·have hb1:takeB (val 4294967296 (x::r)) (g*val 4294967296 dV)=1:=by unfold takeB;rw [if_pos too]
     have hgq:g=qt+1:=by
      rcases Nat.lt_or_ge qt g with hc|hc
      ·omega
      ·exact absurd too (Nat.not_lt.2 (Nat.le_trans (Nat.mul_le_mul_right _ hc) hq0))
     simp only [hb1,Nat.mul_one,eq_self,decide_true] at hT
     obtain⟨R,hR⟩:∃ R,R=digL 4294967296 ((dO b).length+1) (val 4294967296 (x::r)+4294967296 ^ ((dO b).length+1) - g*val 4294967296 dV):=⟨_,rfl⟩
     simp only [← hR] at hT
     have hRl:R.length=(dO b).length+1:=by rw [hR,digL_len]
     have hRo:ok 4294967296 R:=by rw [hR];exact digL_ok (by decide) _ _
     have hgV:g*val 4294967296 dV=qt*val 4294967296 dV+val 4294967296 dV:=by rw [hgq,Nat.add_mul,Nat.one_mul]
     have hRv:val 4294967296 R+val 4294967296 dV=4294967296 ^ ((dO b).length+1)+val 4294967296 (x::r) % val 4294967296 dV:=by
      rw [hR,digL_val,hmodq]
      have hVE:val 4294967296 dV≤4294967296 ^ ((dO b).length+1):=by
       rw [Nat.pow_succ];exact Nat.le_trans (Nat.le_of_lt hVn) (Nat.le_mul_of_pos_right _ (by decide))
      have key:∀ (W E gv qv V:Nat),W<gv→gv=qv+V→qv≤W→V≤E→W+E - gv<E∧(W+E - gv)+V=E+(W - qv):=by intros;omega
      obtain⟨k1,k2⟩:=key _ _ _ _ _ too hgV hq0 hVE
      rw [Nat.mod_eq_of_lt k1]
      exact k2
     have hRd:digL 4294967296 ((dO b).length+1) (val 4294967296 R+val 4294967296 dV)=digL 4294967296 ((dO b).length+1) (val 4294967296 (x::r) % val 4294967296 dV):=by
      rw [hRv,digL_addp (by decide)]
     have hwin':R.length=(dO (some dV)).length+1:=by rw [hRl];simp [lV]
     have hll:(lo'++R++List.replicate (m - (j+1)) 0).length≤1000000000000:=by
      simp only [List.length_append,List.length_replicate,hlo,hRl];omega
     have hGv:=fun (G:List (List DV))=>exact_give_ok G lo' R (List.replicate (m - (j+1)) 0) ((dO a).length+1 - j) (some dV) hwin' (by rw [hRl];omega) hRo hll
     simp only [hlo,hRl,dO_some,hRd,List.append_assoc] at hGv
     simp only [List.append_assoc] at hT
     refine AW.rP ?_
     simp [q11,q12,q10,q14,-val_cons]
     refine⟨by omega,?_⟩
     refine CallP.pass1 3 9 0 (by simp;rfl) (wK_pure _ _) (wK_pure _ _) (hT _) rfl rfl (by
      intro i h h'
      match i,h with
      | 0,_=>exact .inr (.inl ⟨_,_,_,rfl,rfl⟩)
      | 1,_=>exact .inl ⟨by simp,rfl⟩
      | 2,_=>exact .inl ⟨rfl,rfl⟩) (by simp) (by decide) ?_
     simp [-val_cons,updSwap]
     apply hK8
     refine AW.cy (AW.seqK fun K8 hK8=>?_)
     have y5:IntKind.u64.wrap ((g:Int) - 1)=(qt:Int):=by rw [wu64 (by omega) (by omega)];omega
     refine AW.rP ?_
     simp [q14,y5,-val_cons]
     apply hK8
     refine AW.rP ?_
     simp [q11,q12,q10,-val_cons]
     refine⟨by omega,?_⟩
     refine CallP.pass1 4 9 0 (own:=true) (T:=138) (cs:=wK .u32 (lo'++(R++List.replicate (m - (j+1)) 0))) (by simp) (wK_pure _ _) (wK_pure _ _) (hGv _) rfl rfl (by
      intro i h h'
      match i,h with
      | 0,_=>exact .inr (.inl ⟨_,_,_,rfl,rfl⟩)
      | 1,_=>exact .inl ⟨by simp,rfl⟩) (by simp) (by decide) ?_
     simp [-val_cons,updSwap]
     exact store _ _ (by simp [q4]) (by simp [q6]) (by simp [q9]) (by simp [q10]) (by simp [q11]) (by simp [q12]) (by simp)
    ·have hb1:takeB (val 4294967296 (x::r)) (g*val 4294967296 dV)=0:=by unfold takeB;rw [if_neg too]
     have hgq:g=qt:=by
      rcases Nat.lt_or_ge qt g with hc|hc
      ·have:(qt+1)*val 4294967296 dV≤g*val 4294967296 dV:=Nat.mul_le_mul_right _ hc
       omega
      ·omega
     have hWm:val 4294967296 (x::r)+4294967296 ^ ((dO b).length+1)*0 - g*val 4294967296 dV=val 4294967296 (x::r) % val 4294967296 dV:=by
      rw [hmodq,hgq,Nat.mul_zero,Nat.add_zero]
     simp only [hb1,hWm,Nat.zero_ne_one,decide_false,List.append_assoc] at hT
     refine AW.rP ?_
     simp [q11,q12,q10,q14,-val_cons]
     refine⟨by omega,?_⟩
     refine CallP.pass1 3 9 0 (by simp;rfl) (wK_pure _ _) (wK_pure _ _) (hT _) rfl rfl (by
      intro i h h'
      match i,h with
      | 0,_=>exact .inr (.inl ⟨_,_,_,rfl,rfl⟩)
      | 1,_=>exact .inl ⟨by simp,rfl⟩
      | 2,_=>exact .inl ⟨rfl,rfl⟩) (by simp) (by decide) ?_
     simp [-val_cons,updSwap]
     apply hK8
     refine AW.cn (AW.skip ?_)
     simp [-val_cons]
     exact store _ _ (by simp [q4]) (by simp [q6]) (by simp [q9]) (by simp [q10]) (by simp [q11]) (by simp [q12]) (by simp [q14,hgq])
  refine AW.loopV (fun (p:Nat × Nat)=>⟨frOf [(4,.c (.lsl 1 0 m 1)),(6,.c (.d (.int .i64 (dO b).length))),(9,.c (.d (.int .i64 s))),(10,nK .u32 (some dV)),(11,.c (.lsl 0 0 ((dO a).length+1) 1)),(12,.c (.d (.int .i64 j))),(14,.c (.d (.int .u64 p.1))),(15,.c (.d (.int .u64 p.2)))],
   upd (upd (fun _=>.hole) 0 (.cells true false 138 (wK .u32 BL))) 1 (.cells true false 138 (wK .u32 (List.replicate (j+1) 0++qs)))⟩) 2
   (fun p=>p.1*v1+p.2=top∧qt≤p.1∧p.1≤4294967297∧p.2<4294967296) (fun p=>p.1) (g0,o0) (Le.mk' _ rfl (by simp) (by simp)) ⟨by rw [Nat.mul_comm];exact hdm,hqf,hg0,by omega⟩ ?_
  rintro⟨g,o⟩ ⟨w1,w2,w3,w4⟩
  simp only at w1 w2 w3 w4
  refine AW.seqK fun K7 hK7=>AW.seqK fun K8 hK8=>?_
  have dec:∀ (fr:Nat→AV) (κ:Nat),qt<g→fr 4=.c (.lsl 1 0 m 1)→fr 6=.c (.d (.int .i64 (dO b).length))→fr 9=.c (.d (.int .i64 s))→fr 10=nK .u32 (some dV)→fr 11=.c (.lsl 0 0 ((dO a).length+1) 1)→fr 12=.c (.d (.int .i64 j))→fr 14=.c (.d (.int .u64 g))→fr 15=.c (.d (.int .u64 o)) →
   K7 ⟨fr,upd (upd (fun _=>.hole) 0 (.cells true false 138 (wK .u32 BL))) 1 (.cells true false 138 (wK .u32 (List.replicate (j+1) 0++qs)))⟩ κ:=by
   intro fr κ hg q4 q6 q9 q10 q11 q12 q14 q15
   apply hK7
   refine AW.at0 2 ?_
   refine AW.block ?_
   have g1:IntKind.u64.wrap ((g:Int) - 1)=((g - 1:Nat):Int):=by rw [wu64 (by omega) (by omega)];omega
   have g2:IntKind.u64.wrap ((o:Int)+v1)=((o+v1:Nat):Int):=by rw [wu64 (by omega) (by omega)];omega
   refine AW.f2 q14 g1 ?_
   refine AW.sr fun K9 hK9=>?_
   simp [q15,q10,q6,f14,gv1,f7,g2,-Int.natCast_add]
   apply hK9
   refine AW.seqK fun K9 hK9=>?_
   have w1':(g - 1)*v1+(o+v1)=top:=by
    rw [← w1];obtain⟨g',rfl⟩:∃ g',g=g'+1:=⟨g - 1,by omega⟩
    rw [Nat.add_sub_cancel,Nat.add_mul,Nat.one_mul];omega
   by_cases ho:o+v1<4294967296
   ·have g3:Int.fdiv ((o+v1:Nat):Int) 4294967296=0:=by rw [Int.fdiv_eq_ediv_of_nonneg _ (by omega)];omega
    refine AW.rP ?_
    simp [IntKind.bits,g3,-Int.natCast_add]
    apply hK9
    refine AW.cn (AW.skip ?_)
    simp
    refine⟨g - 1,o+v1,Le.mk' _ rfl (by simp) (by simp [q4,q6,q9,q10,q11,q12]),⟨w1',by omega,by omega,ho⟩,by omega⟩
   ·have g3:Int.fdiv ((o+v1:Nat):Int) 4294967296=1:=by rw [Int.fdiv_eq_ediv_of_nonneg _ (by omega)];omega
    refine AW.rP ?_
    simp [IntKind.bits,g3,-Int.natCast_add]
    apply hK9
    refine AW.cy (AW.exit ?_)
    simp
    have hgB:g - 1<4294967296:=by
     apply Classical.byContradiction
     intro hc
     have:4294967296*v1≤(g - 1)*v1:=Nat.mul_le_mul_right _ (by omega)
     rw [Nat.mul_add] at htop
     omega
    have hnear:=hEst.near hq1 w1' hgB (by
     have h1:(g - 1)*v2≤4294967296*4294967296:=Nat.mul_le_mul (by omega) (by omega)
     omega)
    exact fin (g - 1) _ _ hgB (by omega) hnear (by simp [q4]) (by simp [q6]) (by simp [q9]) (by simp [q10]) (by simp [q11]) (by simp [q12]) (by simp)
  by_cases hgB:4294967296≤g
  ·have g1:Int.fdiv (g:Int) 4294967296=1:=by rw [Int.fdiv_eq_ediv_of_nonneg _ (by omega)];omega
   refine AW.drawQ mixed (by kernel_rfl) rfl rfl ?_
   simp [IntKind.bits,g1]
   apply hK8
   refine AW.cy (AW.skip ?_)
   simp
   exact dec _ _ (by omega) (by simp) (by simp) (by simp) (by simp) (by simp) (by simp) (by simp) (by simp)
  ·have g1:Int.fdiv (g:Int) 4294967296=0:=by rw [Int.fdiv_eq_ediv_of_nonneg _ (by omega)];omega
   have hgv:g*v2≤4294967295*4294967295:=Nat.mul_le_mul (by omega) (by omega)
   have g2:IntKind.u64.wrap ((g:Int)*v2)=((g*v2:Nat):Int):=by
    rw [← Int.natCast_mul];generalize g*v2=p at hgv;exact wu64 (by omega) (by omega)
   have g3:IntKind.u64.wrap ((o:Int)*4294967296)=((o*4294967296:Nat):Int):=by rw [wu64 (by omega) (by omega)];omega
   have g4:=or_add64 w4 ha2l
   have g5:IntKind.i64.wrap (((dO b).length:Int) - 2)=(((dO b).length - 2:Nat):Int):=by rw [w64 (by omega) (by omega)];omega
   have hgo:∀ {P Q:Nat},((P:Nat):Int)<((Q:Nat):Int)↔P<Q:=by intro P Q;omega
   refine AW.drawQ mixed (by kernel_rfl) rfl rfl ?_
   simp [IntKind.bits,g1,g5,gv2,f8,g2,g3,f1,f3,l2,f6,g4,-Int.natCast_add,-Int.natCast_mul]
   repeat refine and_o ?_
   apply hK8
   by_cases ht:o*4294967296+a2<g*v2
   ·refine AW.fy (by simp [ht] <;> omega) (AW.skip ?_)
    simp
    exact dec _ _ (hEst.over hq0 w1 ht) (by simp) (by simp) (by simp) (by simp) (by simp) (by simp) (by simp) (by simp)
   ·refine AW.fn (by simp [ht] <;> omega) (AW.exit ?_)
    simp
    exact fin g _ _ (by omega) w2 (hEst.near hq1 w1 (by omega) (by omega)) (by simp) (by simp) (by simp) (by simp) (by simp) (by simp) (by simp)
def divQ (a b:Option (List Nat)):Option (List Nat):=if val 4294967296 (dO a)<val 4294967296 (dO b) then none else some (dig 4294967296 (val 4294967296 (dO a) / val 4294967296 (dO b)))
def divR (a b:Option (List Nat)):Option (List Nat):=
 if val 4294967296 (dO a)<val 4294967296 (dO b) then a
 else if (dO b).length=1 then some (dig 4294967296 (val 4294967296 (dO a) % val 4294967296 (dO b)))
 else if val 4294967296 (dO a) % val 4294967296 (dO b)=0 then none else some (dig 4294967296 (val 4294967296 (dO a) % val 4294967296 (dO b)))
theorem divQ_d {a b:Option (List Nat)}:dO (divQ a b)=dig 4294967296 (val 4294967296 (dO a) / val 4294967296 (dO b)):=by
 unfold divQ
 split
 ·rename_i h;rw [Nat.div_eq_of_lt h];rfl
 ·rfl
theorem divR_d {a b:Option (List Nat)}(ha:can 4294967296 (dO a)):dO (divR a b)=dig 4294967296 (val 4294967296 (dO a) % val 4294967296 (dO b)):=by
 unfold divR
 split
 ·rename_i h;rw [Nat.mod_eq_of_lt h];exact dig_of (by decide) ha rfl
 ·split
  ·rfl
  ·split
   ·simp_all
   ·rfl
theorem exact_div_ok (G:List (List DV))(a b:Option (List Nat))(ha:can 4294967296 (dO a))(hb:can 4294967296 (dO b))(h0:dO b≠[])(hl:(dO a).length<1000000000000) :
 CallsP Tryz.prog G 82 [nK .u32 a,nK .u32 b] (.tup [nK .u32 (divQ a b),nK .u32 (divR a b)]):=by
 by_cases h:val 4294967296 (dO a)<val 4294967296 (dO b)
 ·have:=div_easy1 G a b ha hb h
  simpa only [divQ,divR,if_pos h] using this
 ·by_cases hn:(dO b).length=1
  ·have:=div_easy2 G a b ha hb (Nat.le_of_not_lt h) hn (Nat.le_of_lt hl)
   simpa only [divQ,divR,if_neg h,if_pos hn] using this
  ·have h1:0<(dO b).length:=List.length_pos_iff.2 h0
   have:=div_hard a b ha hb (Nat.le_of_not_lt h) (by omega) hl G
   simp only [divQ,divR,if_neg h,if_neg hn]
   grind
def gcdO (a b:Option (List Nat)):Nat→Option (List Nat)
 | 0=>a
 | n+1=>if dO b=[] then a else gcdO b (divR a b) n
theorem gcdO_end {a b:Option (List Nat)}(h:dO b=[]) (n:Nat):gcdO a b n=a:=by
 cases n <;> simp [gcdO,h]
theorem tup2_pure (o o':Option (List Nat)):(AV.tup [nK .u32 o,nK .u32 o']).pure=true:=by
 cases o <;> cases o' <;> rfl
theorem dig_len_mono {B m n:Nat}(hB:2≤B) (h:m≤n):(dig B m).length≤(dig B n).length:=
 dig_len_le hB (Nat.lt_of_le_of_lt h (dig_lt hB))
theorem gcdO_fuel:∀ (n:Nat) (a b:Option (List Nat)),can 4294967296 (dO a)→can 4294967296 (dO b)→val 4294967296 (dO b)≤n→gcdO a b n=gcdO a b (val 4294967296 (dO b))∧dO (gcdO a b n)=dig 4294967296 (Nat.gcd (val 4294967296 (dO a)) (val 4294967296 (dO b)))
 | 0,a,b,ha,hb,h=>by
  have h0:val 4294967296 (dO b)=0:=by omega
  rw [h0]
  exact⟨rfl,by rw [Nat.gcd_zero_right];exact dig_of (by decide) ha rfl⟩
 | n+1,a,b,ha,hb,h=>by
  by_cases he:dO b=[]
  ·rw [gcdO_end he,gcdO_end he]
   refine⟨rfl,?_⟩
   rw [he];simp only [val_nil,Nat.gcd_zero_right];exact dig_of (by decide) ha rfl
  ·have hv0:0<val 4294967296 (dO b):=can_pos hb he
   have hR:=divR_d (b:=b) ha
   have hRc:can 4294967296 (dO (divR a b)):=by rw [hR];exact dig_can (by decide) _
   have hlt:val 4294967296 (dO (divR a b))<val 4294967296 (dO b):=by rw [hR,dig_val (by decide)];exact Nat.mod_lt _ hv0
   obtain⟨k,hk⟩:∃ k,val 4294967296 (dO b)=k+1:=⟨val 4294967296 (dO b) - 1,by omega⟩
   have r1:=gcdO_fuel n b (divR a b) hb hRc (by omega)
   have r2:=gcdO_fuel k b (divR a b) hb hRc (by omega)
   have e1:gcdO a b (n+1)=gcdO b (divR a b) n:=by simp only [gcdO,if_neg he]
   have e2:gcdO a b (val 4294967296 (dO b))=gcdO b (divR a b) k:=by rw [hk];simp only [gcdO,if_neg he]
   refine⟨by grind,?_⟩
   rw [e1,r1.2,hR,dig_val (by decide),Nat.gcd_comm (val 4294967296 (dO b)),← Nat.gcd_rec,Nat.gcd_comm]
 termination_by n a b=>val 4294967296 (dO b)
theorem gcdO_step {a b:Option (List Nat)}(ha:can 4294967296 (dO a)) (hb:can 4294967296 (dO b)) (he:dO b≠[]):gcdO b (divR a b) (val 4294967296 (dO (divR a b)))=gcdO a b (val 4294967296 (dO b)):=by
 have hv0:0<val 4294967296 (dO b):=can_pos hb he
 have hR:=divR_d (b:=b) ha
 have hRc:can 4294967296 (dO (divR a b)):=by rw [hR];exact dig_can (by decide) _
 have hlt:val 4294967296 (dO (divR a b))<val 4294967296 (dO b):=by rw [hR,dig_val (by decide)];exact Nat.mod_lt _ hv0
 obtain⟨k,hk⟩:∃ k,val 4294967296 (dO b)=k+1:=⟨val 4294967296 (dO b) - 1,by omega⟩
 have e2:gcdO a b (val 4294967296 (dO b))=gcdO b (divR a b) k:=by rw [hk];simp only [gcdO,if_neg he]
 rw [e2,(gcdO_fuel k b (divR a b) hb hRc (by omega)).1]
theorem gcdO_d {a b:Option (List Nat)}(ha:can 4294967296 (dO a)) (hb:can 4294967296 (dO b)):dO (gcdO a b (val 4294967296 (dO b)))=dig 4294967296 (Nat.gcd (val 4294967296 (dO a)) (val 4294967296 (dO b))):=
 (gcdO_fuel _ a b ha hb (Nat.le_refl _)).2
theorem exact_gcd_ok (G:List (List DV))(a b:Option (List Nat))(ha:can 4294967296 (dO a))(hb:can 4294967296 (dO b))(hl:(dO a).length<1000000000000)(hl':(dO b).length<1000000000000) :
 CallsP Tryz.prog G 80 [nK .u32 a,nK .u32 b] (nK .u32 (gcdO a b (val 4294967296 (dO b)))):=by
 refine CallsP.en Go.Proofs.Tryz.func80 rfl fun _=>AW.q ?_
 refine AW.seqK fun K hK=>AW.block ?_
 refine AW.loopV (fun (p:Option (List Nat) × Option (List Nat))=>⟨frOf [(0,nK .u32 p.1),(1,nK .u32 p.2)],fun _=>.hole⟩) 0
  (fun p=>can 4294967296 (dO p.1)∧can 4294967296 (dO p.2)∧(dO p.1).length<1000000000000∧(dO p.2).length<1000000000000∧gcdO p.1 p.2 (val 4294967296 (dO p.2))=gcdO a b (val 4294967296 (dO b)))
  (fun p=>val 4294967296 (dO p.2)) (a,b) (Le.mk' _ rfl (by simp) (by simp)) ⟨ha,hb,hl,hl',rfl⟩ ?_
 rintro⟨x,y⟩ ⟨i1,i2,i3,i4,i5⟩
 simp only at i1 i2 i3 i4 i5
 refine AW.seqK fun K3 hK3=>AW.q ?_
 by_cases hy:dO y=[]
 ·have hy':¬ (0:Int)<((dO y).length:Int):=by rw [hy];simp
  refine AW.fn (by simp <;> omega) (AW.exit (hK _ _ ?_))
  rw [gcdO_end hy] at i5
  refine AW.q ?_
  exact AW.r0 (FinP.rt rfl 4 (by simp [i5]))
 ·have hy1:0<(dO y).length:=List.length_pos_iff.2 hy
  have hy':(0:Int)<((dO y).length:Int):=by omega
  refine AW.fy (by simp <;> omega) (AW.skip (hK3 _ _ (AW.block (AW.sr fun K5 hK5=>?_))))
  simp
  refine CallDo.pure 0 0 (exact_div_ok _ _ _ i1 i2 hy i3) (tup2_pure _ _) (by simp) rfl ?_
  simp
  apply hK5
  refine AW.rP ?_
  simp
  have hv0:0<val 4294967296 (dO y):=can_pos i2 hy
  have hR:=divR_d (b:=y) i1
  have hlt:val 4294967296 (dO (divR x y))<val 4294967296 (dO y):=by rw [hR,dig_val (by decide)];exact Nat.mod_lt _ hv0
  refine⟨y,divR x y,Le.mk' _ rfl (by simp) (by simp),⟨i2,by rw [hR];exact dig_can (by decide) _,i4,?_,?_⟩,hlt⟩
  ·rw [hR]
   refine Nat.lt_of_le_of_lt (dig_len_mono (by decide) (Nat.le_of_lt (Nat.mod_lt _ hv0))) ?_
   rw [← dig_of (by decide) i2 rfl];exact i4
  ·rw [gcdO_step i1 i2 hy];exact i5
noncomputable def rdBody:Code:=match Tryz.f77.body with|some (.seq _ (.seq _ (.seq (.seq _ (.block _ (.rangeFunc _ _ _ b))) _)))=>b|_=>.skip
noncomputable def rdAsg:Code:=match Tryz.f77.body with|some (.seq _ (.seq _ (.seq (.seq _ (.block _ (.rangeFunc _ _ b _))) _)))=>b|_=>.skip
def LVr (u:List UInt8)(d:DV):Key→LB:=upd (upd (fun _=>.hole) 0 (.cells false false 9 [.d (.str u)])) 1 (.cells false false 25 [.d d])
theorem LVr_ok (u:List UInt8)(d:DV):∀ k,LVr u d k=.hole∨∃ T cs,LVr u d k=.cells false false T cs:=by
 intro k
 unfold LVr upd
 grind
theorem LVr_put (u:List UInt8)(d d':DV):upd (LVr u d) 1 (.cells false false 25 [.d d'])=LVr u d':=by
 funext k
 unfold LVr upd
 grind
theorem read_body (G:List (List DV))(v sz:Nat)(hv:v<4294967296)(hz:sz<4294967296)(o:Option (List Nat))(dv:DV)(hdv:(.c (.d dv):AV)=nK .u32 o)(hl:(dO o).length≤100000000000)(L:Nat)(hL:L≤100000000000)(hval:val 4294967296 (dO o)<4294967296 ^ L)(u:List UInt8)(r:Option Nat)(fr:Nat→AV)
 (f3:fr 3=.c (.ptr 1 0)) (f4:fr 4=.c (.d (.int .u32 v))) (f5:fr 5=.c (.d (.int .u32 sz))) :
 ∀ c:Ctx,c.P=Tryz.prog→c.G=G→c.n=20→AW c r rdBody ⟨fr,LVr u dv⟩ 0 (fun x s _=>x=.normal∧s.lv=LVr u (.sl (dK .u32 (dig 4294967296 (val 4294967296 (dO o)*sz+v))))):=by
 rintro⟨_,Gc,w0,F0,W0,_,lv0,β0⟩ rfl hG rfl
 have hG:Gc=G:=hG
 subst hG
 have g1:LVr u dv 1=.cells false false 25 [.d dv]:=by simp [LVr]
 have g5:LVr u dv 5=.hole:=by simp [LVr,upd]
 have w1:IntKind.u64.wrap (sz:Int)=sz:=wu64 (by omega) (by omega)
 have w2:IntKind.u64.wrap (v:Int)=v:=wu64 (by omega) (by omega)
 have hp:(AV.c (.d dv)).pure=true:=by rw [hdv];cases o <;> rfl
 have b1:(dig 4294967296 sz).length≤1:=dig_len_le (by decide) (by omega)
 have b2:(dig 4294967296 v).length≤1:=dig_len_le (by decide) (by omega)
 have b3:(dig 4294967296 (val 4294967296 (dO o)*sz)).length≤L+1:=dig_len_le (by decide) (by
  rw [Nat.pow_succ]
  exact Nat.lt_of_le_of_lt (Nat.mul_le_mul_left _ (Nat.le_of_lt hz)) (Nat.mul_lt_mul_of_pos_right hval (by decide)))
 have m1:CallsP Tryz.prog Gc 36 [.c (.d dv),nK .u32 (some (dig 4294967296 sz))] (nK .u32 (some (dig 4294967296 (val 4294967296 (dO o)*sz)))):=by
  have:=exact_mul_ok Gc o (some (dig 4294967296 sz)) (by omega) (by simp;omega)
  rw [← hdv] at this
  simpa [dig_val] using this
 have m2:CallsP Tryz.prog Gc 39 [nK .u32 (some (dig 4294967296 (val 4294967296 (dO o)*sz))),nK .u32 (some (dig 4294967296 v))] (nK .u32 (some (dig 4294967296 (val 4294967296 (dO o)*sz+v)))):=by
  have:=exact_add_ok Gc (some (dig 4294967296 (val 4294967296 (dO o)*sz))) (some (dig 4294967296 v)) (by simp;omega) (by simp;omega)
  simpa [dig_val] using this
 refine AW.block ?_
 refine AW.drawP mixed (by kernel_rfl) rfl ?_
 simp [f3,f5,g1,w1]
 refine CallDo.pure 0 5 (exact_of_ok _ sz (by omega)) (by simp) (by simp) g5 ?_
 simp
 refine CallDo.pure 0 5 m1 (by simp) (by simp [hp]) g5 ?_
 simp [f4,w2]
 refine CallDo.pure 0 5 (exact_of_ok _ v (by omega)) (by simp) (by simp) g5 ?_
 simp
 refine CallDo.pure 0 5 m2 (by simp) (by simp) g5 ?_
 generalize dig 4294967296 (val 4294967296 (dO o)*sz+v)=ds at *
 have e1:nK .u32 (some ds)=.c (.d (.sl (dK .u32 ds))):=rfl
 simp [f3,g1,e1,setSeg]
 refine⟨by kernel_rfl,?_⟩
 exact LVr_put u dv (.sl (dK .u32 ds))
end Go.Am
namespace Go.Proofs
open Go.Shelf
def Tryz.lays217_ren:Go.Shelf.Ren:=⟨fun|217=>208|266=>231|n=>n,fun|9=>9|5=>5|3=>3|n=>n,fun|n=>n⟩
theorem Tryz.lays217:Go.Proofs.Lays.n217 Tryz.prog Tryz.lays217_ren:={
 mixed:=by kernel_rfl
 f217:=Tryz.func208.trans (congrArg some (by kernel_rfl))
 f266:=Tryz.func231.trans (congrArg some (by kernel_rfl))
 t3:=Tryz.underlying3
 a3:=Tryz.isAgg3
 z3:=Tryz.sizeOf3
 v3:=Tryz.zeroValue3
 t5:=Tryz.underlying5
 a5:=Tryz.isAgg5
 z5:=Tryz.sizeOf5
 v5:=Tryz.zeroValue5
 t9:=Tryz.underlying9
 a9:=Tryz.isAgg9
 z9:=Tryz.sizeOf9
 v9:=Tryz.zeroValue9 }
def Tryz.lays219_ren:Go.Shelf.Ren:=⟨fun|219=>169|217=>208|225=>209|224=>210|267=>211|266=>231|314=>232|n=>n,fun|9=>9|3=>3|4=>4|5=>5|46=>139|146=>239|51=>138|n=>n,fun|1=>1|n=>n⟩
theorem Tryz.lays219:Go.Proofs.Lays.n219 Tryz.prog Tryz.lays219_ren:={
 mixed:=by kernel_rfl
 f217:=Tryz.func208.trans (congrArg some (by kernel_rfl))
 f219:=Tryz.func169.trans (congrArg some (by kernel_rfl))
 f224:=Tryz.func210.trans (congrArg some (by kernel_rfl))
 f225:=Tryz.func209.trans (congrArg some (by kernel_rfl))
 f266:=Tryz.func231.trans (congrArg some (by kernel_rfl))
 f267:=Tryz.func211.trans (congrArg some (by kernel_rfl))
 f314:=Tryz.func232.trans (congrArg some (by kernel_rfl))
 t3:=Tryz.underlying3
 a3:=Tryz.isAgg3
 z3:=Tryz.sizeOf3
 v3:=Tryz.zeroValue3
 t4:=Tryz.underlying4
 a4:=Tryz.isAgg4
 z4:=Tryz.sizeOf4
 v4:=Tryz.zeroValue4
 t5:=Tryz.underlying5
 a5:=Tryz.isAgg5
 z5:=Tryz.sizeOf5
 v5:=Tryz.zeroValue5
 t9:=Tryz.underlying9
 a9:=Tryz.isAgg9
 z9:=Tryz.sizeOf9
 v9:=Tryz.zeroValue9
 t46:=Tryz.underlying139
 a46:=Tryz.isAgg139
 z46:=Tryz.sizeOf139
 v46:=Tryz.zeroValue139
 t51:=Tryz.underlying138
 a51:=Tryz.isAgg138
 z51:=Tryz.sizeOf138
 v51:=Tryz.zeroValue138
 t146:=Tryz.underlying239
 a146:=Tryz.isAgg239
 z146:=Tryz.sizeOf239
 v146:=Tryz.zeroValue239
 g1:=by kernel_rfl }
open Go.RowKit Go.Lib in
theorem Tryz.stringslite_IndexByte (s:ByteArray)(c:Int)(w:World) :
 Calls Tryz.prog 208 #[.string s,.int .u8 c] w fun e w'=>e=.returned (.int .i64 (Lib.indexByte s.data.toList c.toNat.toUInt8))∧w'=w:=Any.stringslite_IndexByte Tryz.lays217 s c w
open Go.RowKit Go.Lib in
theorem Tryz.stringslite_Index (s sub:ByteArray)(m:Int)(w:World)(hs:s.size<4294967281)(hm:w.cell? ⟨1,0,none⟩=some (.int .i64 m)) :
 Calls Tryz.prog 169 #[.string s,.string sub] w fun e w'=>e=.returned (.int .i64 (Lib.index s.data.toList sub.data.toList))∧w'=w:=Any.stringslite_Index Tryz.lays219 s sub m w hs hm
end Go.Proofs
namespace Go.Am
open Go.Proofs Go.Lib
def bOK (T off len:Nat):Bool:=(Nat.beq T 151 && (Nat.beq off 0 && Nat.ble 2 len))
theorem bOK_iff {T off len:Nat}(h:bOK T off len=true):T=151∧off=0∧2≤len:=by
 simp only [bOK,Bool.and_eq_true] at h
 simp_all
theorem bSize:(Tryz.prog.info? 151).map (·.size)=some 2:=by kernel_rfl
theorem bCells:Tryz.prog.cellsOf 151=2:=by kernel_rfl
theorem bDepth:∃ d,Tryz.prog.depth=d+1:=⟨Tryz.prog.depth - 1,by kernel_rfl⟩
theorem bRow:rowAt Tryz.prog (sameLayout Tryz.prog Tryz.prog.depth · 151) Tryz.prog.depth 151 1 0 1=true:=by kernel_rfl
theorem rowAt_mono {p:Program}{fits:TypeId→Bool}{d:Nat}{e:TypeId}{c c' off n:Nat}(h:rowAt p fits d e c off n=true) (hc:c≤c'):rowAt p fits d e c' off n=true:=by
 cases d with
 | zero=>simp [rowAt] at h
 | succ d=>
  unfold rowAt at h ⊢
  simp only at h ⊢
  split at h
  ·cases h
  grind
theorem bLies {T off n:Nat}(h:bOK T off n=true):liesAt Tryz.prog Tryz.prog.depth T (n / Tryz.prog.cellsOf T) off 151 1=true:=by
 obtain⟨d,hd⟩:=bDepth
 have key:∀ T off c,rowAt Tryz.prog (sameLayout Tryz.prog Tryz.prog.depth · 151) Tryz.prog.depth T c off 1=true→liesAt Tryz.prog Tryz.prog.depth T c off 151 1=true:=by
  intro T off c h
  rw [hd] at h ⊢
  unfold liesAt
  rw [hd,h]
  simp
 obtain⟨rfl,rfl,h3⟩:=bOK_iff h
 rw [bCells];exact key _ _ _ (rowAt_mono bRow (by omega))
theorem cc_used (b off:Nat)(w:World)(h0:w.cell? ⟨b,off,none⟩=some (.pointer (some ⟨b,off,none⟩))) :
 Calls Tryz.prog 141 #[.pointer (some ⟨b,off,none⟩)] w fun e w'=>e=.returned (.tuple #[])∧w'=w:=by
 obtain⟨j,hj,_⟩:=Option.map_eq_some_iff.1 bSize
 go_enter Tryz.func141,Tryz.ntmps141
 go_wp2
 rw [Lib.run_neq_ptr_same w _ Tryz.underlying148 hj]
 go_wp2
 go_end0
 simp
theorem cc_fresh (b off n:Nat)(T:TypeId)(w:World)(h0:w.cell? ⟨b,off,none⟩=some (.pointer none))(hn:bOK T off n=true)(hsh:w.shape? b=some (T,n))(hfz:w.frozen? ⟨b,off,none⟩=false) :
 Calls Tryz.prog 141 #[.pointer (some ⟨b,off,none⟩)] w fun e w'=>e=.returned (.tuple #[])∧w'=w.setCell ⟨b,off,none⟩ (.pointer (some ⟨b,off,none⟩)):=by
 obtain⟨j,hj,hjs⟩:=Option.map_eq_some_iff.1 bSize
 have hlt:off<n:=by obtain⟨_,h1,h2⟩:=bOK_iff hn;omega
 go_enter Tryz.func141,Tryz.ntmps141
 go_wp2
 rw [Lib.run_to_unsafe w ⟨b,off,none⟩ Tryz.underlying148 Tryz.underlying243 hj (by omega) hsh hlt]
 simp only [Result.andThen]
 rw [Oper.upon_value]
 go_wp2
 rw [run_callFunc_extern Tryz.func186 (by kernel_rfl) (by kernel_rfl) (by kernel_rfl) (e:=Extern.AbiNoEscape.same) (by kernel_rfl)]
 rw [Lib.run_noEscape]
 simp only [Result.andThen]
 rw [Oper.upon_value]
 go_wp2
 rw [Lib.run_from_unsafe w ⟨b,off,none⟩ Tryz.underlying243 Tryz.underlying148 hj hsh (bLies hn)]
 simp only [Result.andThen]
 rw [Oper.upon_value]
 go_wp2
 go_end0
 simp
theorem CallG.of_same {P:Program}{G:List (List DV)}{f:FuncId}{us:List AV}{lv:Key→LB}{x:AV}(hx:x.flat=true)
 (h:∀ (F:Nat→Prop) (β:Key→Nat) (w:World) (vs:Array Value),Sits (CtxE P G w F β lv) F β lv w→vs.size=us.length→(∀ i (h:i<us.length) (h':i<vs.size),(Vw.mk F β lv w).av vs[i] us[i]) →
  ∃ v,(Vw.mk F β lv w).av v x∧Calls P f vs w fun e w'=>e=.returned v∧w'=w):CallG P G f us lv (.ret x lv):=by
 intro F β w vs hS hl hv
 obtain⟨v,h1,h2⟩:=h F β w vs hS hl hv
 refine h2.mono fun e w' he=>?_
 obtain⟨rfl,rfl⟩:=he
 exact⟨v,F,β,rfl,hS,h1⟩
theorem args1 {V:Vw}{vs:Array Value}{x:AV}(hl:vs.size=[x].length) (hv:∀ i (h:i < [x].length) (h':i<vs.size),V.av vs[i] [x][i]):∃ u,vs=#[u]∧V.av u x:=by
 have h1:vs.size=1:=hl
 refine⟨vs[0],?_,hv 0 (by simp) (by omega)⟩
 grind
theorem args2 {V:Vw}{vs:Array Value}{x y:AV}(hl:vs.size=[x,y].length) (hv:∀ i (h:i < [x,y].length) (h':i<vs.size),V.av vs[i] [x,y][i]):∃ u v,vs=#[u,v]∧V.av u x∧V.av v y:=by
 have h1:vs.size=2:=hl
 refine⟨vs[0],vs[1],?_,hv 0 (by simp) (by omega),hv 1 (by simp) (by omega)⟩
 grind
def prefB:List UInt8→List UInt8→Bool
 | [],_=>true
 | a::l,b::m=>Nat.beq a.toNat b.toNat && prefB l m
 | _::_,[]=>false
theorem byte_beq (a b:UInt8):Nat.beq a.toNat b.toNat=(a == b):=by
 rw [Bool.eq_iff_iff]
 constructor
 ·intro h
  have:=Nat.eq_of_beq_eq_true h
  simpa using UInt8.toNat_inj.1 this
 simp_all
theorem prefB_eq:∀ (l m:List UInt8),prefB l m=l.isPrefixOf m
 | [],m=>by rfl
 | a::l,b::m=>by simp only [prefB,List.isPrefixOf,byte_beq,prefB_eq l m]
 | a::l,[]=>by rfl
def idxK (t:List UInt8):List UInt8→Nat→Option Nat
 | [],i=>bif prefB t [] then some i else none
 | a::l,i=>bif prefB t (a::l) then some i else idxK t l (Nat.succ i)
def optI:Option Nat→Int
 | some i=>Int.ofNat i
 | none=>Int.negSucc 0
theorem idxK_eq (t:List UInt8):∀ (s:List UInt8) (i:Nat),optI (idxK t s i)=if Lib.index s t = -1 then -1 else Lib.index s t+i
 | [],i=>by
  simp only [idxK,prefB_eq,Lib.index]
  cases t with
  | nil=>simp [optI]
  | cons a t=>simp [optI]
 | a::l,i=>by
  have ih:=idxK_eq t l (Nat.succ i)
  have e:Lib.index (a::l) t=if t.isPrefixOf (a::l) then 0 else (if Lib.index l t == -1 then -1 else Lib.index l t+1):=by simp only [Lib.index]
  simp only [idxK,prefB_eq]
  cases hp:t.isPrefixOf (a::l) with
  | true=>
   have e2:Lib.index (a::l) t=0:=by rw [e,if_pos hp]
   rw [e2];simp [optI]
  | false=>
   have e2:Lib.index (a::l) t=if Lib.index l t == -1 then -1 else Lib.index l t+1:=by rw [e,if_neg (by simp [hp])]
   rw [e2]
   simp only [cond_false]
   rw [ih]
   by_cases h:Lib.index l t = -1
   ·simp [h]
   ·have hge:=index_ge l t
    grind
theorem idxK_index (s t:List UInt8):Lib.index s t=optI (idxK t s 0):=by
 rw [idxK_eq]
 simp
theorem index_one (s:List UInt8)(c:UInt8):Lib.indexByte s c=Lib.index s [c]:=by
 induction s with
 | nil=>rfl
 | cons a s ih=>
  simp only [Lib.indexByte,Lib.index,ih]
  grind
def gIndex:List AV→Option AV
 | [.c (.d (.str s)),.c (.d (.str t))]=>bif Nat.blt s.length 4294967281 then some (.c (.d (.int .i64 (optI (idxK t s 0))))) else none
 | _=>none
def gIndexB:List AV→Option AV
 | [.c (.d (.str s)),.c (.d (.int .u8 (.ofNat n)))]=>bif Nat.blt s.length 4294967281 then some (.c (.d (.int .i64 (optI (idxK [UInt8.ofNat n] s 0))))) else none
 | _=>none
theorem av_int {V:Vw}{n:Int}(h:-9223372036854775808≤n∧n≤9223372036854775807):V.av (.int .i64 n) (.c (.d (.int .i64 n))):=
 Vw.mk_int _ _ _ (wrap_in (by simpa [loK,hiK] using h))
theorem index_rng (s t:List UInt8)(h:s.length<4294967281):-9223372036854775808≤Lib.index s t∧Lib.index s t≤9223372036854775807:=by
 have h1:=index_ge s t
 have h2:Lib.index s t≤s.length:=by
  clear h h1
  induction s with
  | nil=>simp only [Lib.index];omega
  | cons a s ih=>
   simp only [Lib.index]
   grind
 omega
theorem glob_cell {P:Program}{G:List (List DV)}{w:World}{F:Nat→Prop}{β:Key→Nat}{lv:Key→LB}{g:Nat}{k:IntKind}{n:Int}(hS:Sits (CtxE P G w F β lv) F β lv w) (hg:G[g]?=some [.int k n]):w.cell? ⟨g,0,none⟩=some (.int k n):=by
 have:=hS.glob g _ hg
 cases this with
 | ptr b off vs cs hm ho hr=>
  have h1:=hm 0 (by simp)
  have h2:=hr 0 (by simp)
  simp only [List.getElem_cons_zero] at h2
  have h3:=h1.2
  generalize vs 0=u at h2 h3
  cases h2
  exact h3
theorem gIndex_ok (m:Int){us:List AV}{x:AV}(h:gIndex us=some x) (lv:Key→LB):CallG Tryz.prog (GG m) 169 us lv (.ret x lv):=by
 unfold gIndex at h
 split at h
 ·rename_i s t
  cases hb:Nat.blt s.length 4294967281 with
  | false=>rw [hb] at h;cases h
  | true=>
   rw [hb] at h
   simp only [cond_true,Option.some.injEq] at h
   subst h
   have hs:s.length<4294967281:=Nat.le_of_ble_eq_true hb
   refine CallG.of_same (by rfl) fun F β w vs hS hl hv=>?_
   obtain⟨u,v,rfl,hu,hv⟩:=args2 hl hv
   have:=Tryz.stringslite_Index ⟨s.toArray⟩ ⟨t.toArray⟩ m w (by rw [size_mk];exact hs) (glob_cell hS rfl)
   refine⟨.int .i64 (optI (idxK t s 0)),?_,?_⟩
   ·rw [← idxK_index];exact av_int (index_rng s t hs)
   ·rw [Vw.c_str hu,Vw.c_str hv]
    simpa [idxK_index] using this
 ·cases h
theorem gIndexB_ok (m:Int){us:List AV}{x:AV}(h:gIndexB us=some x) (lv:Key→LB):CallG Tryz.prog (GG m) 208 us lv (.ret x lv):=by
 unfold gIndexB at h
 split at h
 ·rename_i s n
  cases hb:Nat.blt s.length 4294967281 with
  | false=>rw [hb] at h;cases h
  | true=>
   rw [hb] at h
   simp only [cond_true,Option.some.injEq] at h
   subst h
   have hs:s.length<4294967281:=Nat.le_of_ble_eq_true hb
   refine CallG.of_same (by rfl) fun F β w vs hS hl hv=>?_
   obtain⟨u,v,rfl,hu,hv⟩:=args2 hl hv
   have:=Tryz.stringslite_IndexByte ⟨s.toArray⟩ n w
   refine⟨.int .i64 (optI (idxK [UInt8.ofNat n] s 0)),?_,?_⟩
   ·rw [← idxK_index];exact av_int (index_rng s _ hs)
   ·rw [Vw.c_str hu,Vw.c_int hv]
    simpa [← idxK_index,index_one] using this
 ·cases h
theorem setCell_row {w:World}{b:Nat}{arr:Array Value}{T:TypeId}{v:Value}{fr:Nat × Nat}(hb:w.heap[b]?=some (.cells arr T fr)) (off:Nat) :
 w.setCell ⟨b,off,none⟩ v=w.setRow b (arr.setIfInBounds off v):=by
 unfold World.setCell World.setRow
 have:(w.heap.modify b fun
  | .cells c elem frozen=>.cells (c.setIfInBounds off v) elem frozen
  | o=>o)=w.heap.modify b fun
  | .cells _ elem frozen=>.cells (arr.setIfInBounds off v) elem frozen
  | o=>o:=by
  apply Array.ext
  ·simp
  ·intro i p q
   simp only [Array.getElem_modify]
   split
   ·rename_i hi
    subst hi
    obtain⟨h1,h2⟩:=Array.getElem?_eq_some_iff.1 hb
    rw [h2]
   ·rfl
 grind
theorem bOK_mono {T off n m:Nat}(h:bOK T off n=true) (hm:n≤m):bOK T off m=true:=by
 have key:∀ k,n≤m→Nat.ble k n=true→Nat.ble k m=true:=fun k h1 h2=>Nat.ble_eq_true_of_le (Nat.le_trans (Nat.le_of_ble_eq_true h2) h1)
 simp only [bOK,Bool.or_eq_true,Bool.and_eq_true] at h ⊢
 grind
theorem drop_at {α:Type}{cs r:List α}{x:α}{off:Nat}(h:cs.drop off=x::r):∃ hlt:off<cs.length,cs[off]=x:=by
 have hlt:off<cs.length:=by
  apply Classical.byContradiction
  intro hc
  rw [List.drop_eq_nil_of_le (by omega)] at h;cases h
 rw [List.drop_eq_getElem_cons hlt] at h
 grind
theorem self_used (m:Int)(lv:Key→LB)(k off T:Nat)(cs r:List CV)(hk:lv k=.cells false false T cs)(hc:cs.drop off=.ptr k off::r) :
 CallG Tryz.prog (GG m) 141 [.c (.ptr k off)] lv (.ret (.tup []) lv):=by
 intro F β w vs hS hl hv
 obtain⟨u,rfl,hu⟩:=args1 hl hv
 have hu1:u=.pointer (some ⟨β k,off,none⟩):=by
  obtain⟨h1,_⟩:=hu
  simpa only [Vw.atPtr,hk] using h1
 subst hu1
 have hb:=hS.blk k
 unfold Vw.blk at hb;simp only [hk] at hb
 obtain⟨arr,b1,b2,b3,_⟩:=hb
 obtain⟨hlt,hx⟩:=drop_at hc
 have hpos:off<arr.size:=by omega
 have h0:=b3 off hlt hpos
 rw [hx] at h0
 obtain⟨h0,_⟩:=h0
 simp only [Vw.atPtr,hk] at h0
 have hcell:w.cell? ⟨β k,off,none⟩=some (.pointer (some ⟨β k,off,none⟩)):=by
  rw [cell_of_heap b1];simp [hpos,h0]
 refine (cc_used _ _ w hcell).mono fun e w' he=>?_
 obtain⟨rfl,rfl⟩:=he
 exact⟨_,F,β,rfl,hS,⟨#[],rfl,rfl,fun i h=>absurd h (by simp)⟩⟩
theorem self_fresh (m:Int)(lv:Key→LB)(k off T:Nat)(cs r:List CV)(hok:bOK T off cs.length=true)(hk:lv k=.cells false false T cs)(hc:cs.drop off=.d .nilp::r) :
 CallG Tryz.prog (GG m) 141 [.c (.ptr k off)] lv (.ret (.tup []) (upd lv k (.cells false false T (setSeg cs off [.ptr k off])))):=by
 intro F β w vs hS hl hv
 obtain⟨u,rfl,hu⟩:=args1 hl hv
 have hu1:u=.pointer (some ⟨β k,off,none⟩):=by
  obtain⟨h1,_⟩:=hu
  simpa only [Vw.atPtr,hk] using h1
 subst hu1
 have hb:=hS.blk k
 unfold Vw.blk at hb;simp only [hk] at hb
 obtain⟨arr,b1,b2,b3,_⟩:=hb
 obtain⟨hlt,hx⟩:=drop_at hc
 have hpos:off<arr.size:=by omega
 have h0:=b3 off hlt hpos
 rw [hx] at h0
 have h0':arr[off]=.pointer none:=by
  obtain⟨h0,_⟩:=h0
  have h0:Rd _ arr[off] .nilp:=h0
  generalize arr[off]=v at h0
  cases h0;rfl
 have hcell:w.cell? ⟨β k,off,none⟩=some (.pointer none):=by
  rw [cell_of_heap b1];simp [hpos,h0']
 refine (cc_fresh _ off arr.size T w hcell (bOK_mono hok b2) (by simp [World.shape?,b1]) (frozen_of_heap b1 off)).mono fun e w' he=>?_
 obtain⟨rfl,rfl⟩:=he
 have hset:=setCell_row (v:=.pointer (some ⟨β k,off,none⟩)) b1 off
 have hle:off+[CV.ptr k off].length≤cs.length:=by simp;omega
 have hS2:=hS.setRow (arr:=arr.setIfInBounds off (.pointer (some ⟨β k,off,none⟩))) (cs':=setSeg cs off [.ptr k off]) hk b1 (by simp) (by rw [setSeg_length _ _ _ hle];grind) (by
  intro i p q
  rw [Array.getElem_setIfInBounds (by grind),setSeg_get _ _ _ hle i p]
  by_cases hi:off=i
  ·subst hi
   rw [if_pos rfl,dif_pos ⟨Nat.le_refl _,by simp⟩]
   simp only [Nat.sub_self,List.getElem_cons_zero]
   refine⟨?_,rfl⟩
   simp only [Vw.atPtr,hk]
  grind)
 rw [hset]
 exact⟨_,F,β,rfl,hS2,⟨#[],rfl,rfl,fun i h=>absurd h (by simp)⟩⟩
theorem StOK.far {c:Ctx}{F:Nat→Prop}{β:Key→Nat}{s:LSt}{a:Act}{w w':World}(h:StOK c F β s a w) (B:Nat→Prop)
 (hs:∀ b,¬ B b→b<w.heap.size→w'.heap[b]?=w.heap[b]?) (hF:∀ b,B b→¬ F b) (hL:∀ k,(s.lv k).live=true→¬ B (β k)) (hW:∀ b,B b→c.w0.heap.size≤b)
 (hsz:w.heap.size≤w'.heap.size) (ha:∀ b,asize w b≤asize w' b) (hoo:w'.os=w.os∧w'.output=w.output:=by exact⟨rfl,rfl⟩):StOK c F β s a w':=by
 have hm:∀ b,F b→w'.heap[b]?=w.heap[b]?:=fun b hb=>hs b (fun hB=>hF b hB hb) (h.Flt b hb).1
 have:=h.step (hoo:=hoo) (F':=F) (β':=β) (lv':=s.lv) (w':=w') (fun _ h=>h) hm (fun k=>LB.sub_refl _) (fun _ _ _=>rfl) ha ?_ h.inj (fun b hb=>.inl hb) hsz ?_
 ·exact this
 ·intro k hK
  have hb:=h.blk k
  have key:(s.lv k).live=true→(Vw.mk F β s.lv w').blk c k:=fun hl=>
   Vw.blk_keep hb hK rfl rfl (hs _ (hL k hl) (h.live_lt hl)) (fun _ h=>h)
  cases e:s.lv k with
  | cells own fz T cs=>
   cases fz with
   | false=>exact key (by rw [e];rfl)
   | true=>
    refine Vw.blk_keep hb hK rfl rfl (hm _ ?_) (fun _ h=>h)
    unfold Vw.blk at hb;grind
  | map own es=>exact key (by rw [e];rfl)
  | hole=>unfold Vw.blk;grind
  | dead=>unfold Vw.blk;grind
  | nils=>unfold Vw.blk;grind
 ·intro b hb hW0
  exact hs b (fun hB=>by grind) (Nat.lt_of_lt_of_le hb h.ge)
theorem StOK.allocFar {c:Ctx}{F:Nat→Prop}{β:Key→Nat}{s:LSt}{a:Act}{w:World}(h:StOK c F β s a w) (o:Obj):StOK c F β s a (w.alloc o):=
 h.far (fun _=>False) (fun b _ hb=>by rw [heap_alloc,if_neg (by omega)]) (fun _ h=>h.elim) (fun _ _ h=>h.elim) (fun _ h=>h.elim) (by simp) (asize_alloc_le w o)
end Go.Am
namespace Go.Am
section
variable {c:Ctx}{r:Option Nat}{F:Nat→Prop}{β:Key→Nat}{s:LSt}{a:Act}{w w':World}
theorem AW.fresh {fr:Nat→AV}{lv:Key→LB}{code:Code}{κ:Nat}{Q:Ex→LSt→Nat→Prop}(h:StOK c F β ⟨fr,lv⟩ a w) (ho:AllOk lv)
 (hA:∀ c':Ctx,c'.P=c.P→c'.G=c.G→c'.n=c.n→c'.lv0=lv→AW c' r code ⟨fr,lv⟩ κ Q) :
 code.wpIn (fen r) 0 c.P (fun e a' w'=>∃ x s' κ' F' β',Q x s' κ'∧StOK c F' β' s' a' w'∧ExOK x e F' w'∧w.heap.size≤w'.heap.size∧(∀ b,F' b→F b∨w.heap.size≤b)∧(∀ k,(s'.lv k).live=true→w.heap.size≤β' k∨∃ j,(lv j).live=true∧β j=β' k) ∧
  ∀ b,b<w.heap.size→(∀ k,(lv k).live=true→β k≠b)→w'.heap[b]?=w.heap[b]?) a w:=by
 let c':Ctx:={ CtxE c.P c.G w F β lv with n:=c.n,ds:=c.ds }
 have h1:StOK c' F β ⟨fr,lv⟩ a w:=Sits.with (c:=c') (h.enterG ho) h.size h.defers h.fr
 refine wpIn_mono (hA c' rfl rfl rfl rfl F β a w h1) ?_
 rintro e a' w' ⟨x,s',κ',F',β',hQ,h2,hx⟩
 have hx0:Sits (CtxE c.P c.G w F β lv) F' β' s'.lv w':=StOK.sits (c:=c') h2
 have h3:StOK c F' β' ⟨fr,s'.lv⟩ a w':=h.backG hx0
 have h4:StOK c F' β' s' a' w':=Sits.with (c:=c) (StOK.sits (s:=⟨fr,s'.lv⟩) h3) h2.size h2.defers h2.fr
 refine⟨x,s',κ',F',β',hQ,h4,hx,h2.ge,fun b hb=>(h2.Flt b hb).2,fun k hk=>h2.live_own hk,fun b hb hn=>?_⟩
 exact h2.old b hb (fun⟨k,hk,he⟩=>hn k hk he)
theorem StOK.far' (h:StOK c F β s a w)(B:Nat→Prop)
 (hs:∀ b,¬ B b→b<w.heap.size→w'.heap[b]?=w.heap[b]?) (hF:∀ b,B b→¬ F b) (hL:∀ k,(s.lv k).live=true→¬ B (β k)) (hW:∀ b,B b→c.w0.heap.size≤b∨c.W0 b)
 (hsz:w.heap.size≤w'.heap.size) (ha:∀ b,asize w b≤asize w' b) (hoo:w'.os=w.os∧w'.output=w.output:=by exact⟨rfl,rfl⟩):StOK c F β s a w':=by
 have hm:∀ b,F b→w'.heap[b]?=w.heap[b]?:=fun b hb=>hs b (fun hB=>hF b hB hb) (h.Flt b hb).1
 have:=h.step (hoo:=hoo) (F':=F) (β':=β) (lv':=s.lv) (w':=w') (fun _ h=>h) hm (fun k=>LB.sub_refl _) (fun _ _ _=>rfl) ha ?_ h.inj (fun b hb=>.inl hb) hsz ?_
 ·exact this
 ·intro k hK
  have hb:=h.blk k
  have key:(s.lv k).live=true→(Vw.mk F β s.lv w').blk c k:=fun hl=>
   Vw.blk_keep hb hK rfl rfl (hs _ (hL k hl) (h.live_lt hl)) (fun _ h=>h)
  cases e:s.lv k with
  | cells own fz T cs=>
   cases fz with
   | false=>exact key (by rw [e];rfl)
   | true=>
    refine Vw.blk_keep hb hK rfl rfl (hm _ ?_) (fun _ h=>h)
    unfold Vw.blk at hb;simp only [e] at hb
    obtain⟨x,h1,h2,h3,h4,h5⟩:=hb
    simpa using h4
  | map own es=>exact key (by rw [e];rfl)
  | hole=>unfold Vw.blk;simp only [e]
  | dead=>unfold Vw.blk;simp only [e]
  | nils=>unfold Vw.blk;simp only [e]
 ·intro b hb hW0
  exact hs b (fun hB=>(hW b hB).elim (fun h1=>by omega) hW0) (Nat.lt_of_lt_of_le hb h.ge)
theorem StOK.putFar (h:StOK c F β s a w){l:Nat}{o:Obj}(o':Obj) (hl:w.heap[l]?=some o) (hc:∀ x y z,o≠.cells x y z) (hF:¬ F l) (hL:∀ k,(s.lv k).live=true→β k≠l) (hW:c.w0.heap.size≤l∨c.W0 l):StOK c F β s a (w.putObj l o'):=by
 refine h.far' (fun x=>x=l) (fun x hx _=>World.putObj_heap_other hx) (fun x hx=>hx ▸ hF) (fun k hk=>hL k hk) (fun x hx=>hx ▸ hW) (by simp) (fun b=>?_)
 by_cases e:b=l
 ·subst e
  unfold asize
  rw [hl]
  cases o with
  | cells x y z=>exact absurd rfl (hc x y z)
  | _=>exact Nat.zero_le _
 ·unfold asize
  rw [World.putObj_heap_other e]
  exact Nat.le_refl _
end
def CtxR (P:Program)(G:List (List DV))(w:World)(F:Nat→Prop)(β:Key→Nat)(lv:Key→LB)(n l:Nat):Ctx:=
 ⟨P,G,w,F,fun b=>(∃ k,(lv k).live=true∧β k=b)∨b=l,n,lv,β,[]⟩
theorem StOK.toR {P:Program}{G:List (List DV)}{F0 F:Nat→Prop}{β0 β:Key→Nat}{lv0:Key→LB}{s:LSt}{a:Act}{w0 w:World}{n:Nat}(l:Nat) (h:StOK { CtxE P G w0 F0 β0 lv0 with n:=n } F β s a w) :
 StOK (CtxR P G w0 F0 β0 lv0 n l) F β s a w:=by
 refine⟨fun k=>Vw.blk_ctx ?_ (h.blk k),h.inj,h.fr,h.size,h.defers,h.Flt,h.F0,fun b hb hW=>h.old b hb (fun hx=>hW (.inl hx)),h.ge,h.glob,h.keep,h.asz,h.oso⟩
 intro o ho
 unfold ownAt at ho ⊢
 cases o with
 | true=>exact ho
 | false=>exact ho.imp id .inl
theorem StOK.ofR {P:Program}{G:List (List DV)}{F0 F:Nat→Prop}{β0 β:Key→Nat}{lv0:Key→LB}{s:LSt}{a:Act}{w0 w:World}{n l:Nat}{o:Obj}(h:StOK (CtxR P G w0 F0 β0 lv0 n l) F β s a w)
 (hl0:w0.heap[l]?=some o) (hl:w.heap[l]?=some o) (hc:∀ x y z,o≠.cells x y z) (hm:∀ x y,o≠.map x y):Sits (CtxE P G w0 F0 β0 lv0) F β s.lv w:=by
 refine⟨fun k=>?_,h.inj,fun _=>trivial,rfl,rfl,h.Flt,h.F0,fun b hb hW=>?_,h.ge,h.glob,h.keep,h.asz,h.oso⟩
 ·have hb:=h.blk k
  have key:∀ ow,ownAt (CtxR P G w0 F0 β0 lv0 n l) ow (β k)→β k≠l→ownAt { CtxE P G w0 F0 β0 lv0 with n:=0 } ow (β k):=by
   intro ow ho hne
   unfold ownAt at ho ⊢
   cases ow with
   | true=>exact ho
   | false=>
    rcases ho with h1|h1|h1
    ·exact .inl h1
    ·exact .inr h1
    ·exact absurd h1 hne
  unfold Vw.blk at hb ⊢
  cases e:s.lv k with
  | cells own fz T cs=>
   simp only [e] at hb ⊢
   obtain⟨arr,b1,b2,b3,b4,b5⟩:=hb
   exact⟨arr,b1,b2,b3,b4,key _ b5 (fun he=>by rw [he,hl] at b1;simp only [Option.some.injEq] at b1;exact hc _ _ _ b1)⟩
  | map own es=>
   simp only [e] at hb ⊢
   obtain⟨x,y,b1,b2,b3,b4,b5⟩:=hb
   exact⟨x,y,b1,b2,b3,b4,key _ b5 (fun he=>by rw [he,hl] at b1;simp only [Option.some.injEq] at b1;exact hm _ _ b1)⟩
  | hole=>simp only [e]
  | dead=>simp only [e]
  | nils=>simp only [e]
 ·by_cases e:b=l
  ·subst e
   show w.heap[b]?=w0.heap[b]?
   rw [hl,hl0]
  ·refine h.old b hb ?_
   rintro (h1|h1)
   ·exact hW h1
   ·exact e h1
theorem SimW.yield {P:Program}{G:List (List DV)}{w1:World}{F0:Nat→Prop}{β0:Key→Nat}{lv0 lv lv':Key→LB}{n l:Nat}{fr:Nat→AV}{ops:Array Oper}{o:Oper}{cl:Call}{fo:Operand}{rec:Loop}{xs:List AV}(hd:∀ d,o.dst=some d→d<n)
 (hg:o.guard=none) (ho:o.op=.call cl) (hcal:cl.callee=.value fo) (hfo:(LSt.mk fr lv).val G fo=.c (.d (.func (.yield l) [] [])))
 (hxs:cl.args.toList.map ((LSt.mk fr lv).val G)=xs) (hps:rec.params.size=xs.length) (hl:w1.heap[l]?=some (.loop rec)) (hnl:∀ k,(lv0 k).live=true→β0 k≠l) (hok:AllOk lv)
 (hround:∀ (F:Nat→Prop) (β:Key→Nat) (w:World) (vs:Array Value),Sits (CtxE P G w1 F0 β0 lv0) F β lv w→Sits (CtxE P G w F β lv) F β lv w→w.heap[l]?=some (.loop rec)→vs.size=xs.length→(∀ i (h:i<xs.length) (h':i<vs.size),(Vw.mk F β lv w).av vs[i] xs[i]) →
  RoundIn (fen none) 0 P l rec.fn ((rec.params.zip vs).foldl (fun tmps (t,a)=>tmps.setIfInBounds t a) rec.tmps) rec.assign rec.body w fun e w'=>e=.returned (.bool true)∧∃ F' β',Sits (CtxE P G w F β lv) F' β' lv' w') :
 SimW { CtxE P G w1 F0 β0 lv0 with n:=n } none ops o ⟨fr,lv⟩ (LSt.put ⟨fr,lv'⟩ o.dst (.c (.d (.bool true)))):=by
 intro F β a w K Q hs hK
 have hw:Region.wanted o (yielded ops a.tmps)=true:=by unfold Region.wanted;rw [hg]
 rw [if_pos hw]
 have hS:Sits (CtxE P G w1 F0 β0 lv0) F β lv w:=StOK.sits hs
 have hlw:w.heap[l]?=some (.loop rec):=by
  rw [← hl]
  have hlt:=(Array.getElem?_eq_some_iff.1 hl).1
  exact hs.old l hlt (fun⟨k,hk,he⟩=>hnl k hk he)
 have hv0:=hs.val fo
 have hv1:a.eval fo=.func (.yield l) #[] #[]:=by
  have h1:(Vw.mk F β lv w).av (a.eval fo) (.c (.d (.func (.yield l) [] []))):=hfo ▸ hv0
  obtain⟨h1,_⟩:=h1
  generalize a.eval fo=u at h1
  cases h1 with
  | func _ fs cs _ _ hf hc _ _=>
   grind
 have hsz:(cl.args.map a.eval).size=xs.length:=by rw [← hxs];simp
 have hav:∀ i (h:i<xs.length) (h':i<(cl.args.map a.eval).size),(Vw.mk F β lv w).av (cl.args.map a.eval)[i] xs[i]:=by
  intro i p q
  subst hxs
  simp only [Array.getElem_map,List.getElem_map,Array.getElem_toList]
  exact hs.val _
 have hr:(execOp a.eval o).run P w=.ok (.round l rec.fn ((rec.params.zip (cl.args.map a.eval)).foldl (fun tmps (t,a)=>tmps.setIfInBounds t a) rec.tmps) rec.assign rec.body) w:=by
  simp only [execOp,ho,resolve,hcal,hv1,Deferred.ofValue,Sem.run_bind,Sem.run_pure,Result.andThen_ok,invoke]
  have:=run_yield (P:=P) (args:=cl.args.map a.eval) hlw (by omega)
  simpa using this
 refine⟨fun _ _=>trivial,?_⟩
 rw [Oper.semAt_eq _ _ _ (fun c h=>by grind)]
 show o.uponIn (fen none) 0 P a K Q ((execOp a.eval o).run P w)
 rw [hr,Oper.uponIn_round]
 refine⟨fun h=>by simp [fen,Fence.wide] at h,?_⟩
 refine (hround F β w _ hS (hs.enterG hok) hlw hsz hav).mono fun e w' he=>?_
 obtain⟨rfl,F',β',hX⟩:=he
 exact hK F' β' _ _ (StOK.putD (hs.backG hX) hd (Vw.mk_bool _ _))
theorem round_of_AW {P:Program}{G:List (List DV)}{F:Nat→Prop}{β:Key→Nat}{lv lv1 lv':Key→LB}{w:World}{tmps:Array Value}{n l:Nat}{rec:Loop}{fr fr2:Nat→AV}{κ:Nat}(hS:Sits (CtxE P G w F β lv) F β lv w) (hok:AllOk lv) (hok1:AllOk lv1)
 (hlw:w.heap[l]?=some (.loop rec)) (hst:rec.state=.ready) (hpe:rec.pending=none) (hn:tmps.size=n) (hfr:∀ t,(Vw.mk F β lv w).av (tmps.getD t undef) (fr t)) (hFl:¬ F l)
 (h1:∀ c:Ctx,c.P=P→c.G=G→c.n=n→c.lv0=lv→AW c (some l) rec.assign ⟨fr,lv⟩ κ (fun x s _=>x=.normal∧s=⟨fr2,lv1⟩))
 (h2:∀ c:Ctx,c.P=P→c.G=G→c.n=n→c.lv0=lv1→AW c (some l) rec.body ⟨fr2,lv1⟩ κ (fun x s _=>x=.normal∧s.lv=lv')) :
 RoundIn (fen none) 0 P l rec.fn tmps rec.assign rec.body w fun e w'=>e=.returned (.bool true)∧∃ F' β',Sits (CtxE P G w F β lv) F' β' lv' w':=by
 have hlt:l<w.heap.size:=(Array.getElem?_eq_some_iff.1 hlw).1
 have hnot:∀ (F:Nat→Prop) (β:Key→Nat) (lv:Key→LB) (c:Ctx) (s:LSt) (a:Act) (w:World) (r:Loop),StOK c F β s a w→w.heap[l]?=some (.loop r)→∀ k,(s.lv k).live=true→β k≠l:=by
  intro F β lv c s a w r h hl k hk he
  have hb:=h.blk k
  unfold Vw.blk at hb
  cases e:s.lv k with
  | cells own fz T cs=>grind
  | map own es=>grind
  | hole=>rw [e] at hk;cases hk
  | dead=>rw [e] at hk;cases hk
  | nils=>rw [e] at hk;cases hk
 have s0:StOK (CtxR P G w F β lv n l) F β ⟨fr,lv⟩ ⟨tmps,[]⟩ w:=StOK.toR l (Sits.enter hS (a:=⟨tmps,[]⟩) hn rfl hfr)
 refine roundIn_of_wpIn trivial ?_
 show rec.assign.wpIn (fen (some l)) 0 P _ _ w
 refine wpIn_mono (AW.fresh (r:=some l) s0 hok (h1 ·)) ?_
 rintro e a1 w1 ⟨x,s1,κ1,F1,β1,⟨rfl,rfl⟩,s1',hx,z1,z2,z2b,z3⟩
 cases hx
 have hl1:w1.heap[l]?=some (.loop rec):=by rw [z3 l hlt (hnot F β lv _ _ _ w rec s0 hlw)];exact hlw
 refine⟨_,run_beginRound hl1 hst,?_⟩
 have hF1:¬ F1 l:=fun h=>by
  grind
 have s2:=s1'.putFar (.loop { rec with state:=.busy }) hl1 (fun _ _ _ h=>by cases h) hF1 (hnot _ _ lv _ _ _ _ _ s1' hl1) (.inr (.inr rfl))
 have hl2:(w1.putObj l (.loop { rec with state:=.busy })).heap[l]?=some (.loop { rec with state:=.busy }):=World.putObj_heap_same (by omega)
 show rec.body.wpIn (fen (some l)) 0 P _ _ _
 refine wpIn_mono (AW.fresh (r:=some l) s2 hok1 (h2 ·)) ?_
 rintro e a3 w3 ⟨x,s3,κ3,F3,β3,⟨rfl,hlv⟩,s3',hx,y1,y2,y2b,y3⟩
 cases hx
 have hl3:w3.heap[l]?=some (.loop { rec with state:=.busy }):=by rw [y3 l (by simp;omega) (hnot _ _ lv _ _ _ _ _ s2 hl2)];exact hl2
 have hF3:¬ F3 l:=fun h=>by
  grind
 have hrec:({ { rec with state:=.busy } with state:=.ready,pending:=none }:Loop)=rec:=by
  cases rec;simp only at hst hpe;subst hst;subst hpe;rfl
 have s4:=s3'.putFar (.loop rec) hl3 (fun _ _ _ h=>by cases h) hF3 (hnot _ _ lv _ _ _ _ _ s3' hl3) (.inr (.inr rfl))
 have hl4:(w3.putObj l (.loop rec)).heap[l]?=some (.loop rec):=World.putObj_heap_same (Array.getElem?_eq_some_iff.1 hl3).1
 have hS4:=s4.ofR hlw hl4 (fun _ _ _ h=>by cases h) (fun _ _ h=>by cases h)
 refine⟨.bool true,w3.putObj l (.loop rec),?_,rfl,F3,β3,hlv ▸ hS4⟩
 have:=run_endRound (P:=P) none hl3
 grind
end Go.Am
namespace Go.Am
open Go.Am.Ty Go.Proofs N
def decN:List UInt8→Nat→Nat
 | [],n=>n
 | c::l,n=>decN l (10*n+(c.toNat - 48))
def isD (l:List UInt8):Prop:=∀ c∈l,48≤c.toNat∧c.toNat≤57
theorem decN_app:∀ (a b:List UInt8) (n:Nat),decN (a++b) n=decN b (decN a n)
 | [],b,n=>rfl
 | c::a,b,n=>by simp [decN,decN_app a b]
theorem decN_shift:∀ (l:List UInt8) (n:Nat),decN l n=n*10 ^ l.length+decN l 0
 | [],n=>by simp [decN]
 | c::l,n=>by
  simp only [decN,List.length_cons,Nat.pow_succ]
  rw [decN_shift l (10*n+_),decN_shift l (10*0+_)]
  grind
theorem decN_lt:∀ {l:List UInt8},isD l→decN l 0<10 ^ l.length
 | [],_=>by simp [decN]
 | c::l,h=>by
  have h1:=h c (List.mem_cons_self ..)
  have ih:=decN_lt (l:=l) (fun x hx=>h x (List.mem_cons_of_mem _ hx))
  simp only [decN,List.length_cons,Nat.pow_succ]
  rw [decN_shift]
  have h2:(10*0+(c.toNat - 48))*10 ^ l.length≤9*10 ^ l.length:=Nat.mul_le_mul_right _ (by omega)
  omega
theorem SimW.plain {c:Ctx}{r:Option Nat}{ops:Array Oper}{o:Oper}{s:LSt}{κ:Key}{x:AV}{vc:Prop}(hd:∀ d,o.dst=some d→d<c.n) (hg:o.guard=none)
 (h:stepF c.P o.op (o.op.operands.toList.map (s.val c.G)) s.lv κ=some (x,[],[],vc)) (hvc:vc) {s1:LSt}(h1:s1=s.put o.dst x):SimW c r ops o s s1:=by
 subst h1
 exact SimW.of_eff (EffOK.plain hd (by unfold wantA;rw [hg]) h hvc)
def oO (st:Bool)(n:Nat):Option (List Nat):=if st then some (dig 4294967296 n) else none
def nD:Option (List Nat)→DV
 | none=>.nilsl
 | some l=>.sl (dK .u32 l)
theorem nD_nK (o:Option (List Nat)):(AV.c (.d (nD o)))=nK .u32 o:=by cases o <;> rfl
theorem AW.regionS' {c:Ctx}{r:Option Nat}{ops:Array Oper}{s:LSt}{κ:Nat}{Q:Ex→LSt→Nat→Prop}{id:Nat}(h:∃ s',ChainS c r ops ops.toList s s'∧Q .normal s' κ):AW c r (.region id ops false) s κ Q:=
 let ⟨_,h1,h2⟩:=h;AW.regionS h1 h2
@[simp] theorem LVr_0 (u:List UInt8)(d:DV):LVr u d 0=.cells false false 9 [.d (.str u)]:=by rfl
@[simp] theorem LVr_1 (u:List UInt8)(d:DV):LVr u d 1=.cells false false 25 [.d d]:=by rfl
@[simp] theorem LVr_put0 (u u':List UInt8)(d:DV):upd (LVr u d) 0 (.cells false false 9 [.d (.str u')])=LVr u' d:=by
 funext k
 unfold LVr upd
 grind
theorem LVr_noMap (u:List UInt8)(d:DV):noMap (LVr u d):=by
 intro k own es h
 rcases LVr_ok u d k with h1|⟨T,cs,h1⟩ <;> rw [h1] at h <;> cases h
theorem read_asg (G:List (List DV))(v sz:Nat)(lv:Key→LB)(r:Option Nat)(fr:Nat→AV)(f8:fr 8=.c (.d (.int .u32 v)))(f9:fr 9=.c (.d (.int .u32 sz))) :
 ∀ c:Ctx,c.P=Tryz.prog→c.G=G→c.n=20→AW c r rdAsg ⟨fr,lv⟩ 0 (fun x s _=>x=.normal∧s=⟨upd (upd fr 4 (.c (.d (.int .u32 v)))) 5 (.c (.d (.int .u32 sz))),lv⟩):=by
 rintro⟨_,Gc,w0,F0,W0,_,lv0,β0⟩ rfl rfl rfl
 unfold rdAsg
 refine AW.f1 f8 ?_
 refine AW.rP ?_
 simp [f9]
noncomputable def itBody:Code:=match Tryz.f177.body with|some b=>b|_=>.skip
def YieldOK (c:Ctx)(Y:AV):Prop:=
 ∀ (u:List UInt8) (n:Nat) (st:Bool) (v sz L:Nat) (fr:Nat→AV) (ops:Array Oper) (o:Oper) (cl:Call),v<4294967296→sz<4294967296→(st=false→n=0)→L≤10000000000→n<4294967296 ^ L →
  o.dst=some 32→o.guard=none→o.op=.call cl→cl.callee=.value (.tmp 29)→cl.args=#[.tmp 30,.tmp 31]→fr 29=Y→fr 30=.c (.d (.int .u32 v))→fr 31=.c (.d (.int .u32 sz)) →
  SimW c none ops o ⟨fr,LVr u (nD (oO st n))⟩ (LSt.put ⟨fr,LVr u (nD (oO true (n*sz+v)))⟩ (some 32) (.c (.d (.bool true))))
def pw (j:Nat):Nat:=10 ^ j
theorem pw_succ (j:Nat):pw (j+1)=10*pw j:=by unfold pw;omega
theorem pw_zero:pw 0=1:=rfl
theorem p10 {j:Nat}(h:j≤9):pw j≤1000000000:=by
 unfold pw
 have:=Nat.pow_le_pow_right (n:=10) (by decide) h
 omega
theorem take_digit {u:List UInt8}{j:Nat}{ch:UInt8}{rest:List UInt8}(h:u.drop j=ch::rest):u.take (j+1)=u.take j++[ch]∧u.drop (j+1)=rest∧j<u.length:=by
 have hlt:j<u.length:=by
  apply Classical.byContradiction
  intro hc
  rw [List.drop_eq_nil_of_le (by omega)] at h;cases h
 have e:u.drop j=u[j]::u.drop (j+1):=List.drop_eq_getElem_cons hlt
 grind
theorem iter_aw (G:List (List DV))(s0:List UInt8)(hD:isD s0)(hlen:s0.length≤1000000000)(Y:AV)(hY:Y.flat1=true) :
 ∀ c:Ctx,c.P=Tryz.prog→c.G=G→c.n=34→YieldOK c Y→AW c none itBody ⟨fun t=>[Y,.c (.ptr 0 0)].getD t .undef,LVr s0 .nilsl⟩ 0 (fun x s _=>x=.normal∧s.lv=LVr [] (nD (oO (!s0.isEmpty) (decN s0 0)))):=by
 rintro⟨_,Gc,w0,F0,W0,_,lv0,β0⟩ rfl rfl rfl hy
 unfold itBody
 refine AW.block ?_
 refine AW.loopV (fun (p:List UInt8 × Nat × Bool × Nat)=>⟨frOf [(0,Y),(1,.c (.ptr 0 0))],LVr p.1 (nD (oO p.2.2.1 p.2.1))⟩) 0
  (fun p=>isD p.1∧p.2.2.2+p.1.length≤1000000000∧p.2.1<4294967296 ^ p.2.2.2∧decN p.1 p.2.1=decN s0 0∧(p.2.2.1=false→p.2.1=0∧p.1=s0)∧(p.2.2.1=true→s0≠[]))
  (fun p=>p.1.length) (s0,0,false,0) (Le.mk' _ (by rfl) (LVr_noMap _ _) (by simp [hY])) (by grind) ?_
 rintro⟨u,n,st,L⟩ ⟨h1,h2,h3,h4,h5,h6⟩
 simp only at h1 h2 h3 h4 h5 h6
 refine AW.seqK fun K hK=>AW.q ?_
 by_cases hu:u=[]
 ·subst hu
  refine AW.cn (AW.exit ?_)
  simp
  have e1:n=decN s0 0:=h4
  have e2:st = !s0.isEmpty:=by
   cases st with
   | true=>grind
   | false=>grind
  grind
 have hu0:0<u.length:=List.length_pos_iff.2 hu
 have hs0:s0≠[]:=by
  cases st with
  | true=>exact h6 rfl
  | false=>rw [← (h5 rfl).2];exact hu
 refine AW.fy (by simp_all) (AW.skip (hK _ _ (AW.block (AW.q ?_))))
 refine AW.seqK fun K hK=>?_
 have fin:∀ (j:Nat) (fr:Nat→AV) (κ:Nat),0<j→j≤9→j≤u.length→fr 0=Y→fr 1=.c (.ptr 0 0)→fr 3=.c (.d (.int .u32 (decN (u.take j) 0)))→fr 4=.c (.d (.int .u32 (pw j)))→K ⟨fr,LVr (u.drop j) (nD (oO st n))⟩ κ:=by
  intro j fr κ hj0 hj9 hju f0 f1 f3 f4
  have hvj:decN (u.take j) 0<pw j:=by
   unfold pw
   have:=decN_lt (l:=u.take j) (fun c hc=>h1 c (List.mem_of_mem_take hc))
   rwa [List.length_take,Nat.min_eq_left hju] at this
  have hpj:=p10 hj9
  have hdec:decN (u.drop j) (n*pw j+decN (u.take j) 0)=decN s0 0:=by
   rw [← h4]
   conv=>rhs;rw [← List.take_append_drop j u]
   rw [decN_app,decN_shift (u.take j) n,List.length_take,Nat.min_eq_left hju];rfl
  have hbig:n*pw j+decN (u.take j) 0<4294967296 ^ (L+1):=by
   rw [Nat.pow_succ]
   have g1:n*pw j+decN (u.take j) 0<(n+1)*pw j:=by rw [Nat.add_mul];omega
   exact Nat.lt_of_lt_of_le g1 (Nat.mul_le_mul (by omega) (by omega))
  generalize decN (u.take j) 0=v at *
  generalize hpw:pw j=q at *
  apply hK
  refine AW.seqK fun K2 hK2=>?_
  have hd:∀ t:Nat,t<34→∀ d,some t=some d→d<34:=fun t ht d h=>by grind
  refine AW.regionS (s':=⟨upd (upd (upd (upd (upd fr 29 Y) 30 (.c (.d (.int .u32 v)))) 31 (.c (.d (.int .u32 q)))) 32 (.c (.d (.bool true)))) 33 (.c (.d (.bool false))),LVr (u.drop j) (nD (oO true (n*q+v)))⟩) ?_ ?_
  ·refine⟨⟨upd fr 29 Y,LVr (u.drop j) (nD (oO st n))⟩,?_,⟨upd (upd fr 29 Y) 30 (.c (.d (.int .u32 v))),LVr (u.drop j) (nD (oO st n))⟩,?_,⟨upd (upd (upd fr 29 Y) 30 (.c (.d (.int .u32 v)))) 31 (.c (.d (.int .u32 q))),LVr (u.drop j) (nD (oO st n))⟩,?_,
    ⟨upd (upd (upd (upd fr 29 Y) 30 (.c (.d (.int .u32 v)))) 31 (.c (.d (.int .u32 q)))) 32 (.c (.d (.bool true))),LVr (u.drop j) (nD (oO true (n*q+v)))⟩,?_,⟨upd (upd (upd (upd (upd fr 29 Y) 30 (.c (.d (.int .u32 v)))) 31 (.c (.d (.int .u32 q)))) 32 (.c (.d (.bool true)))) 33 (.c (.d (.bool false))),LVr (u.drop j) (nD (oO true (n*q+v)))⟩,?_,rfl⟩
   ·exact SimW.plain (κ:=0) (x:=fr 0) (hd 29 (by decide)) rfl rfl trivial (by simp_all)
   ·exact SimW.plain (κ:=0) (x:=fr 3) (hd 30 (by decide)) rfl rfl trivial (by simp_all)
   ·exact SimW.plain (κ:=0) (x:=fr 4) (hd 31 (by decide)) rfl rfl trivial (by simp_all)
   ·exact hy (u.drop j) n st v q L _ _ _ _ (by omega) (by omega) (fun h=>(h5 h).1) (by omega) h3 rfl rfl rfl rfl rfl (by simp) (by simp) (by simp)
   ·exact SimW.plain (κ:=0) (x:=.c (.d (.bool false))) (hd 33 (by decide)) rfl rfl trivial rfl
  ·simp only [thenA]
   apply hK2
   refine AW.cn (AW.skip ?_)
   simp only [blockA,thenA]
   refine⟨(u.drop j,n*q+v,true,L+1),Le.mk' _ rfl (LVr_noMap _ _) (by simp_all),⟨fun c hc=>h1 c (List.mem_of_mem_drop hc),by simp;omega,hbig,hdec,(by simp),(fun _=>hs0)⟩,by simp;omega⟩
 refine AW.q ?_
 refine AW.block ?_
 refine AW.loopV (fun (j:Nat)=>⟨frOf [(0,Y),(1,.c (.ptr 0 0)),(3,.c (.d (.int .u32 (decN (u.take j) 0)))),(4,.c (.d (.int .u32 (pw j:Int)))),(5,.c (.d (.int .i64 j)))],LVr (u.drop j) (nD (oO st n))⟩) 0
  (fun j=>j≤9∧j≤u.length) (fun j=>9 - j) 0 (Le.mk' _ (by simp) (LVr_noMap _ _) (by simp [hY,decN,pw_zero])) (by simp) ?_
 rintro j ⟨hj,hju⟩
 have hvj:decN (u.take j) 0<pw j:=by
  unfold pw
  have:=decN_lt (l:=u.take j) (fun c hc=>h1 c (List.mem_of_mem_take hc))
  rwa [List.length_take,Nat.min_eq_left hju] at this
 have hpj:=p10 hj
 refine AW.seqK fun K2 hK2=>AW.seqK fun K3 hK3=>?_
 by_cases hj9:j<9
 ·have hj9':(j:Int)<9:=by omega
  by_cases hje:j=u.length
  ·subst hje
   refine AW.l2 hj9 hj9' (hK3 _ _ ?_)
   refine AW.cn (AW.exit ?_)
   simp
   have:=fin u.length
   simp at this
   refine this _ _ hu0 hj (by simp) (by simp) (by simp) (by simp)
  ·have hlt:j<u.length:=by omega
   obtain⟨ch,rest,hcr⟩:∃ ch rest,u.drop j=ch::rest:=⟨u[j],u.drop (j+1),List.drop_eq_getElem_cons hlt⟩
   obtain⟨t1,t2,_⟩:=take_digit hcr
   have hch:48≤ch.toNat∧ch.toNat≤57:=h1 ch (List.mem_of_mem_drop (by rw [hcr];simp))
   have hlt':0<u.length - j:=by omega
   refine AW.l4 hj9 hj9' hlt hlt' (hK3 _ _ ?_)
   refine AW.fy (by rfl) (AW.skip (hK2 _ _ (AW.seqK fun K2 hK2=>AW.block (AW.seqK fun K3 hK3=>?_))))
   have hpj':=p10 (j:=j+1) (by omega)
   have hps:=pw_succ j
   obtain⟨x,hx⟩:∃ x,ch.toNat - 48=x:=⟨_,rfl⟩
   obtain⟨v,hv⟩:∃ v,decN (u.take j) 0=v:=⟨_,rfl⟩
   obtain⟨v',hv'⟩:∃ v',decN (u.take (j+1)) 0=v':=⟨_,rfl⟩
   obtain⟨q',hq'⟩:∃ q',pw (j+1)=q':=⟨_,rfl⟩
   have hvv:v'=10*v+x:=by rw [← hv',t1,decN_app,hv,← hx];rfl
   rw [hq'] at hps hpj'
   rw [hv] at hvj
   have w1:IntKind.u8.wrap ((ch.toNat:Int) - 48)=(x:Int):=by
    rw [wrap_in ⟨by simp only [loK];omega,by simp only [hiK];omega⟩];omega
   have w2:IntKind.u32.wrap (x:Int)=(x:Int):=wu32 (by omega) (by omega)
   have w3:IntKind.u32.wrap (10*(v:Int))=10*(v:Int):=wu32 (by omega) (by omega)
   have w4:IntKind.u32.wrap (10*(v:Int)+(x:Int))=(v':Int):=by rw [wu32 (by omega) (by omega)];omega
   have w5:IntKind.u32.wrap (10*(pw j:Int))=(q':Int):=by rw [wu32 (by omega) (by omega)];omega
   have w6:IntKind.i64.wrap ((j:Int)+1)=((j+1:Nat):Int):=by rw [wrap_in ⟨by simp only [loK];omega,by simp only [hiK];omega⟩];omega
   refine AW.rP ?_
   simp [hcr,hv,w1,w2,w3,w4,w5]
   apply hK3
   refine AW.l2 hcr @setSeg.eq_1 (hK2 _ _ ?_)
   refine AW.at0 0 ?_
   refine AW.rP ?_
   simp [w6]
   refine⟨j+1,Le.mk' _ (by simp [t2]) (LVr_noMap _ _) (by simp [hY,hv',hq']),?_,?_⟩
   ·omega
   ·omega
 ·have hj':j=9:=by omega
  subst hj'
  refine AW.l0 (hK3 _ _ ?_)
  refine AW.cn (AW.exit ?_)
  simp_all
end Go.Am
namespace Go.Am
open Go.Proofs Go.Am.Ty N
theorem itBody_eq:Tryz.f177.body=some itBody:=rfl
theorem groups_raw (s:ByteArray)(w:World):Calls Tryz.prog 130 #[.string s] w fun e w'=>e=.returned (.func (.func 177) #[] #[.pointer (some ⟨w.heap.size,0,none⟩)])∧w'=w.alloc (.cells #[.string s] 9):=by
 have hmf:∀ (fn:Fn) (first cap:Array Value) (w:World),(Instr.makeFunc fn first cap).run Tryz.prog w=.ok (.func fn first cap) w:=fun _ _ _ _=>rfl
 go_enter Tryz.func130,Tryz.ntmps130
 go_wp2
 go_ret
 simp
def rdW (s:ByteArray)(w:World):World:=(w.alloc (.cells #[.slice none 0 0] 25)).alloc (.cells #[.string s] 9)
def rdT (s:ByteArray)(w:World):Array Value:=#[.string s,undef,.slice none 0 0,.pointer (some ⟨w.heap.size,0,none⟩),undef,undef,.string s,.func (.func 177) #[] #[.pointer (some ⟨w.heap.size+1,0,none⟩)],undef,undef,undef,undef,undef,undef,undef,undef,undef,undef,undef,undef]
theorem read_raw (s:ByteArray)(w:World)(R:Ending→World→Prop)
 (h:(Code.rangeFunc (.tmp 7) #[8,9] rdAsg rdBody).wpIn Fence.wide 0 Tryz.prog (fun e a' W=>e=.normal∧∃ D v,a'={ tmps:=rdT s w,defers:=[{ target:=.collected D,args:=#[] }] }∧W.heap[D]?=some (.deferred (some []))∧W.cell? ⟨w.heap.size,0,none⟩=some v∧R (.returned v) (W.putObj D (.deferred none))) ⟨rdT s w,[]⟩ (rdW s w)) :
 Calls Tryz.prog 77 #[.string s] w R:=by
 refine (callsIn_wide (n:=0)).1 ?_
 refine callsIn_of_wp_marks Tryz.func77 rfl trivial ?_ rfl
 simp only [Tryz.ntmps77,List.size_toArray,List.length_cons,List.length_nil,Nat.reduceAdd,Nat.reduceSub,Array.replicate_succ,Array.replicate_zero,List.push_toArray,List.append_toArray,List.nil_append,List.cons_append]
 gi_wp2
 refine⟨trivial,rfl,((callsIn_wide (n:=0)).2 (groups_raw s _)).mono ?_⟩
 rintro e w' ⟨rfl,rfl⟩
 gi_wp2
 refine wpIn_mono (show (Code.rangeFunc (.tmp 7) #[8,9] rdAsg rdBody).wpIn Fence.wide 0 Tryz.prog _ _ _ from h) ?_
 rintro e a' W ⟨rfl,D,v,rfl,hD,hc,hR⟩
 simp only [Exit.inBlock,Exit.then]
 apply_assumption
 unfold rdT
 gi_wp2
 refine⟨by simp,.inl ⟨_,_,rfl,run_takeDeferred hD,?_⟩⟩
 exact⟨_,results_tmp rfl _ _ _,by simp_all⟩
theorem calls_at {P:Program}{G:List (List DV)}{f:FuncId}{fn:Func}{code:Code}{args:List AV}{lv lv':Key→LB}{κ:Nat}(hf:P.funcs[f]?=some fn) (hb:fn.body=some code) (hl:args.length≤fn.ntmps) (hres:fn.results=#[])
 {F:Nat→Prop}{β:Key→Nat}{w:World}{vs:Array Value}(hS:Sits (CtxE P G w F β lv) F β lv w) (hvl:vs.size=args.length) (hv:∀ i (h:i<args.length) (h':i<vs.size),(Vw.mk F β lv w).av vs[i] args[i])
 (h:AW { CtxE P G w F β lv with n:=fn.ntmps } none code ⟨fun t=>args.getD t .undef,lv⟩ κ (fun x s _=>x=.normal∧s.lv=lv')) :
 Calls P f vs w fun e w'=>(∃ v,e=.returned v)∧∃ F' β',Sits (CtxE P G w F β lv) F' β' lv' w':=by
 refine calls_of_wp hf hb ?_
 let a:Act:={ tmps:=vs++Array.replicate (fn.ntmps - vs.size) undef,defers:=[] }
 have hst:StOK { CtxE P G w F β lv with n:=fn.ntmps } F β ⟨fun t=>args.getD t .undef,lv⟩ a w:=by
  refine Sits.with (c:={ CtxE P G w F β lv with n:=fn.ntmps }) hS ?_ rfl (fun t=>?_)
  ·grind
  ·show (Vw.mk F β lv w).av ((vs++Array.replicate (fn.ntmps - vs.size) undef).getD t undef) (args.getD t .undef)
   by_cases ht:t<args.length
   ·have h1:args.getD t .undef=args[t]:=getD_lt ht
    have h2:(vs++Array.replicate (fn.ntmps - vs.size) undef).getD t undef=vs[t]'(by omega):=by
     rw [Array.getD_eq_getD_getElem?,Array.getElem?_append_left (by omega),Array.getElem?_eq_getElem (by omega)];rfl
    grind
   ·have h1:args.getD t .undef=.undef:=getD_ge ht
    have h2:(vs++Array.replicate (fn.ntmps - vs.size) undef).getD t undef=undef:=by
     rw [Array.getD_eq_getD_getElem?,Array.getElem?_append_right (by omega),Array.getElem?_replicate];split <;> rfl
    rw [h1,h2];rfl
 have hw:=(wpIn_wide (n:=0)).1 (h F β a w hst)
 refine wp_mono hw fun e a' w' hp=>?_
 obtain⟨e',s',κ',F',β',⟨rfl,hq⟩,hs',he⟩:=hp
 cases he
 exact⟨hs'.defers,.tuple #[],by simp [results,hres],⟨_,rfl⟩,F',β',hq ▸ hs'.sits⟩
theorem LVr_allOk (u:List UInt8)(d:DV):AllOk (LVr u d):=by
 intro k
 rcases LVr_ok u d k with h|⟨T,cs,h⟩ <;> rw [h] <;> rfl
theorem LVr_make (s:List UInt8)(d:DV):upd (upd (upd (upd (fun _=>LB.hole) 1 (.cells true false 25 [.d d])) 1 (.cells false false 25 [.d d])) 0 (.cells true false 9 [.d (.str s)])) 0 (.cells false false 9 [.d (.str s)])=LVr s d:=by
 funext k
 unfold LVr upd
 grind
theorem rd_enter {P:Program}{G:List (List DV)}{F:Nat→Prop}{β:Key→Nat}{w:World}{s:List UInt8}{lv:Key→LB}(hlv:lv=fun _=>.hole) (hS:Sits (CtxE P G w F β lv) F β lv w) (hs:s.length≤9223372036854775807) :
 ∃ β2:Key→Nat,Sits (CtxE P G w F β lv) F β2 (LVr s .nilsl) (rdW ⟨s.toArray⟩ w)∧β2 1=w.heap.size∧β2 0=w.heap.size+1:=by
 subst hlv
 have h1:=StOK.alloc (κ:=1) hS rfl (arr:=#[.slice none 0 0]) 25 (cs:=[.d .nilsl]) (by simp) (fun i p q=>by
  have:i=0:=by simp at p;omega
  subst this;exact⟨.nilsl,rfl⟩)
 have h2:=h1.unown (k:=1) (T:=25) (cs:=[.d .nilsl]) false (by rfl)
 have h3:=StOK.alloc (κ:=0) h2 (by simp [upd]) (arr:=#[.string ⟨s.toArray⟩]) 9 (cs:=[.d (.str s)]) (by simp) (fun i p q=>by
  have:i=0:=by simp at p;omega
  subst this
  refine⟨?_,rfl⟩
  have:=Rd.str (M:=(Vw.mk F (upd β 1 w.heap.size) (upd (upd (fun _=>LB.hole) 1 (.cells true false 25 [.d .nilsl])) 1 (.cells false false 25 [.d .nilsl])) (w.alloc (.cells #[.slice none 0 0] 25))).mem) ⟨s.toArray⟩ (by omega)
  grind)
 have h4:=h3.unown (k:=0) (T:=9) (cs:=[.d (.str s)]) false (by rfl)
 refine⟨upd (upd β 1 w.heap.size) 0 (w.alloc (.cells #[.slice none 0 0] 25)).heap.size,?_,?_,?_⟩
 ·have:=h4.sits
  rw [← LVr_make s .nilsl]
  exact this
 ·simp [upd]
 simp
theorem exact_read_ok (G:List (List DV))(s:List UInt8)(hD:isD s)(hlen:s.length≤1000000000):CallsP Tryz.prog G 77 [.c (.d (.str s))] (nK .u32 (oO (!s.isEmpty) (decN s 0))):=by
 intro F β w vs hS hl hv
 have hlv:lvOf [] []=fun _=>LB.hole:=lvOf_nil'
 obtain⟨u,rfl,hu⟩:=args1 hl hv
 rw [Vw.c_str hu]
 obtain⟨β2,hS2,e1,e0⟩:=rd_enter hlv hS (s:=s) (by omega)
 refine read_raw _ w _ ?_
 refine wpIn_rangeFunc ?_
 intro fn hfn
 obtain⟨rec,hrec⟩:∃ rec:Loop,rec={ state:=.ready,pending:=none,fn,tmps:=rdT ⟨s.toArray⟩ w,params:=#[8,9],assign:=rdAsg,body:=rdBody,defers:=(rdW ⟨s.toArray⟩ w).heap.size }:=⟨_,rfl⟩
 have hsz:(rdW ⟨s.toArray⟩ w).heap.size=w.heap.size+2:=by simp [rdW]
 obtain⟨w1,hw1⟩:∃ w1,((rdW ⟨s.toArray⟩ w).alloc (.deferred (some []))).alloc (.loop rec)=w1:=⟨_,rfl⟩
 have hD1:w1.heap[w.heap.size+2]?=some (.deferred (some [])):=by
  rw [← hw1,heap_alloc,if_neg (by simp [hsz]),heap_alloc,if_pos hsz.symm]
 have hL1:w1.heap[w.heap.size+3]?=some (.loop rec):=by
  rw [← hw1,heap_alloc,if_pos (by simp [hsz])]
 have hw1s:w1.heap.size=w.heap.size+4:=by rw [← hw1];simp [hsz]
 have hS3:Sits (CtxE Tryz.prog G w F β (lvOf [] [])) F β2 (LVr s .nilsl) w1:=by
  rw [← hw1];exact (hS2.allocFar _).allocFar _
 have hS4:Sits (CtxE Tryz.prog G w1 F β2 (LVr s .nilsl)) F β2 (LVr s .nilsl) w1:=StOK.enterG hS3 (LVr_allOk _ _)
 have hFw:∀ b,F b→b<w.heap.size:=fun b hb=>(hS.Flt b hb).1
 have hnot:∀ b,w.heap.size+2≤b→∀ k,(LVr s .nilsl k).live=true→β2 k≠b:=by
  intro b hb k hk he
  by_cases h1:k=1
  ·grind
  ·by_cases h0:k=0
   ·grind
   ·rw [show LVr s .nilsl k=.hole by unfold LVr upd;grind] at hk;cases hk
 refine⟨w.heap.size+3,[{ target:=.collected (w.heap.size+2),args:=#[] }],w1,{ target:=.fn (.func 177) #[.pointer (some ⟨w.heap.size+1,0,none⟩)],args:=#[.func (.yield (w.heap.size+3)) #[] #[]] },w1,177,
  #[.func (.yield (w.heap.size+3)) #[] #[]]++#[.pointer (some ⟨w.heap.size+1,0,none⟩)],w1,?_,?_,fun _ _=>trivial,?_,(fun h=>by simp [Fence.wide] at h),?_⟩
 ·have:=run_enterLoop_outer (P:=Tryz.prog) (w:=rdW ⟨s.toArray⟩ w) fn (rdT ⟨s.toArray⟩ w) #[8,9] rdAsg rdBody
  simp_all
 ·have hg:(Act.eval ⟨rdT ⟨s.toArray⟩ w,[]⟩ (.tmp 7))=.func (.func 177) #[] #[.pointer (some ⟨w.heap.size+1,0,none⟩)]:=rfl
  simp only [resolve,hg]
  simp [go_sem]
 ·have:=run_callFunc (P:=Tryz.prog) (f:=177) (by kernel_rfl) (#[.func (.yield (w.heap.size+3)) #[] #[]]++#[.pointer (some ⟨w.heap.size+1,0,none⟩)]) w1
  simpa [invoke,go_sem] using this
 ·refine (callsIn_wide (n:=0)).2 ?_
  let Y:AV:=.c (.d (.func (.yield (w.heap.size+3)) [] []))
  have hit:=calls_at (κ:=0) (lv':=LVr [] (nD (oO (!s.isEmpty) (decN s 0)))) (args:=[Y,.c (.ptr 0 0)]) (vs:=#[.func (.yield (w.heap.size+3)) #[] #[]]++#[.pointer (some ⟨w.heap.size+1,0,none⟩)]) Tryz.func177 itBody_eq (by simp) rfl hS4 rfl (fun i p q=>by
   have:i=0∨i=1:=by simp at p;omega
   rcases this with rfl|rfl
   ·exact⟨.func _ _ _ _ _ rfl rfl (fun i h=>absurd h (Nat.not_lt_zero i)) (fun i h=>absurd h (Nat.not_lt_zero i)),rfl⟩
   ·refine⟨?_,rfl⟩
    simp only [Vw.atPtr,LVr_0,e0]
    rfl) (iter_aw G s hD hlen Y rfl _ rfl rfl rfl ?_)
  ·refine hit.mono fun e w3 he=>?_
   obtain⟨⟨v,rfl⟩,F3,β3,hX⟩:=he
   have hold:∀ b,w.heap.size+2≤b→b<w1.heap.size→w3.heap[b]?=w1.heap[b]?:=fun b h1 h2=>hX.old b h2 (fun⟨k,hk,he⟩=>hnot b h1 k hk he)
   have hL3:w3.heap[w.heap.size+3]?=some (.loop rec):=(hold _ (by omega) (by omega)).trans hL1
   have hD3:w3.heap[w.heap.size+2]?=some (.deferred (some [])):=(hold _ (by omega) (by omega)).trans hD1
   have hF3:∀ b,w.heap.size+2≤b→b<w1.heap.size→¬ F3 b:=by
    intro b h1 h2 hb
    rcases (hX.Flt _ hb).2 with h|h
    ·have:=hFw _ h;omega
    ·have:w1.heap.size≤b:=h
     omega
   have hlv3:∀ b,w.heap.size+2≤b→b<w1.heap.size→∀ k,(LVr [] (nD (oO (!s.isEmpty) (decN s 0))) k).live=true→β3 k≠b:=by
    intro b h1 h2 k hk he
    rcases hX.live_own (k:=k) hk with h|⟨j,hj,hj2⟩
    ·have:w1.heap.size≤β3 k:=h
     omega
    ·grind
   have hc1:β3 1=w.heap.size:=by
    have h0:LVr s DV.nilsl 1≠.hole:=by simp
    rcases hX.keep 1 h0 with h|⟨h,_⟩
    ·simp at h
    ·rw [h];exact e1
   have q1:StOK { CtxE Tryz.prog G w F β (lvOf [] []) with n:=0 } F3 β3 ⟨fun _=>.junk,LVr [] (nD (oO (!s.isEmpty) (decN s 0)))⟩ ⟨#[],[]⟩ w3:=hS3.backG hX
   have q2:=q1.putFar (.loop { rec with state:=.exhausted }) hL3 (fun _ _ _ h=>by cases h) (hF3 _ (by omega) (by omega)) (hlv3 _ (by omega) (by omega)) (.inl (by show w.heap.size≤_;omega))
   have hD4:(w3.putObj (w.heap.size+3) (.loop { rec with state:=.exhausted })).heap[w.heap.size+2]?=some (.deferred (some [])):=(World.putObj_heap_other (by omega)).trans hD3
   have q3:=q2.putFar (.deferred none) hD4 (fun _ _ _ h=>by cases h) (hF3 _ (by omega) (by omega)) (hlv3 _ (by omega) (by omega)) (.inl (by show w.heap.size≤_;omega))
   have hb:=q2.blk 1
   unfold Vw.blk at hb
   simp only [LVr_1] at hb
   obtain⟨arr,b1,b2,b3,_⟩:=hb
   have hpos:0<arr.size:=by simp at b2;omega
   have h0:=b3 0 (by simp) hpos
   simp only [List.getElem_cons_zero] at h0
   refine⟨none,w3.putObj (w.heap.size+3) (.loop { rec with state:=.exhausted }),?_,rfl,w.heap.size+2,arr[0],rfl,hD4,?_,arr[0],F3,β3,rfl,?_,?_⟩
   ·have:=run_endLoop (P:=Tryz.prog) hL3 (by grind)
    grind
   ·rw [hc1] at b1
    simp only [World.cell?]
    grind
   ·refine⟨fun k=>?_,fun k k' h=>?_,fun _=>trivial,rfl,rfl,q3.Flt,q3.F0,q3.old,q3.ge,q3.glob,fun k h=>?_,q3.asz,q3.oso⟩
    ·unfold Vw.blk;grind
    ·rw [hlv] at h;cases h
    ·exact absurd (by rw [hlv];rfl) h
   ·have hR:∀ x,(Vw.mk F3 β3 (LVr [] (nD (oO (!s.isEmpty) (decN s 0)))) (w3.putObj (w.heap.size+3) (.loop { rec with state:=.exhausted }))).cv arr[0] (.d x)→(Vw.mk F3 β3 (lvOf [] []) ((w3.putObj (w.heap.size+3) (.loop { rec with state:=.exhausted })).putObj (w.heap.size+2) (.deferred none))).av arr[0] (.c (.d x)):=by
     rintro x ⟨g1,g2⟩
     refine⟨Rd.mono (memF_le (fun _ h=>h) (fun b hb=>?_)) g1,g2⟩
     refine World.putObj_heap_other (fun e=>?_)
     subst e
     exact hF3 _ (by omega) (by omega) hb
    rw [← nD_nK]
    grind
  ·intro u n st v sz L fr ops o cl hv hz hst hL hn hdst hg ho hcal hargs f29 f30 f31
   rw [← hdst]
   refine SimW.yield (xs:=[.c (.d (.int .u32 v)),.c (.d (.int .u32 sz))]) (fun d hd=>?_) hg ho hcal f29 (by simp_all) (by grind) hL1 (fun k hk=>hnot _ (by omega) k hk) (LVr_allOk _ _) ?_
   ·rw [hdst] at hd;cases hd;simp
   intro F' β' w' vs' hX hXe hl' hvs hav
   obtain⟨x,y,rfl,hx,hy⟩:=args2 hvs hav
   have ht:(rec.params.zip #[x,y]).foldl (fun tmps (t,a)=>tmps.setIfInBounds t a) rec.tmps=((rdT ⟨s.toArray⟩ w).setIfInBounds 8 x).setIfInBounds 9 y:=by rw [hrec];simp only [List.zip_toArray,List.zip_cons_cons,List.zip_nil_right,List.foldl_toArray,List.foldl_cons,List.foldl_nil]
   rw [ht]
   have hb1:β' 1=w.heap.size:=by
    have h0:LVr s DV.nilsl 1≠.hole:=by simp
    rcases hX.keep 1 h0 with h|⟨h,_⟩
    ·simp at h
    ·rw [h];exact e1
   have hFl:¬ F' (w.heap.size+3):=by
    intro hb
    rcases (hX.Flt _ hb).2 with h|h
    ·have:=hFw _ h;omega
    ·have:w1.heap.size≤w.heap.size+3:=h
     omega
   let fr0:Nat→AV:=fun t=>if t=3 then .c (.ptr 1 0) else if t=8 then .c (.d (.int .u32 v)) else if t=9 then .c (.d (.int .u32 sz)) else .junk
   have hval:val 4294967296 (dO (oO st n))=n:=by
    cases st with
    | false=>have:=hst rfl;subst this;rfl
    | true=>exact dig_val (by decide) n
   have hlenO:(dO (oO st n)).length≤L:=by
    cases st with
    | false=>simp [oO,dO]
    | true=>exact dig_len_le (by decide) hn
   refine round_of_AW (lv1:=LVr u (nD (oO st n))) (n:=20) (κ:=0) (fr:=fr0) (fr2:=upd (upd fr0 4 (.c (.d (.int .u32 v)))) 5 (.c (.d (.int .u32 sz)))) hXe (LVr_allOk _ _) (LVr_allOk _ _) hl' (by rw [hrec]) (by rw [hrec]) (by simp [rdT]) (fun t=>?_) hFl ?_ ?_
   ·show (Vw.mk F' β' _ w').av _ (if t=3 then .c (.ptr 1 0) else if t=8 then .c (.d (.int .u32 v)) else if t=9 then .c (.d (.int .u32 sz)) else .junk)
    by_cases h3:t=3
    ·subst h3
     simp only [if_true]
     have:(((rdT ⟨s.toArray⟩ w).setIfInBounds 8 x).setIfInBounds 9 y).getD 3 undef=.pointer (some ⟨w.heap.size,0,none⟩):=rfl
     rw [this]
     refine⟨?_,rfl⟩
     simp only [Vw.atPtr,LVr_1,hb1]
    ·by_cases h8:t=8
     ·subst h8
      exact hx
     ·by_cases h9:t=9
      ·subst h9
       exact hy
      ·simp only [h3,h8,h9,if_false]
       trivial
   ·intro c hP hG hn' _
    rw [hrec]
    exact read_asg G v sz _ _ fr0 rfl rfl c hP hG hn'
   ·intro c hP hG hn' _
    rw [hrec]
    have:=read_body G v sz hv hz (oO st n) (nD (oO st n)) (nD_nK _) (by omega) L (by omega) (by omega) u (some (w.heap.size+3)) (upd (upd fr0 4 (.c (.d (.int .u32 v)))) 5 (.c (.d (.int .u32 sz)))) (by rfl) (by simp [upd]) (by simp [upd]) c hP hG hn'
    rw [hval] at this
    exact this
end Go.Am
namespace Go.Am
open Go.Proofs N
theorem cv_pure_any {V V':Vw}(hm:∀ a v,V.mem a v→V'.mem a v) {v:Value}{x:CV}(hx:x.pure=true) (h:V.cv v x):V'.cv v x:=by
 cases x with
 | d x=>exact⟨Rd.mono hm h.1,h.2⟩
 | junk=>exact h
 | _=>cases hx
theorem av0_pure_any {V V':Vw}(hm:∀ a v,V.mem a v→V'.mem a v) {v:Value}{x:AV}(hx:x.pure0=true) (h:V.av0 v x):V'.av0 v x:=by
 cases x with
 | c x=>exact cv_pure_any hm hx h
 | agg cs=>
  obtain⟨arr,h1,h2,h3⟩:=h
  refine⟨arr,h1,h2,fun i p q=>cv_pure_any hm ?_ (h3 i p q)⟩
  simp only [AV.pure0,List.all_eq_true] at hx
  grind
 | tup l=>exact h.elim
 | undef=>exact h
 | junk=>trivial
theorem av_pure_any {V V':Vw}(hm:∀ a v,V.mem a v→V'.mem a v) {v:Value}{x:AV}(hx:x.pure=true) (h:V.av v x):V'.av v x:=by
 cases x with
 | tup l=>
  obtain⟨arr,h1,h2,h3⟩:=h
  refine⟨arr,h1,h2,fun i p q=>av0_pure_any hm ?_ (h3 i p q)⟩
  simp only [AV.pure,List.all_eq_true] at hx
  grind
 | c x=>
  have hx':(AV.c x).pure0=true:=hx
  exact av0_pure_any (x:=.c x) hm hx' h
 | agg cs=>
  have hx':(AV.agg cs).pure0=true:=hx
  exact av0_pure_any (x:=.agg cs) hm hx' h
 | undef=>exact h
 | junk=>trivial
theorem CallG.of_CallsP {P:Program}{G:List (List DV)}{f:FuncId}{us:List AV}{lv:Key→LB}{x:AV}(hus:∀ u∈us,u.pure=true) (hx:x.pure=true) (h:CallsP P G f us x):CallG P G f us lv (.ret x lv):=by
 intro F β w vs hS hl hv
 have hlv:lvOf [] []=fun _=>LB.hole:=lvOf_nil'
 have hS0:Sits (CtxE P G w F β (lvOf [] [])) F β (lvOf [] []) w:=by
  rw [hlv]
  exact⟨fun k=>trivial,fun k k' h=>(by cases h),fun _=>trivial,rfl,rfl,fun b hb=>⟨(hS.Flt b hb).1,.inl hb⟩,fun _ hb=>hb,fun _ _ _=>rfl,Nat.le_refl _,hS.glob,fun k hk=>absurd rfl hk,fun _=>Nat.le_refl _,⟨rfl,rfl⟩⟩
 refine (h F β w vs hS0 hl (fun i p q=>av_pure_any (V:=Vw.mk F β lv w) (V':=Vw.mk F β (lvOf [] []) w) (fun _ _ h=>h) (hus _ (List.getElem_mem p)) (hv i p q))).mono fun e w' he=>?_
 obtain⟨v,F',β',rfl,hX,hav⟩:=he
 have hold:∀ b,b<w.heap.size→w'.heap[b]?=w.heap[b]?:=fun b hb=>hX.old b hb (by
  rintro⟨k,hk,_⟩
  rw [hlv] at hk;cases hk)
 have hFl:∀ b,F' b→F b∨w.heap.size≤b:=fun b hb=>(hX.Flt b hb).2
 refine⟨v,F',β,rfl,?_,av_pure_any (V:=Vw.mk F' β' (lvOf [] []) w') (V':=Vw.mk F' β lv w') (fun _ _ h=>h) hx hav⟩
 refine StOK.step (hoo:=hX.oso) (c:={ CtxE P G w F β lv with n:=0 }) (s:=⟨fun _=>.junk,lv⟩) hS hX.F0 (fun b hb=>hold b (hS.Flt b hb).1) (fun k=>LB.sub_refl _) (fun _ _ _=>rfl) hX.asz ?_ hS.inj (fun b hb=>(hFl b hb).imp id fun h=>⟨(hX.Flt b hb).1,h⟩) hX.ge (fun b hb _=>hold b hb)
 intro k hK
 have hb:=hS.blk k
 have key:(lv k).live=true→(Vw.mk F' β lv w').blk { CtxE P G w F β lv with n:=0 } k:=fun hl=>
  Vw.blk_keep hb hK rfl rfl (hold _ (hS.live_lt hl)) (fun _ hf=>by
   rcases hFl _ hf with h|h
   ·exact h
   ·have:=hS.live_lt (k:=k) hl
    grind)
 cases e:lv k with
 | cells own fz T cs=>
  cases fz with
  | false=>exact key (by rw [e];rfl)
  | true=>
   unfold Vw.blk at hb ⊢;simp only [e] at hb ⊢
   obtain⟨arr,b1,b2,b3,b4,b5⟩:=hb
   simp only [if_true] at b4 ⊢
   exact⟨arr,by grind,b2,fun i p q=>hK.cv (b3 i p q),hX.F0 _ b4,b5⟩
 | map own es=>exact key (by rw [e];rfl)
 | hole=>unfold Vw.blk;grind
 | dead=>unfold Vw.blk;grind
 | nils=>unfold Vw.blk;grind
noncomputable def setS (f:Nat)(x:Spec)(t:Tb Spec):Tb Spec:=t.set .body x (pathOf f)
theorem setS_get (f j:Nat)(x:Spec)(t:Tb Spec):(setS f x t).get .body (pathOf j)=if j=f then x else t.get .body (pathOf j):=by
 have:Decidable (pathOf j=pathOf f):=Classical.propDecidable _
 unfold setS
 rw [Tb.get_set]
 by_cases e:j=f
 ·grind
 ·rw [if_neg e,if_neg (fun h=>e (pathOf_inj h))]
def allD:List UInt8→Bool
 | []=>true
 | c::l=>(Nat.ble 48 c.toNat && Nat.ble c.toNat 57) && allD l
theorem allD_isD:∀ {l:List UInt8},allD l=true→isD l
 | [],_=>fun c hc=>by cases hc
 | c::l,h=>by
  simp only [allD,Bool.and_eq_true] at h
  intro d hd
  rcases List.mem_cons.1 hd with rfl|hd
  ·simp_all
  ·exact allD_isD h.2 d hd
def gRead:List AV→Option AV
 | [.c (.d (.str s))]=>bif allD s && Nat.ble s.length 1000000000 then some (nK .u32 (oO (!s.isEmpty) (decN s 0))) else none
 | _=>none
theorem gRead_ok (m:Int){us:List AV}{x:AV}(h:gRead us=some x) (lv:Key→LB):CallG Tryz.prog (GG m) 77 us lv (.ret x lv):=by
 unfold gRead at h
 split at h
 ·rename_i s
  cases hb:allD s && Nat.ble s.length 1000000000 with
  | false=>rw [hb] at h;cases h
  | true=>
   rw [hb] at h
   simp only [cond_true,Option.some.injEq] at h
   subst h
   simp only [Bool.and_eq_true] at hb
   exact CallG.of_CallsP (fun u hu=>by simp_all) (by simp) (exact_read_ok (GG m) s (allD_isD hb.1) (Nat.le_of_ble_eq_true hb.2))
 ·cases h
noncomputable def spA:Tb Spec:=setS 141 (.self bOK) (setS 169 (.pure gIndex) (setS 208 (.pure gIndexB) (setS 77 (.pure gRead) .leaf)))
theorem spA_get (f:Nat):spA.get .body (pathOf f)=if f=141 then .self bOK else if f=169 then .pure gIndex else if f=208 then .pure gIndexB else if f=77 then .pure gRead else .body:=by
 unfold spA
 simp only [setS_get,Tb.get_leaf]
theorem spA_ok (m:Int):SpecOK Tryz.prog (GG m) spA 0 where
 pure:=by
  intro f g us x h hg lv ho
  rw [spA_get] at h
  split at h
  ·cases h
  split at h
  ·rename_i e;subst e;cases h;exact gIndex_ok m hg lv
  split at h
  ·rename_i e;subst e;cases h;exact gIndexB_ok m hg lv
  split at h
  ·rename_i e;subst e;cases h;exact gRead_ok m hg lv
  ·cases h
 caughtR:=by
  intro f h
  rw [spA_get] at h
  repeat (split at h;· cases h)
  cases h
 caughtP:=by
  intro f h
  rw [spA_get] at h
  repeat (split at h;· cases h)
  cases h
 selfN:=by
  intro f g h lv k off T cs r ho hok hk hc
  rw [spA_get] at h
  split at h
  ·rename_i e;subst e;cases h;exact self_fresh m lv k off T cs r hok hk hc
  ·repeat (split at h;· cases h)
   cases h
 live:=by
  intro f g us lv x h
  rw [spA_get] at h
  repeat (split at h;· cases h)
  cases h
 selfP:=by
  intro f g h lv k off T cs r ho hok hk hc
  rw [spA_get] at h
  split at h
  ·rename_i e;subst e;cases h;exact self_used m lv k off T cs r hk hc
  ·repeat (split at h;· cases h)
   cases h
theorem evA_ok (m:Int)(n:Nat):CallOK Tryz.prog (GG m) (evK Tryz.prog (GG m) spA 0 n):=evK_ok mixed (spA_ok m) n
end Go.Am
namespace Go.Am
open Go.Proofs
def dRes (lv:Key→LB):AV→Option (AV × List Key)
 | .tup l=>(dArgs lv l).map fun p=>(.tup p.1,p.2)
 | x=>dArg lv x
theorem dRes_keys {lv:Key→LB}{x y:AV}{ks:List Key}(h:dRes lv x=some (y,ks)):∀ k∈ks,∃ own fz T cs,lv k=.cells own fz T cs:=by
 cases x with
 | tup l=>
  simp only [dRes,Option.map_eq_some_iff] at h
  obtain⟨⟨ys,ks'⟩,h1,h2⟩:=h
  simp only [Prod.mk.injEq] at h2
  obtain⟨rfl,rfl⟩:=h2
  exact dArgs_keys h1
 | c x=>exact dArg_keys (x:=.c x) h
 | agg x=>exact dArg_keys (x:=.agg x) h
 | undef=>cases h
 | junk=>cases h
theorem dArg_av0 {V:Vw}{lv:Key→LB}{x y:AV}{ks:List Key}{v:Value}(h:dArg lv x=some (y,ks)) (hv:V.av v y):V.av0 v y:=by
 cases x with
 | c x=>
  simp only [dArg,Option.map_eq_some_iff] at h
  obtain⟨p,_,h2⟩:=h
  simp only [Prod.mk.injEq] at h2
  obtain⟨rfl,rfl⟩:=h2
  exact hv
 | agg cs=>
  simp only [dArg,Option.map_eq_some_iff] at h
  obtain⟨p,_,h2⟩:=h
  simp only [Prod.mk.injEq] at h2
  obtain⟨rfl,rfl⟩:=h2
  exact hv
 | _=>cases h
theorem Sits.dRes {c:Ctx}{F Fz:Nat→Prop}{β:Key→Nat}{s:LSt}{w:World}(h:Sits c F β s.lv w) (hF:∀ b,F b→Fz b) {β':Key→Nat}{lv':Key→LB}{x y:AV}{ks:List Key}{v:Value}(ht:Am.dRes s.lv x=some (y,ks))
 (hk:∀ k∈ks,Fz (β k)) (hv:(Vw.mk F β s.lv w).av v x):(Vw.mk Fz β' lv' w).av v y:=by
 cases x with
 | tup l=>
  simp only [Am.dRes,Option.map_eq_some_iff] at ht
  obtain⟨⟨ys,ks'⟩,h1,h2⟩:=ht
  simp only [Prod.mk.injEq] at h2
  obtain⟨rfl,rfl⟩:=h2
  obtain⟨g1,g2⟩:=dArgs_get h1
  obtain⟨arr,a1,a2,a3⟩:=hv
  refine⟨arr,a1,by omega,fun i p q=>?_⟩
  obtain⟨k,h3,h4⟩:=g2 i p (by omega)
  have hx:(Vw.mk F β s.lv w).av arr[i] (l[i]'(by omega)):=by
   have:=a3 i (by omega) q
   generalize l[i]'(by omega)=z at this h3
   cases z with
   | tup l=>cases h3
   | _=>exact this
  exact dArg_av0 h3 (h.dArg hF h3 (fun k' hk'=>hk k' (h4 k' hk')) hx)
 | c x=>exact h.dArg (x:=.c x) hF ht hk hv
 | agg cs=>exact h.dArg (x:=.agg cs) hF ht hk hv
 | undef=>cases ht
 | junk=>cases ht
theorem CallsP.of_CallG {P:Program}{G:List (List DV)}{f:FuncId}{us:List AV}{X X':AV}{lv':Key→LB}{ks:List Key}(h:CallG P G f us (fun _=>.hole) (.ret X lv')) (hd:dRes lv' X=some (X',ks)):CallsP P G f us X':=by
 intro F β w vs hS hl hv
 have hlv:lvOf [] []=fun _=>LB.hole:=lvOf_nil'
 rw [hlv] at hS hv
 refine (h F β w vs hS hl hv).mono fun e w' he=>?_
 obtain⟨v,F',β',rfl,hX,hav⟩:=he
 have hFz:∀ b,F' b→(F' b∨∃ k∈ks,b=β' k):=fun b hb=>.inl hb
 refine⟨v,fun b=>F' b∨∃ k∈ks,b=β' k,β',rfl,?_,?_⟩
 ·rw [hlv]
  refine⟨fun k=>trivial,fun k k' h=>(by cases h),fun _=>trivial,rfl,rfl,fun b hb=>?_,fun b hb=>.inl (hX.F0 b hb),fun b hb hW=>hX.old b hb (by omega),hX.ge,fun g cs hg=>Rd.mono (memF_le hFz (fun _ _=>rfl)) (hX.glob g cs hg),fun k hk=>absurd rfl hk,hX.asz,hX.oso⟩
  rcases hb with hb|⟨k,hk,rfl⟩
  ·exact hX.Flt b hb
  ·obtain⟨own,fz,T,cs',e⟩:=dRes_keys hd k hk
   have hlt:β' k<w'.heap.size:=StOK.cells_lt hX e
   cases fz with
   | false=>
    refine⟨hlt,?_⟩
    rcases hX.live_own (k:=k) (by show (lv' k).live=true;rw [e];rfl) with h1|⟨j,hj,_⟩
    ·omega
    ·cases hj
   | true=>
    have hb:=hX.blk k
    unfold Vw.blk at hb
    simp only [e] at hb
    obtain⟨arr,b1,b2,b3,b4,b5⟩:=hb
    simp only [if_true] at b4
    exact hX.Flt _ b4
 ·exact Sits.dRes (s:=⟨fun _=>.junk,lv'⟩) hX hFz hd (fun k hk=>.inr ⟨k,hk,rfl⟩) hav
noncomputable def kDone:KRet:=fun x lv nx lg=>.done x lv nx []
noncomputable def finK (r:Res):Option AV:=
 Res.rec (motive:=fun _=>Option AV) (fun _ _=>none) (fun x lv _ _=>(dRes (lvT' lv) x).map (·.1)) (fun _ _ _ _=>none) r
theorem CallsP.of_ev {P:Program}{G:List (List DV)}{ev:EvCall2}(hc:CallOK P G ev) {f:FuncId}{us:List AV}{X':AV}(h:finK (ev f us .leaf 0 [] kDone .pan)=some X'):CallsP P G f us X':=by
 have h0:AllOk (lvT' .leaf):=fun k=>by simp [lvT',Tb.get_leaf,LB.okB]
 have e0:lvT' .leaf=fun _=>LB.hole:=by funext k;simp [lvT',Tb.get_leaf]
 generalize hr:ev f us .leaf 0 [] kDone .pan=r at h
 cases r with
 | bad n o=>cases h
 | pan d lv nx lg=>cases h
 | done X LV nx lg=>
  rcases hc f us .leaf 0 [] kDone .pan _ hr (fun n o h=>by cases h) h0 with ⟨x,lv',nx',l,q1,q2,_⟩|⟨d,lv',nx',l,q1,_⟩
  ·simp only [kDone,Res.done.injEq] at q1
   obtain⟨rfl,rfl,_,_⟩:=q1
   rw [e0] at q2
   have h1:(dRes (lvT' lv') x).map (·.1)=some X':=h
   obtain⟨⟨y,ks⟩,h2,h3⟩:=Option.map_eq_some_iff.1 h1
   simp only at h3
   subst h3
   exact CallsP.of_CallG q2 h2
  grind
end Go.Am
namespace Go.Am
def FinC (c:Ctx)(fn:Func)(x:AV):Ex→LSt→Nat→Prop
 | .normal,s,_|.ret,s,_=>resA c.P s fn.results.toList=some x
 | _,_,_=>False
def FinD (c:Ctx)(fn:Func)(x:AV):Ex→LSt→Nat→Prop
 | .normal,s,_|.ret,s,_=>∃ X ks,resA c.P s fn.results.toList=some X∧dRes s.lv X=some (x,ks)
 | _,_,_=>False
theorem CallsP.of_AWd {P:Program}{G:List (List DV)}{f:FuncId}{fn:Func}{code:Code}{args:List AV}{x:AV}(hf:P.funcs[f]?=some fn) (hb:fn.body=some code) (hl:args.length≤fn.ntmps)
 (h:∀ c:Ctx,c.P=P→c.G=G→c.n=fn.ntmps→c.lv0=(fun _=>.hole)→AW c none code ⟨fun t=>args.getD t .undef,fun _=>.hole⟩ 0 (FinD c fn x)):CallsP P G f args x:=by
 intro F β w vs hS hvl hv
 have hlv:lvOf [] []=fun _=>LB.hole:=lvOf_nil'
 rw [hlv] at hS hv
 refine enter_wp hf hb hl hS hvl hv (h _ rfl rfl rfl rfl) (fun e s κ hq=>by cases e <;> first|exact .inl rfl|exact .inr rfl|exact hq.elim) fun e s' κ F' β' a' w' hq hX0=>?_
 obtain⟨X,ks,h0,hd⟩:∃ X ks,resA P s' fn.results.toList=some X∧dRes s'.lv X=some (x,ks):=by cases e <;> first|exact hq|exact hq.elim
 obtain⟨v,h4,hav⟩:=resA_run hX0 h0
 have hX:Sits (CtxE P G w F β (fun _=>.hole)) F' β' s'.lv w':=hX0.sits
 have hFz:∀ b,F' b→(F' b∨∃ k∈ks,b=β' k):=fun b hb=>.inl hb
 refine⟨hX0.defers,v,h4,v,fun b=>F' b∨∃ k∈ks,b=β' k,β',rfl,?_,?_⟩
 ·rw [hlv]
  refine⟨fun k=>trivial,fun k k' h=>(by cases h),fun _=>trivial,rfl,rfl,fun b hb=>?_,fun b hb=>.inl (hX.F0 b hb),fun b hb hW=>hX.old b hb (by omega),hX.ge,fun g cs hg=>Rd.mono (memF_le hFz (fun _ _=>rfl)) (hX.glob g cs hg),fun k hk=>absurd rfl hk,hX.asz,hX.oso⟩
  rcases hb with hb|⟨k,hk,rfl⟩
  ·exact hX.Flt b hb
  ·obtain⟨own,fz,T,cs',e⟩:=dRes_keys hd k hk
   have hlt:β' k<w'.heap.size:=StOK.cells_lt hX e
   cases fz with
   | false=>
    refine⟨hlt,?_⟩
    rcases hX.live_own (k:=k) (by show (s'.lv k).live=true;rw [e];rfl) with h1|⟨j,hj,_⟩
    ·omega
    ·cases hj
   | true=>
    have hb:=hX.blk k
    unfold Vw.blk at hb
    simp only [e] at hb
    obtain⟨arr,b1,b2,b3,b4,b5⟩:=hb
    simp only [if_true] at b4
    exact hX.Flt _ b4
 ·rw [hlv]
  exact Sits.dRes (s:=⟨fun _=>.junk,s'.lv⟩) hX hFz hd (fun k hk=>.inr ⟨k,hk,rfl⟩) hav
theorem FinC.d {c:Ctx}{fn:Func}{x:AV}{e:Ex}{s:LSt}{κ:Nat}(hx:dRes s.lv x=some (x,[])) (h:FinC c fn x e s κ):FinD c fn x e s κ:=by
 cases e <;> first|exact⟨x,[],h,hx⟩|exact h.elim
theorem CallsP.of_AWc {P:Program}{G:List (List DV)}{f:FuncId}{fn:Func}{code:Code}{args:List AV}{x:AV}(hf:P.funcs[f]?=some fn) (hb:fn.body=some code) (hl:args.length≤fn.ntmps)
 (hx:∀ lv,dRes lv x=some (x,[]))
 (h:∀ c:Ctx,c.P=P→c.G=G→c.n=fn.ntmps→AW c none code ⟨fun t=>args.getD t .undef,fun _=>.hole⟩ 0 (FinC c fn x)):CallsP P G f args x:=
 CallsP.of_AWd hf hb hl fun c h1 h2 h3 _=>(h c h1 h2 h3).mono fun e s κ hq=>FinC.d (hx _) hq
theorem CallsP.enc {P:Program}{G:List (List DV)}{f:FuncId}{fn:Func}{code:Code}{args:List AV}{x:AV}(hf:P.funcs[f]?=some fn) (hb:fn.body=some code) (hx:∀ lv,dRes lv x=some (x,[]))
 (h:∀ z:Ev,AW ⟨P,G,z.w,z.F,z.W,fn.ntmps,z.q,z.b,z.d⟩ none code ⟨fun t=>args.getD t .undef,fun _=>.hole⟩ 0 (FinC ⟨P,G,z.w,z.F,z.W,fn.ntmps,z.q,z.b,z.d⟩ fn x)) (hl:Nat.ble args.length fn.ntmps=true:=by kernel_rfl):CallsP P G f args x:=
 CallsP.of_AWc hf hb (Nat.le_of_ble_eq_true hl) hx fun⟨_,_,w,F,W,_,q,b,d⟩ h1 h2 h3=>by cases h1;cases h2;cases h3;exact h ⟨w,F,W,q,b,d⟩
end Go.Am
namespace Go.Am
open Go.Am.Ty Go.Proofs N
def nC:Option (List Nat)→CV
 | none=>.d .nilsl
 | some l=>.d (.sl (dK .u32 l))
theorem nK_nC (o:Option (List Nat)):nK .u32 o=.c (nC o):=by cases o <;> rfl
@[simp] theorem nC_dArg (lv:Key→LB)(b:Bool)(p q:Option (List Nat)):dRes lv (.agg [.d (.bool b),nC p,nC q])=some (.agg [.d (.bool b),nC p,nC q],[]):=by
 cases p <;> cases q <;> rfl
@[simp] theorem nC_pure (o:Option (List Nat)):(nC o).pure=true:=by cases o <;> rfl
@[simp] theorem nC_flat1 (o:Option (List Nat)):(AV.c (nC o)).flat1=true:=by cases o <;> rfl
@[simp] theorem nC_apure (o:Option (List Nat)):(AV.c (nC o)).pure=true:=by cases o <;> rfl
theorem FinC.cell {c:Ctx}{fn:Func}{x:AV}{t k off:Nat}{T U:TypeId}{own fz:Bool}{cs:List CV}{s:LSt}{κ:Nat}(hr:fn.results=#[.cell t T]) (ht:s.fr t=.c (.ptr k off)) (hk:s.lv k=.cells own fz U cs)
 (hx:loadA c.P T (cs.drop off)=some x):FinC c fn x .ret s κ:=by
 show resA c.P s fn.results.toList=some x
 rw [hr]
 simp [resA,resL,resV,ht,hk,hx]
theorem FinC.cell2 {c:Ctx}{fn:Func}{x y:AV}{t u k off:Nat}{T U:TypeId}{own fz:Bool}{cs:List CV}{s:LSt}{κ:Nat}(hr:fn.results=#[.cell t T,.tmp u]) (ht:s.fr t=.c (.ptr k off)) (hk:s.lv k=.cells own fz U cs)
 (hx:loadA c.P T (cs.drop off)=some x) (hy:s.fr u=y) (hn:x.noTup=true) (hm:y.noTup=true):FinC c fn (.tup [x,y]) .ret s κ:=by
 show resA c.P s fn.results.toList=some _
 rw [hr]
 simp [resA,resL,resV,ht,hk,hx,hy,hn,hm]
attribute [local irreducible] FinC
theorem bNum0:buildA Tryz.prog 27 [] []=some (.agg [.d (.bool false),.d .nilsl,.d .nilsl],[],[],True):=by kernel_rfl
theorem bNum (b p q:CV):buildA Tryz.prog 27 [0,1,2] [.c b,.c p,.c q]=some (.agg [b,p,q],[],[],True):=by kernel_rfl
theorem loadNum (b p q:CV):loadA Tryz.prog 27 [b,p,q]=some (.agg [b,p,q]):=by kernel_rfl
abbrev nmA (neg:Bool)(p q:Option (List Nat)):AV:=.agg [.d (.bool neg),nC p,nC q]
def gO (p q:Option (List Nat)):Option (List Nat):=gcdO p q (val 4294967296 (dO q))
def mP (p q:Option (List Nat)):Option (List Nat):=if val 4294967296 (dO q)=1 then p else if val 4294967296 (dO (gO p q))=1 then p else divQ p (gO p q)
def mQ0 (p q:Option (List Nat)):Option (List Nat):=if val 4294967296 (dO q)=1 then q else if val 4294967296 (dO (gO p q))=1 then q else divQ q (gO p q)
def mQ (p q:Option (List Nat)):Option (List Nat):=if val 4294967296 (dO (mQ0 p q))=1 then none else mQ0 p q
def madeA (neg:Bool)(p q:Option (List Nat)):AV:=if dO p=[] then nmA false none none else nmA neg (mP p q) (mQ p q)
theorem madeA_dRes (lv:Key→LB)(neg:Bool)(p q:Option (List Nat)):dRes lv (madeA neg p q)=some (madeA neg p q,[]):=by
 unfold madeA;split <;> exact nC_dArg ..
theorem exact_made_ok (G:List (List DV))(neg:Bool)(p q:Option (List Nat))(hp:can 4294967296 (dO p))(hq:can 4294967296 (dO q))(hq0:dO q≠[])(hl:(dO p).length<1000000000000)(hl':(dO q).length<1000000000000) :
 CallsP Tryz.prog G 38 [.c (.d (.bool neg)),nK .u32 p,nK .u32 q] (madeA neg p q):=by
 have hgd:=gcdO_d hp hq
 have hgc:can 4294967296 (dO (gO p q)):=by unfold gO;rw [hgd];exact dig_can (by decide) _
 have hqv:0<val 4294967296 (dO q):=can_pos hq hq0
 have hg0:dO (gO p q)≠[]:=by
  unfold gO;rw [hgd];intro h
  have:=(dig_nil (by decide)).1 h
  have:=Nat.gcd_pos_of_pos_right (val 4294967296 (dO p)) hqv
  omega
 refine CallsP.enc Go.Proofs.Tryz.func38 rfl (fun lv=>madeA_dRes lv _ _ _) fun _=>AW.q ?_
 refine AW.seqK fun K hK=>AW.q ?_
 by_cases hpe:dO p=[]
 ·refine AW.fy (by simp_all) (AW.f1 bNum0 ?_)
  refine AW.ret ?_
  refine FinC.cell (T:=27) (t:=6) (k:=0) (off:=0) (own:=true) (fz:=false) (U:=27) (cs:=[.d (.bool false),.d .nilsl,.d .nilsl]) rfl ?_ ?_ ?_
  ·simp
  ·rfl
  ·rw [List.drop_zero,loadNum];simp [madeA,hpe,nC]
 refine AW.fn (by simp_all) (AW.skip (hK _ _ (AW.seqK fun K hK=>?_)))
 have rest:∀ (fr:Nat→AV) (κ:Nat) (p' q':Option (List Nat)),fr 0=.c (.d (.bool neg))→fr 1=nK .u32 p'→fr 2=nK .u32 q'→fr 6=.c (.ptr 0 0)→can 4294967296 (dO q')→mP p q=p'→mQ0 p q=q' →
  K ⟨fr,upd (fun _=>.hole) 0 (.cells true false 27 [.d (.bool false),.d .nilsl,.d .nilsl])⟩ κ:=by
  intro fr κ p' q' z0 z1 z2 z6 hc e1 e2
  apply hK
  refine AW.seqK fun K1 hK1=>AW.sr fun K2 hK2=>?_
  simp [z2]
  refine CallDo.pure κ 9 (exact_is1_ok _ _ hc) rfl (by simp) (by simp) ?_
  simp
  apply hK2
  by_cases h1:val 4294967296 (dO q')=1
  ·refine AW.fy (by simp_all) (AW.l0 (hK1 _ _ ?_))
   refine AW.f5 z0 z1 z6 @nK_nC @bNum ?_
   refine AW.ret ?_
   refine FinC.cell (T:=27) (t:=6) (k:=0) (off:=0) (own:=true) (fz:=false) (U:=27) (cs:=[.d (.bool neg),nC p',.d .nilsl]) rfl ?_ ?_ ?_
   ·simp [z6]
   ·rfl
   ·rw [List.drop_zero,loadNum];simp [madeA,hpe,e1,mQ,e2,h1,nC]
  ·refine AW.fn (by simp_all) (AW.skip (hK1 _ _ (AW.f6 z0 z1 z2 z6 @nK_nC @bNum ?_)))
   refine AW.ret ?_
   refine FinC.cell (T:=27) (t:=6) (k:=0) (off:=0) (own:=true) (fz:=false) (U:=27) (cs:=[.d (.bool neg),nC p',nC q']) rfl ?_ ?_ ?_
   ·simp [z6]
   ·rfl
   ·rw [List.drop_zero,loadNum];simp [madeA,hpe,e1,mQ,e2,h1]
 refine AW.sr fun K1 hK1=>?_
 simp
 refine CallDo.pure 1 9 (exact_is1_ok _ _ hq) rfl (by simp) (by simp) ?_
 simp
 apply hK1
 by_cases h1:val 4294967296 (dO q)=1
 ·refine AW.fn (by simp_all) (AW.skip ?_)
  simp
  exact rest _ _ p q (by simp) (by simp) (by simp) (by simp) hq (by simp [mP,h1]) (by simp [mQ0,h1])
 refine AW.fy (by simp_all) (AW.sr fun K1 hK1=>?_)
 simp
 refine CallDo.pure 1 9 (exact_gcd_ok _ _ _ hp hq hl hl') (by simp) (by simp) (by simp) ?_
 simp
 apply hK1
 refine AW.sr fun K1 hK1=>?_
 simp
 refine CallDo.pure 1 9 (exact_is1_ok _ (gcdO p q (val 4294967296 (dO q))) hgc) rfl (by simp) (by simp) ?_
 simp
 apply hK1
 by_cases h2:val 4294967296 (dO (gO p q))=1
 ·have h2':val 4294967296 (dO (gcdO p q (val 4294967296 (dO q))))=1:=h2
  refine AW.fn (by simp_all) (AW.skip ?_)
  simp
  exact rest _ _ p q (by simp) (by simp) (by simp) (by simp) hq (by simp [mP,h2]) (by simp [mQ0,h2])
 have h2':¬ val 4294967296 (dO (gcdO p q (val 4294967296 (dO q))))=1:=h2
 refine AW.fy (by simp_all) (AW.sr fun K1 hK1=>?_)
 simp
 refine CallDo.pure 1 9 (exact_div_ok _ _ (gcdO p q (val 4294967296 (dO q))) hp hgc hg0 hl) (tup2_pure _ _) (by simp) (by simp) ?_
 simp
 apply hK1
 refine AW.rP ?_
 simp
 refine CallDo.pure 1 9 (exact_div_ok _ _ (gcdO p q (val 4294967296 (dO q))) hq hgc hg0 hl') (tup2_pure _ _) (by simp) (by simp) ?_
 simp
 exact rest _ _ (divQ p (gO p q)) (divQ q (gO p q)) (by simp) (by simp;rfl) (by simp;rfl) (by simp) (by rw [divQ_d];exact dig_can (by decide) _) (by simp [mP,h1,h2]) (by simp [mQ0,h1,h2])
end Go.Am
namespace Go.Am
open Go.Am.Ty Go.Proofs N
theorem eqNil (q:Option (List Nat)):stepBin Tryz.prog .eql 25 (.c (nC q)) (.c (.d .nilsl))=some (.c (.d (.bool q.isNone)),[],[],True):=by
 cases q with
 | none=>kernel_rfl
 | some l=>exact (show ∀ es,stepBin Tryz.prog .eql 25 (.c (.d (.sl es))) (.c (.d .nilsl))=some (.c (.d (.bool false)),[],[],True) from fun es=>by kernel_rfl) _
theorem lpC (lv:Key→LB)(o:Option (List Nat)):lenP Tryz.prog 25 lv (.c (nC o))=some (.c (.d (.int .i64 (dO o).length)),[],[],True):=by
 rw [← nK_nC];simp
@[simp] theorem nmA_pure (neg:Bool)(p q:Option (List Nat)):(AV.agg [.d (.bool neg),nC p,nC q]).pure=true:=by cases p <;> cases q <;> rfl
def sgA (neg:Bool)(p:Option (List Nat)):Int:=if dO p=[] then 0 else if neg then -1 else 1
def botO:Option (List Nat)→Option (List Nat)
 | none=>some (dig 4294967296 1)
 | some l=>some l
theorem num_Sign_ok (G:List (List DV))(neg:Bool)(p q:Option (List Nat)):CallsP Tryz.prog G 66 [nmA neg p q] (.c (.d (.int .i64 (sgA neg p)))):=by
 refine CallsP.en Go.Proofs.Tryz.func66 rfl fun _=>AW.q ?_
 refine AW.seqK fun K hK=>AW.block (AW.f1 @lpC ?_)
 by_cases hp:dO p=[]
 ·refine AW.fy (by simp_all) (AW.q ?_)
  exact AW.r0 (FinP.rt rfl 2 (by simp [sgA,hp]))
 ·refine AW.fn (by simp_all) (AW.q ?_)
  cases neg with
  | true=>
   refine AW.cy (AW.q ?_)
   exact AW.r0 (FinP.rt rfl 2 (by simp [sgA,hp]))
  | false=>
   refine AW.cn (AW.skip (hK _ _ (AW.q ?_)))
   exact AW.r0 (FinP.rt rfl 2 (by simp [sgA,hp]))
theorem num_bottom_ok (G:List (List DV))(neg:Bool)(p q:Option (List Nat)):CallsP Tryz.prog G 37 [nmA neg p q] (.c (nC (botO q))):=by
 have hof:=exact_of_ok G 1 (by decide)
 simp only [nK_nC] at hof
 refine CallsP.en Go.Proofs.Tryz.func37 rfl fun _=>AW.q ?_
 refine AW.seqK fun K hK=>AW.sr fun K1 hK1=>?_
 simp [eqNil]
 apply hK1
 cases q with
 | none=>
  refine AW.cy (AW.sr fun K1 hK1=>?_)
  simp
  refine CallDo.pure 1 9 hof (by simp) (by simp) (by simp) ?_
  simp
  apply hK1
  exact AW.r0 (FinP.rt rfl 2 (by simp [botO]))
 | some l=>
  refine AW.cn (AW.skip (hK _ _ (AW.q ?_)))
  exact AW.r0 (FinP.rt rfl 2 (by simp [botO]))
theorem num_Abs_ok (G:List (List DV))(neg:Bool)(p q:Option (List Nat)):CallsP Tryz.prog G 162 [nmA neg p q] (nmA false p q):=by
 refine CallsP.enc Go.Proofs.Tryz.func162 rfl (fun lv=>nC_dArg lv _ _ _) fun _=>AW.q ?_
 refine AW.f1 @bNum ?_
 refine AW.ret ?_
 refine FinC.cell (κ:=0) (T:=27) (t:=2) (k:=1) (off:=0) (own:=true) (fz:=false) (U:=27) (cs:=[.d (.bool false),nC p,nC q]) rfl ?_ ?_ ?_
 ·simp
 ·simp [setSeg]
 ·rw [List.drop_zero,loadNum]
def cmA (neg:Bool)(p q:Option (List Nat))(neg':Bool)(p' q':Option (List Nat)):Int:=
 if sgA neg p=sgA neg' p' then sgA neg p*cmpN (val 4294967296 (dO p)*val 4294967296 (dO (botO q'))) (val 4294967296 (dO p')*val 4294967296 (dO (botO q)))
 else if sgA neg p<sgA neg' p' then -1 else 1
theorem cmpN_rng (a b:Nat):-1≤cmpN a b∧cmpN a b≤1:=by unfold cmpN;omega
theorem sg_mul (neg:Bool)(p:Option (List Nat))(a b:Nat):IntKind.i64.wrap (sgA neg p*cmpN a b)=sgA neg p*cmpN a b:=by
 have h1:=cmpN_rng a b
 have h2:sgA neg p=0∨sgA neg p=1∨sgA neg p = -1:=by unfold sgA;split <;> (try split) <;> simp
 rcases h2 with h|h|h <;> rw [h] <;> exact w64 (by omega) (by omega)
theorem botO_len {q:Option (List Nat)}{n:Nat}(h:(dO q).length≤n) (hn:1≤n):(dO (botO q)).length≤n:=by
 cases q with
 | none=>exact Nat.le_trans (dig_len_le (m:=1) (by decide) (by decide)) hn
 | some l=>exact h
theorem num_Cmp_ok (G:List (List DV))(neg neg':Bool)(p q p' q':Option (List Nat))(h1:(dO p).length≤100000000000)(h2:(dO q).length≤100000000000)(h3:(dO p').length≤100000000000)(h4:(dO q').length≤100000000000) :
 CallsP Tryz.prog G 27 [nmA neg p q,nmA neg' p' q'] (.c (.d (.int .i64 (cmA neg p q neg' p' q')))):=by
 have b1:=botO_len h2 (by decide)
 have b2:=botO_len h4 (by decide)
 have m1:=exact_mul_ok G p (botO q') (by omega) (by omega)
 have m2:=exact_mul_ok G p' (botO q) (by omega) (by omega)
 have m3:=exact_cmp_ok (G:=G) (a:=some (dig 4294967296 (val 4294967296 (dO p)*val 4294967296 (dO (botO q'))))) (b:=some (dig 4294967296 (val 4294967296 (dO p')*val 4294967296 (dO (botO q))))) (dig_can (by decide) _) (dig_can (by decide) _)
 simp only [dO_some,dig_val (by decide:2≤4294967296)] at m3
 simp only [nK_nC] at m1 m2 m3
 refine CallsP.en Go.Proofs.Tryz.func27 rfl fun _=>AW.q ?_
 refine AW.seqK fun K hK=>?_
 refine AW.drawP mixed (by kernel_rfl) rfl ?_
 simp
 refine CallDo.pure 2 9 (num_Sign_ok _ neg p q) (by simp) (by simp) rfl ?_
 simp
 refine CallDo.pure 2 9 (num_Sign_ok _ neg' p' q') (by simp) (by simp) rfl ?_
 simp
 refine⟨by kernel_rfl,?_⟩
 apply hK
 refine AW.seqK fun K hK=>AW.q ?_
 by_cases hs:sgA neg p=sgA neg' p'
 ·refine AW.fn (by simp_all) (AW.skip (hK _ _ (AW.seqK fun K hK=>?_)))
  refine AW.drawP mixed (by kernel_rfl) rfl ?_
  simp [hs]
  refine CallDo.pure 2 9 (num_bottom_ok _ neg' p' q') (by simp) (by simp) rfl ?_
  simp
  refine CallDo.pure 2 9 m1 (by simp) (by simp) rfl ?_
  simp
  refine CallDo.pure 2 9 (num_bottom_ok _ neg p q) (by simp) (by simp) rfl ?_
  simp
  refine CallDo.pure 2 9 m2 (by simp) (by simp) rfl ?_
  simp
  refine CallDo.pure 2 9 m3 (by simp) (by simp) rfl ?_
  simp [sg_mul]
  refine⟨by kernel_rfl,?_⟩
  apply hK
  exact AW.r0 (FinP.rt rfl 4 (by simp [cmA,hs]))
 ·refine AW.fy (by simp_all) (AW.seqK fun K1 hK1=>AW.q ?_)
  by_cases hlt:sgA neg p<sgA neg' p'
  ·refine AW.fy (by simp_all) (AW.q ?_)
   exact AW.r0 (FinP.rt rfl 4 (by simp [cmA,hs,hlt]))
  ·refine AW.fn (by simp_all) (AW.skip (hK1 _ _ (AW.q ?_)))
   exact AW.r0 (FinP.rt rfl 4 (by simp [cmA,hs,hlt]))
def natO (n:Nat):Option (List Nat):=if n=0 then none else some (dig 4294967296 n)
def denO (n:Nat):Option (List Nat):=if n=1 then none else some (dig 4294967296 n)
abbrev ratV (x:Rat):AV:=nmA (decide (x.num<0)) (natO x.num.natAbs) (denO x.den)
def sgI (neg:Bool)(a:Nat):Int:=if neg then -(a:Int) else a
theorem natO_d (n:Nat):dO (natO n)=(dig 4294967296 n):=by
 unfold natO;split
 ·simp_all
 ·rfl
theorem denO_b (n:Nat):botO (denO n)=some (dig 4294967296 n):=by
 unfold denO;split
 ·rename_i h;subst h;rfl
 ·rfl
theorem val_dig (n:Nat):val 4294967296 (dig 4294967296 n)=n:=dig_val (by decide) n
theorem can_dig (n:Nat):can 4294967296 (dig 4294967296 n):=dig_can (by decide) n
theorem natO_v (n:Nat):(val 4294967296 (dO (natO n)))=n:=by rw [natO_d,val_dig]
theorem denO_v (n:Nat):(val 4294967296 (dO (botO (denO n))))=n:=by rw [denO_b,dO_some,val_dig]
theorem natO_can (n:Nat):can 4294967296 (dO (natO n)):=by rw [natO_d];exact can_dig n
theorem denO_can (n:Nat):can 4294967296 (dO (botO (denO n))):=by rw [denO_b];exact can_dig n
theorem dig_ne {n:Nat}(h:n≠0):(dig 4294967296 n)≠[]:=fun e=>h ((dig_nil (by decide)).1 e)
theorem some_of_ne {o:Option (List Nat)}(hc:can 4294967296 (dO o)) (h:dO o≠[]):o=some (dig 4294967296 (val 4294967296 (dO o))):=by
 cases o with
 | none=>simp_all
 | some l=>exact congrArg some (dig_of (by decide) hc rfl)
theorem mkRat_sg (neg:Bool){a b:Nat}(hb:b≠0):(mkRat (sgI neg a) b).num=sgI neg (a / Nat.gcd a b)∧(mkRat (sgI neg a) b).den=b / Nat.gcd a b:=by
 have h1:(sgI neg a).natAbs=a:=by unfold sgI;split <;> omega
 rw [Rat.num_mkRat,Rat.den_mkRat,if_neg hb,if_neg hb,h1,Nat.gcd_comm b a]
 refine⟨?_,rfl⟩
 cases neg with
 | false=>rfl
 | true=>
  show -(a:Int) / ((Nat.gcd a b:Nat):Int) = -((a / Nat.gcd a b:Nat):Int)
  rw [Int.neg_ediv_of_dvd (Int.ofNat_dvd.2 (Nat.gcd_dvd_left a b))];rfl
theorem sgI_abs (neg:Bool)(a:Nat):(sgI neg a).natAbs=a:=by unfold sgI;omega
theorem sgI_neg (neg:Bool){a:Nat}(h:a≠0):decide (sgI neg a<0)=neg:=by
 cases neg <;> simp [sgI] <;> omega
theorem mP_eq {p q:Option (List Nat)}(hp:can 4294967296 (dO p)) (hq:can 4294967296 (dO q)) (h0:dO p≠[]):mP p q=natO ((val 4294967296 (dO p)) / Nat.gcd (val 4294967296 (dO p)) (val 4294967296 (dO q))):=by
 have ha:0<(val 4294967296 (dO p)):=can_pos hp h0
 have ep:=some_of_ne hp h0
 have hgv:(val 4294967296 (dO (gO p q)))=Nat.gcd (val 4294967296 (dO p)) (val 4294967296 (dO q)):=by unfold gO;rw [gcdO_d hp hq,val_dig]
 have hgp:0<Nat.gcd (val 4294967296 (dO p)) (val 4294967296 (dO q)):=Nat.gcd_pos_of_pos_left _ ha
 have hle:Nat.gcd (val 4294967296 (dO p)) (val 4294967296 (dO q))≤(val 4294967296 (dO p)):=Nat.le_of_dvd ha (Nat.gcd_dvd_left _ _)
 have hag:(val 4294967296 (dO p)) / Nat.gcd (val 4294967296 (dO p)) (val 4294967296 (dO q))≠0:=Nat.ne_of_gt (Nat.div_pos hle hgp)
 unfold natO;rw [if_neg hag];unfold mP
 split
 ·rename_i h;rw [h,Nat.gcd_one_right,Nat.div_one];exact ep
 ·split
  ·grind
  ·unfold divQ;grind
theorem mQ_eq {p q:Option (List Nat)}(hp:can 4294967296 (dO p)) (hq:can 4294967296 (dO q)) (h0:dO q≠[]):mQ p q=denO ((val 4294967296 (dO q)) / Nat.gcd (val 4294967296 (dO p)) (val 4294967296 (dO q))):=by
 have hb:0<(val 4294967296 (dO q)):=can_pos hq h0
 have eq:=some_of_ne hq h0
 have hgv:(val 4294967296 (dO (gO p q)))=Nat.gcd (val 4294967296 (dO p)) (val 4294967296 (dO q)):=by unfold gO;rw [gcdO_d hp hq,val_dig]
 have hle:Nat.gcd (val 4294967296 (dO p)) (val 4294967296 (dO q))≤(val 4294967296 (dO q)):=Nat.le_of_dvd hb (Nat.gcd_dvd_right _ _)
 have e:mQ0 p q=some (dig 4294967296 ((val 4294967296 (dO q)) / Nat.gcd (val 4294967296 (dO p)) (val 4294967296 (dO q)))):=by
  unfold mQ0
  split
  ·rename_i h;rw [h,Nat.gcd_one_right,Nat.div_one,← h];exact eq
  ·split
   ·grind
   ·unfold divQ;grind
 unfold mQ denO
 rw [e,dO_some,val_dig]
theorem madeA_rat (neg:Bool){p q:Option (List Nat)}(hp:can 4294967296 (dO p)) (hq:can 4294967296 (dO q)) (hq0:dO q≠[]):madeA neg p q=ratV (mkRat (sgI neg (val 4294967296 (dO p))) (val 4294967296 (dO q))):=by
 have hb:(val 4294967296 (dO q))≠0:=Nat.ne_of_gt (can_pos hq hq0)
 unfold madeA
 by_cases h0:dO p=[]
 ·have e:sgI neg (val 4294967296 (dO p))=0:=by rw [h0,val_nil];cases neg <;> rfl
  rw [if_pos h0,e,Rat.zero_mkRat];rfl
 ·have ha:0<(val 4294967296 (dO p)):=can_pos hp h0
  have hgp:0<Nat.gcd (val 4294967296 (dO p)) (val 4294967296 (dO q)):=Nat.gcd_pos_of_pos_left _ ha
  have hle:Nat.gcd (val 4294967296 (dO p)) (val 4294967296 (dO q))≤(val 4294967296 (dO p)):=Nat.le_of_dvd ha (Nat.gcd_dvd_left _ _)
  have hag:(val 4294967296 (dO p)) / Nat.gcd (val 4294967296 (dO p)) (val 4294967296 (dO q))≠0:=Nat.ne_of_gt (Nat.div_pos hle hgp)
  obtain⟨n1,n2⟩:=mkRat_sg neg (a:=(val 4294967296 (dO p))) hb
  rw [if_neg h0,mP_eq hp hq h0,mQ_eq hp hq hq0]
  show nmA neg _ _=nmA (decide (_<0)) (natO _) (denO _)
  rw [n1,n2,sgI_abs,sgI_neg neg hag]
theorem rat_sg (x:Rat):sgI (decide (x.num<0)) x.num.natAbs=x.num:=by
 unfold sgI
 grind
theorem rat_self (x:Rat):mkRat (sgI (decide (x.num<0)) x.num.natAbs) x.den=x:=by rw [rat_sg,Rat.mkRat_self]
def nl (n:Nat):Nat:=(dig 4294967296 n).length
theorem nl_le {n m:Nat}(h:n<4294967296 ^ m):nl n≤m:=dig_len_le (by decide) h
theorem nl_lt (n:Nat):n<4294967296 ^ nl n:=dig_lt (by decide)
theorem nl_mono {m n:Nat}(h:m≤n):nl m≤nl n:=dig_len_mono (by decide) h
theorem nl_mul (a b:Nat):nl (a*b)≤nl a+nl b:=by
 refine nl_le ?_
 rw [Nat.pow_add]
 exact Nat.mul_lt_mul'' (nl_lt a) (nl_lt b)
theorem nl_add (a b:Nat):nl (a+b)≤max (nl a) (nl b)+1:=by
 refine nl_le ?_
 have h1:a<4294967296 ^ max (nl a) (nl b):=Nat.lt_of_lt_of_le (nl_lt a) (Nat.pow_le_pow_right (by decide) (by omega))
 have h2:b<4294967296 ^ max (nl a) (nl b):=Nat.lt_of_lt_of_le (nl_lt b) (Nat.pow_le_pow_right (by decide) (by omega))
 omega
theorem pow32 (m:Nat):(2:Nat) ^ (32*m)=4294967296 ^ m:=by rw [Nat.pow_mul]
theorem nl_two (k:Nat):nl (2 ^ k)≤k / 32+1:=by
 refine nl_le ?_
 rw [← pow32]
 exact Nat.pow_lt_pow_right (by decide) (by omega)
theorem nl_one:nl 1=1:=by rfl
theorem nl_pos {n:Nat}(h:n≠0):1≤nl n:=by rw [← nl_one];exact nl_mono (by omega)
theorem nl_ten {a L:Nat}(h:a<10 ^ L):nl a≤(L+8) / 9:=by
 refine nl_le (Nat.lt_of_lt_of_le h ?_)
 have h1:(10:Nat) ^ L≤10 ^ (9*((L+8) / 9)):=Nat.pow_le_pow_right (by decide) (by omega)
 rw [Nat.pow_mul] at h1
 exact Nat.le_trans h1 (Nat.pow_le_pow_left (by decide) _)
theorem blen_nl {n:Nat}(h:n≠0):blen n≤32*nl n:=by
 have h1:=nl_lt n
 rw [← pow32] at h1
 have h2:=blen_le h
 have h3:blen n - 1<32*nl n:=(Nat.pow_lt_pow_iff_right (by decide)).1 (Nat.lt_of_le_of_lt h2 h1)
 omega
def szR (x:Rat)(L:Nat):Prop:=nl x.num.natAbs≤L∧nl x.den≤L
theorem szR_mono {x:Rat}{L M:Nat}(h:szR x L) (hm:L≤M):szR x M:=⟨Nat.le_trans h.1 hm,Nat.le_trans h.2 hm⟩
theorem szR_mk (neg:Bool){a b L:Nat}(hb:b≠0) (h1:nl a≤L) (h2:nl b≤L):szR (mkRat (sgI neg a) b) L:=by
 obtain⟨n1,n2⟩:=mkRat_sg neg (a:=a) hb
 unfold szR
 rw [n1,n2,sgI_abs]
 exact⟨Nat.le_trans (nl_mono (Nat.div_le_self _ _)) h1,Nat.le_trans (nl_mono (Nat.div_le_self _ _)) h2⟩
theorem szR_neg {x:Rat}{L:Nat}(h:szR x L):szR (-x) L:=by
 unfold szR at *;simp_all
theorem szR_int (n:Int)(L:Nat)(h:nl n.natAbs≤L)(h1:1≤L):szR (n:Rat) L:=⟨by rw [Rat.num_intCast];exact h,by rw [Rat.den_intCast,nl_one];exact h1⟩
def shiftR (x:Rat)(k:Int):Rat:=if k<0 then mkRat x.num (x.den*2 ^ (-k).toNat) else mkRat (x.num*2 ^ k.toNat) x.den
theorem den_pow_ne (x:Rat)(k:Nat):x.den*2 ^ k≠0:=Nat.ne_of_gt (Nat.mul_pos x.den_pos (Nat.pow_pos (by decide)))
theorem shiftR_neg {x:Rat}{k:Int}(h:k<0):shiftR x k=mkRat (sgI (decide (x.num<0)) x.num.natAbs) (x.den*2 ^ (-k).toNat):=by rw [rat_sg];unfold shiftR;grind
theorem sgI_mul (neg:Bool)(a b:Nat):sgI neg a*(b:Int)=sgI neg (a*b):=by
 unfold sgI;grind
theorem shiftR_pos {x:Rat}{k:Int}(h:¬ k<0):shiftR x k=mkRat (sgI (decide (x.num<0)) (x.num.natAbs*2 ^ k.toNat)) x.den:=by
 unfold shiftR;rw [if_neg h,← sgI_mul,rat_sg]
 congr 2
theorem szR_shift {x:Rat}{L:Nat}(h:szR x L) (k:Int):szR (shiftR x k) (L+k.natAbs / 32+1):=by
 by_cases hk:k<0
 ·rw [shiftR_neg hk]
  refine szR_mk _ (den_pow_ne _ _) (by have:=h.1;omega) ?_
  have h1:=nl_mul x.den (2 ^ (-k).toNat)
  have h2:=nl_two (-k).toNat
  have h3:(-k).toNat=k.natAbs:=by omega
  have:=h.2
  omega
 ·rw [shiftR_pos hk]
  refine szR_mk _ x.den_nz ?_ (by have:=h.2;omega)
  have h1:=nl_mul x.num.natAbs (2 ^ k.toNat)
  have h2:=nl_two k.toNat
  have h3:k.toNat=k.natAbs:=by omega
  have:=h.1
  omega
theorem add_mk (x y:Rat):x+y=mkRat (sgI (decide (x.num<0)) (x.num.natAbs*y.den)+sgI (decide (y.num<0)) (y.num.natAbs*x.den)) (x.den*y.den):=by
 rw [Rat.add_def',← sgI_mul,← sgI_mul,rat_sg,rat_sg]
theorem sgI_add (neg:Bool)(a b:Nat):sgI neg a+sgI neg b=sgI neg (a+b):=by unfold sgI;grind
theorem sgI_lt {neg neg':Bool}(h:neg≠neg') {a b:Nat}(hab:a<b):sgI neg a+sgI neg' b=sgI neg' (b - a):=by
 unfold sgI;grind
theorem sgI_ge {neg neg':Bool}(h:neg≠neg') {a b:Nat}(hab:¬ a<b):sgI neg a+sgI neg' b=sgI neg (a - b):=by
 unfold sgI;grind
theorem szR_add {x y:Rat}{L:Nat}(hx:szR x L) (hy:szR y L):szR (x+y) (2*L+1):=by
 have hd:x.den*y.den≠0:=Nat.ne_of_gt (Nat.mul_pos x.den_pos y.den_pos)
 have e1:=nl_mul x.num.natAbs y.den
 have e2:=nl_mul y.num.natAbs x.den
 have e3:=nl_mul x.den y.den
 obtain⟨a1,a2⟩:=hx
 obtain⟨b1,b2⟩:=hy
 rw [add_mk]
 by_cases h:decide (x.num<0)=decide (y.num<0)
 ·rw [h,sgI_add]
  refine szR_mk _ hd ?_ (by omega)
  have:=nl_add (x.num.natAbs*y.den) (y.num.natAbs*x.den)
  omega
 ·by_cases hab:x.num.natAbs*y.den<y.num.natAbs*x.den
  ·rw [sgI_lt h hab]
   refine szR_mk _ hd ?_ (by omega)
   have:=nl_mono (Nat.sub_le (y.num.natAbs*x.den) (x.num.natAbs*y.den))
   omega
  ·rw [sgI_ge h hab]
   refine szR_mk _ hd ?_ (by omega)
   have:=nl_mono (Nat.sub_le (x.num.natAbs*y.den) (y.num.natAbs*x.den))
   omega
def cmpR (x y:Rat):Int:=if x<y then -1 else if y<x then 1 else 0
end Go.Am
