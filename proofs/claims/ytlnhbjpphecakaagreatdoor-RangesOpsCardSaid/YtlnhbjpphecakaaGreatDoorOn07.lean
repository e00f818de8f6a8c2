/- Helpers: an abstract machine for Go functions, and walks of functions of the program. -/
import Derived.Test.YtlnhbjpphecakaaGreatDoorOn06
import Derived.Shelf.Strings.Search1
import Derived.Shelf.Strings.Search2
import Derived.Shelf.Strings.Search3
import Derived.Shelf.Strings.Cut
import Derived.Shelf.Strings.Count
import Derived.Test.YtlnhbjpphecakaaGreatDoorProg
import Derived.Lib.Builder
import Derived.TacticsIn
import Derived.TacticsInMore
import Derived.RegionIn
import Derived.OwnWalkIn
import Derived.WalkKit
import Derived.RangeFuncOwn

set_option linter.all false
set_option maxHeartbeats 8000000
set_option maxRecDepth 100000
namespace Go.Am
open Go.Am.Ty Go.Proofs N
theorem mixed:Tryz.prog.follows .mixedOrders=true:=by kernel_rfl
theorem exact_cmp_ok {a b:Option (List Nat)}{G:List (List DV)}(ha:can 4294967296 (dO a)) (hb:can 4294967296 (dO b)):CallsP Tryz.prog G 133 [nK .u32 a,nK .u32 b] (.c (.d (.int .i64 (cmpN (val 4294967296 (dO a)) (val 4294967296 (dO b)))))):=by
 refine CallsS.know 0 (by simp) (fun V v h=>nK_rng h) fun hra=>?_
 refine CallsS.know 1 (by simp) (fun V v h=>nK_rng h) fun hrb=>?_
 refine CallsP.en Go.Proofs.Tryz.func133 rfl fun _=>AW.q ?_
 refine AW.seqK fun K hK=>AW.q ?_
 by_cases hl:(dO a).length=(dO b).length
 ·refine AW.fn (by simp_all) (AW.skip (hK _ _ (AW.seqK fun K hK=>AW.sr fun K1 hK1=>?_)))
  simp
  have e1:=w64 (n:=((dO a).length:Int) - 1) (by omega) (by omega)
  simp only [e1]
  apply hK1
  refine AW.block ?_
  refine AW.loopV (fun (k:Nat)=>⟨frOf [(0,nK .u32 a),(1,nK .u32 b),(5,.c (.d (.int .i64 ((k:Int) - 1))))],fun _=>.hole⟩) 0 (fun k=>k≤(dO a).length∧(dO a).drop k=(dO b).drop k) (fun k=>k) (dO a).length (Le.mk' _ rfl noMap_hole (by simp)) ⟨Nat.le_refl _,by grind⟩ ?_
  rintro k ⟨h1,h2⟩
  refine AW.seqK fun K3 hK3=>AW.q ?_
  cases k with
  | zero=>
   refine AW.cn (AW.exit (hK _ _ (AW.q ?_)))
   simp only [List.drop_zero] at h2
   exact AW.r0 (FinP.rt rfl 0 (by simp [cmpN_eq (congrArg (val 4294967296) h2)]))
  | succ k=>
   have h3:k<(dO b).length:=by omega
   have h4:k<(dO a).length:=by omega
   have e2:((k+1:Nat):Int) - 1=k:=by omega
   simp only [e2]
   refine AW.cy (AW.skip (hK3 _ _ (AW.seqK fun K5 hK5=>AW.block (AW.seqK fun K6 hK6=>?_))))
   refine AW.drawQ mixed (by kernel_rfl) rfl rfl ?_
   simp [h3,h4]
   apply hK6
   by_cases hd:(dO a)[k]=(dO b)[k]
   ·refine AW.fn (by simp_all) (AW.skip (hK5 _ _ (AW.rP ?_)))
    simp
    have e3:=w64 (n:=(k:Int) - 1) (by omega) (by omega)
    simp [e3]
    refine⟨k,Le.mk' _ (by simp) (by simp) (by simp),⟨by omega,?_⟩,by omega⟩
    rw [List.drop_eq_getElem_cons h4,List.drop_eq_getElem_cons h3,hd,h2]
   ·refine AW.fy (by simp <;> omega) (AW.seqK fun K6 hK6=>AW.seqK fun K7 hK7=>?_)
    refine AW.drawQ mixed (by kernel_rfl) rfl rfl ?_
    simp [h3,h4]
    apply hK7
    by_cases hlt:(dO a)[k]<(dO b)[k]
    ·refine AW.fy (by simp_all) (AW.q ?_)
     have:=val_lt_at ha.1 h4 h3 h2 hlt
     exact AW.r0 (FinP.rt rfl 0 (by simp [cmpN_lt this]))
    ·refine AW.fn (by simp_all) (AW.skip (hK6 _ _ (AW.q ?_)))
     have:=val_lt_at hb.1 h3 h4 h2.symm (by omega)
     exact AW.r0 (FinP.rt rfl 0 (by simp [cmpN_gt this]))
 ·refine AW.fy (by simp <;> omega) (AW.seqK fun K2 hK2=>AW.q ?_)
  by_cases hlt:(dO a).length<(dO b).length
  ·refine AW.fy (by simp_all) (AW.q ?_)
   exact AW.r0 (FinP.rt rfl 0 (by simp [cmpN_lt (can_len_lt (by omega) ha hb hlt)]))
  ·refine AW.fn (by simp_all) (AW.skip (hK2 _ _ (AW.q ?_)))
   exact AW.r0 (FinP.rt rfl 0 (by simp [cmpN_gt (can_len_lt (by omega) hb ha (by omega))]))
abbrev N32:=nK .u32
theorem exact_cut_ok (G:List (List DV))(l:List Nat):CallsP Tryz.prog G 152 [N32 (some l)] (N32 (some (trimN l))):=by
 refine CallsP.of_AW Go.Proofs.Tryz.func152 rfl (by simp) ?_
 rintro⟨_,_,w0,F0,W0,_,lv0,β0⟩ rfl rfl rfl
 refine AW.seqK fun K hK=>?_
 refine AW.regionP rfl ?_
 simp
 apply hK;clear hK K
 refine AW.seqK fun K hK=>?_
 refine AW.regionP rfl ?_
 simp [isFn_211]
 refine CallDo.pure 0 0 (exact_trim_ok _ l) rfl (by simp [N32]) rfl ?_
 simp
 apply hK;clear hK K
 exact AW.ret (FinP.tmp rfl 0 (by simp;rfl) rfl rfl rfl)
theorem exact_add_ok (G:List (List DV))(a b:Option (List Nat))(ha:(dO a).length≤1000000000000)(hb:(dO b).length≤1000000000000) :
 CallsP Tryz.prog G 132 [N32 a,N32 b] (N32 (some (dig 4294967296 (val 4294967296 (dO a)+val 4294967296 (dO b))))):=by
 refine CallsS.know 0 (by simp) (fun V v h=>nK_rng h) fun hra=>?_
 refine CallsS.know 1 (by simp) (fun V v h=>nK_rng h) fun hrb=>?_
 refine CallsP.of_AW Go.Proofs.Tryz.func132 rfl (by simp) ?_
 rintro⟨_,_,w0,F0,W0,_,lv0,β0⟩ rfl rfl rfl
 refine AW.seqK fun K hK=>?_
 refine AW.regionP rfl ?_
 simp
 apply hK;clear hK K
 refine AW.seqK fun K hK=>?_
 refine AW.seqK fun K2 hK2=>?_
 refine AW.regionP rfl ?_
 simp [lenP_nK slT_28]
 apply hK2;clear hK2 K2
 have main:∀ (a' b':Option (List Nat)) (fr:Nat→AV) (κ:Nat),fr 0=N32 a'→fr 1=N32 b'→(dO b').length≤(dO a').length→(dO a').length≤1000000000000 →
  ok 4294967296 (dO a')→ok 4294967296 (dO b')→val 4294967296 (dO a')+val 4294967296 (dO b')=val 4294967296 (dO a)+val 4294967296 (dO b)→K ⟨fr,fun _=>.hole⟩ κ:=by
  intro a' b' fr κ f0 f1 hle hla oka okb hv
  apply hK;clear hK
  refine AW.seqK fun K hK=>?_
  refine AW.regionP rfl ?_
  have e1:=w64 (n:=((dO a').length:Int)+1) (by omega) (by omega)
  simp [f0,lenP_nK slT_28,e1,slT_28,zcells_194,tbytes_194,repl_one]
  refine⟨by omega,?_⟩
  apply hK;clear hK K
  refine AW.at0 1 ?_
  generalize hκ:κ=κ0
  refine AW.seqK fun K hK=>?_
  refine AW.regionP rfl ?_
  simp
  apply hK;clear hK K
  refine AW.seqK fun K hK=>AW.seqK fun K1 hK1=>?_
  refine AW.regionP rfl ?_
  simp [f0,lenP_nK slT_28]
  apply hK1;clear hK1 K1
  refine AW.block ?_
  refine AW.loopV (fun (p:List Nat × Nat)=>⟨frOf [(0,N32 a'),(1,N32 b'),(5,.c (.lsl κ0 0 ((dO a').length+1) 1)),(6,.c (.d (.int .u64 p.2))),(20,N32 a'),(21,.c (.d (.int .i64 (dO a').length))),(22,.c (.d (.int .i64 p.1.length)))],
   upd (fun _=>.hole) κ0 (.cells true false 194 (wK .u32 (p.1++List.replicate ((dO a').length+1 - p.1.length) 0)))⟩) (κ0+1)
   (fun p=>p.1.length≤(dO a').length∧ok 4294967296 p.1∧p.2≤1∧val 4294967296 p.1+4294967296 ^ p.1.length*p.2=val 4294967296 ((dO a').take p.1.length)+val 4294967296 ((dO b').take p.1.length))
   (fun p=>(dO a').length - p.1.length) ([],0) (Le.mk' _ (by simp [wK_zeros]) (by simp) (by simp [f0,f1])) (by simp [ok_nil]) ?_
  rintro⟨pre,c⟩ ⟨h1,h2,h3,h4⟩
  simp only at h1 h2 h3 h4
  refine AW.seqK fun K3 hK3=>?_
  refine AW.regionP rfl ?_
  simp
  apply hK3;clear hK3 K3
  refine AW.seqK fun K2 hK2=>?_
  by_cases hlt:pre.length<(dO a').length
  ·refine AW.cond (b:=true) (by simp [hlt]) (AW.skip ?_)
   simp
   apply hK2
   have hz:(dO a').length+1 - pre.length=((dO a').length - pre.length)+1:=by omega
   refine AW.seqK fun K3 hK3=>AW.block ?_
   refine AW.seqK fun K4 hK4=>?_
   refine AW.regionP rfl ?_
   simp [ix_nK slT_28 hlt,aggT_194]
   apply hK4;clear hK4 K4
   refine AW.seqK fun K4 hK4=>?_
   refine AW.regionP rfl ?_
   simp [intT_194,intT_123]
   have hx:(dO a')[pre.length]<4294967296:=oka _ (List.getElem_mem hlt)
   generalize hxe:(dO a')[pre.length]=x at hx
   have e3:=wu64 (n:=(x:Int)) (by omega) (by omega)
   have e4:=wu64 (n:=(c:Int)+x) (by omega) (by omega)
   simp only [e3,e4]
   apply hK4;clear hK4 K4
   refine AW.seqK fun K5 hK5=>AW.seqK fun K6 hK6=>?_
   have fin:∀ (y:Nat) (fr:Nat→AV) (κ:Nat),y<4294967296→val 4294967296 ((dO b').take (pre.length+1))=val 4294967296 ((dO b').take pre.length)+4294967296 ^ pre.length*y →
    fr 0=N32 a'→fr 1=N32 b'→fr 5=.c (.lsl κ0 0 ((dO a').length+1) 1)→fr 6=.c (.d (.int .u64 ((c:Int)+x+y)))→fr 7=.c (.d (.int .i64 pre.length)) →
    fr 20=N32 a'→fr 21=.c (.d (.int .i64 (dO a').length))→fr 22=.c (.d (.int .i64 pre.length)) →
    K5 ⟨fr,upd (fun _=>.hole) κ0 (.cells true false 194 (wK .u32 (pre++List.replicate ((dO a').length+1 - pre.length) 0)))⟩ κ:=by
    intro y fr κ hy hbv q0 q1 q5 q6 q7 q20 q21 q22
    apply hK5
    refine AW.at0 (κ0+2) ?_
    refine AW.seqK fun K5 hK5=>?_
    refine AW.regionP rfl ?_
    have e5:IntKind.u32.wrap ((c:Int)+x+y)=((c+x+y) % 4294967296:Nat):=by rw [wu32m];omega
    have e6:setSeg (wK .u32 (pre++List.replicate ((dO a').length+1 - pre.length) 0)) pre.length [CV.d (.int .u32 (((c+x+y) % 4294967296:Nat):Int))]=wK .u32 (pre++[(c+x+y) % 4294967296]++List.replicate ((dO a').length - pre.length) 0):=by
     rw [hz,wK_set _ (by simp),set_zeros]
    have e7:(pre.length:Int)<((dO a').length:Int)+1:=by omega
    simp [q5,q6,q7,slT_28,intT_194,intT_123,e5,e6,infoS_194,szT_194,-Int.natCast_emod,-Int.natCast_add]
    refine⟨by omega,by omega,?_⟩
    apply hK5;clear hK5 K5
    refine AW.regionP rfl ?_
    have e8:(((c:Int)+x+y) / 4294967296)=(((c+x+y) / 4294967296:Nat):Int):=by omega
    have e8':Int.fdiv ((c:Int)+x+y) 4294967296=(((c+x+y) / 4294967296:Nat):Int):=by rw [Int.fdiv_eq_ediv_of_nonneg _ (by omega)];exact e8
    simp [q6,IntKind.bits,e8',-Int.natCast_ediv,-Int.natCast_add]
    apply hK3
    refine AW.regionP rfl ?_
    have e9:=w64 (n:=(pre.length:Int)+1) (by omega) (by omega)
    simp [q22,e9]
    have e10:(dO a').length - pre.length=(dO a').length+1 - (pre.length+1):=by omega
    refine⟨pre++[(c+x+y) % 4294967296],(c+x+y) / 4294967296,Le.mk' _ (by simp) (by simp) (by simp [q0,q1,q5,q20,q21]),⟨by simp;omega,?_,by omega,?_⟩,by simp;omega⟩
    ·exact ok_append.2 ⟨h2,ok_cons.2 ⟨by omega,ok_nil _⟩⟩
    ·have:=snoc_carry 4294967296 pre (c+x+y)
     rw [List.length_append,List.length_singleton,this,val_take_succ hlt,hxe,hbv,Nat.mul_add,Nat.mul_add]
     omega
   refine AW.regionP rfl ?_
   simp [lenP_nK slT_28]
   apply hK6;clear hK6 K6
   by_cases hlb:pre.length<(dO b').length
   ·refine AW.cond (b:=true) (by simp [hlb]) ?_
    refine AW.regionP rfl ?_
    have hy:(dO b')[pre.length]<4294967296:=okb _ (List.getElem_mem hlb)
    have e5:=wu64 (n:=((dO b')[pre.length]:Int)) (by omega) (by omega)
    have e6:=wu64 (n:=(c:Int)+x+(dO b')[pre.length]) (by omega) (by omega)
    simp [ix_nK slT_28 hlb,aggT_194,intT_194,intT_123,e5,e6]
    exact fin _ _ _ hy (val_take_succ hlb) (by simp) (by simp) (by simp) (by simp) (by simp) (by simp) (by simp) (by simp)
   ·refine AW.cond (b:=false) (by simp [hlb]) (AW.skip ?_)
    simp
    exact fin 0 _ _ (by omega) (by rw [val_take_ge (by omega),val_take_ge (by omega)];rfl) (by simp) (by simp) (by simp) (by simp) (by simp) (by simp) (by simp) (by simp)
  ·refine AW.cond (b:=false) (by simp [hlt]) (AW.exit ?_)
   simp
   have e2:pre.length=(dO a').length:=by omega
   apply hK
   refine AW.seqK fun K hK=>?_
   refine AW.regionP rfl ?_
   have e3:=wu32 (n:=(c:Int)) (by omega) (by omega)
   have e4:setSeg (wK .u32 (pre++[0])) pre.length [CV.d (.int .u32 (c:Int))]=wK .u32 (pre++[c]):=by
    rw [wK_set _ (by simp)];simp
   simp only [← e2]
   simp [lenP_nK slT_28,← e2,slT_28,intT_194,intT_123,e3,e4,infoS_194,szT_194]
   refine⟨by omega,?_⟩
   apply hK;clear hK K
   refine AW.seqK fun K hK=>?_
   refine AW.regionP rfl ?_
   simp [isFn_152]
   have hl:pre.length+1=(pre++[c]).length:=by simp
   rw [hl]
   have hout:trimN (pre++[c])=dig 4294967296 (val 4294967296 (dO a)+val 4294967296 (dO b)):=by
    refine trim_dig (by decide) (ok_append.2 ⟨h2,ok_cons.2 ⟨by omega,ok_nil _⟩⟩) ?_
    rw [val_snoc,h4,val_take_ge (by omega),val_take_ge (by omega),hv]
   refine CallP.frzN 0 (κ0+1) κ0 (by simp;rfl) (by simp;omega) (exact_cut_ok _ _) (by simp) (by simp) (by simp) ?_
   simp
   apply hK;clear hK K
   exact AW.ret (FinP.tmp rfl (κ0+1) (by simp [hout]) (by simp) (by simp) (by simp))
 have oka:ok 4294967296 (dO a):=fun d hd=>by have:=hra.2 d hd;simp only [hiK] at this;omega
 have okb:ok 4294967296 (dO b):=fun d hd=>by have:=hrb.2 d hd;simp only [hiK] at this;omega
 by_cases hlt:(dO a).length<(dO b).length
 ·refine AW.cond (b:=true) (by simp [hlt]) ?_
  refine AW.regionP rfl ?_
  simp
  exact main b a _ _ (by simp) (by simp) (by omega) hb okb oka (by omega)
 ·refine AW.cond (b:=false) (by simp [hlt]) (AW.skip ?_)
  simp
  exact main a b _ _ (by simp) (by simp) (by omega) ha oka okb rfl
theorem sub_step {x c y:Nat}(hx:x<4294967296) (hc:c≤1) (hy:y<4294967296) :
 ∃ v b:Nat,v<4294967296∧b≤1∧v+c+y=x+4294967296*b∧IntKind.u32.wrap (IntKind.u64.wrap (IntKind.u64.wrap ((x:Int) - c) - y))=v∧Int.fdiv (IntKind.u64.wrap (IntKind.u64.wrap ((x:Int) - c) - y)) 9223372036854775808=b:=by
 simp only [wu32m,wu64m]
 by_cases h:c+y≤x
 ·refine⟨x - c - y,0,by omega,by omega,by omega,by omega,?_⟩
  grind
 ·refine⟨x+4294967296 - c - y,1,by omega,by omega,by omega,by omega,?_⟩
  grind
theorem sub_step0 {x c:Nat}(hx:x<4294967296) (hc:c≤1):IntKind.u64.wrap (IntKind.u64.wrap ((x:Int) - c) - (0:Nat))=IntKind.u64.wrap ((x:Int) - c):=by
 simp only [wu64m];omega
theorem exact_sub_ok (G:List (List DV))(a b:Option (List Nat))(ha:(dO a).length≤1000000000000)(hv:val 4294967296 (dO b)≤val 4294967296 (dO a)) :
 CallsP Tryz.prog G 134 [nK .u32 a,nK .u32 b] (nK .u32 (some (dig 4294967296 (val 4294967296 (dO a) - val 4294967296 (dO b))))):=by
 refine CallsS.know 0 (by simp) (fun V v h=>nK_rng h) fun hra=>?_
 refine CallsS.know 1 (by simp) (fun V v h=>nK_rng h) fun hrb=>?_
 have oka:ok 4294967296 (dO a):=fun d hd=>by have:=hra.2 d hd;simp only [hiK] at this;omega
 have okb:ok 4294967296 (dO b):=fun d hd=>by have:=hrb.2 d hd;simp only [hiK] at this;omega
 refine CallsP.en Go.Proofs.Tryz.func134 rfl fun _=>AW.q ?_
 refine AW.sr fun K hK=>?_
 simp
 repeat refine and_o ?_
 apply hK
 refine AW.q ?_
 refine AW.seqK fun K hK=>AW.q ?_
 refine AW.block ?_
 refine AW.loopV (fun (p:List Nat × Nat)=>⟨frOf [(0,nK .u32 a),(1,nK .u32 b),(5,.c (.lsl 0 0 (dO a).length 1)),(6,.c (.d (.int .u64 p.2))),(13,nK .u32 a),(14,.c (.d (.int .i64 (dO a).length))),(15,.c (.d (.int .i64 p.1.length)))],
  upd (fun _=>.hole) 0 (.cells true false 194 (wK .u32 (p.1++List.replicate ((dO a).length - p.1.length) 0)))⟩) 1
  (fun p=>p.1.length≤(dO a).length∧ok 4294967296 p.1∧p.2≤1∧val 4294967296 p.1+val 4294967296 ((dO b).take p.1.length)=val 4294967296 ((dO a).take p.1.length)+4294967296 ^ p.1.length*p.2)
  (fun p=>(dO a).length - p.1.length) ([],0) (Le.mk' _ (by simp [wK_zeros]) (by simp) (by simp)) (by simp [ok_nil]) ?_
 rintro⟨pre,c⟩ ⟨h1,h2,h3,h4⟩
 simp only at h1 h2 h3 h4
 refine AW.q ?_
 refine AW.seqK fun K2 hK2=>?_
 by_cases hlt:pre.length<(dO a).length
 ·refine AW.fy (by simp_all) (AW.skip (hK2 _ _ ?_))
  have hz:(dO a).length - pre.length=((dO a).length - pre.length - 1)+1:=by omega
  refine AW.seqK fun K3 hK3=>AW.block (AW.sr fun K4 hK4=>?_)
  simp [hlt]
  apply hK4
  refine AW.sr fun K4 hK4=>?_
  simp
  have hx:(dO a)[pre.length]<4294967296:=oka _ (List.getElem_mem hlt)
  generalize hxe:(dO a)[pre.length]=x at hx
  have e3:=wu64 (n:=(x:Int)) (by omega) (by omega)
  simp only [e3]
  apply hK4
  refine AW.seqK fun K5 hK5=>AW.seqK fun K6 hK6=>?_
  have fin:∀ (y:Nat) (fr:Nat→AV) (κ:Nat),y<4294967296→val 4294967296 ((dO b).take (pre.length+1))=val 4294967296 ((dO b).take pre.length)+4294967296 ^ pre.length*y →
   fr 0=nK .u32 a→fr 1=nK .u32 b→fr 5=.c (.lsl 0 0 (dO a).length 1)→fr 9=.c (.d (.int .u64 (IntKind.u64.wrap (IntKind.u64.wrap ((x:Int) - c) - y))))→fr 7=.c (.d (.int .i64 pre.length)) →
   fr 13=nK .u32 a→fr 14=.c (.d (.int .i64 (dO a).length))→fr 15=.c (.d (.int .i64 pre.length)) →
   K5 ⟨fr,upd (fun _=>.hole) 0 (.cells true false 194 (wK .u32 (pre++List.replicate ((dO a).length - pre.length) 0)))⟩ κ:=by
   intro y fr κ hy hbv q0 q1 q5 q9 q7 q13 q14 q15
   obtain⟨v,bb,g1,g2,g3,g4,g5⟩:=sub_step hx h3 hy
   apply hK5
   refine AW.at0 2 ?_
   have e6:setSeg (wK .u32 (pre++List.replicate ((dO a).length - pre.length) 0)) pre.length [CV.d (.int .u32 (v:Int))]=wK .u32 (pre++[v]++List.replicate ((dO a).length - pre.length - 1) 0):=by
    rw [hz,wK_set _ (by simp),set_zeros];simp
   have e7:(pre.length:Int)<((dO a).length:Int):=by omega
   refine AW.sr fun K7 hK7=>?_
   simp [q5,q9,q7,g4,e6,e7]
   repeat refine and_o ?_
   apply hK7
   refine AW.rP ?_
   simp [q9,IntKind.bits,g5]
   apply hK3
   have e9:=w64 (n:=(pre.length:Int)+1) (by omega) (by omega)
   refine AW.rP ?_
   simp [q15,e9]
   have e10:(dO a).length - pre.length - 1=(dO a).length - (pre.length+1):=by omega
   refine⟨pre++[v],bb,Le.mk' _ (by simp [e10]) (by simp) (by simp [q0,q1,q5,q13,q14]),⟨by simp;omega,ok_append.2 ⟨h2,ok_cons.2 ⟨g1,ok_nil _⟩⟩,g2,?_⟩,by simp;omega⟩
   rw [List.length_append,List.length_singleton,val_snoc,val_take_succ hlt,hxe,hbv,Nat.pow_succ]
   have g6:4294967296 ^ pre.length*(v+c+y)=4294967296 ^ pre.length*(x+4294967296*bb):=by rw [g3]
   rw [Nat.mul_add,Nat.mul_add,Nat.mul_add,← Nat.mul_assoc] at g6
   omega
  refine AW.l0 (hK6 _ _ ?_)
  by_cases hlb:pre.length<(dO b).length
  ·refine AW.fy (by simp [hlb] <;> omega) ?_
   have hy:(dO b)[pre.length]<4294967296:=okb _ (List.getElem_mem hlb)
   have e5:=wu64 (n:=((dO b)[pre.length]:Int)) (by omega) (by omega)
   refine AW.rP ?_
   simp [hlb,e5]
   exact fin _ _ _ hy (val_take_succ hlb) (by simp) (by simp) (by simp) (by simp) (by simp) (by simp) (by simp) (by simp)
  ·refine AW.fn (by simp [hlb] <;> omega) (AW.skip ?_)
   simp
   exact fin 0 _ _ (by omega) (by rw [val_take_ge (by omega),val_take_ge (by omega)];rfl) (by simp) (by simp) (by simp) (by rw [sub_step0 hx h3];simp) (by simp) (by simp) (by simp) (by simp)
 ·refine AW.fn (by simp_all) (AW.exit ?_)
  simp
  have e2:pre.length=(dO a).length:=by omega
  apply hK
  refine AW.sr fun K hK=>?_
  simp
  have hlb:val 4294967296 ((dO b).take pre.length)=val 4294967296 (dO b):=by
   by_cases hb:(dO b).length≤pre.length
   ·exact val_take_ge hb
   ·have g1:=val_take_drop (B:=4294967296) (dO b) pre.length (by omega)
    have g2:=val_lt oka
    rw [← e2] at g2
    have g3:val 4294967296 ((dO b).drop pre.length)=0:=by
     apply Classical.byContradiction
     intro hne
     have:4294967296 ^ pre.length*1≤4294967296 ^ pre.length*val 4294967296 ((dO b).drop pre.length):=Nat.mul_le_mul_left _ (by omega)
     omega
    grind
  have hva:val 4294967296 ((dO a).take pre.length)=val 4294967296 (dO a):=val_take_ge (by omega)
  have hc:c=0:=by
   apply Classical.byContradiction
   intro hne
   have:c=1:=by omega
   subst this
   have:=val_lt h2
   rw [hlb,hva] at h4
   omega
  subst hc
  have hout:trimN pre=dig 4294967296 (val 4294967296 (dO a) - val 4294967296 (dO b)):=by
   refine trim_dig (by decide) h2 ?_
   rw [hlb,hva] at h4;omega
  rw [← e2]
  simp only [Nat.sub_self,List.replicate_zero,List.append_nil]
  refine CallP.frzN 0 1 0 (by simp;rfl) (by omega) (exact_cut_ok _ _) (by simp) (by simp) (by simp) ?_
  simp
  apply hK
  exact AW.r0 (FinP.rt rfl 1 (by simp [hout]))
theorem mul_step {B i j T x y V o c L L':Nat}(h1:L+B ^ (i+j)*c=T+B ^ i*(x*V)) (h2:L'+B ^ (i+j)*o=L+B ^ (i+j)*((c+(x*y+o)) % B)) :
 L'+B ^ (i+j+1)*((c+(x*y+o)) / B)=T+B ^ i*(x*(V+B ^ j*y)):=by
 have h3:=mod_div_pow B (i+j) (c+(x*y+o))
 grind
theorem exact_mul_ok (G:List (List DV))(a b:Option (List Nat))(ha:(dO a).length≤1000000000000)(hb:(dO b).length≤1000000000000) :
 CallsP Tryz.prog G 130 [nK .u32 a,nK .u32 b] (nK .u32 (some (dig 4294967296 (val 4294967296 (dO a)*val 4294967296 (dO b))))):=by
 refine CallsS.know 0 (by simp) (fun V v h=>nK_rng h) fun hra=>?_
 refine CallsS.know 1 (by simp) (fun V v h=>nK_rng h) fun hrb=>?_
 have oka:ok 4294967296 (dO a):=fun d hd=>by have:=hra.2 d hd;simp only [hiK] at this;omega
 have okb:ok 4294967296 (dO b):=fun d hd=>by have:=hrb.2 d hd;simp only [hiK] at this;omega
 refine CallsP.en Go.Proofs.Tryz.func130 rfl fun _=>AW.q ?_
 refine AW.seqK fun K hK=>?_
 have e0:IntKind.i64.wrap (((dO a).length:Int)+(dO b).length)=(((dO a).length+(dO b).length:Nat):Int):=by rw [w64 (by omega) (by omega)];omega
 refine AW.rP ?_
 simp [e0,-Int.natCast_add]
 repeat refine and_o ?_
 apply hK
 refine AW.seqK fun K hK=>AW.q ?_
 refine AW.block ?_
 refine AW.loopV (fun (p:Nat × List Nat)=>⟨frOf [(0,nK .u32 a),(1,nK .u32 b),(5,.c (.lsl 0 0 ((dO a).length+(dO b).length) 1)),(17,nK .u32 a),(18,.c (.d (.int .i64 (dO a).length))),(19,.c (.d (.int .i64 p.1)))],
  upd (fun _=>.hole) 0 (.cells true false 194 (wK .u32 (p.2++List.replicate ((dO a).length - p.1) 0)))⟩) 1
  (fun p=>p.1≤(dO a).length∧p.2.length=p.1+(dO b).length∧ok 4294967296 p.2∧val 4294967296 p.2=val 4294967296 ((dO a).take p.1)*val 4294967296 (dO b))
  (fun p=>(dO a).length - p.1) (0,List.replicate (dO b).length 0) (Le.mk' _ (by simp [wK_zeros,Nat.add_comm]) (by simp) (by simp)) ⟨by simp,by simp,ok_zeros (by omega) _,by simp [val_zeros]⟩ ?_
 rintro⟨i,lo⟩ ⟨h1,h2,h3,h4⟩
 simp only at h1 h2 h3 h4
 refine AW.q ?_
 refine AW.seqK fun K2 hK2=>?_
 by_cases hlt:i<(dO a).length
 ·refine AW.fy (by simp_all) (AW.skip (hK2 _ _ (AW.seqK fun K3 hK3=>AW.block (AW.sr fun K4 hK4=>?_))))
  simp [hlt]
  apply hK4
  refine AW.sr fun K4 hK4=>?_
  simp
  have hx:(dO a)[i]<4294967296:=oka _ (List.getElem_mem hlt)
  generalize hxe:(dO a)[i]=x at hx
  apply hK4
  refine AW.seqK fun K4 hK4=>AW.sr fun K5 hK5=>?_
  simp
  apply hK5
  refine AW.block ?_
  refine AW.loopV (fun (p:Nat × List Nat × Nat)=>⟨frOf [(0,nK .u32 a),(1,nK .u32 b),(5,.c (.lsl 0 0 ((dO a).length+(dO b).length) 1)),(17,nK .u32 a),(18,.c (.d (.int .i64 (dO a).length))),(19,.c (.d (.int .i64 i))),
   (6,.c (.d (.int .i64 i))),(7,.c (.d (.int .u32 x))),(8,.c (.d (.int .u64 p.2.2))),(24,nK .u32 b),(25,.c (.d (.int .i64 (dO b).length))),(26,.c (.d (.int .i64 p.1)))],
   upd (fun _=>.hole) 0 (.cells true false 194 (wK .u32 (p.2.1++List.replicate ((dO a).length - i) 0)))⟩) 2
   (fun p=>p.1≤(dO b).length∧p.2.1.length=i+(dO b).length∧ok 4294967296 p.2.1∧p.2.2<4294967296∧val 4294967296 p.2.1+4294967296 ^ (i+p.1)*p.2.2=val 4294967296 ((dO a).take i)*val 4294967296 (dO b)+4294967296 ^ i*(x*val 4294967296 ((dO b).take p.1)))
   (fun p=>(dO b).length - p.1) (0,lo,0) (Le.mk' _ (by simp) (by simp) (by simp)) ⟨by simp,h2,h3,by simp,by simp [h4]⟩ ?_
  rintro⟨j,lo2,c⟩ ⟨g1,g2,g3,g4,g5⟩
  simp only at g1 g2 g3 g4 g5
  refine AW.q ?_
  refine AW.seqK fun K7 hK7=>?_
  by_cases hlj:j<(dO b).length
  ·refine AW.fy (by simp [hlj] <;> omega) (AW.skip (hK7 _ _ (AW.seqK fun K8 hK8=>AW.block (AW.sr fun K9 hK9=>?_))))
   simp [hlj]
   apply hK9
   refine AW.seqK fun K9 hK9=>?_
   have hy:(dO b)[j]<4294967296:=okb _ (List.getElem_mem hlj)
   have hij:i+j<lo2.length:=by omega
   have hij2:i+j<(lo2++List.replicate ((dO a).length - i) 0).length:=by simp;omega
   have hij3:i+j<lo2.length+((dO a).length - i):=by omega
   have ho:lo2[i+j]<4294967296:=g3 _ (List.getElem_mem hij)
   have ho2:(lo2++List.replicate ((dO a).length - i) 0)[i+j]=lo2[i+j]:=List.getElem_append_left hij
   have hb2:val 4294967296 ((dO b).take (j+1))=val 4294967296 ((dO b).take j)+4294967296 ^ j*(dO b)[j]:=val_take_succ hlj
   have hset:=val_set (B:=4294967296) hij
   generalize (dO b)[j]=y at hy hb2
   generalize lo2[i+j]=o at ho ho2 hset
   have hxy:x*y≤4294967295*4294967295:=Nat.mul_le_mul (by omega) (by omega)
   have e1:IntKind.i64.wrap ((i:Int)+j)=((i+j:Nat):Int):=by rw [w64 (by omega) (by omega)];omega
   have e2:=wu64 (n:=(x:Int)) (by omega) (by omega)
   have e3:=wu64 (n:=(y:Int)) (by omega) (by omega)
   have e4:IntKind.u64.wrap ((x:Int)*y)=((x*y:Nat):Int):=by
    rw [← Int.natCast_mul];generalize x*y=p at hxy;exact wu64 (by omega) (by omega)
   have e5:=wu64 (n:=(o:Int)) (by omega) (by omega)
   have e6:IntKind.u64.wrap (((x*y:Nat):Int)+o)=((x*y+o:Nat):Int):=by
    generalize x*y=p at hxy;rw [wu64 (by omega) (by omega)];omega
   have e7:IntKind.u64.wrap ((c:Int)+((x*y+o:Nat):Int))=((c+(x*y+o):Nat):Int):=by
    generalize x*y=p at hxy;rw [wu64 (by omega) (by omega)];omega
   refine AW.rP ?_
   simp [e1,e2,e3,e4,e5,e6,e7,hij3,ho2,-Int.natCast_add,-Int.natCast_mul]
   repeat refine and_o ?_
   apply hK9
   have hbd:c+(x*y+o)<18446744073709551616:=by generalize x*y=p at hxy;omega
   generalize hm:c+(x*y+o)=m at hbd
   have f1:IntKind.u32.wrap (m:Int)=((m % 4294967296:Nat):Int):=by rw [wu32m];omega
   have f2:setSeg (wK .u32 (lo2++List.replicate ((dO a).length - i) 0)) (i+j) [CV.d (.int .u32 ((m % 4294967296:Nat):Int))]=wK .u32 (lo2.set (i+j) (m % 4294967296)++List.replicate ((dO a).length - i) 0):=by
    rw [wK_set _ hij2,List.set_append_left _ _ hij]
   have f3:Int.fdiv (m:Int) 4294967296=((m / 4294967296:Nat):Int):=by rw [Int.fdiv_eq_ediv_of_nonneg _ (by omega)];omega
   have f4:(i+j:Int)<(dO a).length+(dO b).length:=by omega
   refine AW.sr fun K9 hK9=>?_
   simp [e1,f1,f2,-Int.natCast_add,-Int.natCast_emod]
   repeat refine and_o ?_
   apply hK9
   refine AW.rP ?_
   simp [IntKind.bits,f3,-Int.natCast_ediv]
   apply hK8
   have f5:=w64 (n:=(j:Int)+1) (by omega) (by omega)
   refine AW.rP ?_
   simp [f5]
   refine⟨j+1,lo2.set (i+j) (m % 4294967296),m / 4294967296,Le.mk' _ (by simp) (by simp) (by simp),⟨by omega,by simp [g2],ok_set g3 _ (Nat.mod_lt _ (by omega)),?_,?_⟩,by omega⟩
   ·omega
   ·rw [hb2,← hm,← Nat.add_assoc i j 1]
    exact mul_step g5 (by grind)
  ·refine AW.fn (by simp [hlj] <;> omega) (AW.exit (hK4 _ _ ?_))
   have ej:j=(dO b).length:=by omega
   subst ej
   rw [val_take_ge (Nat.le_refl _)] at g5
   have e1:IntKind.i64.wrap ((i:Int)+(dO b).length)=((i+(dO b).length:Nat):Int):=by rw [w64 (by omega) (by omega)];omega
   have e2:=wu32 (n:=(c:Int)) (by omega) (by omega)
   have hz:(dO a).length - i=((dO a).length - i - 1)+1:=by omega
   have f2:setSeg (wK .u32 (lo2++List.replicate ((dO a).length - i) 0)) (i+(dO b).length) [CV.d (.int .u32 (c:Int))]=wK .u32 (lo2++[c]++List.replicate ((dO a).length - i - 1) 0):=by
    rw [wK_set _ (by simp;omega),hz,← g2,set_zeros];simp
   have f6:i+(dO b).length<lo2.length+((dO a).length - i):=by omega
   refine AW.rP ?_
   simp [e1,e2,f2,-Int.natCast_add]
   repeat refine and_o ?_
   apply hK3
   have f5:=w64 (n:=(i:Int)+1) (by omega) (by omega)
   refine AW.rP ?_
   simp [f5]
   have f7:(dO a).length - (i+1)=(dO a).length - i - 1:=by omega
   refine⟨i+1,lo2++[c],Le.mk' _ (by simp [f7]) (by simp) (by simp),⟨by omega,by simp;omega,ok_append.2 ⟨g3,ok_cons.2 ⟨g4,ok_nil _⟩⟩,?_⟩,by omega⟩
   rw [val_snoc,g2,g5,val_take_succ hlt,hxe,Nat.add_mul,Nat.mul_assoc]
 ·refine AW.fn (by simp_all) (AW.exit (hK _ _ ?_))
  have e2:i=(dO a).length:=by omega
  subst e2
  refine AW.sr fun K hK=>?_
  simp
  rw [← h2]
  have hout:trimN lo=dig 4294967296 (val 4294967296 (dO a)*val 4294967296 (dO b)):=by
   refine trim_dig (by decide) h3 ?_
   rw [h4,val_take_ge (Nat.le_refl _)]
  refine CallP.frzN 0 1 0 (by simp;rfl) (by omega) (exact_cut_ok _ _) (by simp) (by simp) (by simp) ?_
  simp
  apply hK
  exact AW.r0 (FinP.rt rfl 1 (by simp [hout]))
theorem exact_small_ok (G:List (List DV))(a:Option (List Nat))(b:Nat)(hb:b≠0)(ha:(dO a).length≤1000000000000) :
 CallsP Tryz.prog G 177 [nK .u32 a,.c (.d (.int .u32 b))] (.tup [nK .u32 (some (dig 4294967296 (val 4294967296 (dO a) / b))),.c (.d (.int .u32 ((val 4294967296 (dO a) % b:Nat):Int)))]):=by
 refine CallsS.know 0 (by simp) (fun V v h=>nK_rng h) fun hra=>?_
 refine CallsS.know 1 (by simp) (fun V v h=>Vw.int_rng h) fun hrb=>?_
 have oka:ok 4294967296 (dO a):=fun d hd=>by have:=hra.2 d hd;simp only [hiK] at this;omega
 rw [wrap_iff] at hrb;simp only [loK,hiK] at hrb
 refine CallsP.en Go.Proofs.Tryz.func177 rfl fun _=>AW.q ?_
 refine AW.q ?_
 refine AW.q ?_
 refine AW.seqK fun K hK=>AW.seqK fun K1 hK1=>?_
 have e1:=w64 (n:=((dO a).length:Int) - 1) (by omega) (by omega)
 refine AW.l1 e1 (hK1 _ _ ?_)
 refine AW.block ?_
 refine AW.loopV (fun (p:Nat × List Nat × Nat)=>⟨frOf [(0,nK .u32 a),(1,.c (.d (.int .u32 b))),(4,.c (.lsl 0 0 (dO a).length 1)),(6,.c (.d (.int .u64 p.2.2))),(7,.c (.d (.int .i64 ((p.1:Int) - 1))))],
  upd (fun _=>.hole) 0 (.cells true false 194 (wK .u32 (List.replicate p.1 0++p.2.1)))⟩) 1
  (fun p=>p.1+p.2.1.length=(dO a).length∧ok 4294967296 p.2.1∧p.2.2<b∧val 4294967296 ((dO a).drop p.1)=val 4294967296 p.2.1*b+p.2.2)
  (fun p=>p.1) ((dO a).length,[],0) (Le.mk' _ (by simp [wK_zeros]) (by simp) (by simp)) (by simp [ok_nil];omega) ?_
 rintro⟨k,qs,r⟩ ⟨h1,h2,h3,h4⟩
 simp only at h1 h2 h3 h4
 refine AW.seqK fun K3 hK3=>AW.q ?_
 cases k with
 | zero=>
  refine AW.cn (AW.exit (hK _ _ (AW.sr fun K hK=>?_)))
  simp
  have e2:(dO a).length=qs.length:=by omega
  have e3:=wu32 (n:=(r:Int)) (by omega) (by omega)
  rw [e2]
  simp only [List.drop_zero] at *
  have hq:val 4294967296 (dO a) / b=val 4294967296 qs:=by
   rw [h4,Nat.add_comm,Nat.add_mul_div_right _ _ (by omega),Nat.div_eq_of_lt h3];omega
  have hr:val 4294967296 (dO a) % b=r:=by
   rw [h4,Nat.add_comm,Nat.add_mul_mod_self_right,Nat.mod_eq_of_lt h3]
  have hout:trimN qs=dig 4294967296 (val 4294967296 (dO a) / b):=trim_dig (by decide) h2 hq.symm
  refine CallP.frzN 0 1 0 (by simp;rfl) (by omega) (exact_cut_ok _ _) (by simp) (by simp) (by simp) ?_
  simp [e3]
  apply hK
  exact AW.r0 (FinP.t2 rfl 1 (by simp [hout]) (by simp [hr]))
 | succ k=>
  have hk:k<(dO a).length:=by omega
  have e2:((k+1:Nat):Int) - 1=k:=by omega
  simp only [e2]
  refine AW.cy (AW.skip (hK3 _ _ (AW.seqK fun K5 hK5=>AW.block (AW.seqK fun K6 hK6=>?_))))
  have hx:(dO a)[k]<4294967296:=oka _ (List.getElem_mem hk)
  have hd:val 4294967296 ((dO a).drop k)=(dO a)[k]+4294967296*val 4294967296 ((dO a).drop (k+1)):=val_drop hk
  generalize hxe:(dO a)[k]=x at hx hd
  have f1:IntKind.u64.wrap ((r:Int)*4294967296)=((r*4294967296:Nat):Int):=by rw [wu64 (by omega) (by omega)];omega
  have f2:=wu64 (n:=(x:Int)) (by omega) (by omega)
  have f3:=or_add64 (m:=r) (y:=x) (by omega) hx
  refine AW.rP ?_
  simp [hk,hxe,f1,f2,f3,IntKind.bits,-Int.natCast_add,-Int.natCast_mul]
  apply hK6
  have hb1:r*4294967296+x<b*4294967296:=by
   have:(r+1)*4294967296≤b*4294967296:=Nat.mul_le_mul_right _ h3
   omega
  generalize hm:r*4294967296+x=m at hb1
  have g1:=wu64 (n:=(b:Int)) (by omega) (by omega)
  have g2:m / b<4294967296:=by rw [Nat.div_lt_iff_lt_mul (by omega),Nat.mul_comm];exact hb1
  have hdm:=Nat.div_add_mod m b
  have hml:m % b<b:=Nat.mod_lt _ (by omega)
  have g3:Int.tdiv (m:Int) b=((m / b:Nat):Int):=by rw [Int.tdiv_eq_ediv_of_nonneg (Int.natCast_nonneg m),← Int.natCast_ediv]
  have g8:Int.tmod (m:Int) b=((m % b:Nat):Int):=by rw [Int.tmod_eq_emod_of_nonneg (Int.natCast_nonneg m),← Int.natCast_emod]
  generalize m / b=q at g2 g3 hdm
  generalize m % b=r' at g8 hdm hml
  have g3':=wu64 (n:=(q:Int)) (by omega) (by omega)
  have g4:=wu32 (n:=(q:Int)) (by omega) (by omega)
  have g5:setSeg (wK .u32 (List.replicate (k+1) 0++qs)) k [CV.d (.int .u32 (q:Int))]=wK .u32 (List.replicate k 0++(q::qs)):=by
   rw [wK_set _ (by simp;omega),zeros_set]
  have g6:¬ ((b:Int)=0):=by omega
  have g7:(k:Int)<(dO a).length:=by omega
  refine AW.f7 g1 g3 g3' g4 g5 hb hk ?_
  refine AW.rP ?_
  simp [g1,g8,hb]
  apply hK5
  have g9:=w64 (n:=(k:Int) - 1) (by omega) (by omega)
  refine AW.rP ?_
  simp [g9]
  refine⟨k,q::qs,r',Le.mk' _ (by simp) (by simp) (by simp),⟨by simp;omega,ok_cons.2 ⟨g2,h2⟩,hml,?_⟩,by omega⟩
  rw [hd,h4,val_cons]
  grind
theorem exact_of_ok (G:List (List DV))(n:Nat)(hn:n<18446744073709551616):CallsP Tryz.prog G 92 [.c (.d (.int .u64 n))] (nK .u32 (some (dig 4294967296 n))):=by
 refine CallsP.en Go.Proofs.Tryz.func92 rfl fun _=>AW.q ?_
 refine AW.seqK fun K hK=>?_
 have e1:IntKind.u32.wrap (n:Int)=((n % 4294967296:Nat):Int):=by rw [wu32m];omega
 have e2:Int.fdiv (n:Int) 4294967296=((n / 4294967296:Nat):Int):=by rw [Int.fdiv_eq_ediv_of_nonneg _ (by omega)];omega
 have e3:IntKind.u32.wrap ((n / 4294967296:Nat):Int)=((n / 4294967296:Nat):Int):=wu32 (by omega) (by omega)
 have hok:ok 4294967296 [n % 4294967296,n / 4294967296]:=ok_cons.2 ⟨by omega,ok_cons.2 ⟨by omega,ok_nil _⟩⟩
 have hout:trimN [n % 4294967296,n / 4294967296]=dig 4294967296 n:=trim_dig (by decide) hok (by simp;omega)
 generalize hq:n / 4294967296=q at *
 generalize hr:n % 4294967296=r at *
 refine AW.rP ?_
 simp [IntKind.bits,e1,e2,e3,stepBuildSlice,fillA,setSeg,repl]
 refine CallP.frzN (l:=[r,q]) 0 1 0 (by simp [wK];rfl) (by simp) (exact_cut_ok _ _) (by simp) (by simp) (by simp) ?_
 simp
 apply hK
 exact AW.r0 (FinP.rt rfl 1 (by simp [hout]))
theorem exact_is1_ok (G:List (List DV))(a:Option (List Nat))(ha:can 4294967296 (dO a)):CallsP Tryz.prog G 93 [nK .u32 a] (.c (.d (.bool (decide (val 4294967296 (dO a)=1))))):=by
 refine CallsP.en Go.Proofs.Tryz.func93 rfl fun _=>AW.q ?_
 refine AW.seqK fun K hK=>?_
 have h0:(dO a).length=1↔∃ x,dO a=[x]:=by
  constructor
  ·intro h;match hd:dO a,h with|[x],_=>exact⟨x,rfl⟩
  ·grind
 by_cases hl:(dO a).length=1
 ·obtain⟨x,hx⟩:=h0.1 hl
  have h1:0<(dO a).length:=by omega
  have h2:(dO a)[0]=x:=by simp [hx]
  have h3:val 4294967296 (dO a)=x:=by simp [hx]
  have h4:=ix_nK' (P:=Tryz.prog) (T:=28) (lv:=fun _=>.hole) (k:=.u32) (k':=.i64) (o:=a) (i:=0) (by simp) h1
  simp only [Int.natCast_zero,h2] at h4
  refine AW.l2 hl h4 (hK _ _ ?_)
  have h5:(x:Int)=1↔x=1:=by omega
  exact AW.r0 (FinP.rt rfl 0 (by simp_all))
 ·have h3:¬ val 4294967296 (dO a)=1:=by
   intro h
   have:=dig_of (by decide:2≤4294967296) ha h
   rw [this] at hl
   exact hl rfl
  have h4:¬ ((dO a).length:Int)=1:=by omega
  refine AW.l2 hl h4 (hK _ _ ?_)
  exact AW.r0 (FinP.rt rfl 0 (by simp [h3]))
noncomputable def rdBody:Code:=match Tryz.f91.body with|some (.seq _ (.seq _ (.seq (.seq _ (.block _ (.rangeFunc _ _ _ b))) _)))=>b|_=>.skip
noncomputable def rdAsg:Code:=match Tryz.f91.body with|some (.seq _ (.seq _ (.seq (.seq _ (.block _ (.rangeFunc _ _ b _))) _)))=>b|_=>.skip
def LVr (u:List UInt8)(d:DV):Key→LB:=upd (upd (fun _=>.hole) 0 (.cells false false 9 [.d (.str u)])) 1 (.cells false false 28 [.d d])
theorem LVr_ok (u:List UInt8)(d:DV):∀ k,LVr u d k=.hole∨∃ T cs,LVr u d k=.cells false false T cs:=by
 intro k
 unfold LVr upd
 grind
theorem LVr_put (u:List UInt8)(d d':DV):upd (LVr u d) 1 (.cells false false 28 [.d d'])=LVr u d':=by
 funext k
 unfold LVr upd
 grind
theorem read_body (G:List (List DV))(v sz:Nat)(hv:v<4294967296)(hz:sz<4294967296)(o:Option (List Nat))(dv:DV)(hdv:(.c (.d dv):AV)=nK .u32 o)(hl:(dO o).length≤100000000000)(L:Nat)(hL:L≤100000000000)(hval:val 4294967296 (dO o)<4294967296 ^ L)(u:List UInt8)(r:Option Nat)(fr:Nat→AV)
 (f3:fr 3=.c (.ptr 1 0)) (f4:fr 4=.c (.d (.int .u32 v))) (f5:fr 5=.c (.d (.int .u32 sz))) :
 ∀ c:Ctx,c.P=Tryz.prog→c.G=G→c.n=20→AW c r rdBody ⟨fr,LVr u dv⟩ 0 (fun x s _=>x=.normal∧s.lv=LVr u (.sl (dK .u32 (dig 4294967296 (val 4294967296 (dO o)*sz+v))))):=by
 rintro⟨_,Gc,w0,F0,W0,_,lv0,β0⟩ rfl hG rfl
 have hG:Gc=G:=hG
 subst hG
 have g1:LVr u dv 1=.cells false false 28 [.d dv]:=by simp [LVr]
 have g5:LVr u dv 5=.hole:=by simp [LVr,upd]
 have w1:IntKind.u64.wrap (sz:Int)=sz:=wu64 (by omega) (by omega)
 have w2:IntKind.u64.wrap (v:Int)=v:=wu64 (by omega) (by omega)
 have hp:(AV.c (.d dv)).pure=true:=by rw [hdv];cases o <;> rfl
 have b1:(dig 4294967296 sz).length≤1:=dig_len_le (by decide) (by omega)
 have b2:(dig 4294967296 v).length≤1:=dig_len_le (by decide) (by omega)
 have b3:(dig 4294967296 (val 4294967296 (dO o)*sz)).length≤L+1:=dig_len_le (by decide) (by
  rw [Nat.pow_succ]
  exact Nat.lt_of_le_of_lt (Nat.mul_le_mul_left _ (Nat.le_of_lt hz)) (Nat.mul_lt_mul_of_pos_right hval (by decide)))
 have m1:CallsP Tryz.prog Gc 130 [.c (.d dv),nK .u32 (some (dig 4294967296 sz))] (nK .u32 (some (dig 4294967296 (val 4294967296 (dO o)*sz)))):=by
  have:=exact_mul_ok Gc o (some (dig 4294967296 sz)) (by omega) (by simp;omega)
  rw [← hdv] at this
  simpa [dig_val] using this
 have m2:CallsP Tryz.prog Gc 132 [nK .u32 (some (dig 4294967296 (val 4294967296 (dO o)*sz))),nK .u32 (some (dig 4294967296 v))] (nK .u32 (some (dig 4294967296 (val 4294967296 (dO o)*sz+v)))):=by
  have:=exact_add_ok Gc (some (dig 4294967296 (val 4294967296 (dO o)*sz))) (some (dig 4294967296 v)) (by simp;omega) (by simp;omega)
  simpa [dig_val] using this
 refine AW.block ?_
 refine AW.drawP mixed (by kernel_rfl) rfl ?_
 simp [f3,f5,g1,w1]
 refine CallDo.pure 0 5 (exact_of_ok _ sz (by omega)) (by simp) (by simp) g5 ?_
 simp
 refine CallDo.pure 0 5 m1 (by simp) (by simp [hp]) g5 ?_
 simp [f4,w2]
 refine CallDo.pure 0 5 (exact_of_ok _ v (by omega)) (by simp) (by simp) g5 ?_
 simp
 refine CallDo.pure 0 5 m2 (by simp) (by simp) g5 ?_
 generalize dig 4294967296 (val 4294967296 (dO o)*sz+v)=ds at *
 have e1:nK .u32 (some ds)=.c (.d (.sl (dK .u32 ds))):=rfl
 simp [f3,g1,e1,setSeg]
 refine⟨by kernel_rfl,?_⟩
 exact LVr_put u dv (.sl (dK .u32 ds))
end Go.Am
namespace Go.Proofs
open Go.Shelf
def Tryz.lays217_ren:Go.Shelf.Ren:=⟨fun|217=>238|266=>263|n=>n,fun|9=>9|5=>5|3=>3|n=>n,fun|n=>n⟩
theorem Tryz.lays217:Go.Proofs.Lays.n217 Tryz.prog Tryz.lays217_ren:={
 mixed:=by kernel_rfl
 f217:=Tryz.func238.trans (congrArg some (by kernel_rfl))
 f266:=Tryz.func263.trans (congrArg some (by kernel_rfl))
 t3:=Tryz.underlying3
 a3:=Tryz.isAgg3
 z3:=Tryz.sizeOf3
 v3:=Tryz.zeroValue3
 t5:=Tryz.underlying5
 a5:=Tryz.isAgg5
 z5:=Tryz.sizeOf5
 v5:=Tryz.zeroValue5
 t9:=Tryz.underlying9
 a9:=Tryz.isAgg9
 z9:=Tryz.sizeOf9
 v9:=Tryz.zeroValue9 }
def Tryz.lays219_ren:Go.Shelf.Ren:=⟨fun|219=>197|217=>238|225=>239|224=>240|267=>241|266=>263|314=>264|n=>n,fun|9=>9|3=>3|4=>4|5=>5|46=>196|146=>304|51=>194|n=>n,fun|1=>1|n=>n⟩
theorem Tryz.lays219:Go.Proofs.Lays.n219 Tryz.prog Tryz.lays219_ren:={
 mixed:=by kernel_rfl
 f217:=Tryz.func238.trans (congrArg some (by kernel_rfl))
 f219:=Tryz.func197.trans (congrArg some (by kernel_rfl))
 f224:=Tryz.func240.trans (congrArg some (by kernel_rfl))
 f225:=Tryz.func239.trans (congrArg some (by kernel_rfl))
 f266:=Tryz.func263.trans (congrArg some (by kernel_rfl))
 f267:=Tryz.func241.trans (congrArg some (by kernel_rfl))
 f314:=Tryz.func264.trans (congrArg some (by kernel_rfl))
 t3:=Tryz.underlying3
 a3:=Tryz.isAgg3
 z3:=Tryz.sizeOf3
 v3:=Tryz.zeroValue3
 t4:=Tryz.underlying4
 a4:=Tryz.isAgg4
 z4:=Tryz.sizeOf4
 v4:=Tryz.zeroValue4
 t5:=Tryz.underlying5
 a5:=Tryz.isAgg5
 z5:=Tryz.sizeOf5
 v5:=Tryz.zeroValue5
 t9:=Tryz.underlying9
 a9:=Tryz.isAgg9
 z9:=Tryz.sizeOf9
 v9:=Tryz.zeroValue9
 t46:=Tryz.underlying196
 a46:=Tryz.isAgg196
 z46:=Tryz.sizeOf196
 v46:=Tryz.zeroValue196
 t51:=Tryz.underlying194
 a51:=Tryz.isAgg194
 z51:=Tryz.sizeOf194
 v51:=Tryz.zeroValue194
 t146:=Tryz.underlying304
 a146:=Tryz.isAgg304
 z146:=Tryz.sizeOf304
 v146:=Tryz.zeroValue304
 g1:=by kernel_rfl }
open Go.RowKit Go.Lib in
theorem Tryz.stringslite_IndexByte (s:ByteArray)(c:Int)(w:World) :
 Calls Tryz.prog 238 #[.string s,.int .u8 c] w fun e w'=>e=.returned (.int .i64 (Lib.indexByte s.data.toList c.toNat.toUInt8))∧w'=w:=Any.stringslite_IndexByte Tryz.lays217 s c w
open Go.RowKit Go.Lib in
theorem Tryz.stringslite_Index (s sub:ByteArray)(m:Int)(w:World)(hs:s.size<4294967281)(hm:w.cell? ⟨1,0,none⟩=some (.int .i64 m)) :
 Calls Tryz.prog 197 #[.string s,.string sub] w fun e w'=>e=.returned (.int .i64 (Lib.index s.data.toList sub.data.toList))∧w'=w:=Any.stringslite_Index Tryz.lays219 s sub m w hs hm
end Go.Proofs
namespace Go.Am
open Go.Proofs Go.Lib
def bOK (T off len:Nat):Bool:=(Nat.beq T 232 && (Nat.beq off 0 && Nat.ble 2 len))
theorem bOK_iff {T off len:Nat}(h:bOK T off len=true):T=232∧off=0∧2≤len:=by
 simp only [bOK,Bool.and_eq_true] at h
 simp_all
theorem bSize:(Tryz.prog.info? 232).map (·.size)=some 2:=by kernel_rfl
theorem bCells:Tryz.prog.cellsOf 232=2:=by kernel_rfl
theorem bDepth:∃ d,Tryz.prog.depth=d+1:=⟨Tryz.prog.depth - 1,by kernel_rfl⟩
theorem bRow:rowAt Tryz.prog (sameLayout Tryz.prog Tryz.prog.depth · 232) Tryz.prog.depth 232 1 0 1=true:=by kernel_rfl
theorem rowAt_mono {p:Program}{fits:TypeId→Bool}{d:Nat}{e:TypeId}{c c' off n:Nat}(h:rowAt p fits d e c off n=true) (hc:c≤c'):rowAt p fits d e c' off n=true:=by
 cases d with
 | zero=>simp [rowAt] at h
 | succ d=>
  unfold rowAt at h ⊢
  simp only at h ⊢
  split at h
  ·cases h
  grind
theorem bLies {T off n:Nat}(h:bOK T off n=true):liesAt Tryz.prog Tryz.prog.depth T (n / Tryz.prog.cellsOf T) off 232 1=true:=by
 obtain⟨d,hd⟩:=bDepth
 have key:∀ T off c,rowAt Tryz.prog (sameLayout Tryz.prog Tryz.prog.depth · 232) Tryz.prog.depth T c off 1=true→liesAt Tryz.prog Tryz.prog.depth T c off 232 1=true:=by
  intro T off c h
  rw [hd] at h ⊢
  unfold liesAt
  rw [hd,h]
  simp
 obtain⟨rfl,rfl,h3⟩:=bOK_iff h
 rw [bCells];exact key _ _ _ (rowAt_mono bRow (by omega))
theorem cc_used (b off:Nat)(w:World)(h0:w.cell? ⟨b,off,none⟩=some (.pointer (some ⟨b,off,none⟩))) :
 Calls Tryz.prog 234 #[.pointer (some ⟨b,off,none⟩)] w fun e w'=>e=.returned (.tuple #[])∧w'=w:=by
 obtain⟨j,hj,_⟩:=Option.map_eq_some_iff.1 bSize
 go_enter Tryz.func234,Tryz.ntmps234
 go_wp2
 rw [Lib.run_neq_ptr_same w _ Tryz.underlying229 hj]
 go_wp2
 go_end0
 simp
theorem cc_fresh (b off n:Nat)(T:TypeId)(w:World)(h0:w.cell? ⟨b,off,none⟩=some (.pointer none))(hn:bOK T off n=true)(hsh:w.shape? b=some (T,n))(hfz:w.frozen? ⟨b,off,none⟩=false) :
 Calls Tryz.prog 234 #[.pointer (some ⟨b,off,none⟩)] w fun e w'=>e=.returned (.tuple #[])∧w'=w.setCell ⟨b,off,none⟩ (.pointer (some ⟨b,off,none⟩)):=by
 obtain⟨j,hj,hjs⟩:=Option.map_eq_some_iff.1 bSize
 have hlt:off<n:=by obtain⟨_,h1,h2⟩:=bOK_iff hn;omega
 go_enter Tryz.func234,Tryz.ntmps234
 go_wp2
 rw [Lib.run_to_unsafe w ⟨b,off,none⟩ Tryz.underlying229 Tryz.underlying308 hj (by omega) hsh hlt]
 simp only [Result.andThen]
 rw [Oper.upon_value]
 go_wp2
 rw [run_callFunc_extern Tryz.func262 (by kernel_rfl) (by kernel_rfl) (by kernel_rfl) (e:=Extern.AbiNoEscape.same) (by kernel_rfl)]
 rw [Lib.run_noEscape]
 simp only [Result.andThen]
 rw [Oper.upon_value]
 go_wp2
 rw [Lib.run_from_unsafe w ⟨b,off,none⟩ Tryz.underlying308 Tryz.underlying229 hj hsh (bLies hn)]
 simp only [Result.andThen]
 rw [Oper.upon_value]
 go_wp2
 go_end0
 simp
theorem CallG.of_same {P:Program}{G:List (List DV)}{f:FuncId}{us:List AV}{lv:Key→LB}{x:AV}(hx:x.flat=true)
 (h:∀ (F:Nat→Prop) (β:Key→Nat) (w:World) (vs:Array Value),Sits (CtxE P G w F β lv) F β lv w→vs.size=us.length→(∀ i (h:i<us.length) (h':i<vs.size),(Vw.mk F β lv w).av vs[i] us[i]) →
  ∃ v,(Vw.mk F β lv w).av v x∧Calls P f vs w fun e w'=>e=.returned v∧w'=w):CallG P G f us lv (.ret x lv):=by
 intro F β w vs hS hl hv
 obtain⟨v,h1,h2⟩:=h F β w vs hS hl hv
 refine h2.mono fun e w' he=>?_
 obtain⟨rfl,rfl⟩:=he
 exact⟨v,F,β,rfl,hS,h1⟩
theorem args1 {V:Vw}{vs:Array Value}{x:AV}(hl:vs.size=[x].length) (hv:∀ i (h:i < [x].length) (h':i<vs.size),V.av vs[i] [x][i]):∃ u,vs=#[u]∧V.av u x:=by
 have h1:vs.size=1:=hl
 refine⟨vs[0],?_,hv 0 (by simp) (by omega)⟩
 grind
theorem args2 {V:Vw}{vs:Array Value}{x y:AV}(hl:vs.size=[x,y].length) (hv:∀ i (h:i < [x,y].length) (h':i<vs.size),V.av vs[i] [x,y][i]):∃ u v,vs=#[u,v]∧V.av u x∧V.av v y:=by
 have h1:vs.size=2:=hl
 refine⟨vs[0],vs[1],?_,hv 0 (by simp) (by omega),hv 1 (by simp) (by omega)⟩
 grind
def prefB:List UInt8→List UInt8→Bool
 | [],_=>true
 | a::l,b::m=>Nat.beq a.toNat b.toNat && prefB l m
 | _::_,[]=>false
theorem byte_beq (a b:UInt8):Nat.beq a.toNat b.toNat=(a == b):=by
 rw [Bool.eq_iff_iff]
 constructor
 ·intro h
  have:=Nat.eq_of_beq_eq_true h
  simpa using UInt8.toNat_inj.1 this
 simp_all
theorem prefB_eq:∀ (l m:List UInt8),prefB l m=l.isPrefixOf m
 | [],m=>by rfl
 | a::l,b::m=>by simp only [prefB,List.isPrefixOf,byte_beq,prefB_eq l m]
 | a::l,[]=>by rfl
def idxK (t:List UInt8):List UInt8→Nat→Option Nat
 | [],i=>bif prefB t [] then some i else none
 | a::l,i=>bif prefB t (a::l) then some i else idxK t l (Nat.succ i)
def optI:Option Nat→Int
 | some i=>Int.ofNat i
 | none=>Int.negSucc 0
theorem idxK_eq (t:List UInt8):∀ (s:List UInt8) (i:Nat),optI (idxK t s i)=if Lib.index s t = -1 then -1 else Lib.index s t+i
 | [],i=>by
  simp only [idxK,prefB_eq,Lib.index]
  cases t with
  | nil=>simp [optI]
  | cons a t=>simp [optI]
 | a::l,i=>by
  have ih:=idxK_eq t l (Nat.succ i)
  have e:Lib.index (a::l) t=if t.isPrefixOf (a::l) then 0 else (if Lib.index l t == -1 then -1 else Lib.index l t+1):=by simp only [Lib.index]
  simp only [idxK,prefB_eq]
  cases hp:t.isPrefixOf (a::l) with
  | true=>
   have e2:Lib.index (a::l) t=0:=by rw [e,if_pos hp]
   rw [e2];simp [optI]
  | false=>
   have e2:Lib.index (a::l) t=if Lib.index l t == -1 then -1 else Lib.index l t+1:=by rw [e,if_neg (by simp [hp])]
   rw [e2]
   simp only [cond_false]
   rw [ih]
   by_cases h:Lib.index l t = -1
   ·simp [h]
   ·have hge:=index_ge l t
    grind
theorem idxK_index (s t:List UInt8):Lib.index s t=optI (idxK t s 0):=by
 rw [idxK_eq]
 simp
theorem index_one (s:List UInt8)(c:UInt8):Lib.indexByte s c=Lib.index s [c]:=by
 induction s with
 | nil=>rfl
 | cons a s ih=>
  simp only [Lib.indexByte,Lib.index,ih]
  grind
def gIndex:List AV→Option AV
 | [.c (.d (.str s)),.c (.d (.str t))]=>bif Nat.blt s.length 4294967281 then some (.c (.d (.int .i64 (optI (idxK t s 0))))) else none
 | _=>none
def gIndexB:List AV→Option AV
 | [.c (.d (.str s)),.c (.d (.int .u8 (.ofNat n)))]=>bif Nat.blt s.length 4294967281 then some (.c (.d (.int .i64 (optI (idxK [UInt8.ofNat n] s 0))))) else none
 | _=>none
theorem av_int {V:Vw}{n:Int}(h:-9223372036854775808≤n∧n≤9223372036854775807):V.av (.int .i64 n) (.c (.d (.int .i64 n))):=
 Vw.mk_int _ _ _ (wrap_in (by simpa [loK,hiK] using h))
theorem index_rng (s t:List UInt8)(h:s.length<4294967281):-9223372036854775808≤Lib.index s t∧Lib.index s t≤9223372036854775807:=by
 have h1:=index_ge s t
 have h2:Lib.index s t≤s.length:=by
  clear h h1
  induction s with
  | nil=>simp only [Lib.index];omega
  | cons a s ih=>
   simp only [Lib.index]
   grind
 omega
theorem glob_cell {P:Program}{G:List (List DV)}{w:World}{F:Nat→Prop}{β:Key→Nat}{lv:Key→LB}{g:Nat}{k:IntKind}{n:Int}(hS:Sits (CtxE P G w F β lv) F β lv w) (hg:G[g]?=some [.int k n]):w.cell? ⟨g,0,none⟩=some (.int k n):=by
 have:=hS.glob g _ hg
 cases this with
 | ptr b off vs cs hm ho hr=>
  have h1:=hm 0 (by simp)
  have h2:=hr 0 (by simp)
  simp only [List.getElem_cons_zero] at h2
  have h3:=h1.2
  generalize vs 0=u at h2 h3
  cases h2
  exact h3
theorem gIndex_ok (m:Int){us:List AV}{x:AV}(h:gIndex us=some x) (lv:Key→LB):CallG Tryz.prog (GG m) 197 us lv (.ret x lv):=by
 unfold gIndex at h
 split at h
 ·rename_i s t
  cases hb:Nat.blt s.length 4294967281 with
  | false=>rw [hb] at h;cases h
  | true=>
   rw [hb] at h
   simp only [cond_true,Option.some.injEq] at h
   subst h
   have hs:s.length<4294967281:=Nat.le_of_ble_eq_true hb
   refine CallG.of_same (by rfl) fun F β w vs hS hl hv=>?_
   obtain⟨u,v,rfl,hu,hv⟩:=args2 hl hv
   have:=Tryz.stringslite_Index ⟨s.toArray⟩ ⟨t.toArray⟩ m w (by rw [size_mk];exact hs) (glob_cell hS rfl)
   refine⟨.int .i64 (optI (idxK t s 0)),?_,?_⟩
   ·rw [← idxK_index];exact av_int (index_rng s t hs)
   ·rw [Vw.c_str hu,Vw.c_str hv]
    simpa [idxK_index] using this
 ·cases h
theorem gIndexB_ok (m:Int){us:List AV}{x:AV}(h:gIndexB us=some x) (lv:Key→LB):CallG Tryz.prog (GG m) 238 us lv (.ret x lv):=by
 unfold gIndexB at h
 split at h
 ·rename_i s n
  cases hb:Nat.blt s.length 4294967281 with
  | false=>rw [hb] at h;cases h
  | true=>
   rw [hb] at h
   simp only [cond_true,Option.some.injEq] at h
   subst h
   have hs:s.length<4294967281:=Nat.le_of_ble_eq_true hb
   refine CallG.of_same (by rfl) fun F β w vs hS hl hv=>?_
   obtain⟨u,v,rfl,hu,hv⟩:=args2 hl hv
   have:=Tryz.stringslite_IndexByte ⟨s.toArray⟩ n w
   refine⟨.int .i64 (optI (idxK [UInt8.ofNat n] s 0)),?_,?_⟩
   ·rw [← idxK_index];exact av_int (index_rng s _ hs)
   ·rw [Vw.c_str hu,Vw.c_int hv]
    simpa [← idxK_index,index_one] using this
 ·cases h
theorem setCell_row {w:World}{b:Nat}{arr:Array Value}{T:TypeId}{v:Value}{fr:Nat × Nat}(hb:w.heap[b]?=some (.cells arr T fr)) (off:Nat) :
 w.setCell ⟨b,off,none⟩ v=w.setRow b (arr.setIfInBounds off v):=by
 unfold World.setCell World.setRow
 have:(w.heap.modify b fun
  | .cells c elem frozen=>.cells (c.setIfInBounds off v) elem frozen
  | o=>o)=w.heap.modify b fun
  | .cells _ elem frozen=>.cells (arr.setIfInBounds off v) elem frozen
  | o=>o:=by
  apply Array.ext
  ·simp
  ·intro i p q
   simp only [Array.getElem_modify]
   split
   ·rename_i hi
    subst hi
    obtain⟨h1,h2⟩:=Array.getElem?_eq_some_iff.1 hb
    rw [h2]
   ·rfl
 grind
theorem bOK_mono {T off n m:Nat}(h:bOK T off n=true) (hm:n≤m):bOK T off m=true:=by
 have key:∀ k,n≤m→Nat.ble k n=true→Nat.ble k m=true:=fun k h1 h2=>Nat.ble_eq_true_of_le (Nat.le_trans (Nat.le_of_ble_eq_true h2) h1)
 simp only [bOK,Bool.or_eq_true,Bool.and_eq_true] at h ⊢
 grind
theorem drop_at {α:Type}{cs r:List α}{x:α}{off:Nat}(h:cs.drop off=x::r):∃ hlt:off<cs.length,cs[off]=x:=by
 have hlt:off<cs.length:=by
  apply Classical.byContradiction
  intro hc
  rw [List.drop_eq_nil_of_le (by omega)] at h;cases h
 rw [List.drop_eq_getElem_cons hlt] at h
 grind
theorem self_used (m:Int)(lv:Key→LB)(k off T:Nat)(cs r:List CV)(hk:lv k=.cells false false T cs)(hc:cs.drop off=.ptr k off::r) :
 CallG Tryz.prog (GG m) 234 [.c (.ptr k off)] lv (.ret (.tup []) lv):=by
 intro F β w vs hS hl hv
 obtain⟨u,rfl,hu⟩:=args1 hl hv
 have hu1:u=.pointer (some ⟨β k,off,none⟩):=by
  obtain⟨h1,_⟩:=hu
  simpa only [Vw.atPtr,hk] using h1
 subst hu1
 have hb:=hS.blk k
 unfold Vw.blk at hb;simp only [hk] at hb
 obtain⟨arr,b1,b2,b3,_⟩:=hb
 obtain⟨hlt,hx⟩:=drop_at hc
 have hpos:off<arr.size:=by omega
 have h0:=b3 off hlt hpos
 rw [hx] at h0
 obtain⟨h0,_⟩:=h0
 simp only [Vw.atPtr,hk] at h0
 have hcell:w.cell? ⟨β k,off,none⟩=some (.pointer (some ⟨β k,off,none⟩)):=by
  rw [cell_of_heap b1];simp [hpos,h0]
 refine (cc_used _ _ w hcell).mono fun e w' he=>?_
 obtain⟨rfl,rfl⟩:=he
 exact⟨_,F,β,rfl,hS,⟨#[],rfl,rfl,fun i h=>absurd h (by simp)⟩⟩
theorem self_fresh (m:Int)(lv:Key→LB)(k off T:Nat)(cs r:List CV)(hok:bOK T off cs.length=true)(hk:lv k=.cells false false T cs)(hc:cs.drop off=.d .nilp::r) :
 CallG Tryz.prog (GG m) 234 [.c (.ptr k off)] lv (.ret (.tup []) (upd lv k (.cells false false T (setSeg cs off [.ptr k off])))):=by
 intro F β w vs hS hl hv
 obtain⟨u,rfl,hu⟩:=args1 hl hv
 have hu1:u=.pointer (some ⟨β k,off,none⟩):=by
  obtain⟨h1,_⟩:=hu
  simpa only [Vw.atPtr,hk] using h1
 subst hu1
 have hb:=hS.blk k
 unfold Vw.blk at hb;simp only [hk] at hb
 obtain⟨arr,b1,b2,b3,_⟩:=hb
 obtain⟨hlt,hx⟩:=drop_at hc
 have hpos:off<arr.size:=by omega
 have h0:=b3 off hlt hpos
 rw [hx] at h0
 have h0':arr[off]=.pointer none:=by
  obtain⟨h0,_⟩:=h0
  have h0:Rd _ arr[off] .nilp:=h0
  generalize arr[off]=v at h0
  cases h0;rfl
 have hcell:w.cell? ⟨β k,off,none⟩=some (.pointer none):=by
  rw [cell_of_heap b1];simp [hpos,h0']
 refine (cc_fresh _ off arr.size T w hcell (bOK_mono hok b2) (by simp [World.shape?,b1]) (frozen_of_heap b1 off)).mono fun e w' he=>?_
 obtain⟨rfl,rfl⟩:=he
 have hset:=setCell_row (v:=.pointer (some ⟨β k,off,none⟩)) b1 off
 have hle:off+[CV.ptr k off].length≤cs.length:=by simp;omega
 have hS2:=hS.setRow (arr:=arr.setIfInBounds off (.pointer (some ⟨β k,off,none⟩))) (cs':=setSeg cs off [.ptr k off]) hk b1 (by simp) (by rw [setSeg_length _ _ _ hle];grind) (by
  intro i p q
  rw [Array.getElem_setIfInBounds (by grind),setSeg_get _ _ _ hle i p]
  by_cases hi:off=i
  ·subst hi
   rw [if_pos rfl,dif_pos ⟨Nat.le_refl _,by simp⟩]
   simp only [Nat.sub_self,List.getElem_cons_zero]
   refine⟨?_,rfl⟩
   simp only [Vw.atPtr,hk]
  grind)
 rw [hset]
 exact⟨_,F,β,rfl,hS2,⟨#[],rfl,rfl,fun i h=>absurd h (by simp)⟩⟩
theorem StOK.far {c:Ctx}{F:Nat→Prop}{β:Key→Nat}{s:LSt}{a:Act}{w w':World}(h:StOK c F β s a w) (B:Nat→Prop)
 (hs:∀ b,¬ B b→b<w.heap.size→w'.heap[b]?=w.heap[b]?) (hF:∀ b,B b→¬ F b) (hL:∀ k,(s.lv k).live=true→¬ B (β k)) (hW:∀ b,B b→c.w0.heap.size≤b)
 (hsz:w.heap.size≤w'.heap.size) (ha:∀ b,asize w b≤asize w' b) (hoo:w'.os=w.os∧w'.output=w.output:=by exact⟨rfl,rfl⟩):StOK c F β s a w':=by
 have hm:∀ b,F b→w'.heap[b]?=w.heap[b]?:=fun b hb=>hs b (fun hB=>hF b hB hb) (h.Flt b hb).1
 have:=h.step (hoo:=hoo) (F':=F) (β':=β) (lv':=s.lv) (w':=w') (fun _ h=>h) hm (fun k=>LB.sub_refl _) (fun _ _ _=>rfl) ha ?_ h.inj (fun b hb=>.inl hb) hsz ?_
 ·exact this
 ·intro k hK
  have hb:=h.blk k
  have key:(s.lv k).live=true→(Vw.mk F β s.lv w').blk c k:=fun hl=>
   Vw.blk_keep hb hK rfl rfl (hs _ (hL k hl) (h.live_lt hl)) (fun _ h=>h)
  cases e:s.lv k with
  | cells own fz T cs=>
   cases fz with
   | false=>exact key (by rw [e];rfl)
   | true=>
    refine Vw.blk_keep hb hK rfl rfl (hm _ ?_) (fun _ h=>h)
    unfold Vw.blk at hb;grind
  | map own es=>exact key (by rw [e];rfl)
  | hole=>unfold Vw.blk;grind
  | dead=>unfold Vw.blk;grind
  | nils=>unfold Vw.blk;grind
 ·intro b hb hW0
  exact hs b (fun hB=>by grind) (Nat.lt_of_lt_of_le hb h.ge)
theorem StOK.allocFar {c:Ctx}{F:Nat→Prop}{β:Key→Nat}{s:LSt}{a:Act}{w:World}(h:StOK c F β s a w) (o:Obj):StOK c F β s a (w.alloc o):=
 h.far (fun _=>False) (fun b _ hb=>by rw [heap_alloc,if_neg (by omega)]) (fun _ h=>h.elim) (fun _ _ h=>h.elim) (fun _ h=>h.elim) (by simp) (asize_alloc_le w o)
end Go.Am
namespace Go.Am
section
variable {c:Ctx}{r:Option Nat}{F:Nat→Prop}{β:Key→Nat}{s:LSt}{a:Act}{w w':World}
theorem AW.fresh {fr:Nat→AV}{lv:Key→LB}{code:Code}{κ:Nat}{Q:Ex→LSt→Nat→Prop}(h:StOK c F β ⟨fr,lv⟩ a w) (ho:AllOk lv)
 (hA:∀ c':Ctx,c'.P=c.P→c'.G=c.G→c'.n=c.n→c'.lv0=lv→AW c' r code ⟨fr,lv⟩ κ Q) :
 code.wpIn (fen r) 0 c.P (fun e a' w'=>∃ x s' κ' F' β',Q x s' κ'∧StOK c F' β' s' a' w'∧ExOK x e F' w'∧w.heap.size≤w'.heap.size∧(∀ b,F' b→F b∨w.heap.size≤b)∧(∀ k,(s'.lv k).live=true→w.heap.size≤β' k∨∃ j,(lv j).live=true∧β j=β' k) ∧
  ∀ b,b<w.heap.size→(∀ k,(lv k).live=true→β k≠b)→w'.heap[b]?=w.heap[b]?) a w:=by
 let c':Ctx:={ CtxE c.P c.G w F β lv with n:=c.n,ds:=c.ds }
 have h1:StOK c' F β ⟨fr,lv⟩ a w:=Sits.with (c:=c') (h.enterG ho) h.size h.defers h.fr
 refine wpIn_mono (hA c' rfl rfl rfl rfl F β a w h1) ?_
 rintro e a' w' ⟨x,s',κ',F',β',hQ,h2,hx⟩
 have hx0:Sits (CtxE c.P c.G w F β lv) F' β' s'.lv w':=StOK.sits (c:=c') h2
 have h3:StOK c F' β' ⟨fr,s'.lv⟩ a w':=h.backG hx0
 have h4:StOK c F' β' s' a' w':=Sits.with (c:=c) (StOK.sits (s:=⟨fr,s'.lv⟩) h3) h2.size h2.defers h2.fr
 refine⟨x,s',κ',F',β',hQ,h4,hx,h2.ge,fun b hb=>(h2.Flt b hb).2,fun k hk=>h2.live_own hk,fun b hb hn=>?_⟩
 exact h2.old b hb (fun⟨k,hk,he⟩=>hn k hk he)
theorem StOK.far' (h:StOK c F β s a w)(B:Nat→Prop)
 (hs:∀ b,¬ B b→b<w.heap.size→w'.heap[b]?=w.heap[b]?) (hF:∀ b,B b→¬ F b) (hL:∀ k,(s.lv k).live=true→¬ B (β k)) (hW:∀ b,B b→c.w0.heap.size≤b∨c.W0 b)
 (hsz:w.heap.size≤w'.heap.size) (ha:∀ b,asize w b≤asize w' b) (hoo:w'.os=w.os∧w'.output=w.output:=by exact⟨rfl,rfl⟩):StOK c F β s a w':=by
 have hm:∀ b,F b→w'.heap[b]?=w.heap[b]?:=fun b hb=>hs b (fun hB=>hF b hB hb) (h.Flt b hb).1
 have:=h.step (hoo:=hoo) (F':=F) (β':=β) (lv':=s.lv) (w':=w') (fun _ h=>h) hm (fun k=>LB.sub_refl _) (fun _ _ _=>rfl) ha ?_ h.inj (fun b hb=>.inl hb) hsz ?_
 ·exact this
 ·intro k hK
  have hb:=h.blk k
  have key:(s.lv k).live=true→(Vw.mk F β s.lv w').blk c k:=fun hl=>
   Vw.blk_keep hb hK rfl rfl (hs _ (hL k hl) (h.live_lt hl)) (fun _ h=>h)
  cases e:s.lv k with
  | cells own fz T cs=>
   cases fz with
   | false=>exact key (by rw [e];rfl)
   | true=>
    refine Vw.blk_keep hb hK rfl rfl (hm _ ?_) (fun _ h=>h)
    unfold Vw.blk at hb;simp only [e] at hb
    obtain⟨x,h1,h2,h3,h4,h5⟩:=hb
    simpa using h4
  | map own es=>exact key (by rw [e];rfl)
  | hole=>unfold Vw.blk;simp only [e]
  | dead=>unfold Vw.blk;simp only [e]
  | nils=>unfold Vw.blk;simp only [e]
 ·intro b hb hW0
  exact hs b (fun hB=>(hW b hB).elim (fun h1=>by omega) hW0) (Nat.lt_of_lt_of_le hb h.ge)
theorem StOK.putFar (h:StOK c F β s a w){l:Nat}{o:Obj}(o':Obj) (hl:w.heap[l]?=some o) (hc:∀ x y z,o≠.cells x y z) (hF:¬ F l) (hL:∀ k,(s.lv k).live=true→β k≠l) (hW:c.w0.heap.size≤l∨c.W0 l):StOK c F β s a (w.putObj l o'):=by
 refine h.far' (fun x=>x=l) (fun x hx _=>World.putObj_heap_other hx) (fun x hx=>hx ▸ hF) (fun k hk=>hL k hk) (fun x hx=>hx ▸ hW) (by simp) (fun b=>?_)
 by_cases e:b=l
 ·subst e
  unfold asize
  rw [hl]
  cases o with
  | cells x y z=>exact absurd rfl (hc x y z)
  | _=>exact Nat.zero_le _
 ·unfold asize
  rw [World.putObj_heap_other e]
  exact Nat.le_refl _
end
def CtxR (P:Program)(G:List (List DV))(w:World)(F:Nat→Prop)(β:Key→Nat)(lv:Key→LB)(n l:Nat):Ctx:=
 ⟨P,G,w,F,fun b=>(∃ k,(lv k).live=true∧β k=b)∨b=l,n,lv,β,[]⟩
theorem StOK.toR {P:Program}{G:List (List DV)}{F0 F:Nat→Prop}{β0 β:Key→Nat}{lv0:Key→LB}{s:LSt}{a:Act}{w0 w:World}{n:Nat}(l:Nat) (h:StOK { CtxE P G w0 F0 β0 lv0 with n:=n } F β s a w) :
 StOK (CtxR P G w0 F0 β0 lv0 n l) F β s a w:=by
 refine⟨fun k=>Vw.blk_ctx ?_ (h.blk k),h.inj,h.fr,h.size,h.defers,h.Flt,h.F0,fun b hb hW=>h.old b hb (fun hx=>hW (.inl hx)),h.ge,h.glob,h.keep,h.asz,h.oso⟩
 intro o ho
 unfold ownAt at ho ⊢
 cases o with
 | true=>exact ho
 | false=>exact ho.imp id .inl
theorem StOK.ofR {P:Program}{G:List (List DV)}{F0 F:Nat→Prop}{β0 β:Key→Nat}{lv0:Key→LB}{s:LSt}{a:Act}{w0 w:World}{n l:Nat}{o:Obj}(h:StOK (CtxR P G w0 F0 β0 lv0 n l) F β s a w)
 (hl0:w0.heap[l]?=some o) (hl:w.heap[l]?=some o) (hc:∀ x y z,o≠.cells x y z) (hm:∀ x y,o≠.map x y):Sits (CtxE P G w0 F0 β0 lv0) F β s.lv w:=by
 refine⟨fun k=>?_,h.inj,fun _=>trivial,rfl,rfl,h.Flt,h.F0,fun b hb hW=>?_,h.ge,h.glob,h.keep,h.asz,h.oso⟩
 ·have hb:=h.blk k
  have key:∀ ow,ownAt (CtxR P G w0 F0 β0 lv0 n l) ow (β k)→β k≠l→ownAt { CtxE P G w0 F0 β0 lv0 with n:=0 } ow (β k):=by
   intro ow ho hne
   unfold ownAt at ho ⊢
   cases ow with
   | true=>exact ho
   | false=>
    rcases ho with h1|h1|h1
    ·exact .inl h1
    ·exact .inr h1
    ·exact absurd h1 hne
  unfold Vw.blk at hb ⊢
  cases e:s.lv k with
  | cells own fz T cs=>
   simp only [e] at hb ⊢
   obtain⟨arr,b1,b2,b3,b4,b5⟩:=hb
   exact⟨arr,b1,b2,b3,b4,key _ b5 (fun he=>by rw [he,hl] at b1;simp only [Option.some.injEq] at b1;exact hc _ _ _ b1)⟩
  | map own es=>
   simp only [e] at hb ⊢
   obtain⟨x,y,b1,b2,b3,b4,b5⟩:=hb
   exact⟨x,y,b1,b2,b3,b4,key _ b5 (fun he=>by rw [he,hl] at b1;simp only [Option.some.injEq] at b1;exact hm _ _ b1)⟩
  | hole=>simp only [e]
  | dead=>simp only [e]
  | nils=>simp only [e]
 ·by_cases e:b=l
  ·subst e
   show w.heap[b]?=w0.heap[b]?
   rw [hl,hl0]
  ·refine h.old b hb ?_
   rintro (h1|h1)
   ·exact hW h1
   ·exact e h1
theorem SimW.yield {P:Program}{G:List (List DV)}{w1:World}{F0:Nat→Prop}{β0:Key→Nat}{lv0 lv lv':Key→LB}{n l:Nat}{fr:Nat→AV}{ops:Array Oper}{o:Oper}{cl:Call}{fo:Operand}{rec:Loop}{xs:List AV}(hd:∀ d,o.dst=some d→d<n)
 (hg:o.guard=none) (ho:o.op=.call cl) (hcal:cl.callee=.value fo) (hfo:(LSt.mk fr lv).val G fo=.c (.d (.func (.yield l) [] [])))
 (hxs:cl.args.toList.map ((LSt.mk fr lv).val G)=xs) (hps:rec.params.size=xs.length) (hl:w1.heap[l]?=some (.loop rec)) (hnl:∀ k,(lv0 k).live=true→β0 k≠l) (hok:AllOk lv)
 (hround:∀ (F:Nat→Prop) (β:Key→Nat) (w:World) (vs:Array Value),Sits (CtxE P G w1 F0 β0 lv0) F β lv w→Sits (CtxE P G w F β lv) F β lv w→w.heap[l]?=some (.loop rec)→vs.size=xs.length→(∀ i (h:i<xs.length) (h':i<vs.size),(Vw.mk F β lv w).av vs[i] xs[i]) →
  RoundIn (fen none) 0 P l rec.fn ((rec.params.zip vs).foldl (fun tmps (t,a)=>tmps.setIfInBounds t a) rec.tmps) rec.assign rec.body w fun e w'=>e=.returned (.bool true)∧∃ F' β',Sits (CtxE P G w F β lv) F' β' lv' w') :
 SimW { CtxE P G w1 F0 β0 lv0 with n:=n } none ops o ⟨fr,lv⟩ (LSt.put ⟨fr,lv'⟩ o.dst (.c (.d (.bool true)))):=by
 intro F β a w K Q hs hK
 have hw:Region.wanted o (yielded ops a.tmps)=true:=by unfold Region.wanted;rw [hg]
 rw [if_pos hw]
 have hS:Sits (CtxE P G w1 F0 β0 lv0) F β lv w:=StOK.sits hs
 have hlw:w.heap[l]?=some (.loop rec):=by
  rw [← hl]
  have hlt:=(Array.getElem?_eq_some_iff.1 hl).1
  exact hs.old l hlt (fun⟨k,hk,he⟩=>hnl k hk he)
 have hv0:=hs.val fo
 have hv1:a.eval fo=.func (.yield l) #[] #[]:=by
  have h1:(Vw.mk F β lv w).av (a.eval fo) (.c (.d (.func (.yield l) [] []))):=hfo ▸ hv0
  obtain⟨h1,_⟩:=h1
  generalize a.eval fo=u at h1
  cases h1 with
  | func _ fs cs _ _ hf hc _ _=>
   grind
 have hsz:(cl.args.map a.eval).size=xs.length:=by rw [← hxs];simp
 have hav:∀ i (h:i<xs.length) (h':i<(cl.args.map a.eval).size),(Vw.mk F β lv w).av (cl.args.map a.eval)[i] xs[i]:=by
  intro i p q
  subst hxs
  simp only [Array.getElem_map,List.getElem_map,Array.getElem_toList]
  exact hs.val _
 have hr:(execOp a.eval o).run P w=.ok (.round l rec.fn ((rec.params.zip (cl.args.map a.eval)).foldl (fun tmps (t,a)=>tmps.setIfInBounds t a) rec.tmps) rec.assign rec.body) w:=by
  simp only [execOp,ho,resolve,hcal,hv1,Deferred.ofValue,Sem.run_bind,Sem.run_pure,Result.andThen_ok,invoke]
  have:=run_yield (P:=P) (args:=cl.args.map a.eval) hlw (by omega)
  simpa using this
 refine⟨fun _ _=>trivial,?_⟩
 rw [Oper.semAt_eq _ _ _ (fun c h=>by grind)]
 show o.uponIn (fen none) 0 P a K Q ((execOp a.eval o).run P w)
 rw [hr,Oper.uponIn_round]
 refine⟨fun h=>by simp [fen,Fence.wide] at h,?_⟩
 refine (hround F β w _ hS (hs.enterG hok) hlw hsz hav).mono fun e w' he=>?_
 obtain⟨rfl,F',β',hX⟩:=he
 exact hK F' β' _ _ (StOK.putD (hs.backG hX) hd (Vw.mk_bool _ _))
theorem round_of_AW {P:Program}{G:List (List DV)}{F:Nat→Prop}{β:Key→Nat}{lv lv':Key→LB}{w:World}{tmps:Array Value}{n l:Nat}{rec:Loop}{fr fr2:Nat→AV}{κ:Nat}(hS:Sits (CtxE P G w F β lv) F β lv w) (hok:AllOk lv)
 (hlw:w.heap[l]?=some (.loop rec)) (hst:rec.state=.ready) (hpe:rec.pending=none) (hn:tmps.size=n) (hfr:∀ t,(Vw.mk F β lv w).av (tmps.getD t undef) (fr t)) (hFl:¬ F l)
 (h1:∀ c:Ctx,c.P=P→c.G=G→c.n=n→c.lv0=lv→AW c (some l) rec.assign ⟨fr,lv⟩ κ (fun x s _=>x=.normal∧s=⟨fr2,lv⟩))
 (h2:∀ c:Ctx,c.P=P→c.G=G→c.n=n→c.lv0=lv→AW c (some l) rec.body ⟨fr2,lv⟩ κ (fun x s _=>x=.normal∧s.lv=lv')) :
 RoundIn (fen none) 0 P l rec.fn tmps rec.assign rec.body w fun e w'=>e=.returned (.bool true)∧∃ F' β',Sits (CtxE P G w F β lv) F' β' lv' w':=by
 have hlt:l<w.heap.size:=(Array.getElem?_eq_some_iff.1 hlw).1
 have hnot:∀ (F:Nat→Prop) (β:Key→Nat) (lv:Key→LB) (c:Ctx) (s:LSt) (a:Act) (w:World) (r:Loop),StOK c F β s a w→w.heap[l]?=some (.loop r)→∀ k,(s.lv k).live=true→β k≠l:=by
  intro F β lv c s a w r h hl k hk he
  have hb:=h.blk k
  unfold Vw.blk at hb
  cases e:s.lv k with
  | cells own fz T cs=>grind
  | map own es=>grind
  | hole=>rw [e] at hk;cases hk
  | dead=>rw [e] at hk;cases hk
  | nils=>rw [e] at hk;cases hk
 have s0:StOK (CtxR P G w F β lv n l) F β ⟨fr,lv⟩ ⟨tmps,[]⟩ w:=StOK.toR l (Sits.enter hS (a:=⟨tmps,[]⟩) hn rfl hfr)
 refine roundIn_of_wpIn trivial ?_
 show rec.assign.wpIn (fen (some l)) 0 P _ _ w
 refine wpIn_mono (AW.fresh (r:=some l) s0 hok (h1 ·)) ?_
 rintro e a1 w1 ⟨x,s1,κ1,F1,β1,⟨rfl,rfl⟩,s1',hx,z1,z2,z2b,z3⟩
 cases hx
 have hl1:w1.heap[l]?=some (.loop rec):=by rw [z3 l hlt (hnot F β lv _ _ _ w rec s0 hlw)];exact hlw
 refine⟨_,run_beginRound hl1 hst,?_⟩
 have hF1:¬ F1 l:=fun h=>by
  grind
 have s2:=s1'.putFar (.loop { rec with state:=.busy }) hl1 (fun _ _ _ h=>by cases h) hF1 (hnot _ _ lv _ _ _ _ _ s1' hl1) (.inr (.inr rfl))
 have hl2:(w1.putObj l (.loop { rec with state:=.busy })).heap[l]?=some (.loop { rec with state:=.busy }):=World.putObj_heap_same (by omega)
 show rec.body.wpIn (fen (some l)) 0 P _ _ _
 refine wpIn_mono (AW.fresh (r:=some l) s2 hok (h2 ·)) ?_
 rintro e a3 w3 ⟨x,s3,κ3,F3,β3,⟨rfl,hlv⟩,s3',hx,y1,y2,y2b,y3⟩
 cases hx
 have hl3:w3.heap[l]?=some (.loop { rec with state:=.busy }):=by rw [y3 l (by simp;omega) (hnot _ _ lv _ _ _ _ _ s2 hl2)];exact hl2
 have hF3:¬ F3 l:=fun h=>by
  grind
 have hrec:({ { rec with state:=.busy } with state:=.ready,pending:=none }:Loop)=rec:=by
  cases rec;simp only at hst hpe;subst hst;subst hpe;rfl
 have s4:=s3'.putFar (.loop rec) hl3 (fun _ _ _ h=>by cases h) hF3 (hnot _ _ lv _ _ _ _ _ s3' hl3) (.inr (.inr rfl))
 have hl4:(w3.putObj l (.loop rec)).heap[l]?=some (.loop rec):=World.putObj_heap_same (Array.getElem?_eq_some_iff.1 hl3).1
 have hS4:=s4.ofR hlw hl4 (fun _ _ _ h=>by cases h) (fun _ _ h=>by cases h)
 refine⟨.bool true,w3.putObj l (.loop rec),?_,rfl,F3,β3,hlv ▸ hS4⟩
 have:=run_endRound (P:=P) none hl3
 grind
end Go.Am
namespace Go.Am
open Go.Am.Ty Go.Proofs N
def decN:List UInt8→Nat→Nat
 | [],n=>n
 | c::l,n=>decN l (10*n+(c.toNat - 48))
def isD (l:List UInt8):Prop:=∀ c∈l,48≤c.toNat∧c.toNat≤57
theorem decN_app:∀ (a b:List UInt8) (n:Nat),decN (a++b) n=decN b (decN a n)
 | [],b,n=>rfl
 | c::a,b,n=>by simp [decN,decN_app a b]
theorem decN_shift:∀ (l:List UInt8) (n:Nat),decN l n=n*10 ^ l.length+decN l 0
 | [],n=>by simp [decN]
 | c::l,n=>by
  simp only [decN,List.length_cons,Nat.pow_succ]
  rw [decN_shift l (10*n+_),decN_shift l (10*0+_)]
  grind
theorem decN_lt:∀ {l:List UInt8},isD l→decN l 0<10 ^ l.length
 | [],_=>by simp [decN]
 | c::l,h=>by
  have h1:=h c (List.mem_cons_self ..)
  have ih:=decN_lt (l:=l) (fun x hx=>h x (List.mem_cons_of_mem _ hx))
  simp only [decN,List.length_cons,Nat.pow_succ]
  rw [decN_shift]
  have h2:(10*0+(c.toNat - 48))*10 ^ l.length≤9*10 ^ l.length:=Nat.mul_le_mul_right _ (by omega)
  omega
theorem SimW.plain {c:Ctx}{r:Option Nat}{ops:Array Oper}{o:Oper}{s:LSt}{κ:Key}{x:AV}{vc:Prop}(hd:∀ d,o.dst=some d→d<c.n) (hg:o.guard=none)
 (h:stepF c.P o.op (o.op.operands.toList.map (s.val c.G)) s.lv κ=some (x,[],[],vc)) (hvc:vc) {s1:LSt}(h1:s1=s.put o.dst x):SimW c r ops o s s1:=by
 subst h1
 exact SimW.of_eff (EffOK.plain hd (by unfold wantA;rw [hg]) h hvc)
def oO (st:Bool)(n:Nat):Option (List Nat):=if st then some (dig 4294967296 n) else none
def nD:Option (List Nat)→DV
 | none=>.nilsl
 | some l=>.sl (dK .u32 l)
theorem nD_nK (o:Option (List Nat)):(AV.c (.d (nD o)))=nK .u32 o:=by cases o <;> rfl
theorem AW.regionS' {c:Ctx}{r:Option Nat}{ops:Array Oper}{s:LSt}{κ:Nat}{Q:Ex→LSt→Nat→Prop}{id:Nat}(h:∃ s',ChainS c r ops ops.toList s s'∧Q .normal s' κ):AW c r (.region id ops false) s κ Q:=
 let ⟨_,h1,h2⟩:=h;AW.regionS h1 h2
@[simp] theorem LVr_0 (u:List UInt8)(d:DV):LVr u d 0=.cells false false 9 [.d (.str u)]:=by rfl
@[simp] theorem LVr_1 (u:List UInt8)(d:DV):LVr u d 1=.cells false false 28 [.d d]:=by rfl
@[simp] theorem LVr_put0 (u u':List UInt8)(d:DV):upd (LVr u d) 0 (.cells false false 9 [.d (.str u')])=LVr u' d:=by
 funext k
 unfold LVr upd
 grind
theorem LVr_noMap (u:List UInt8)(d:DV):noMap (LVr u d):=by
 intro k own es h
 rcases LVr_ok u d k with h1|⟨T,cs,h1⟩ <;> rw [h1] at h <;> cases h
theorem read_asg (G:List (List DV))(v sz:Nat)(lv:Key→LB)(r:Option Nat)(fr:Nat→AV)(f8:fr 8=.c (.d (.int .u32 v)))(f9:fr 9=.c (.d (.int .u32 sz))) :
 ∀ c:Ctx,c.P=Tryz.prog→c.G=G→c.n=20→AW c r rdAsg ⟨fr,lv⟩ 0 (fun x s _=>x=.normal∧s=⟨upd (upd fr 4 (.c (.d (.int .u32 v)))) 5 (.c (.d (.int .u32 sz))),lv⟩):=by
 rintro⟨_,Gc,w0,F0,W0,_,lv0,β0⟩ rfl rfl rfl
 unfold rdAsg
 refine AW.f1 f8 ?_
 refine AW.rP ?_
 simp [f9]
noncomputable def itBody:Code:=match Tryz.f210.body with|some b=>b|_=>.skip
def YieldOK (c:Ctx)(Y:AV):Prop:=
 ∀ (u:List UInt8) (n:Nat) (st:Bool) (v sz L:Nat) (fr:Nat→AV) (ops:Array Oper) (o:Oper) (cl:Call),v<4294967296→sz<4294967296→(st=false→n=0)→L≤10000000000→n<4294967296 ^ L →
  o.dst=some 32→o.guard=none→o.op=.call cl→cl.callee=.value (.tmp 29)→cl.args=#[.tmp 30,.tmp 31]→fr 29=Y→fr 30=.c (.d (.int .u32 v))→fr 31=.c (.d (.int .u32 sz)) →
  SimW c none ops o ⟨fr,LVr u (nD (oO st n))⟩ (LSt.put ⟨fr,LVr u (nD (oO true (n*sz+v)))⟩ (some 32) (.c (.d (.bool true))))
def pw (j:Nat):Nat:=10 ^ j
theorem pw_succ (j:Nat):pw (j+1)=10*pw j:=by unfold pw;omega
theorem pw_zero:pw 0=1:=rfl
theorem p10 {j:Nat}(h:j≤9):pw j≤1000000000:=by
 unfold pw
 have:=Nat.pow_le_pow_right (n:=10) (by decide) h
 omega
theorem take_digit {u:List UInt8}{j:Nat}{ch:UInt8}{rest:List UInt8}(h:u.drop j=ch::rest):u.take (j+1)=u.take j++[ch]∧u.drop (j+1)=rest∧j<u.length:=by
 have hlt:j<u.length:=by
  apply Classical.byContradiction
  intro hc
  rw [List.drop_eq_nil_of_le (by omega)] at h;cases h
 have e:u.drop j=u[j]::u.drop (j+1):=List.drop_eq_getElem_cons hlt
 grind
theorem iter_aw (G:List (List DV))(s0:List UInt8)(hD:isD s0)(hlen:s0.length≤1000000000)(Y:AV)(hY:Y.flat1=true) :
 ∀ c:Ctx,c.P=Tryz.prog→c.G=G→c.n=34→YieldOK c Y→AW c none itBody ⟨fun t=>[Y,.c (.ptr 0 0)].getD t .undef,LVr s0 .nilsl⟩ 0 (fun x s _=>x=.normal∧s.lv=LVr [] (nD (oO (!s0.isEmpty) (decN s0 0)))):=by
 rintro⟨_,Gc,w0,F0,W0,_,lv0,β0⟩ rfl rfl rfl hy
 unfold itBody
 refine AW.block ?_
 refine AW.loopV (fun (p:List UInt8 × Nat × Bool × Nat)=>⟨frOf [(0,Y),(1,.c (.ptr 0 0))],LVr p.1 (nD (oO p.2.2.1 p.2.1))⟩) 0
  (fun p=>isD p.1∧p.2.2.2+p.1.length≤1000000000∧p.2.1<4294967296 ^ p.2.2.2∧decN p.1 p.2.1=decN s0 0∧(p.2.2.1=false→p.2.1=0∧p.1=s0)∧(p.2.2.1=true→s0≠[]))
  (fun p=>p.1.length) (s0,0,false,0) (Le.mk' _ (by rfl) (LVr_noMap _ _) (by simp [hY])) (by grind) ?_
 rintro⟨u,n,st,L⟩ ⟨h1,h2,h3,h4,h5,h6⟩
 simp only at h1 h2 h3 h4 h5 h6
 refine AW.seqK fun K hK=>AW.q ?_
 by_cases hu:u=[]
 ·subst hu
  refine AW.cn (AW.exit ?_)
  simp
  have e1:n=decN s0 0:=h4
  have e2:st = !s0.isEmpty:=by
   cases st with
   | true=>grind
   | false=>grind
  grind
 have hu0:0<u.length:=List.length_pos_iff.2 hu
 have hs0:s0≠[]:=by
  cases st with
  | true=>exact h6 rfl
  | false=>rw [← (h5 rfl).2];exact hu
 refine AW.fy (by simp_all) (AW.skip (hK _ _ (AW.block (AW.q ?_))))
 refine AW.seqK fun K hK=>?_
 have fin:∀ (j:Nat) (fr:Nat→AV) (κ:Nat),0<j→j≤9→j≤u.length→fr 0=Y→fr 1=.c (.ptr 0 0)→fr 3=.c (.d (.int .u32 (decN (u.take j) 0)))→fr 4=.c (.d (.int .u32 (pw j)))→K ⟨fr,LVr (u.drop j) (nD (oO st n))⟩ κ:=by
  intro j fr κ hj0 hj9 hju f0 f1 f3 f4
  have hvj:decN (u.take j) 0<pw j:=by
   unfold pw
   have:=decN_lt (l:=u.take j) (fun c hc=>h1 c (List.mem_of_mem_take hc))
   rwa [List.length_take,Nat.min_eq_left hju] at this
  have hpj:=p10 hj9
  have hdec:decN (u.drop j) (n*pw j+decN (u.take j) 0)=decN s0 0:=by
   rw [← h4]
   conv=>rhs;rw [← List.take_append_drop j u]
   rw [decN_app,decN_shift (u.take j) n,List.length_take,Nat.min_eq_left hju];rfl
  have hbig:n*pw j+decN (u.take j) 0<4294967296 ^ (L+1):=by
   rw [Nat.pow_succ]
   have g1:n*pw j+decN (u.take j) 0<(n+1)*pw j:=by rw [Nat.add_mul];omega
   exact Nat.lt_of_lt_of_le g1 (Nat.mul_le_mul (by omega) (by omega))
  generalize decN (u.take j) 0=v at *
  generalize hpw:pw j=q at *
  apply hK
  refine AW.seqK fun K2 hK2=>?_
  have hd:∀ t:Nat,t<34→∀ d,some t=some d→d<34:=fun t ht d h=>by grind
  refine AW.regionS (s':=⟨upd (upd (upd (upd (upd fr 29 Y) 30 (.c (.d (.int .u32 v)))) 31 (.c (.d (.int .u32 q)))) 32 (.c (.d (.bool true)))) 33 (.c (.d (.bool false))),LVr (u.drop j) (nD (oO true (n*q+v)))⟩) ?_ ?_
  ·refine⟨⟨upd fr 29 Y,LVr (u.drop j) (nD (oO st n))⟩,?_,⟨upd (upd fr 29 Y) 30 (.c (.d (.int .u32 v))),LVr (u.drop j) (nD (oO st n))⟩,?_,⟨upd (upd (upd fr 29 Y) 30 (.c (.d (.int .u32 v)))) 31 (.c (.d (.int .u32 q))),LVr (u.drop j) (nD (oO st n))⟩,?_,
    ⟨upd (upd (upd (upd fr 29 Y) 30 (.c (.d (.int .u32 v)))) 31 (.c (.d (.int .u32 q)))) 32 (.c (.d (.bool true))),LVr (u.drop j) (nD (oO true (n*q+v)))⟩,?_,⟨upd (upd (upd (upd (upd fr 29 Y) 30 (.c (.d (.int .u32 v)))) 31 (.c (.d (.int .u32 q)))) 32 (.c (.d (.bool true)))) 33 (.c (.d (.bool false))),LVr (u.drop j) (nD (oO true (n*q+v)))⟩,?_,rfl⟩
   ·exact SimW.plain (κ:=0) (x:=fr 0) (hd 29 (by decide)) rfl rfl trivial (by simp_all)
   ·exact SimW.plain (κ:=0) (x:=fr 3) (hd 30 (by decide)) rfl rfl trivial (by simp_all)
   ·exact SimW.plain (κ:=0) (x:=fr 4) (hd 31 (by decide)) rfl rfl trivial (by simp_all)
   ·exact hy (u.drop j) n st v q L _ _ _ _ (by omega) (by omega) (fun h=>(h5 h).1) (by omega) h3 rfl rfl rfl rfl rfl (by simp) (by simp) (by simp)
   ·exact SimW.plain (κ:=0) (x:=.c (.d (.bool false))) (hd 33 (by decide)) rfl rfl trivial rfl
  ·simp only [thenA]
   apply hK2
   refine AW.cn (AW.skip ?_)
   simp only [blockA,thenA]
   refine⟨(u.drop j,n*q+v,true,L+1),Le.mk' _ rfl (LVr_noMap _ _) (by simp_all),⟨fun c hc=>h1 c (List.mem_of_mem_drop hc),by simp;omega,hbig,hdec,(by simp),(fun _=>hs0)⟩,by simp;omega⟩
 refine AW.q ?_
 refine AW.block ?_
 refine AW.loopV (fun (j:Nat)=>⟨frOf [(0,Y),(1,.c (.ptr 0 0)),(3,.c (.d (.int .u32 (decN (u.take j) 0)))),(4,.c (.d (.int .u32 (pw j:Int)))),(5,.c (.d (.int .i64 j)))],LVr (u.drop j) (nD (oO st n))⟩) 0
  (fun j=>j≤9∧j≤u.length) (fun j=>9 - j) 0 (Le.mk' _ (by simp) (LVr_noMap _ _) (by simp [hY,decN,pw_zero])) (by simp) ?_
 rintro j ⟨hj,hju⟩
 have hvj:decN (u.take j) 0<pw j:=by
  unfold pw
  have:=decN_lt (l:=u.take j) (fun c hc=>h1 c (List.mem_of_mem_take hc))
  rwa [List.length_take,Nat.min_eq_left hju] at this
 have hpj:=p10 hj
 refine AW.seqK fun K2 hK2=>AW.seqK fun K3 hK3=>?_
 by_cases hj9:j<9
 ·have hj9':(j:Int)<9:=by omega
  by_cases hje:j=u.length
  ·subst hje
   refine AW.l2 hj9 hj9' (hK3 _ _ ?_)
   refine AW.cn (AW.exit ?_)
   simp
   have:=fin u.length
   simp at this
   refine this _ _ hu0 hj (by simp) (by simp) (by simp) (by simp)
  ·have hlt:j<u.length:=by omega
   obtain⟨ch,rest,hcr⟩:∃ ch rest,u.drop j=ch::rest:=⟨u[j],u.drop (j+1),List.drop_eq_getElem_cons hlt⟩
   obtain⟨t1,t2,_⟩:=take_digit hcr
   have hch:48≤ch.toNat∧ch.toNat≤57:=h1 ch (List.mem_of_mem_drop (by rw [hcr];simp))
   have hlt':0<u.length - j:=by omega
   refine AW.l4 hj9 hj9' hlt hlt' (hK3 _ _ ?_)
   refine AW.fy (by rfl) (AW.skip (hK2 _ _ (AW.seqK fun K2 hK2=>AW.block (AW.seqK fun K3 hK3=>?_))))
   have hpj':=p10 (j:=j+1) (by omega)
   have hps:=pw_succ j
   obtain⟨x,hx⟩:∃ x,ch.toNat - 48=x:=⟨_,rfl⟩
   obtain⟨v,hv⟩:∃ v,decN (u.take j) 0=v:=⟨_,rfl⟩
   obtain⟨v',hv'⟩:∃ v',decN (u.take (j+1)) 0=v':=⟨_,rfl⟩
   obtain⟨q',hq'⟩:∃ q',pw (j+1)=q':=⟨_,rfl⟩
   have hvv:v'=10*v+x:=by rw [← hv',t1,decN_app,hv,← hx];rfl
   rw [hq'] at hps hpj'
   rw [hv] at hvj
   have w1:IntKind.u8.wrap ((ch.toNat:Int) - 48)=(x:Int):=by
    rw [wrap_in ⟨by simp only [loK];omega,by simp only [hiK];omega⟩];omega
   have w2:IntKind.u32.wrap (x:Int)=(x:Int):=wu32 (by omega) (by omega)
   have w3:IntKind.u32.wrap (10*(v:Int))=10*(v:Int):=wu32 (by omega) (by omega)
   have w4:IntKind.u32.wrap (10*(v:Int)+(x:Int))=(v':Int):=by rw [wu32 (by omega) (by omega)];omega
   have w5:IntKind.u32.wrap (10*(pw j:Int))=(q':Int):=by rw [wu32 (by omega) (by omega)];omega
   have w6:IntKind.i64.wrap ((j:Int)+1)=((j+1:Nat):Int):=by rw [wrap_in ⟨by simp only [loK];omega,by simp only [hiK];omega⟩];omega
   refine AW.rP ?_
   simp [hcr,hv,w1,w2,w3,w4,w5]
   apply hK3
   refine AW.l2 hcr @setSeg.eq_1 (hK2 _ _ ?_)
   refine AW.at0 0 ?_
   refine AW.rP ?_
   simp [w6]
   refine⟨j+1,Le.mk' _ (by simp [t2]) (LVr_noMap _ _) (by simp [hY,hv',hq']),?_,?_⟩
   ·omega
   ·omega
 ·have hj':j=9:=by omega
  subst hj'
  refine AW.l0 (hK3 _ _ ?_)
  refine AW.cn (AW.exit ?_)
  simp_all
end Go.Am
namespace Go.Am
open Go.Proofs Go.Am.Ty N
theorem itBody_eq:Tryz.f210.body=some itBody:=rfl
theorem groups_raw (s:ByteArray)(w:World):Calls Tryz.prog 151 #[.string s] w fun e w'=>e=.returned (.func (.func 210) #[] #[.pointer (some ⟨w.heap.size,0,none⟩)])∧w'=w.alloc (.cells #[.string s] 9):=by
 have hmf:∀ (fn:Fn) (first cap:Array Value) (w:World),(Instr.makeFunc fn first cap).run Tryz.prog w=.ok (.func fn first cap) w:=fun _ _ _ _=>rfl
 go_enter Tryz.func151,Tryz.ntmps151
 go_wp2
 go_ret
 simp
def rdW (s:ByteArray)(w:World):World:=(w.alloc (.cells #[.slice none 0 0] 28)).alloc (.cells #[.string s] 9)
def rdT (s:ByteArray)(w:World):Array Value:=#[.string s,undef,.slice none 0 0,.pointer (some ⟨w.heap.size,0,none⟩),undef,undef,.string s,.func (.func 210) #[] #[.pointer (some ⟨w.heap.size+1,0,none⟩)],undef,undef,undef,undef,undef,undef,undef,undef,undef,undef,undef,undef]
theorem read_raw (s:ByteArray)(w:World)(R:Ending→World→Prop)
 (h:(Code.rangeFunc (.tmp 7) #[8,9] rdAsg rdBody).wpIn Fence.wide 0 Tryz.prog (fun e a' W=>e=.normal∧∃ D v,a'={ tmps:=rdT s w,defers:=[{ target:=.collected D,args:=#[] }] }∧W.heap[D]?=some (.deferred (some []))∧W.cell? ⟨w.heap.size,0,none⟩=some v∧R (.returned v) (W.putObj D (.deferred none))) ⟨rdT s w,[]⟩ (rdW s w)) :
 Calls Tryz.prog 91 #[.string s] w R:=by
 refine (callsIn_wide (n:=0)).1 ?_
 refine callsIn_of_wp_marks Tryz.func91 rfl trivial ?_ rfl
 simp only [Tryz.ntmps91,List.size_toArray,List.length_cons,List.length_nil,Nat.reduceAdd,Nat.reduceSub,Array.replicate_succ,Array.replicate_zero,List.push_toArray,List.append_toArray,List.nil_append,List.cons_append]
 gi_wp2
 refine⟨trivial,rfl,((callsIn_wide (n:=0)).2 (groups_raw s _)).mono ?_⟩
 rintro e w' ⟨rfl,rfl⟩
 gi_wp2
 refine wpIn_mono (show (Code.rangeFunc (.tmp 7) #[8,9] rdAsg rdBody).wpIn Fence.wide 0 Tryz.prog _ _ _ from h) ?_
 rintro e a' W ⟨rfl,D,v,rfl,hD,hc,hR⟩
 simp only [Exit.inBlock,Exit.then]
 apply_assumption
 unfold rdT
 gi_wp2
 refine⟨by simp,.inl ⟨_,_,rfl,run_takeDeferred hD,?_⟩⟩
 exact⟨_,results_tmp rfl _ _ _,by simp_all⟩
theorem calls_at {P:Program}{G:List (List DV)}{f:FuncId}{fn:Func}{code:Code}{args:List AV}{lv lv':Key→LB}{κ:Nat}(hf:P.funcs[f]?=some fn) (hb:fn.body=some code) (hl:args.length≤fn.ntmps) (hres:fn.results=#[])
 {F:Nat→Prop}{β:Key→Nat}{w:World}{vs:Array Value}(hS:Sits (CtxE P G w F β lv) F β lv w) (hvl:vs.size=args.length) (hv:∀ i (h:i<args.length) (h':i<vs.size),(Vw.mk F β lv w).av vs[i] args[i])
 (h:AW { CtxE P G w F β lv with n:=fn.ntmps } none code ⟨fun t=>args.getD t .undef,lv⟩ κ (fun x s _=>x=.normal∧s.lv=lv')) :
 Calls P f vs w fun e w'=>(∃ v,e=.returned v)∧∃ F' β',Sits (CtxE P G w F β lv) F' β' lv' w':=by
 refine calls_of_wp hf hb ?_
 let a:Act:={ tmps:=vs++Array.replicate (fn.ntmps - vs.size) undef,defers:=[] }
 have hst:StOK { CtxE P G w F β lv with n:=fn.ntmps } F β ⟨fun t=>args.getD t .undef,lv⟩ a w:=by
  refine Sits.with (c:={ CtxE P G w F β lv with n:=fn.ntmps }) hS ?_ rfl (fun t=>?_)
  ·grind
  ·show (Vw.mk F β lv w).av ((vs++Array.replicate (fn.ntmps - vs.size) undef).getD t undef) (args.getD t .undef)
   by_cases ht:t<args.length
   ·have h1:args.getD t .undef=args[t]:=getD_lt ht
    have h2:(vs++Array.replicate (fn.ntmps - vs.size) undef).getD t undef=vs[t]'(by omega):=by
     rw [Array.getD_eq_getD_getElem?,Array.getElem?_append_left (by omega),Array.getElem?_eq_getElem (by omega)];rfl
    grind
   ·have h1:args.getD t .undef=.undef:=getD_ge ht
    have h2:(vs++Array.replicate (fn.ntmps - vs.size) undef).getD t undef=undef:=by
     rw [Array.getD_eq_getD_getElem?,Array.getElem?_append_right (by omega),Array.getElem?_replicate];split <;> rfl
    rw [h1,h2];rfl
 have hw:=(wpIn_wide (n:=0)).1 (h F β a w hst)
 refine wp_mono hw fun e a' w' hp=>?_
 obtain⟨e',s',κ',F',β',⟨rfl,hq⟩,hs',he⟩:=hp
 cases he
 exact⟨hs'.defers,.tuple #[],by simp [results,hres],⟨_,rfl⟩,F',β',hq ▸ hs'.sits⟩
theorem LVr_allOk (u:List UInt8)(d:DV):AllOk (LVr u d):=by
 intro k
 rcases LVr_ok u d k with h|⟨T,cs,h⟩ <;> rw [h] <;> rfl
theorem LVr_make (s:List UInt8)(d:DV):upd (upd (upd (upd (fun _=>LB.hole) 1 (.cells true false 28 [.d d])) 1 (.cells false false 28 [.d d])) 0 (.cells true false 9 [.d (.str s)])) 0 (.cells false false 9 [.d (.str s)])=LVr s d:=by
 funext k
 unfold LVr upd
 grind
theorem rd_enter {P:Program}{G:List (List DV)}{F:Nat→Prop}{β:Key→Nat}{w:World}{s:List UInt8}{lv:Key→LB}(hlv:lv=fun _=>.hole) (hS:Sits (CtxE P G w F β lv) F β lv w) (hs:s.length≤9223372036854775807) :
 ∃ β2:Key→Nat,Sits (CtxE P G w F β lv) F β2 (LVr s .nilsl) (rdW ⟨s.toArray⟩ w)∧β2 1=w.heap.size∧β2 0=w.heap.size+1:=by
 subst hlv
 have h1:=StOK.alloc (κ:=1) hS rfl (arr:=#[.slice none 0 0]) 28 (cs:=[.d .nilsl]) (by simp) (fun i p q=>by
  have:i=0:=by simp at p;omega
  subst this;exact⟨.nilsl,rfl⟩)
 have h2:=h1.unown (k:=1) (T:=28) (cs:=[.d .nilsl]) false (by rfl)
 have h3:=StOK.alloc (κ:=0) h2 (by simp [upd]) (arr:=#[.string ⟨s.toArray⟩]) 9 (cs:=[.d (.str s)]) (by simp) (fun i p q=>by
  have:i=0:=by simp at p;omega
  subst this
  refine⟨?_,rfl⟩
  have:=Rd.str (M:=(Vw.mk F (upd β 1 w.heap.size) (upd (upd (fun _=>LB.hole) 1 (.cells true false 28 [.d .nilsl])) 1 (.cells false false 28 [.d .nilsl])) (w.alloc (.cells #[.slice none 0 0] 28))).mem) ⟨s.toArray⟩ (by omega)
  grind)
 have h4:=h3.unown (k:=0) (T:=9) (cs:=[.d (.str s)]) false (by rfl)
 refine⟨upd (upd β 1 w.heap.size) 0 (w.alloc (.cells #[.slice none 0 0] 28)).heap.size,?_,?_,?_⟩
 ·have:=h4.sits
  rw [← LVr_make s .nilsl]
  exact this
 ·simp [upd]
 simp
theorem exact_read_ok (G:List (List DV))(s:List UInt8)(hD:isD s)(hlen:s.length≤1000000000):CallsP Tryz.prog G 91 [.c (.d (.str s))] (nK .u32 (oO (!s.isEmpty) (decN s 0))):=by
 intro F β w vs hS hl hv
 have hlv:lvOf [] []=fun _=>LB.hole:=lvOf_nil'
 obtain⟨u,rfl,hu⟩:=args1 hl hv
 rw [Vw.c_str hu]
 obtain⟨β2,hS2,e1,e0⟩:=rd_enter hlv hS (s:=s) (by omega)
 refine read_raw _ w _ ?_
 refine wpIn_rangeFunc ?_
 intro fn hfn
 obtain⟨rec,hrec⟩:∃ rec:Loop,rec={ state:=.ready,pending:=none,fn,tmps:=rdT ⟨s.toArray⟩ w,params:=#[8,9],assign:=rdAsg,body:=rdBody,defers:=(rdW ⟨s.toArray⟩ w).heap.size }:=⟨_,rfl⟩
 have hsz:(rdW ⟨s.toArray⟩ w).heap.size=w.heap.size+2:=by simp [rdW]
 obtain⟨w1,hw1⟩:∃ w1,((rdW ⟨s.toArray⟩ w).alloc (.deferred (some []))).alloc (.loop rec)=w1:=⟨_,rfl⟩
 have hD1:w1.heap[w.heap.size+2]?=some (.deferred (some [])):=by
  rw [← hw1,heap_alloc,if_neg (by simp [hsz]),heap_alloc,if_pos hsz.symm]
 have hL1:w1.heap[w.heap.size+3]?=some (.loop rec):=by
  rw [← hw1,heap_alloc,if_pos (by simp [hsz])]
 have hw1s:w1.heap.size=w.heap.size+4:=by rw [← hw1];simp [hsz]
 have hS3:Sits (CtxE Tryz.prog G w F β (lvOf [] [])) F β2 (LVr s .nilsl) w1:=by
  rw [← hw1];exact (hS2.allocFar _).allocFar _
 have hS4:Sits (CtxE Tryz.prog G w1 F β2 (LVr s .nilsl)) F β2 (LVr s .nilsl) w1:=StOK.enterG hS3 (LVr_allOk _ _)
 have hFw:∀ b,F b→b<w.heap.size:=fun b hb=>(hS.Flt b hb).1
 have hnot:∀ b,w.heap.size+2≤b→∀ k,(LVr s .nilsl k).live=true→β2 k≠b:=by
  intro b hb k hk he
  by_cases h1:k=1
  ·grind
  ·by_cases h0:k=0
   ·grind
   ·rw [show LVr s .nilsl k=.hole by unfold LVr upd;grind] at hk;cases hk
 refine⟨w.heap.size+3,[{ target:=.collected (w.heap.size+2),args:=#[] }],w1,{ target:=.fn (.func 210) #[.pointer (some ⟨w.heap.size+1,0,none⟩)],args:=#[.func (.yield (w.heap.size+3)) #[] #[]] },w1,210,
  #[.func (.yield (w.heap.size+3)) #[] #[]]++#[.pointer (some ⟨w.heap.size+1,0,none⟩)],w1,?_,?_,fun _ _=>trivial,?_,(fun h=>by simp [Fence.wide] at h),?_⟩
 ·have:=run_enterLoop_outer (P:=Tryz.prog) (w:=rdW ⟨s.toArray⟩ w) fn (rdT ⟨s.toArray⟩ w) #[8,9] rdAsg rdBody
  simp_all
 ·have hg:(Act.eval ⟨rdT ⟨s.toArray⟩ w,[]⟩ (.tmp 7))=.func (.func 210) #[] #[.pointer (some ⟨w.heap.size+1,0,none⟩)]:=rfl
  simp only [resolve,hg]
  simp [go_sem]
 ·have:=run_callFunc (P:=Tryz.prog) (f:=210) (by kernel_rfl) (#[.func (.yield (w.heap.size+3)) #[] #[]]++#[.pointer (some ⟨w.heap.size+1,0,none⟩)]) w1
  simpa [invoke,go_sem] using this
 ·refine (callsIn_wide (n:=0)).2 ?_
  let Y:AV:=.c (.d (.func (.yield (w.heap.size+3)) [] []))
  have hit:=calls_at (κ:=0) (lv':=LVr [] (nD (oO (!s.isEmpty) (decN s 0)))) (args:=[Y,.c (.ptr 0 0)]) (vs:=#[.func (.yield (w.heap.size+3)) #[] #[]]++#[.pointer (some ⟨w.heap.size+1,0,none⟩)]) Tryz.func210 itBody_eq (by simp) rfl hS4 rfl (fun i p q=>by
   have:i=0∨i=1:=by simp at p;omega
   rcases this with rfl|rfl
   ·exact⟨.func _ _ _ _ _ rfl rfl (fun i h=>absurd h (Nat.not_lt_zero i)) (fun i h=>absurd h (Nat.not_lt_zero i)),rfl⟩
   ·refine⟨?_,rfl⟩
    simp only [Vw.atPtr,LVr_0,e0]
    rfl) (iter_aw G s hD hlen Y rfl _ rfl rfl rfl ?_)
  ·refine hit.mono fun e w3 he=>?_
   obtain⟨⟨v,rfl⟩,F3,β3,hX⟩:=he
   have hold:∀ b,w.heap.size+2≤b→b<w1.heap.size→w3.heap[b]?=w1.heap[b]?:=fun b h1 h2=>hX.old b h2 (fun⟨k,hk,he⟩=>hnot b h1 k hk he)
   have hL3:w3.heap[w.heap.size+3]?=some (.loop rec):=(hold _ (by omega) (by omega)).trans hL1
   have hD3:w3.heap[w.heap.size+2]?=some (.deferred (some [])):=(hold _ (by omega) (by omega)).trans hD1
   have hF3:∀ b,w.heap.size+2≤b→b<w1.heap.size→¬ F3 b:=by
    intro b h1 h2 hb
    rcases (hX.Flt _ hb).2 with h|h
    ·have:=hFw _ h;omega
    ·have:w1.heap.size≤b:=h
     omega
   have hlv3:∀ b,w.heap.size+2≤b→b<w1.heap.size→∀ k,(LVr [] (nD (oO (!s.isEmpty) (decN s 0))) k).live=true→β3 k≠b:=by
    intro b h1 h2 k hk he
    rcases hX.live_own (k:=k) hk with h|⟨j,hj,hj2⟩
    ·have:w1.heap.size≤β3 k:=h
     omega
    ·grind
   have hc1:β3 1=w.heap.size:=by
    have h0:LVr s DV.nilsl 1≠.hole:=by simp
    rcases hX.keep 1 h0 with h|⟨h,_⟩
    ·simp at h
    ·rw [h];exact e1
   have q1:StOK { CtxE Tryz.prog G w F β (lvOf [] []) with n:=0 } F3 β3 ⟨fun _=>.junk,LVr [] (nD (oO (!s.isEmpty) (decN s 0)))⟩ ⟨#[],[]⟩ w3:=hS3.backG hX
   have q2:=q1.putFar (.loop { rec with state:=.exhausted }) hL3 (fun _ _ _ h=>by cases h) (hF3 _ (by omega) (by omega)) (hlv3 _ (by omega) (by omega)) (.inl (by show w.heap.size≤_;omega))
   have hD4:(w3.putObj (w.heap.size+3) (.loop { rec with state:=.exhausted })).heap[w.heap.size+2]?=some (.deferred (some [])):=(World.putObj_heap_other (by omega)).trans hD3
   have q3:=q2.putFar (.deferred none) hD4 (fun _ _ _ h=>by cases h) (hF3 _ (by omega) (by omega)) (hlv3 _ (by omega) (by omega)) (.inl (by show w.heap.size≤_;omega))
   have hb:=q2.blk 1
   unfold Vw.blk at hb
   simp only [LVr_1] at hb
   obtain⟨arr,b1,b2,b3,_⟩:=hb
   have hpos:0<arr.size:=by simp at b2;omega
   have h0:=b3 0 (by simp) hpos
   simp only [List.getElem_cons_zero] at h0
   refine⟨none,w3.putObj (w.heap.size+3) (.loop { rec with state:=.exhausted }),?_,rfl,w.heap.size+2,arr[0],rfl,hD4,?_,arr[0],F3,β3,rfl,?_,?_⟩
   ·have:=run_endLoop (P:=Tryz.prog) hL3 (by grind)
    grind
   ·rw [hc1] at b1
    simp only [World.cell?]
    grind
   ·refine⟨fun k=>?_,fun k k' h=>?_,fun _=>trivial,rfl,rfl,q3.Flt,q3.F0,q3.old,q3.ge,q3.glob,fun k h=>?_,q3.asz,q3.oso⟩
    ·unfold Vw.blk;grind
    ·rw [hlv] at h;cases h
    ·exact absurd (by rw [hlv];rfl) h
   ·have hR:∀ x,(Vw.mk F3 β3 (LVr [] (nD (oO (!s.isEmpty) (decN s 0)))) (w3.putObj (w.heap.size+3) (.loop { rec with state:=.exhausted }))).cv arr[0] (.d x)→(Vw.mk F3 β3 (lvOf [] []) ((w3.putObj (w.heap.size+3) (.loop { rec with state:=.exhausted })).putObj (w.heap.size+2) (.deferred none))).av arr[0] (.c (.d x)):=by
     rintro x ⟨g1,g2⟩
     refine⟨Rd.mono (memF_le (fun _ h=>h) (fun b hb=>?_)) g1,g2⟩
     refine World.putObj_heap_other (fun e=>?_)
     subst e
     exact hF3 _ (by omega) (by omega) hb
    rw [← nD_nK]
    grind
  ·intro u n st v sz L fr ops o cl hv hz hst hL hn hdst hg ho hcal hargs f29 f30 f31
   rw [← hdst]
   refine SimW.yield (xs:=[.c (.d (.int .u32 v)),.c (.d (.int .u32 sz))]) (fun d hd=>?_) hg ho hcal f29 (by simp_all) (by grind) hL1 (fun k hk=>hnot _ (by omega) k hk) (LVr_allOk _ _) ?_
   ·rw [hdst] at hd;cases hd;simp
   intro F' β' w' vs' hX hXe hl' hvs hav
   obtain⟨x,y,rfl,hx,hy⟩:=args2 hvs hav
   have ht:(rec.params.zip #[x,y]).foldl (fun tmps (t,a)=>tmps.setIfInBounds t a) rec.tmps=((rdT ⟨s.toArray⟩ w).setIfInBounds 8 x).setIfInBounds 9 y:=by rw [hrec];simp only [List.zip_toArray,List.zip_cons_cons,List.zip_nil_right,List.foldl_toArray,List.foldl_cons,List.foldl_nil]
   rw [ht]
   have hb1:β' 1=w.heap.size:=by
    have h0:LVr s DV.nilsl 1≠.hole:=by simp
    rcases hX.keep 1 h0 with h|⟨h,_⟩
    ·simp at h
    ·rw [h];exact e1
   have hFl:¬ F' (w.heap.size+3):=by
    intro hb
    rcases (hX.Flt _ hb).2 with h|h
    ·have:=hFw _ h;omega
    ·have:w1.heap.size≤w.heap.size+3:=h
     omega
   let fr0:Nat→AV:=fun t=>if t=3 then .c (.ptr 1 0) else if t=8 then .c (.d (.int .u32 v)) else if t=9 then .c (.d (.int .u32 sz)) else .junk
   have hval:val 4294967296 (dO (oO st n))=n:=by
    cases st with
    | false=>have:=hst rfl;subst this;rfl
    | true=>exact dig_val (by decide) n
   have hlenO:(dO (oO st n)).length≤L:=by
    cases st with
    | false=>simp [oO,dO]
    | true=>exact dig_len_le (by decide) hn
   refine round_of_AW (n:=20) (κ:=0) (fr:=fr0) (fr2:=upd (upd fr0 4 (.c (.d (.int .u32 v)))) 5 (.c (.d (.int .u32 sz)))) hXe (LVr_allOk _ _) hl' (by rw [hrec]) (by rw [hrec]) (by simp [rdT]) (fun t=>?_) hFl ?_ ?_
   ·show (Vw.mk F' β' _ w').av _ (if t=3 then .c (.ptr 1 0) else if t=8 then .c (.d (.int .u32 v)) else if t=9 then .c (.d (.int .u32 sz)) else .junk)
    by_cases h3:t=3
    ·subst h3
     simp only [if_true]
     have:(((rdT ⟨s.toArray⟩ w).setIfInBounds 8 x).setIfInBounds 9 y).getD 3 undef=.pointer (some ⟨w.heap.size,0,none⟩):=rfl
     rw [this]
     refine⟨?_,rfl⟩
     simp only [Vw.atPtr,LVr_1,hb1]
    ·by_cases h8:t=8
     ·subst h8
      exact hx
     ·by_cases h9:t=9
      ·subst h9
       exact hy
      ·simp only [h3,h8,h9,if_false]
       trivial
   ·intro c hP hG hn' _
    rw [hrec]
    exact read_asg G v sz _ _ fr0 rfl rfl c hP hG hn'
   ·intro c hP hG hn' _
    rw [hrec]
    have:=read_body G v sz hv hz (oO st n) (nD (oO st n)) (nD_nK _) (by omega) L (by omega) (by omega) u (some (w.heap.size+3)) (upd (upd fr0 4 (.c (.d (.int .u32 v)))) 5 (.c (.d (.int .u32 sz)))) (by rfl) (by simp [upd]) (by simp [upd]) c hP hG hn'
    rw [hval] at this
    exact this
end Go.Am
namespace Go.Am
open Go.Proofs N
theorem cv_pure_any {V V':Vw}(hm:∀ a v,V.mem a v→V'.mem a v) {v:Value}{x:CV}(hx:x.pure=true) (h:V.cv v x):V'.cv v x:=by
 cases x with
 | d x=>exact⟨Rd.mono hm h.1,h.2⟩
 | junk=>exact h
 | _=>cases hx
theorem av0_pure_any {V V':Vw}(hm:∀ a v,V.mem a v→V'.mem a v) {v:Value}{x:AV}(hx:x.pure0=true) (h:V.av0 v x):V'.av0 v x:=by
 cases x with
 | c x=>exact cv_pure_any hm hx h
 | agg cs=>
  obtain⟨arr,h1,h2,h3⟩:=h
  refine⟨arr,h1,h2,fun i p q=>cv_pure_any hm ?_ (h3 i p q)⟩
  simp only [AV.pure0,List.all_eq_true] at hx
  grind
 | tup l=>exact h.elim
 | undef=>exact h
 | junk=>trivial
theorem av_pure_any {V V':Vw}(hm:∀ a v,V.mem a v→V'.mem a v) {v:Value}{x:AV}(hx:x.pure=true) (h:V.av v x):V'.av v x:=by
 cases x with
 | tup l=>
  obtain⟨arr,h1,h2,h3⟩:=h
  refine⟨arr,h1,h2,fun i p q=>av0_pure_any hm ?_ (h3 i p q)⟩
  simp only [AV.pure,List.all_eq_true] at hx
  grind
 | c x=>
  have hx':(AV.c x).pure0=true:=hx
  exact av0_pure_any (x:=.c x) hm hx' h
 | agg cs=>
  have hx':(AV.agg cs).pure0=true:=hx
  exact av0_pure_any (x:=.agg cs) hm hx' h
 | undef=>exact h
 | junk=>trivial
theorem CallG.of_CallsP {P:Program}{G:List (List DV)}{f:FuncId}{us:List AV}{lv:Key→LB}{x:AV}(hus:∀ u∈us,u.pure=true) (hx:x.pure=true) (h:CallsP P G f us x):CallG P G f us lv (.ret x lv):=by
 intro F β w vs hS hl hv
 have hlv:lvOf [] []=fun _=>LB.hole:=lvOf_nil'
 have hS0:Sits (CtxE P G w F β (lvOf [] [])) F β (lvOf [] []) w:=by
  rw [hlv]
  exact⟨fun k=>trivial,fun k k' h=>(by cases h),fun _=>trivial,rfl,rfl,fun b hb=>⟨(hS.Flt b hb).1,.inl hb⟩,fun _ hb=>hb,fun _ _ _=>rfl,Nat.le_refl _,hS.glob,fun k hk=>absurd rfl hk,fun _=>Nat.le_refl _,⟨rfl,rfl⟩⟩
 refine (h F β w vs hS0 hl (fun i p q=>av_pure_any (V:=Vw.mk F β lv w) (V':=Vw.mk F β (lvOf [] []) w) (fun _ _ h=>h) (hus _ (List.getElem_mem p)) (hv i p q))).mono fun e w' he=>?_
 obtain⟨v,F',β',rfl,hX,hav⟩:=he
 have hold:∀ b,b<w.heap.size→w'.heap[b]?=w.heap[b]?:=fun b hb=>hX.old b hb (by
  rintro⟨k,hk,_⟩
  rw [hlv] at hk;cases hk)
 have hFl:∀ b,F' b→F b∨w.heap.size≤b:=fun b hb=>(hX.Flt b hb).2
 refine⟨v,F',β,rfl,?_,av_pure_any (V:=Vw.mk F' β' (lvOf [] []) w') (V':=Vw.mk F' β lv w') (fun _ _ h=>h) hx hav⟩
 refine StOK.step (hoo:=hX.oso) (c:={ CtxE P G w F β lv with n:=0 }) (s:=⟨fun _=>.junk,lv⟩) hS hX.F0 (fun b hb=>hold b (hS.Flt b hb).1) (fun k=>LB.sub_refl _) (fun _ _ _=>rfl) hX.asz ?_ hS.inj (fun b hb=>(hFl b hb).imp id fun h=>⟨(hX.Flt b hb).1,h⟩) hX.ge (fun b hb _=>hold b hb)
 intro k hK
 have hb:=hS.blk k
 have key:(lv k).live=true→(Vw.mk F' β lv w').blk { CtxE P G w F β lv with n:=0 } k:=fun hl=>
  Vw.blk_keep hb hK rfl rfl (hold _ (hS.live_lt hl)) (fun _ hf=>by
   rcases hFl _ hf with h|h
   ·exact h
   ·have:=hS.live_lt (k:=k) hl
    grind)
 cases e:lv k with
 | cells own fz T cs=>
  cases fz with
  | false=>exact key (by rw [e];rfl)
  | true=>
   unfold Vw.blk at hb ⊢;simp only [e] at hb ⊢
   obtain⟨arr,b1,b2,b3,b4,b5⟩:=hb
   simp only [if_true] at b4 ⊢
   exact⟨arr,by grind,b2,fun i p q=>hK.cv (b3 i p q),hX.F0 _ b4,b5⟩
 | map own es=>exact key (by rw [e];rfl)
 | hole=>unfold Vw.blk;grind
 | dead=>unfold Vw.blk;grind
 | nils=>unfold Vw.blk;grind
noncomputable def setS (f:Nat)(x:Spec)(t:Tb Spec):Tb Spec:=t.set .body x (pathOf f)
theorem setS_get (f j:Nat)(x:Spec)(t:Tb Spec):(setS f x t).get .body (pathOf j)=if j=f then x else t.get .body (pathOf j):=by
 have:Decidable (pathOf j=pathOf f):=Classical.propDecidable _
 unfold setS
 rw [Tb.get_set]
 by_cases e:j=f
 ·grind
 ·rw [if_neg e,if_neg (fun h=>e (pathOf_inj h))]
def allD:List UInt8→Bool
 | []=>true
 | c::l=>(Nat.ble 48 c.toNat && Nat.ble c.toNat 57) && allD l
theorem allD_isD:∀ {l:List UInt8},allD l=true→isD l
 | [],_=>fun c hc=>by cases hc
 | c::l,h=>by
  simp only [allD,Bool.and_eq_true] at h
  intro d hd
  rcases List.mem_cons.1 hd with rfl|hd
  ·simp_all
  ·exact allD_isD h.2 d hd
def gRead:List AV→Option AV
 | [.c (.d (.str s))]=>bif allD s && Nat.ble s.length 1000000000 then some (nK .u32 (oO (!s.isEmpty) (decN s 0))) else none
 | _=>none
theorem gRead_ok (m:Int){us:List AV}{x:AV}(h:gRead us=some x) (lv:Key→LB):CallG Tryz.prog (GG m) 91 us lv (.ret x lv):=by
 unfold gRead at h
 split at h
 ·rename_i s
  cases hb:allD s && Nat.ble s.length 1000000000 with
  | false=>rw [hb] at h;cases h
  | true=>
   rw [hb] at h
   simp only [cond_true,Option.some.injEq] at h
   subst h
   simp only [Bool.and_eq_true] at hb
   exact CallG.of_CallsP (fun u hu=>by simp_all) (by simp) (exact_read_ok (GG m) s (allD_isD hb.1) (Nat.le_of_ble_eq_true hb.2))
 ·cases h
noncomputable def spA:Tb Spec:=setS 234 (.self bOK) (setS 197 (.pure gIndex) (setS 238 (.pure gIndexB) (setS 91 (.pure gRead) .leaf)))
theorem spA_get (f:Nat):spA.get .body (pathOf f)=if f=234 then .self bOK else if f=197 then .pure gIndex else if f=238 then .pure gIndexB else if f=91 then .pure gRead else .body:=by
 unfold spA
 simp only [setS_get,Tb.get_leaf]
theorem spA_ok (m:Int):SpecOK Tryz.prog (GG m) spA 0 where
 pure:=by
  intro f g us x h hg lv ho
  rw [spA_get] at h
  split at h
  ·cases h
  split at h
  ·rename_i e;subst e;cases h;exact gIndex_ok m hg lv
  split at h
  ·rename_i e;subst e;cases h;exact gIndexB_ok m hg lv
  split at h
  ·rename_i e;subst e;cases h;exact gRead_ok m hg lv
  ·cases h
 caughtR:=by
  intro f h
  rw [spA_get] at h
  repeat (split at h;· cases h)
  cases h
 caughtP:=by
  intro f h
  rw [spA_get] at h
  repeat (split at h;· cases h)
  cases h
 selfN:=by
  intro f g h lv k off T cs r ho hok hk hc
  rw [spA_get] at h
  split at h
  ·rename_i e;subst e;cases h;exact self_fresh m lv k off T cs r hok hk hc
  ·repeat (split at h;· cases h)
   cases h
 selfP:=by
  intro f g h lv k off T cs r ho hok hk hc
  rw [spA_get] at h
  split at h
  ·rename_i e;subst e;cases h;exact self_used m lv k off T cs r hk hc
  ·repeat (split at h;· cases h)
   cases h
theorem evA_ok (m:Int)(n:Nat):CallOK Tryz.prog (GG m) (evK Tryz.prog (GG m) spA 0 n):=evK_ok mixed (spA_ok m) n
end Go.Am
namespace Go.Am
open Go.Proofs
def dRes (lv:Key→LB):AV→Option (AV × List Key)
 | .tup l=>(dArgs lv l).map fun p=>(.tup p.1,p.2)
 | x=>dArg lv x
theorem dRes_keys {lv:Key→LB}{x y:AV}{ks:List Key}(h:dRes lv x=some (y,ks)):∀ k∈ks,∃ own fz T cs,lv k=.cells own fz T cs:=by
 cases x with
 | tup l=>
  simp only [dRes,Option.map_eq_some_iff] at h
  obtain⟨⟨ys,ks'⟩,h1,h2⟩:=h
  simp only [Prod.mk.injEq] at h2
  obtain⟨rfl,rfl⟩:=h2
  exact dArgs_keys h1
 | c x=>exact dArg_keys (x:=.c x) h
 | agg x=>exact dArg_keys (x:=.agg x) h
 | undef=>cases h
 | junk=>cases h
theorem dArg_av0 {V:Vw}{lv:Key→LB}{x y:AV}{ks:List Key}{v:Value}(h:dArg lv x=some (y,ks)) (hv:V.av v y):V.av0 v y:=by
 cases x with
 | c x=>
  simp only [dArg,Option.map_eq_some_iff] at h
  obtain⟨p,_,h2⟩:=h
  simp only [Prod.mk.injEq] at h2
  obtain⟨rfl,rfl⟩:=h2
  exact hv
 | agg cs=>
  simp only [dArg,Option.map_eq_some_iff] at h
  obtain⟨p,_,h2⟩:=h
  simp only [Prod.mk.injEq] at h2
  obtain⟨rfl,rfl⟩:=h2
  exact hv
 | _=>cases h
theorem Sits.dRes {c:Ctx}{F Fz:Nat→Prop}{β:Key→Nat}{s:LSt}{w:World}(h:Sits c F β s.lv w) (hF:∀ b,F b→Fz b) {β':Key→Nat}{lv':Key→LB}{x y:AV}{ks:List Key}{v:Value}(ht:Am.dRes s.lv x=some (y,ks))
 (hk:∀ k∈ks,Fz (β k)) (hv:(Vw.mk F β s.lv w).av v x):(Vw.mk Fz β' lv' w).av v y:=by
 cases x with
 | tup l=>
  simp only [Am.dRes,Option.map_eq_some_iff] at ht
  obtain⟨⟨ys,ks'⟩,h1,h2⟩:=ht
  simp only [Prod.mk.injEq] at h2
  obtain⟨rfl,rfl⟩:=h2
  obtain⟨g1,g2⟩:=dArgs_get h1
  obtain⟨arr,a1,a2,a3⟩:=hv
  refine⟨arr,a1,by omega,fun i p q=>?_⟩
  obtain⟨k,h3,h4⟩:=g2 i p (by omega)
  have hx:(Vw.mk F β s.lv w).av arr[i] (l[i]'(by omega)):=by
   have:=a3 i (by omega) q
   generalize l[i]'(by omega)=z at this h3
   cases z with
   | tup l=>cases h3
   | _=>exact this
  exact dArg_av0 h3 (h.dArg hF h3 (fun k' hk'=>hk k' (h4 k' hk')) hx)
 | c x=>exact h.dArg (x:=.c x) hF ht hk hv
 | agg cs=>exact h.dArg (x:=.agg cs) hF ht hk hv
 | undef=>cases ht
 | junk=>cases ht
theorem CallsP.of_CallG {P:Program}{G:List (List DV)}{f:FuncId}{us:List AV}{X X':AV}{lv':Key→LB}{ks:List Key}(h:CallG P G f us (fun _=>.hole) (.ret X lv')) (hd:dRes lv' X=some (X',ks)):CallsP P G f us X':=by
 intro F β w vs hS hl hv
 have hlv:lvOf [] []=fun _=>LB.hole:=lvOf_nil'
 rw [hlv] at hS hv
 refine (h F β w vs hS hl hv).mono fun e w' he=>?_
 obtain⟨v,F',β',rfl,hX,hav⟩:=he
 have hFz:∀ b,F' b→(F' b∨∃ k∈ks,b=β' k):=fun b hb=>.inl hb
 refine⟨v,fun b=>F' b∨∃ k∈ks,b=β' k,β',rfl,?_,?_⟩
 ·rw [hlv]
  refine⟨fun k=>trivial,fun k k' h=>(by cases h),fun _=>trivial,rfl,rfl,fun b hb=>?_,fun b hb=>.inl (hX.F0 b hb),fun b hb hW=>hX.old b hb (by omega),hX.ge,fun g cs hg=>Rd.mono (memF_le hFz (fun _ _=>rfl)) (hX.glob g cs hg),fun k hk=>absurd rfl hk,hX.asz,hX.oso⟩
  rcases hb with hb|⟨k,hk,rfl⟩
  ·exact hX.Flt b hb
  ·obtain⟨own,fz,T,cs',e⟩:=dRes_keys hd k hk
   have hlt:β' k<w'.heap.size:=StOK.cells_lt hX e
   cases fz with
   | false=>
    refine⟨hlt,?_⟩
    rcases hX.live_own (k:=k) (by show (lv' k).live=true;rw [e];rfl) with h1|⟨j,hj,_⟩
    ·omega
    ·cases hj
   | true=>
    have hb:=hX.blk k
    unfold Vw.blk at hb
    simp only [e] at hb
    obtain⟨arr,b1,b2,b3,b4,b5⟩:=hb
    simp only [if_true] at b4
    exact hX.Flt _ b4
 ·exact Sits.dRes (s:=⟨fun _=>.junk,lv'⟩) hX hFz hd (fun k hk=>.inr ⟨k,hk,rfl⟩) hav
noncomputable def kDone:KRet:=fun x lv nx lg=>.done x lv nx []
noncomputable def finK (r:Res):Option AV:=
 Res.rec (motive:=fun _=>Option AV) (fun _ _=>none) (fun x lv _ _=>(dRes (lvT' lv) x).map (·.1)) (fun _ _ _ _=>none) r
theorem CallsP.of_ev {P:Program}{G:List (List DV)}{ev:EvCall2}(hc:CallOK P G ev) {f:FuncId}{us:List AV}{X':AV}(h:finK (ev f us .leaf 0 [] kDone .pan)=some X'):CallsP P G f us X':=by
 have h0:AllOk (lvT' .leaf):=fun k=>by simp [lvT',Tb.get_leaf,LB.okB]
 have e0:lvT' .leaf=fun _=>LB.hole:=by funext k;simp [lvT',Tb.get_leaf]
 generalize hr:ev f us .leaf 0 [] kDone .pan=r at h
 cases r with
 | bad n o=>cases h
 | pan d lv nx lg=>cases h
 | done X LV nx lg=>
  rcases hc f us .leaf 0 [] kDone .pan _ hr (fun n o h=>by cases h) h0 with ⟨x,lv',nx',l,q1,q2,_⟩|⟨d,lv',nx',l,q1,_⟩
  ·simp only [kDone,Res.done.injEq] at q1
   obtain⟨rfl,rfl,_,_⟩:=q1
   rw [e0] at q2
   have h1:(dRes (lvT' lv') x).map (·.1)=some X':=h
   obtain⟨⟨y,ks⟩,h2,h3⟩:=Option.map_eq_some_iff.1 h1
   simp only at h3
   subst h3
   exact CallsP.of_CallG q2 h2
  grind
end Go.Am
namespace Go.Am
def FinC (c:Ctx)(fn:Func)(x:AV):Ex→LSt→Nat→Prop
 | .normal,s,_|.ret,s,_=>resA c.P s fn.results.toList=some x
 | _,_,_=>False
def FinD (c:Ctx)(fn:Func)(x:AV):Ex→LSt→Nat→Prop
 | .normal,s,_|.ret,s,_=>∃ X ks,resA c.P s fn.results.toList=some X∧dRes s.lv X=some (x,ks)
 | _,_,_=>False
theorem CallsP.of_AWd {P:Program}{G:List (List DV)}{f:FuncId}{fn:Func}{code:Code}{args:List AV}{x:AV}(hf:P.funcs[f]?=some fn) (hb:fn.body=some code) (hl:args.length≤fn.ntmps)
 (h:∀ c:Ctx,c.P=P→c.G=G→c.n=fn.ntmps→c.lv0=(fun _=>.hole)→AW c none code ⟨fun t=>args.getD t .undef,fun _=>.hole⟩ 0 (FinD c fn x)):CallsP P G f args x:=by
 intro F β w vs hS hvl hv
 have hlv:lvOf [] []=fun _=>LB.hole:=lvOf_nil'
 rw [hlv] at hS hv
 refine enter_wp hf hb hl hS hvl hv (h _ rfl rfl rfl rfl) (fun e s κ hq=>by cases e <;> first|exact .inl rfl|exact .inr rfl|exact hq.elim) fun e s' κ F' β' a' w' hq hX0=>?_
 obtain⟨X,ks,h0,hd⟩:∃ X ks,resA P s' fn.results.toList=some X∧dRes s'.lv X=some (x,ks):=by cases e <;> first|exact hq|exact hq.elim
 obtain⟨v,h4,hav⟩:=resA_run hX0 h0
 have hX:Sits (CtxE P G w F β (fun _=>.hole)) F' β' s'.lv w':=hX0.sits
 have hFz:∀ b,F' b→(F' b∨∃ k∈ks,b=β' k):=fun b hb=>.inl hb
 refine⟨hX0.defers,v,h4,v,fun b=>F' b∨∃ k∈ks,b=β' k,β',rfl,?_,?_⟩
 ·rw [hlv]
  refine⟨fun k=>trivial,fun k k' h=>(by cases h),fun _=>trivial,rfl,rfl,fun b hb=>?_,fun b hb=>.inl (hX.F0 b hb),fun b hb hW=>hX.old b hb (by omega),hX.ge,fun g cs hg=>Rd.mono (memF_le hFz (fun _ _=>rfl)) (hX.glob g cs hg),fun k hk=>absurd rfl hk,hX.asz,hX.oso⟩
  rcases hb with hb|⟨k,hk,rfl⟩
  ·exact hX.Flt b hb
  ·obtain⟨own,fz,T,cs',e⟩:=dRes_keys hd k hk
   have hlt:β' k<w'.heap.size:=StOK.cells_lt hX e
   cases fz with
   | false=>
    refine⟨hlt,?_⟩
    rcases hX.live_own (k:=k) (by show (s'.lv k).live=true;rw [e];rfl) with h1|⟨j,hj,_⟩
    ·omega
    ·cases hj
   | true=>
    have hb:=hX.blk k
    unfold Vw.blk at hb
    simp only [e] at hb
    obtain⟨arr,b1,b2,b3,b4,b5⟩:=hb
    simp only [if_true] at b4
    exact hX.Flt _ b4
 ·rw [hlv]
  exact Sits.dRes (s:=⟨fun _=>.junk,s'.lv⟩) hX hFz hd (fun k hk=>.inr ⟨k,hk,rfl⟩) hav
theorem FinC.d {c:Ctx}{fn:Func}{x:AV}{e:Ex}{s:LSt}{κ:Nat}(hx:dRes s.lv x=some (x,[])) (h:FinC c fn x e s κ):FinD c fn x e s κ:=by
 cases e <;> first|exact⟨x,[],h,hx⟩|exact h.elim
theorem CallsP.of_AWc {P:Program}{G:List (List DV)}{f:FuncId}{fn:Func}{code:Code}{args:List AV}{x:AV}(hf:P.funcs[f]?=some fn) (hb:fn.body=some code) (hl:args.length≤fn.ntmps)
 (hx:∀ lv,dRes lv x=some (x,[]))
 (h:∀ c:Ctx,c.P=P→c.G=G→c.n=fn.ntmps→AW c none code ⟨fun t=>args.getD t .undef,fun _=>.hole⟩ 0 (FinC c fn x)):CallsP P G f args x:=
 CallsP.of_AWd hf hb hl fun c h1 h2 h3 _=>(h c h1 h2 h3).mono fun e s κ hq=>FinC.d (hx _) hq
theorem CallsP.enc {P:Program}{G:List (List DV)}{f:FuncId}{fn:Func}{code:Code}{args:List AV}{x:AV}(hf:P.funcs[f]?=some fn) (hb:fn.body=some code) (hx:∀ lv,dRes lv x=some (x,[]))
 (h:∀ z:Ev,AW ⟨P,G,z.w,z.F,z.W,fn.ntmps,z.q,z.b,z.d⟩ none code ⟨fun t=>args.getD t .undef,fun _=>.hole⟩ 0 (FinC ⟨P,G,z.w,z.F,z.W,fn.ntmps,z.q,z.b,z.d⟩ fn x)) (hl:Nat.ble args.length fn.ntmps=true:=by kernel_rfl):CallsP P G f args x:=
 CallsP.of_AWc hf hb (Nat.le_of_ble_eq_true hl) hx fun⟨_,_,w,F,W,_,q,b,d⟩ h1 h2 h3=>by cases h1;cases h2;cases h3;exact h ⟨w,F,W,q,b,d⟩
theorem CallsP.ed {P:Program}{G:List (List DV)}{f:FuncId}{fn:Func}{code:Code}{args:List AV}{x:AV}(hf:P.funcs[f]?=some fn) (hb:fn.body=some code)
 (h:∀ z:Ev,AW ⟨P,G,z.w,z.F,z.W,fn.ntmps,fun _=>.hole,z.b,z.d⟩ none code ⟨fun t=>args.getD t .undef,fun _=>.hole⟩ 0 (FinD ⟨P,G,z.w,z.F,z.W,fn.ntmps,fun _=>.hole,z.b,z.d⟩ fn x)) (hl:Nat.ble args.length fn.ntmps=true:=by kernel_rfl):CallsP P G f args x:=
 CallsP.of_AWd hf hb (Nat.le_of_ble_eq_true hl) fun⟨_,_,w,F,W,_,q,b,d⟩ h1 h2 h3 h4=>by cases h1;cases h2;cases h3;cases h4;exact h ⟨w,F,W,fun _=>.hole,b,d⟩
theorem FinD.tmp {c:Ctx}{fn:Func}{x X:AV}{t:Nat}{s:LSt}{κ:Nat}{ks:List Key}(hr:fn.results=#[.tmp t]) (hx:s.fr t=X) (hd:dRes s.lv X=some (x,ks)):FinD c fn x .ret s κ:=
 ⟨X,ks,by rw [hr];simp [resA,resL,resV,hx],hd⟩
end Go.Am
namespace Go.Am
open Go.Am.Ty Go.Proofs N
theorem top_can {B:Nat}{l:List Nat}(h:ok B l) (ht:l=[]∨B ^ (l.length - 1)≤val B l):can B l:=by
 refine⟨h,fun x hx=>?_⟩
 rcases List.eq_nil_or_concat l with rfl|⟨xs,y,rfl⟩
 ·cases hx
 ·rw [List.concat_eq_append] at *
  simp only [List.getLast?_append,List.getLast?_singleton,Option.some_or,Option.some.injEq] at hx
  subst hx
  intro h0;subst h0
  rcases ht with e|ht
  ·simp at e
  ·rw [val_snoc] at ht
   simp only [List.length_append,List.length_singleton,Nat.add_sub_cancel,Nat.mul_zero,Nat.add_zero] at ht
   have:=val_lt (ok_append.1 h).1
   omega
theorem can_ge {B:Nat}{l:List Nat}(h:can B l) (h0:l≠[]):B ^ (l.length - 1)≤val B l:=by
 rcases List.eq_nil_or_concat l with rfl|⟨xs,y,rfl⟩
 ·grind
 ·rw [List.concat_eq_append] at *
  have hy:y≠0:=h.2 y (by simp)
  rw [val_snoc]
  simp only [List.length_append,List.length_singleton,Nat.add_sub_cancel]
  have:B ^ xs.length*1≤B ^ xs.length*y:=Nat.mul_le_mul_left _ (by omega)
  omega
def rC:Option (List Nat)→CV
 | none=>.d .nilsl
 | some l=>.d (.sl (dK .i64 l))
theorem nK_rC (o:Option (List Nat)):nK .i64 o=.c (rC o):=by cases o <;> rfl
@[simp] theorem rC_dRes (lv:Key→LB)(s:Int)(p q:Option (List Nat)):dRes lv (.agg [.d (.int .i64 s),rC p,rC q])=some (.agg [.d (.int .i64 s),rC p,rC q],[]):=by
 cases p <;> cases q <;> rfl
@[simp] theorem rC_pure (o:Option (List Nat)):(rC o).pure=true:=by cases o <;> rfl
@[simp] theorem rC_flat1 (o:Option (List Nat)):(AV.c (rC o)).flat1=true:=by cases o <;> rfl
@[simp] theorem rC_apure (o:Option (List Nat)):(AV.c (rC o)).pure=true:=by cases o <;> rfl
@[simp] theorem rC_ren (o:Option (List Nat))(g:Key→Key):(rC o).ren g=rC o:=by cases o <;> rfl
abbrev rA (s:Int)(p q:Option (List Nat)):AV:=.agg [.d (.int .i64 s),rC p,rC q]
@[simp] theorem rA_pure (s:Int)(p q:Option (List Nat)):(AV.agg [.d (.int .i64 s),rC p,rC q]).pure=true:=by cases p <;> cases q <;> rfl
theorem bR0:buildA Tryz.prog 38 [] []=some (.agg [.d (.int .i64 0),.d .nilsl,.d .nilsl],[],[],True):=by kernel_rfl
theorem bR (b p q:CV):buildA Tryz.prog 38 [0,1,2] [.c b,.c p,.c q]=some (.agg [b,p,q],[],[],True):=by kernel_rfl
theorem bs213 (lv:Key→LB)(κ:Key)(h:lv κ=.hole)(a:CV):stepBuildSlice Tryz.prog 36 1 [0] lv κ [.c a]=some (.c (.lsl κ 0 1 1),[(κ,.cells true false 2 [a])],[],True):=by
 unfold stepBuildSlice;rw [h];rfl
theorem tm_nat (x k:Nat):(x:Int).tmod (k:Int)=((x % k:Nat):Int):=by rfl
theorem td_nat (x k:Nat):(x:Int).tdiv (k:Int)=((x / k:Nat):Int):=by rfl
theorem dRes_wK {lv:Key→LB}{κ:Key}{own fz:Bool}{T:TypeId}{k:IntKind}{l:List Nat}(h:lv κ=.cells own fz T (wK k l)) (hl:l.length≤9223372036854775807):dRes lv (.c (.lsl κ 0 l.length 1))=some (nK k (some l),[κ]):=dArg_wK h hl
theorem r_one_ok (G:List (List DV)):CallsP Tryz.prog G 154 [] (nK .i64 (some [1])):=by
 refine CallsP.ed Go.Proofs.Tryz.func154 rfl fun _=>AW.q ?_
 refine AW.sr fun K hK=>?_
 simp [bs213,-stepBuildSlice]
 apply hK
 refine AW.ret (κ:=0) (FinD.tmp (κ:=0) (X:=.c (.lsl 0 0 1 1)) (ks:=[0]) rfl (by simp) ?_)
 rfl
def rBot (s:Int)(q:Option (List Nat)):Option (List Nat):=if s=0 then some [1] else q
theorem r_bottom_ok (G:List (List DV))(s:Int)(p q:Option (List Nat)):CallsP Tryz.prog G 136 [rA s p q] (.c (rC (rBot s q))):=by
 have h1:=r_one_ok G
 rw [nK_rC] at h1
 refine CallsP.en Go.Proofs.Tryz.func136 rfl fun _=>AW.q ?_
 refine AW.seqK fun K hK=>AW.q ?_
 by_cases hs:s=0
 ·refine AW.fy (by simp_all) (AW.c0 1 h1 ?_)
  exact AW.r0 (FinP.rt (t:=2) rfl 9 (by simp [rBot,hs]))
 ·refine AW.fn (by simp_all) (AW.skip (hK _ _ (AW.q ?_)))
  exact AW.r0 (FinP.rt (t:=2) rfl 9 (by simp [rBot,hs]))
theorem r_trimS_ok (G:List (List DV))(l:List Nat)(hl:l.length≤1000000000000):CallsP Tryz.prog G 157 [nK .i64 (some l)] (nK .i64 (some (trimN l))):=by
 have dKl:∀ (l:List Nat),∀ e∈dK .i64 l,e.length=1:=by
  intro l e he
  obtain⟨x,_,rfl⟩:=List.mem_map.1 he;rfl
 refine CallsP.en Go.Proofs.Tryz.func157 rfl fun _=>AW.q ?_
 refine AW.seqK fun K hK=>AW.block ?_
 refine AW.loopV (fun l'=>⟨frOf [(0,nK .i64 (some l'))],fun _=>.hole⟩) 0 (fun l'=>l'.length≤l.length∧N.trimN l'=N.trimN l) (fun l'=>l'.length) l (Le.slots _ (by simp) (by simp)) (by simp) ?_
 rintro l' ⟨h0,h1⟩
 have fin:∀ (fr:Nat→AV) (κ:Nat),fr 0=nK .i64 (some (N.trimN l))→K ⟨fr,fun _=>.hole⟩ κ:=by
  intro fr κ h
  apply hK
  refine AW.q ?_
  exact AW.ret (FinP.tmp rfl 0 (by simp [h]) rfl rfl (by simp))
 refine AW.seqK fun K2 hK2=>AW.seqK fun K3 hK3=>?_
 refine AW.regionP rfl ?_
 rcases List.eq_nil_or_concat l' with rfl|⟨xs,x,rfl⟩
 ·simp
  apply hK3
  refine AW.cn (AW.exit ?_)
  simp_all
 ·rw [List.concat_eq_append] at *
  have h3:xs.length+1≤1000000000000:=by simp at h0;omega
  have h4:IntKind.i64.wrap ((xs.length:Int))=xs.length:=w64 (by omega) (by omega)
  have h2:(0:Int)<(xs.length:Int)+1:=by omega
  by_cases hx:x=0
  ·subst hx
   simp [nK,dK,lenP,lenA,slT_36,aggT_2,h2,h4]
   repeat refine and_o ?_
   apply hK3
   refine AW.cy (AW.skip (hK2 _ _ (AW.block (AW.rP ?_))))
   simp [nK,dK,lenP,lenA,slT_36,h4]
   refine⟨⟨by omega,fun e he=>?_⟩,?_⟩
   ·rcases he with ⟨y,_,rfl⟩|rfl <;> rfl
   refine⟨xs,Le.slots [(0,nK .i64 (some xs))] (by simp [nK,dK]) (by simp),⟨by grind,by rw [← h1,trimN_snoc0]⟩,by omega⟩
  ·have hx':¬ ((x:Int)=0):=by omega
   simp [nK,dK,lenP,lenA,slT_36,aggT_2,h2,h4]
   repeat refine and_o ?_
   apply hK3
   refine AW.fn (by simp_all) (AW.exit ?_)
   simp
   apply fin
   simp [nK,dK,← h1,trimN_snoc hx]
theorem r_compare_ok (G:List (List DV)){a b:Option (List Nat)}(ha:can 1000000000 (dO a)) (hb:can 1000000000 (dO b)):CallsP Tryz.prog G 138 [nK .i64 a,nK .i64 b] (.c (.d (.int .i64 (cmpN (val 1000000000 (dO a)) (val 1000000000 (dO b)))))):=by
 refine CallsS.know 0 (by simp) (fun V v h=>nK_rng h) fun hra=>?_
 refine CallsS.know 1 (by simp) (fun V v h=>nK_rng h) fun hrb=>?_
 refine CallsP.en Go.Proofs.Tryz.func138 rfl fun _=>AW.q ?_
 refine AW.seqK fun K hK=>AW.q ?_
 by_cases hl:(dO a).length=(dO b).length
 ·refine AW.fn (by simp_all) (AW.skip (hK _ _ (AW.seqK fun K hK=>AW.sr fun K1 hK1=>?_)))
  simp
  have e1:=w64 (n:=((dO a).length:Int) - 1) (by omega) (by omega)
  simp only [e1]
  apply hK1
  refine AW.block ?_
  refine AW.loopV (fun (k:Nat)=>⟨frOf [(0,nK .i64 a),(1,nK .i64 b),(5,.c (.d (.int .i64 ((k:Int) - 1))))],fun _=>.hole⟩) 0 (fun k=>k≤(dO a).length∧(dO a).drop k=(dO b).drop k) (fun k=>k) (dO a).length (Le.mk' _ rfl noMap_hole (by simp)) ⟨Nat.le_refl _,by grind⟩ ?_
  rintro k ⟨h1,h2⟩
  refine AW.seqK fun K3 hK3=>AW.q ?_
  cases k with
  | zero=>
   refine AW.cn (AW.exit (hK _ _ (AW.q ?_)))
   simp only [List.drop_zero] at h2
   exact AW.r0 (FinP.rt rfl 0 (by simp [cmpN_eq (congrArg (val 1000000000) h2)]))
  | succ k=>
   have h3:k<(dO b).length:=by omega
   have h4:k<(dO a).length:=by omega
   have e2:((k+1:Nat):Int) - 1=k:=by omega
   simp only [e2]
   refine AW.cy (AW.skip (hK3 _ _ (AW.seqK fun K5 hK5=>AW.block (AW.seqK fun K6 hK6=>AW.seqK fun K7 hK7=>?_))))
   refine AW.drawQ mixed (by kernel_rfl) rfl rfl ?_
   simp [h3,h4]
   apply hK7
   by_cases hlt:(dO a)[k]<(dO b)[k]
   ·refine AW.fy (by simp_all) (AW.seqK fun K7 hK7=>AW.l0 (hK7 _ _ ?_))
    have:=val_lt_at ha.1 h4 h3 h2 hlt
    exact AW.r0 (FinP.rt rfl 0 (by simp [cmpN_lt this]))
   ·refine AW.fn (by simp_all) (AW.skip (hK6 _ _ (AW.seqK fun K7 hK7=>?_)))
    refine AW.drawQ mixed (by kernel_rfl) rfl rfl ?_
    simp [h3,h4]
    apply hK7
    by_cases hgt:(dO b)[k]<(dO a)[k]
    ·refine AW.fy (by simp_all) (AW.seqK fun K7 hK7=>AW.l0 (hK7 _ _ ?_))
     have:=val_lt_at hb.1 h3 h4 h2.symm hgt
     exact AW.r0 (FinP.rt rfl 0 (by simp [cmpN_gt this]))
    ·refine AW.fn (by simp_all) (AW.skip (hK5 _ _ (AW.rP ?_)))
     simp
     have e3:=w64 (n:=(k:Int) - 1) (by omega) (by omega)
     simp [e3]
     have he:(dO a)[k]=(dO b)[k]:=by omega
     refine⟨k,Le.mk' _ (by simp) (by simp) (by simp),⟨by omega,?_⟩,by omega⟩
     rw [List.drop_eq_getElem_cons h4,List.drop_eq_getElem_cons h3,he,h2]
 ·refine AW.fy (by simp <;> omega) (AW.seqK fun K2 hK2=>AW.q ?_)
  by_cases hlt:(dO a).length<(dO b).length
  ·refine AW.fy (by simp_all) (AW.q ?_)
   exact AW.r0 (FinP.rt rfl 0 (by simp [cmpN_lt (can_len_lt (by omega) ha hb hlt)]))
  ·refine AW.fn (by simp_all) (AW.skip (hK2 _ _ (AW.q ?_)))
   exact AW.r0 (FinP.rt rfl 0 (by simp [cmpN_gt (can_len_lt (by omega) hb ha (by omega))]))
theorem r_odd_ok (G:List (List DV))(a:Option (List Nat)):CallsP Tryz.prog G 212 [nK .i64 a] (.c (.d (.bool (decide (val 1000000000 (dO a) % 2=1))))):=by
 refine CallsP.en Go.Proofs.Tryz.func212 rfl fun _=>AW.q ?_
 refine AW.seqK fun K hK=>?_
 cases hd:dO a with
 | nil=>
  have h1:(dO a).length=0:=by rw [hd];rfl
  refine AW.l1 h1 (hK _ _ ?_)
  exact AW.r0 (FinP.rt rfl 0 (by simp [hd]))
 | cons x l=>
  have h1:0<(dO a).length:=by rw [hd];simp
  have h1':(0:Int)<((dO a).length:Int):=by omega
  have h2:(dO a)[0]=x:=by simp [hd]
  have h4:=ix_nK' (P:=Tryz.prog) (T:=36) (lv:=fun _=>.hole) (k:=.i64) (k':=.i64) (o:=a) (i:=0) (by simp) h1
  simp only [Int.natCast_zero,h2] at h4
  have h5:(x:Int).tmod 2=((x % 2:Nat):Int):=tm_nat x 2
  have h6:val 1000000000 (dO a) % 2=x % 2:=by rw [hd,val_cons];omega
  refine AW.l4 h1 h1' h4 h5 (hK _ _ ?_)
  rw [h6]
  have h7:(x:Int) % 2=1↔x % 2=1:=by omega
  exact AW.r0 (FinP.rt rfl 0 (by simp [h7]))
theorem wK_snoc (k:IntKind)(l:List Nat)(x:Nat):wK k l++[CV.d (.int k (x:Int))]=wK k (l++[x]):=by simp [wK]
theorem wK_ren (k:IntKind)(l:List Nat)(g:Key→Key):(wK k l).map (CV.ren g)=wK k l:=by unfold wK;simp
theorem like_w (k:IntKind)(T:TypeId)(l:List Nat)(g:Key→Key):(LB.cells true false T (wK k l)).like (.cells true false T (wK k l)) g:=LB.like_cells.2 ⟨rfl,rfl,(wK_ren k l g).symm,id⟩
theorem r_sum_ok (G:List (List DV))(a b:Option (List Nat))(ha:can 1000000000 (dO a))(hb:can 1000000000 (dO b))(hal:(dO a).length≤1000000)(hbl:(dO b).length≤1000000) :
 CallsP Tryz.prog G 137 [nK .i64 a,nK .i64 b] (nK .i64 (some (dig 1000000000 (val 1000000000 (dO a)+val 1000000000 (dO b))))):=by
 have hbs:∀ (lv:Key→LB) (h:lv 1=.hole) (a:CV),stepBuildSlice Tryz.prog 36 1 [0] lv 1 [.c a]=some (.c (.lsl 1 0 1 1),[(1,.cells true false 2 [a])],[],True):=fun lv h a=>bs213 lv 1 h a
 obtain⟨M,hM⟩:∃ M,M=max (dO a).length (dO b).length:=⟨_,rfl⟩
 have hmx:(if ((dO a).length:Int)<((dO b).length:Int) then ((dO b).length:Int) else ((dO a).length:Int))=(M:Int):=by split <;> omega
 have hmx':(if (dO a).length<(dO b).length then ((dO b).length:Int) else ((dO a).length:Int))=(M:Int):=by split <;> omega
 have hM6:M≤1000000:=by omega
 have e0:=w64 (n:=(M:Int)+1) (by omega) (by omega)
 refine CallsP.ed Go.Proofs.Tryz.func137 rfl fun _=>AW.q ?_
 refine AW.sr fun K hK=>?_
 simp [intsOf,hmx',e0]
 repeat refine and_o ?_
 apply hK
 refine AW.q ?_
 refine AW.seqK fun K hK=>AW.q ?_
 refine AW.block ?_
 refine AW.loopV (fun (p:List Nat × Nat)=>⟨frOf [(0,nK .i64 a),(1,nK .i64 b),(5,.c (.lsl 0 0 p.1.length 1)),(6,.c (.d (.int .i64 p.2))),(7,.c (.d (.int .i64 p.1.length)))],
  upd (fun _=>.hole) 0 (.cells true false 2 (wK .i64 p.1))⟩) 1
  (fun p=>ok 1000000000 p.1∧p.2≤1∧val 1000000000 p.1+1000000000 ^ p.1.length*p.2=val 1000000000 ((dO a).take p.1.length)+val 1000000000 ((dO b).take p.1.length)∧(p.1.length≤M∨(p.1.length=M+1∧p.2=0∧1000000000 ^ M≤val 1000000000 (dO a)+val 1000000000 (dO b))))
  (fun p=>M+2 - p.1.length) ([],0) (Le.mk' _ (by simp [wK]) (by simp) (by simp)) (by simp [ok_nil]) ?_
 rintro⟨pre,c⟩ ⟨h1,h2,h3,h4⟩
 simp only at h1 h2 h3 h4
 have w7:=w64 (n:=(pre.length:Int)+1) (by omega) (by omega)
 refine AW.seqK fun K3 hK3=>AW.seqK fun K4 hK4=>?_
 have body:(pre.length<(dO a).length∨pre.length<(dO b).length∨0<c)→∀ (fr:Nat→AV) (κ:Nat),fr 0=nK .i64 a→fr 1=nK .i64 b→fr 5=.c (.lsl 0 0 pre.length 1)→fr 6=.c (.d (.int .i64 c))→fr 7=.c (.d (.int .i64 pre.length)) →
  K3 ⟨fr,upd (fun _=>.hole) 0 (.cells true false 2 (wK .i64 pre))⟩ κ:=by
  intro hgo fr κ z0 z1 z5 z6 z7
  apply hK3
  refine AW.seqK fun K5 hK5=>AW.block (AW.seqK fun K6 hK6=>?_)
  have g2:∀ (x:Nat) (fr:Nat→AV) (κ:Nat),x<1000000000→val 1000000000 ((dO a).take (pre.length+1))=val 1000000000 ((dO a).take pre.length)+1000000000 ^ pre.length*x→fr 0=nK .i64 a→fr 1=nK .i64 b→fr 5=.c (.lsl 0 0 pre.length 1)→fr 6=.c (.d (.int .i64 ((c+x:Nat):Int)))→fr 7=.c (.d (.int .i64 pre.length)) →
   K6 ⟨fr,upd (fun _=>.hole) 0 (.cells true false 2 (wK .i64 pre))⟩ κ:=by
   intro x fr κ hx hxv z0 z1 z5 z6 z7
   apply hK6
   refine AW.seqK fun K8 hK8=>?_
   have g3:∀ (y:Nat) (fr:Nat→AV) (κ:Nat),y<1000000000→val 1000000000 ((dO b).take (pre.length+1))=val 1000000000 ((dO b).take pre.length)+1000000000 ^ pre.length*y→fr 0=nK .i64 a→fr 1=nK .i64 b→fr 5=.c (.lsl 0 0 pre.length 1)→fr 6=.c (.d (.int .i64 ((c+x+y:Nat):Int)))→fr 7=.c (.d (.int .i64 pre.length)) →
    K8 ⟨fr,upd (fun _=>.hole) 0 (.cells true false 2 (wK .i64 pre))⟩ κ:=by
    intro y fr κ hy hyv z0 z1 z5 z6 z7
    apply hK8
    refine AW.at0 1 ?_
    have e1:(((c+x+y:Nat):Int)).tmod 1000000000=(((c+x+y) % 1000000000:Nat):Int):=tm_nat _ _
    have e2:(((c+x+y:Nat):Int)).tdiv 1000000000=(((c+x+y) / 1000000000:Nat):Int):=td_nat _ _
    have e3:=w64 (n:=(((c+x+y) / 1000000000:Nat):Int)) (by omega) (by omega)
    generalize hm:c+x+y=m at *
    have hlen:pre.length+1≤9223372036854775807∧(pre.length+1)*8≤140737488355328:=by omega
    refine AW.sr fun K9 hK9=>?_
    simp [z5,z6,hbs,srcA,keyOf,e1,wK_snoc,-stepBuildSlice,-Int.natCast_emod,-Int.natCast_ediv,-Int.natCast_add]
    repeat refine and_o ?_
    apply hK9
    refine AW.rP ?_
    simp [z6,e2,e3,-Int.natCast_emod,-Int.natCast_ediv]
    apply hK5
    refine AW.rP ?_
    simp [z7,w7]
    have hM2:pre.length≤M:=by
     rcases h4 with h4|⟨h4,h5,_⟩
     ·exact h4
     ·omega
    refine⟨pre++[m % 1000000000],m / 1000000000,Le.keys [(0,2,.cells true false 2 (wK .i64 (pre++[m % 1000000000])))] 19 _ rfl rfl (by simp) (by simp) (by simp) ?_ ?_,⟨ok_append.2 ⟨h1,ok_cons.2 ⟨by omega,ok_nil _⟩⟩,by omega,?_,?_⟩,by simp;omega⟩
    ·intro e he
     simp only [List.mem_cons,List.not_mem_nil,or_false] at he
     subst he
     simpa using like_w .i64 2 (pre++[m % 1000000000]) _
    ·simp [kmap,z0,z1]
    ·have:=snoc_carry 1000000000 pre m
     grind
    ·simp only [List.length_append,List.length_singleton]
     by_cases hlt:pre.length<M
     ·omega
     ·right
      have hx0:pre.length=M:=by omega
      have c1:c=1:=by omega
      have ea:val 1000000000 ((dO a).take pre.length)=val 1000000000 (dO a):=val_take_ge (by omega)
      have eb:val 1000000000 ((dO b).take pre.length)=val 1000000000 (dO b):=val_take_ge (by omega)
      have ea2:val 1000000000 ((dO a).take (pre.length+1))=val 1000000000 (dO a):=val_take_ge (by omega)
      have eb2:val 1000000000 ((dO b).take (pre.length+1))=val 1000000000 (dO b):=val_take_ge (by omega)
      have hp:0<1000000000 ^ pre.length:=Nat.pow_pos (by decide)
      rw [ea,ea2] at hxv
      rw [eb,eb2] at hyv
      have hx00:x=0:=by
       rcases Nat.eq_zero_or_pos x with h|h
       ·exact h
       ·have:=Nat.mul_pos hp h;omega
      grind
   refine AW.f2 z1 z7 ?_
   by_cases hlb:pre.length<(dO b).length
   ·have hy:(dO b)[pre.length]<1000000000:=hb.1 _ (List.getElem_mem hlb)
    have hyv:=val_take_succ (B:=1000000000) hlb
    have e5:IntKind.i64.wrap (((c+x:Nat):Int)+((dO b)[pre.length]:Nat))=((c+x+(dO b)[pre.length]:Nat):Int):=by rw [w64 (by omega) (by omega)];omega
    refine AW.fy (by simp [hlb] <;> omega) (AW.rP ?_)
    simp [z1,z6,z7,hlb,e5,-Int.natCast_add]
    exact g3 _ _ _ hy hyv (by simp [z0]) (by simp [z1]) (by simp [z5]) (by simp) (by simp [z7])
   ·refine AW.fn (by simp [hlb] <;> omega) (AW.skip ?_)
    simp
    exact g3 0 _ _ (by omega) (by rw [val_take_ge (by omega),val_take_ge (by omega)];rfl) (by simp [z0]) (by simp [z1]) (by simp [z5]) (by simp [z6]) (by simp [z7])
  refine AW.f2 z0 z7 ?_
  by_cases hla:pre.length<(dO a).length
  ·have hx:(dO a)[pre.length]<1000000000:=ha.1 _ (List.getElem_mem hla)
   have hxv:=val_take_succ (B:=1000000000) hla
   have e5:IntKind.i64.wrap ((c:Int)+((dO a)[pre.length]:Nat))=((c+(dO a)[pre.length]:Nat):Int):=by rw [w64 (by omega) (by omega)];omega
   refine AW.fy (by simp [hla] <;> omega) (AW.rP ?_)
   simp [z0,z6,z7,hla,e5,-Int.natCast_add]
   exact g2 _ _ _ hx hxv (by simp [z0]) (by simp [z1]) (by simp [z5]) (by simp) (by simp [z7])
  ·refine AW.fn (by simp [hla] <;> omega) (AW.skip ?_)
   simp
   exact g2 0 _ _ (by omega) (by rw [val_take_ge (by omega),val_take_ge (by omega)];rfl) (by simp [z0]) (by simp [z1]) (by simp [z5]) (by simp [z6]) (by simp [z7])
 by_cases c1:pre.length<(dO a).length
 ·refine AW.l1 c1 (hK4 _ _ ?_)
  refine AW.fy (by rfl) (AW.skip ?_)
  simp_all
 by_cases c2:pre.length<(dO b).length
 ·refine AW.l2 c1 c2 (hK4 _ _ ?_)
  refine AW.fy (by rfl) (AW.skip ?_)
  simp_all
 by_cases c3:0<c
 ·have c3':(0:Int)<(c:Int):=by omega
  refine AW.l4 c1 c2 c3 c3' (hK4 _ _ ?_)
  refine AW.cy (AW.skip ?_)
  simp_all
 obtain rfl:c=0:=by omega
 refine AW.l2 c1 c2 (hK4 _ _ ?_)
 refine AW.cn (AW.exit (hK _ _ (AW.q ?_)))
 rw [Nat.mul_zero,Nat.add_zero,val_take_ge (by omega),val_take_ge (by omega)] at h3
 have hc:can 1000000000 pre:=by
  refine top_can h1 ?_
  rcases h4 with h4|⟨h4,_,h5⟩
  ·by_cases hM0:M=0
   ·grind
   ·right
    have hpm:pre.length=M:=by omega
    rw [h3,hpm]
    by_cases hq:(dO a).length=M
    ·have:=can_ge ha (fun e=>hM0 (by grind))
     grind
    ·have hq2:(dO b).length=M:=by omega
     have:=can_ge hb (fun e=>hM0 (by grind))
     grind
  ·grind
 have hout:=dig_of (by decide:2≤1000000000) hc h3
 refine AW.ret (κ:=0) (FinD.tmp (κ:=0) (X:=.c (.lsl 0 0 pre.length 1)) (ks:=[0]) rfl (by simp) ?_)
 rw [← hout]
 exact dRes_wK (own:=true) (fz:=false) (T:=2) (l:=pre) (by simp) (by omega)
theorem r_difference_ok (G:List (List DV))(a b:Option (List Nat))(oka:ok 1000000000 (dO a))(okb:ok 1000000000 (dO b))(hal:(dO a).length≤1000000)(hbl:(dO b).length≤1000000)(hv:val 1000000000 (dO b)≤val 1000000000 (dO a)) :
 CallsP Tryz.prog G 139 [nK .i64 a,nK .i64 b] (nK .i64 (some (dig 1000000000 (val 1000000000 (dO a) - val 1000000000 (dO b))))):=by
 have hbs:∀ (lv:Key→LB) (h:lv 1=.hole) (a:CV),stepBuildSlice Tryz.prog 36 1 [0] lv 1 [.c a]=some (.c (.lsl 1 0 1 1),[(1,.cells true false 2 [a])],[],True):=fun lv h a=>bs213 lv 1 h a
 refine CallsP.en0 Go.Proofs.Tryz.func139 rfl fun _=>AW.q ?_
 refine AW.sr fun K hK=>?_
 simp
 repeat refine and_o ?_
 apply hK
 refine AW.q ?_
 refine AW.seqK fun K hK=>AW.q ?_
 refine AW.block ?_
 refine AW.loopV (fun (p:List Nat × Nat)=>⟨frOf [(0,nK .i64 a),(1,nK .i64 b),(5,.c (.lsl 0 0 p.1.length 1)),(6,.c (.d (.int .i64 p.2))),(7,.c (.d (.int .i64 p.1.length)))],
  upd (fun _=>.hole) 0 (.cells true false 2 (wK .i64 p.1))⟩) 1
  (fun p=>ok 1000000000 p.1∧p.1.length≤(dO a).length∧p.2≤1∧val 1000000000 p.1+val 1000000000 ((dO b).take p.1.length)=val 1000000000 ((dO a).take p.1.length)+1000000000 ^ p.1.length*p.2)
  (fun p=>(dO a).length - p.1.length) ([],0) (Le.mk' _ (by simp [wK]) (by simp) (by simp)) (by simp [ok_nil]) ?_
 rintro⟨pre,c⟩ ⟨h2,h1,h3,h4⟩
 simp only at h1 h2 h3 h4
 have w7:=w64 (n:=(pre.length:Int)+1) (by omega) (by omega)
 refine AW.seqK fun K3 hK3=>AW.q ?_
 by_cases hlt:pre.length<(dO a).length
 ·have hx:(dO a)[pre.length]<1000000000:=oka _ (List.getElem_mem hlt)
  have hxv:=val_take_succ (B:=1000000000) hlt
  obtain⟨x,hxe⟩:∃ x,(dO a)[pre.length]=x:=⟨_,rfl⟩
  rw [hxe] at hx hxv
  have w1:=w64 (n:=(x:Int) - c) (by omega) (by omega)
  refine AW.fy (by simp_all) (AW.skip (hK3 _ _ (AW.seqK fun K5 hK5=>AW.block (AW.f3 hlt hxe w1 ?_))))
  refine AW.seqK fun K6 hK6=>?_
  have g3:∀ (y:Nat) (fr:Nat→AV) (κ:Nat),y<1000000000→val 1000000000 ((dO b).take (pre.length+1))=val 1000000000 ((dO b).take pre.length)+1000000000 ^ pre.length*y→fr 0=nK .i64 a→fr 1=nK .i64 b→fr 5=.c (.lsl 0 0 pre.length 1)→fr 8=.c (.d (.int .i64 ((x:Int) - c - y)))→fr 7=.c (.d (.int .i64 pre.length)) →
   K6 ⟨fr,upd (fun _=>.hole) 0 (.cells true false 2 (wK .i64 pre))⟩ κ:=by
   intro y fr κ hy hyv z0 z1 z5 z8 z7
   apply hK6
   refine AW.at0 1 ?_
   refine AW.q ?_
   refine AW.seqK fun K7 hK7=>?_
   have g4:∀ (v bb:Nat) (fr:Nat→AV) (κ:Nat),v<1000000000→bb≤1→v+c+y=x+1000000000*bb→fr 0=nK .i64 a→fr 1=nK .i64 b→fr 5=.c (.lsl 0 0 pre.length 1)→fr 6=.c (.d (.int .i64 (bb:Int)))→fr 8=.c (.d (.int .i64 (v:Int)))→fr 7=.c (.d (.int .i64 pre.length)) →
    K7 ⟨fr,upd (fun _=>.hole) 0 (.cells true false 2 (wK .i64 pre))⟩ κ:=by
    intro v bb fr κ hv0 hb0 hs z0 z1 z5 z6 z8 z7
    apply hK7
    refine AW.at0 1 ?_
    refine AW.rP ?_
    simp [z5,z8,hbs,srcA,keyOf,wK_snoc,-stepBuildSlice]
    repeat refine and_o ?_
    apply hK5
    refine AW.rP ?_
    simp [z7,w7]
    refine⟨pre++[v],bb,Le.keys [(0,2,.cells true false 2 (wK .i64 (pre++[v])))] 19 _ rfl rfl (by simp) (by simp) (by simp) ?_ ?_,⟨ok_append.2 ⟨h2,ok_cons.2 ⟨hv0,ok_nil _⟩⟩,by simp;omega,hb0,?_⟩,by simp;omega⟩
    ·intro e he
     simp only [List.mem_cons,List.not_mem_nil,or_false] at he
     subst he
     simpa using like_w .i64 2 (pre++[v]) _
    ·simp [kmap,z0,z1,z6]
    ·rw [List.length_append,List.length_singleton,val_snoc,hxv,hyv,Nat.pow_succ]
     grind
   refine AW.f1 z8 ?_
   by_cases hn:(x:Int) - c - y<0
   ·have w2:IntKind.i64.wrap ((x:Int) - c - y+1000000000)=((x+1000000000 - c - y:Nat):Int):=by rw [w64 (by omega) (by omega)];omega
    refine AW.fy (by simp_all) (AW.f2 z8 w2 ?_)
    refine AW.rP ?_
    simp
    exact g4 (x+1000000000 - c - y) 1 _ _ (by omega) (by omega) (by omega) (by simp [z0]) (by simp [z1]) (by simp [z5]) (by simp) (by simp) (by simp [z7])
   ·have w2:(x:Int) - c - y=((x - c - y:Nat):Int):=by omega
    refine AW.fn (by simp_all) (AW.skip ?_)
    simp
    exact g4 (x - c - y) 0 _ _ (by omega) (by omega) (by omega) (by simp [z0]) (by simp [z1]) (by simp [z5]) (by simp) (by simp_all) (by simp [z7])
  refine AW.q ?_
  by_cases hlb:pre.length<(dO b).length
  ·have hy:(dO b)[pre.length]<1000000000:=okb _ (List.getElem_mem hlb)
   have hyv:=val_take_succ (B:=1000000000) hlb
   have w2:=w64 (n:=(x:Int) - c - ((dO b)[pre.length]:Nat)) (by omega) (by omega)
   refine AW.fy (by simp_all) (AW.rP ?_)
   simp [hlb,w2]
   exact g3 _ _ _ hy hyv (by simp) (by simp) (by simp) (by simp) (by simp)
  ·refine AW.fn (by simp_all) (AW.skip ?_)
   simp
   exact g3 0 _ _ (by omega) (by rw [val_take_ge (by omega),val_take_ge (by omega)];rfl) (by simp) (by simp) (by simp) (by simp) (by simp)
 ·refine AW.fn (by simp_all) (AW.exit ?_)
  simp
  have e2:pre.length=(dO a).length:=by omega
  apply hK
  refine AW.sr fun K hK=>?_
  simp
  have hlb:val 1000000000 ((dO b).take pre.length)=val 1000000000 (dO b):=by
   by_cases hb:(dO b).length≤pre.length
   ·exact val_take_ge hb
   ·have g1:=val_take_drop (B:=1000000000) (dO b) pre.length (by omega)
    have g2:=val_lt oka
    rw [← e2] at g2
    have g3:val 1000000000 ((dO b).drop pre.length)=0:=by
     apply Classical.byContradiction
     intro hne
     have:1000000000 ^ pre.length*1≤1000000000 ^ pre.length*val 1000000000 ((dO b).drop pre.length):=Nat.mul_le_mul_left _ (by omega)
     omega
    grind
  have hva:val 1000000000 ((dO a).take pre.length)=val 1000000000 (dO a):=val_take_ge (by omega)
  have hc:c=0:=by
   apply Classical.byContradiction
   intro hne
   have:c=1:=by omega
   subst this
   have:=val_lt h2
   rw [hlb,hva] at h4
   omega
  subst hc
  have hout:trimN pre=dig 1000000000 (val 1000000000 (dO a) - val 1000000000 (dO b)):=by
   refine trim_dig (by decide) h2 ?_
   rw [hlb,hva] at h4;omega
  refine CallP.frzN (k:=.i64) (l:=pre) 0 1 0 (by simp;rfl) (by omega) (r_trimS_ok _ _ (by omega)) (by simp) (by simp) (by simp) ?_
  simp
  apply hK
  exact AW.r0 (FinP.rt rfl 1 (by simp [hout]))
theorem r_product_ok (G:List (List DV))(a b:Option (List Nat))(oka:ok 1000000000 (dO a))(okb:ok 1000000000 (dO b))(ha:(dO a).length≤1000000)(hb:(dO b).length≤1000000) :
 CallsP Tryz.prog G 135 [nK .i64 a,nK .i64 b] (nK .i64 (some (dig 1000000000 (val 1000000000 (dO a)*val 1000000000 (dO b))))):=by
 refine CallsP.en Go.Proofs.Tryz.func135 rfl fun _=>AW.q ?_
 refine AW.seqK fun K hK=>?_
 have e0:IntKind.i64.wrap (((dO a).length:Int)+(dO b).length)=(((dO a).length+(dO b).length:Nat):Int):=by rw [w64 (by omega) (by omega)];omega
 refine AW.rP ?_
 simp [e0,-Int.natCast_add]
 repeat refine and_o ?_
 apply hK
 refine AW.seqK fun K hK=>AW.q ?_
 refine AW.block ?_
 refine AW.loopV (fun (p:Nat × List Nat)=>⟨frOf [(0,nK .i64 a),(1,nK .i64 b),(5,.c (.lsl 0 0 ((dO a).length+(dO b).length) 1)),(6,.c (.d (.int .i64 p.1)))],
  upd (fun _=>.hole) 0 (.cells true false 2 (wK .i64 (p.2++List.replicate ((dO a).length - p.1) 0)))⟩) 1
  (fun p=>p.1≤(dO a).length∧p.2.length=p.1+(dO b).length∧ok 1000000000 p.2∧val 1000000000 p.2=val 1000000000 ((dO a).take p.1)*val 1000000000 (dO b))
  (fun p=>(dO a).length - p.1) (0,List.replicate (dO b).length 0) (Le.mk' _ (by simp [wK_zeros,Nat.add_comm]) (by simp) (by simp)) ⟨by simp,by simp,ok_zeros (by omega) _,by simp [val_zeros]⟩ ?_
 rintro⟨i,lo⟩ ⟨h1,h2,h3,h4⟩
 simp only at h1 h2 h3 h4
 refine AW.seqK fun K3 hK3=>AW.q ?_
 by_cases hlt:i<(dO a).length
 ·refine AW.fy (by simp_all) (AW.skip (hK3 _ _ (AW.seqK fun K3 hK3=>AW.block ?_)))
  have hx:(dO a)[i]<1000000000:=oka _ (List.getElem_mem hlt)
  obtain⟨x,hxe⟩:∃ x,(dO a)[i]=x:=⟨_,rfl⟩
  rw [hxe] at hx
  refine AW.q ?_
  refine AW.seqK fun K4 hK4=>AW.q ?_
  refine AW.block ?_
  refine AW.loopV (fun (p:Nat × List Nat × Nat)=>⟨frOf [(0,nK .i64 a),(1,nK .i64 b),(5,.c (.lsl 0 0 ((dO a).length+(dO b).length) 1)),(6,.c (.d (.int .i64 i))),(7,.c (.d (.int .i64 p.2.2))),(8,.c (.d (.int .i64 p.1)))],
   upd (fun _=>.hole) 0 (.cells true false 2 (wK .i64 (p.2.1++List.replicate ((dO a).length - i) 0)))⟩) 2
   (fun p=>p.1≤(dO b).length∧p.2.1.length=i+(dO b).length∧ok 1000000000 p.2.1∧p.2.2<1000000000∧val 1000000000 p.2.1+1000000000 ^ (i+p.1)*p.2.2=val 1000000000 ((dO a).take i)*val 1000000000 (dO b)+1000000000 ^ i*(x*val 1000000000 ((dO b).take p.1)))
   (fun p=>(dO b).length - p.1) (0,lo,0) (Le.mk' _ (by simp) (by simp) (by simp)) ⟨by simp,h2,h3,by simp,by simp [h4]⟩ ?_
  rintro⟨j,lo2,c⟩ ⟨g1,g2,g3,g4,g5⟩
  simp only at g1 g2 g3 g4 g5
  refine AW.seqK fun K6 hK6=>AW.q ?_
  by_cases hlj:j<(dO b).length
  ·refine AW.fy (by simp_all) (AW.skip (hK6 _ _ (AW.seqK fun K8 hK8=>AW.block (AW.seqK fun K9 hK9=>?_))))
   have hy:(dO b)[j]<1000000000:=okb _ (List.getElem_mem hlj)
   have hij:i+j<lo2.length:=by omega
   have hij2:i+j<(lo2++List.replicate ((dO a).length - i) 0).length:=by simp;omega
   have hij3:i+j<lo2.length+((dO a).length - i):=by omega
   have ho:lo2[i+j]<1000000000:=g3 _ (List.getElem_mem hij)
   have ho2:(lo2++List.replicate ((dO a).length - i) 0)[i+j]=lo2[i+j]:=List.getElem_append_left hij
   have hb2:val 1000000000 ((dO b).take (j+1))=val 1000000000 ((dO b).take j)+1000000000 ^ j*(dO b)[j]:=val_take_succ hlj
   have hset:=val_set (B:=1000000000) hij
   generalize hye:(dO b)[j]=y at hy hb2
   generalize hoe:lo2[i+j]=o at ho ho2 hset
   have hxy:x*y≤999999999*999999999:=Nat.mul_le_mul (by omega) (by omega)
   have e1:IntKind.i64.wrap ((i:Int)+j)=((i+j:Nat):Int):=by rw [w64 (by omega) (by omega)];omega
   have e4:IntKind.i64.wrap ((x:Int)*y)=((x*y:Nat):Int):=by
    rw [← Int.natCast_mul];generalize x*y=p at hxy;exact w64 (by omega) (by omega)
   have e5:IntKind.i64.wrap ((c:Int)+o)=((c+o:Nat):Int):=by rw [w64 (by omega) (by omega)];omega
   have e6:IntKind.i64.wrap (((c+o:Nat):Int)+((x*y:Nat):Int))=((c+(x*y+o):Nat):Int):=by
    generalize x*y=p at hxy;rw [w64 (by omega) (by omega)];omega
   refine AW.drawQ mixed (by kernel_rfl) rfl rfl ?_
   simp [e1,e4,e5,e6,hij3,ho2,hxe,hye,hlt,hlj,-Int.natCast_add,-Int.natCast_mul]
   repeat refine and_o ?_
   apply hK9
   have hbd:c+(x*y+o)<1000000000000000000:=by generalize x*y=p at hxy;omega
   generalize hm:c+(x*y+o)=m at hbd
   have f1:((m:Nat):Int).tmod 1000000000=((m % 1000000000:Nat):Int):=tm_nat _ _
   have f2:setSeg (wK .i64 (lo2++List.replicate ((dO a).length - i) 0)) (i+j) [CV.d (.int .i64 ((m % 1000000000:Nat):Int))]=wK .i64 (lo2.set (i+j) (m % 1000000000)++List.replicate ((dO a).length - i) 0):=by
    rw [wK_set _ hij2,List.set_append_left _ _ hij]
   have f3:((m:Nat):Int).tdiv 1000000000=((m / 1000000000:Nat):Int):=td_nat _ _
   have f3':=w64 (n:=((m / 1000000000:Nat):Int)) (by omega) (by omega)
   have f4:(i+j:Int)<(dO a).length+(dO b).length:=by omega
   refine AW.sr fun K9 hK9=>?_
   simp [e1,f1,f2,-Int.natCast_add,-Int.natCast_emod]
   repeat refine and_o ?_
   apply hK9
   refine AW.rP ?_
   simp [f3,f3',-Int.natCast_ediv]
   apply hK8
   have f5:=w64 (n:=(j:Int)+1) (by omega) (by omega)
   refine AW.rP ?_
   simp [f5]
   refine⟨j+1,lo2.set (i+j) (m % 1000000000),m / 1000000000,Le.mk' _ (by simp) (by simp) (by simp),⟨by omega,by simp [g2],ok_set g3 _ (Nat.mod_lt _ (by omega)),?_,?_⟩,by omega⟩
   ·omega
   ·rw [hb2,← hm,← Nat.add_assoc i j 1]
    exact mul_step g5 (by grind)
  ·refine AW.fn (by simp_all) (AW.exit (hK4 _ _ ?_))
   have ej:j=(dO b).length:=by omega
   subst ej
   rw [val_take_ge (Nat.le_refl _)] at g5
   have e1:IntKind.i64.wrap ((i:Int)+(dO b).length)=((i+(dO b).length:Nat):Int):=by rw [w64 (by omega) (by omega)];omega
   have hz:(dO a).length - i=((dO a).length - i - 1)+1:=by omega
   have f2:setSeg (wK .i64 (lo2++List.replicate ((dO a).length - i) 0)) (i+(dO b).length) [CV.d (.int .i64 (c:Int))]=wK .i64 (lo2++[c]++List.replicate ((dO a).length - i - 1) 0):=by
    rw [wK_set _ (by simp;omega),hz,← g2,set_zeros];simp
   have f6:i+(dO b).length<lo2.length+((dO a).length - i):=by omega
   refine AW.rP ?_
   simp [e1,f2,-Int.natCast_add]
   repeat refine and_o ?_
   apply hK3
   have f5:=w64 (n:=(i:Int)+1) (by omega) (by omega)
   refine AW.rP ?_
   simp [f5]
   have f7:(dO a).length - (i+1)=(dO a).length - i - 1:=by omega
   refine⟨i+1,lo2++[c],Le.mk' _ (by simp [f7]) (by simp) (by simp),⟨by omega,by simp;omega,ok_append.2 ⟨g3,ok_cons.2 ⟨g4,ok_nil _⟩⟩,?_⟩,by omega⟩
   rw [val_snoc,g2,g5,val_take_succ hlt,hxe,Nat.add_mul,Nat.mul_assoc]
 ·refine AW.fn (by simp_all) (AW.exit (hK _ _ ?_))
  have e2:i=(dO a).length:=by omega
  subst e2
  refine AW.sr fun K hK=>?_
  simp
  rw [← h2]
  have hout:trimN lo=dig 1000000000 (val 1000000000 (dO a)*val 1000000000 (dO b)):=by
   refine trim_dig (by decide) h3 ?_
   rw [h4,val_take_ge (Nat.le_refl _)]
  refine CallP.frzN (k:=.i64) (l:=lo) 0 1 0 (by simp;rfl) (by omega) (r_trimS_ok _ _ (by omega)) (by simp) (by simp) (by simp) ?_
  simp
  apply hK
  exact AW.r0 (FinP.rt rfl 1 (by simp [hout]))
theorem r_half_ok (G:List (List DV))(a:Option (List Nat))(oka:ok 1000000000 (dO a))(ha:(dO a).length≤1000000) :
 CallsP Tryz.prog G 213 [nK .i64 a] (nK .i64 (some (dig 1000000000 (val 1000000000 (dO a) / 2)))):=by
 refine CallsP.en Go.Proofs.Tryz.func213 rfl fun _=>AW.q ?_
 refine AW.sr fun K hK=>?_
 simp
 repeat refine and_o ?_
 apply hK
 refine AW.q ?_
 have w0:=w64 (n:=((dO a).length:Int) - 1) (by omega) (by omega)
 refine AW.seqK fun K hK=>AW.f1 w0 ?_
 refine AW.block ?_
 refine AW.loopV (fun (p:Nat × List Nat × Nat)=>⟨frOf [(0,nK .i64 a),(3,.c (.lsl 0 0 (dO a).length 1)),(4,.c (.d (.int .i64 p.2.2))),(5,.c (.d (.int .i64 ((p.1:Int) - 1))))],
  upd (fun _=>.hole) 0 (.cells true false 2 (wK .i64 (List.replicate p.1 0++p.2.1)))⟩) 1
  (fun p=>p.1+p.2.1.length=(dO a).length∧ok 1000000000 p.2.1∧p.2.2≤1∧2*val 1000000000 p.2.1+p.2.2=val 1000000000 ((dO a).drop p.1))
  (fun p=>p.1) ((dO a).length,[],0) (Le.mk' _ (by simp [wK_zeros]) (by simp) (by simp)) ⟨by simp,ok_nil _,by simp,by simp⟩ ?_
 rintro⟨k,qs,c⟩ ⟨h1,h2,h3,h4⟩
 simp only at h1 h2 h3 h4
 refine AW.seqK fun K3 hK3=>AW.q ?_
 cases k with
 | zero=>
  refine AW.cn (AW.exit (hK _ _ (AW.seqK fun K hK=>?_)))
  have hl:qs.length=(dO a).length:=by omega
  refine AW.rP ?_
  simp
  rw [← hl]
  have hout:trimN qs=dig 1000000000 (val 1000000000 (dO a) / 2):=by
   refine trim_dig (by decide) h2 ?_
   rw [List.drop_zero] at h4;omega
  refine CallP.frzN (k:=.i64) (l:=qs) 0 1 0 (by simp;rfl) (by omega) (r_trimS_ok _ _ (by omega)) (by simp) (by simp) (by simp) ?_
  simp
  apply hK
  exact AW.r0 (FinP.rt rfl 1 (by simp [hout]))
 | succ k=>
  have hk:k<(dO a).length:=by omega
  have e2:((k+1:Nat):Int) - 1=k:=by omega
  simp only [e2]
  have hx:(dO a)[k]<1000000000:=oka _ (List.getElem_mem hk)
  have hxv:=val_drop (B:=1000000000) hk
  obtain⟨x,hxe⟩:∃ x,(dO a)[k]=x:=⟨_,rfl⟩
  rw [hxe] at hx hxv
  obtain⟨m,hm⟩:∃ m,1000000000*c+x=m:=⟨_,rfl⟩
  have w1:IntKind.i64.wrap ((c:Int)*1000000000)=(m:Int) - x:=by rw [w64 (by omega) (by omega)];omega
  have w2:IntKind.i64.wrap ((m:Int) - x+x)=(m:Int):=by rw [w64 (by omega) (by omega)];omega
  refine AW.cy (AW.skip (hK3 _ _ (AW.seqK fun K5 hK5=>AW.block (AW.sr fun K6 hK6=>?_))))
  simp [hk,hxe,w1,w2,-Int.sub_add_cancel,-Int.natCast_add,-Int.natCast_mul]
  apply hK6
  clear w1 w2
  have f3:((m:Nat):Int).tdiv 2=((m / 2:Nat):Int):=td_nat _ 2
  have f3':=w64 (n:=((m / 2:Nat):Int)) (by omega) (by omega)
  have f4:((m:Nat):Int).tmod 2=((m % 2:Nat):Int):=tm_nat _ 2
  have f5:setSeg (wK .i64 (List.replicate (k+1) 0++qs)) k [CV.d (.int .i64 ((m / 2:Nat):Int))]=wK .i64 (List.replicate k 0++((m / 2)::qs)):=by
   rw [wK_set _ (by simp;omega),zeros_set]
  have hk2:(k:Int)<((dO a).length:Int):=by omega
  have hk3:k<k+1+qs.length:=by omega
  refine AW.sr fun K6 hK6=>?_
  simp [f3,f3',f5,hk2,-Int.natCast_ediv]
  apply hK6
  refine AW.rP ?_
  simp [f4,-Int.natCast_emod]
  apply hK5
  have w3:=w64 (n:=(k:Int) - 1) (by omega) (by omega)
  refine AW.rP ?_
  simp [w3]
  refine⟨k,(m / 2)::qs,m % 2,Le.mk' _ (by simp) (by simp) (by simp),⟨by simp;omega,ok_cons.2 ⟨by omega,h2⟩,by omega,?_⟩,by omega⟩
  rw [hxv,val_cons]
  omega
theorem dK_flat (k:IntKind)(l:List Nat):(dK k l).flatten.map CV.d=wK k l:=by
 have:(dK k l).flatten=l.map fun (x:Nat)=>DV.int k (x:Int):=by
  unfold dK;induction l with
  | nil=>rfl
  | cons a l ih=>grind
 rw [this,List.map_map];rfl
theorem srcA_r {lv:Key→LB}{k:IntKind}(o:Option (List Nat)):srcA lv 1 (nK k o)=some ((dO o).length,wK k (dO o)):=by
 cases o with
 | none=>rfl
 | some l=>
  have h1:(dK k l).all (fun e=>e.length == 1)=true:=by rw [List.all_eq_true];intro e he;obtain⟨x,_,rfl⟩:=List.mem_map.1 he;rfl
  show srcA lv 1 (.c (.d (.sl (dK k l))))=_
  simp only [srcA,h1,if_true,dK_flat]
  simp [dK]
theorem nK_none (k:IntKind):nK k none=.c (.d .nilsl):=rfl
theorem wK_cons (k:IntKind)(x:Nat)(l:List Nat):CV.d (.int k (x:Int))::wK k l=wK k (x::l):=rfl
theorem CallDo.frzN2 {c:Ctx}{f:FuncId}{lv:Key→LB}{K:AV→List (Key × LB)→List Key→Nat→Prop}(κ' kh κb:Key) {T:TypeId}{k:IntKind}{l:List Nat}{x0 x:AV}(hk:lv κb=.cells true false T (wK k l)) (hl:l.length≤1000)
 (hc:CallsP c.P c.G f [x0,nK k (some l)] x) (hx0:x0.pure=true) (hx:x.pure=true) (hh:lv kh=.hole) (hK:K x [(κb,.cells true true T (wK k l))] [kh,κb] κ'):CallDo c f [x0,.c (.lsl κb 0 l.length 1)] lv K:=by
 have e:updL lv (frzW [(κb,T,wK k l)]) κb=.cells true true T (wK k l):=by simp [frzW,updL,upd]
 refine CallDo.frzL (us:=[x0,nK k (some l)]) κ' kh [(κb,T,wK k l)] [kh,κb] hc hx (by grind) (by simp) hh rfl (fun i p' q'=>?_) (fun a ha j hj=>?_) (by simp) hK
 ·have hi:i=0∨i=1:=by simp at p';omega
  rcases hi with rfl|rfl
  ·grind
  ·exact .inr ⟨[κb],dArg_wK e (by omega),by simp⟩
 ·simp only [List.mem_cons,List.not_mem_nil,or_false] at ha
  rcases ha with rfl|rfl
  ·rw [rdA_pure hx0] at hj;cases hj
  ·left
   simp only [rdA,rdK,e,List.mem_cons] at hj
   rcases hj with rfl|hj
   ·simp
   ·simp only [List.mem_flatMap] at hj
    obtain⟨y,hy,hj⟩:=hj
    simp only [wK,List.mem_map] at hy
    obtain⟨z,_,rfl⟩:=hy
    cases hj
theorem rtup2_pure (o o':Option (List Nat)):(AV.tup [nK .i64 o,nK .i64 o']).pure=true:=by
 cases o <;> cases o' <;> rfl
theorem topX {B:Nat}{l:List Nat}{n:Nat}(hB:0<B) (h:ok B l) (h1:1≤n) (h2:n≤l.length) (h3:l.length≤n+1):val B l / B ^ (n - 1)=l.getD (n - 1) 0+B*l.getD n 0:=by
 have e1:=val_take_drop (B:=B) l (n - 1) (by omega)
 have e2:=val_drop (B:=B) (l:=l) (i:=n - 1) (by omega)
 rw [show n - 1+1=n by omega] at e2
 have e3:val B (l.drop n)=l.getD n 0:=by
  by_cases h4:n<l.length
  ·rw [val_drop h4,val_drop_ge (by omega),Nat.mul_zero,Nat.add_zero,List.getD_eq_getElem?_getD,List.getElem?_eq_getElem h4];rfl
  ·rw [val_drop_ge (by omega),List.getD_eq_getElem?_getD,List.getElem?_eq_none (by omega)];rfl
 have e4:l.getD (n - 1) 0=l[n - 1]'(by omega):=by rw [List.getD_eq_getElem?_getD,List.getElem?_eq_getElem (by omega)];rfl
 have e5:=val_lt (ok_take h (n - 1))
 rw [List.length_take,Nat.min_eq_left (by omega)] at e5
 rw [e1,e2,e3,e4]
 generalize l[n - 1]+B*l.getD n 0=q
 exact Nat.div_eq_of_lt_le (by grind) (by grind)
theorem dv_lo {V vb X t P:Nat}(h1:X*P≤V) (h2:vb<(t+1)*P) (hb:0<vb):X / (t+1)≤V / vb:=by
 rw [Nat.le_div_iff_mul_le hb]
 calc X / (t+1)*vb≤X / (t+1)*((t+1)*P):=Nat.mul_le_mul_left _ (Nat.le_of_lt h2)
  _=(X / (t+1)*(t+1))*P:=by grind
  _≤X*P:=Nat.mul_le_mul_right _ (Nat.div_mul_le_self _ _)
  _≤V:=h1
theorem dv_hi {V vb X t P:Nat}(h1:V<(X+1)*P) (h2:t*P≤vb) (ht:0<t):V / vb≤(X+1) / t:=by
 have hP:0<P:=by
  rcases Nat.eq_zero_or_pos P with h|h
  ·subst h;omega
  ·exact h
 have hb:0<vb:=Nat.lt_of_lt_of_le (Nat.mul_pos ht hP) h2
 rw [Nat.le_div_iff_mul_le ht]
 have h3:V / vb*(t*P)≤V:=Nat.le_trans (Nat.mul_le_mul_left _ h2) (Nat.div_mul_le_self _ _)
 rw [← Nat.mul_assoc] at h3
 have h4:=Nat.lt_of_mul_lt_mul_right (Nat.lt_of_le_of_lt h3 h1)
 omega
theorem dv_step {B vb k R x qs V:Nat}(hV:x+B*R=V) (h:vb*qs+R=k):vb*(V / vb+B*qs)+V % vb=x+B*k:=by
 have h1:=Nat.div_add_mod V vb
 grind
def rRem (a b:Option (List Nat)):Option (List Nat):=if dO a=[] then none else some (dig 1000000000 (val 1000000000 (dO a) % val 1000000000 (dO b)))
theorem dig0:dig 1000000000 0=[]:=(dig_nil (by decide)).2 rfl
theorem r_divided_ok (G:List (List DV))(a b:Option (List Nat))(oka:ok 1000000000 (dO a))(hb:can 1000000000 (dO b))(hb0:dO b≠[])(hal:(dO a).length≤100000)(hbl:(dO b).length≤100000) :
 CallsP Tryz.prog G 156 [nK .i64 a,nK .i64 b] (.tup [nK .i64 (some (dig 1000000000 (val 1000000000 (dO a) / val 1000000000 (dO b)))),nK .i64 (rRem a b)]):=by
 have hbs:∀ (lv:Key→LB) (h:lv 1=.hole) (a:CV),stepBuildSlice Tryz.prog 36 1 [0] lv 1 [.c a]=some (.c (.lsl 1 0 1 1),[(1,.cells true false 2 [a])],[],True):=fun lv h a=>bs213 lv 1 h a
 obtain⟨n,hn⟩:∃ n,(dO b).length=n:=⟨_,rfl⟩
 obtain⟨vb,hvb⟩:∃ vb,val 1000000000 (dO b)=vb:=⟨_,rfl⟩
 have hn1:1≤n:=by rw [← hn];exact List.length_pos_iff.2 hb0
 have hvp:0<vb:=by rw [← hvb];exact can_pos hb hb0
 have hdb:dO b=dig 1000000000 vb:=dig_of (by decide) hb hvb
 have hvl:vb<1000000000 ^ n:=by rw [← hvb,← hn];exact val_lt hb.1
 obtain⟨t,ht⟩:∃ t,(dO b)[n - 1]?=some t:=⟨_,List.getElem?_eq_getElem (by omega)⟩
 have ht1:(dO b)[n - 1]'(by omega)=t:=(List.getElem?_eq_some_iff.1 ht).2
 have htB:t<1000000000:=by rw [← ht1];exact hb.1 _ (List.getElem_mem _)
 have ht0:0<t:=by
  have:=hb.2 t (by grind)
  omega
 have htop:=topX (B:=1000000000) (by decide) hb.1 hn1 (by omega) (by omega)
 rw [hvb,List.getD_eq_getElem?_getD,ht,List.getD_eq_getElem?_getD,List.getElem?_eq_none (by omega)] at htop
 simp only [Option.getD_some,Option.getD_none,Nat.mul_zero,Nat.add_zero] at htop
 have hPp:0<1000000000 ^ (n - 1):=Nat.pow_pos (by decide)
 have hb1:t*1000000000 ^ (n - 1)≤vb:=by rw [← htop];exact Nat.div_mul_le_self _ _
 have hb2:vb<(t+1)*1000000000 ^ (n - 1):=by rw [← htop];exact Nat.lt_mul_of_div_lt (Nat.lt_succ_self _) hPp
 have cmpG:∀ V,CallsP Tryz.prog G 138 [(nK .i64 (some (dig 1000000000 (V)))),nK .i64 b] (.c (.d (.int .i64 (cmpN V vb)))):=fun V=>by
  have hcmp:=r_compare_ok G (a:=some (dig 1000000000 V)) (b:=b) (dig_can (by decide) V) hb
  simp only [dO_some,dig_val (by decide:2≤1000000000),hvb] at hcmp
  omega
 have cmG:∀ W V,CallsP Tryz.prog G 138 [(nK .i64 (some (dig 1000000000 (W)))),(nK .i64 (some (dig 1000000000 (V))))] (.c (.d (.int .i64 (cmpN W V)))):=fun W V=>by
  have hcm:=r_compare_ok G (a:=some (dig 1000000000 W)) (b:=some (dig 1000000000 V)) (dig_can (by decide) _) (dig_can (by decide) _)
  simp only [dO_some,dig_val (by decide:2≤1000000000)] at hcm
  exact hcm
 have prG:∀ mi,mi<1000000000→CallsP Tryz.prog G 135 [nK .i64 b,nK .i64 (some [mi])] (nK .i64 (some (dig 1000000000 (vb*mi)))):=fun mi hmi=>by
  have hpr:=r_product_ok G b (some [mi]) hb.1 (ok_cons.2 ⟨hmi,ok_nil _⟩) (by omega) (by simp)
  simp_all
 have dfG:∀ V W,(dig 1000000000 V).length≤1000000→W≤V→CallsP Tryz.prog G 139 [(nK .i64 (some (dig 1000000000 (V)))),(nK .i64 (some (dig 1000000000 (W))))] (nK .i64 (some (dig 1000000000 (V - W)))):=fun V W hl hle=>by
  have hdl:(dig 1000000000 W).length≤(dig 1000000000 V).length:=dig_len_mono (by decide) hle
  have hdf:=r_difference_ok G (some (dig 1000000000 V)) (some (dig 1000000000 W)) (dig_can (by decide) _).1 (dig_can (by decide) _).1 (by simp;omega) (by simp;omega) (by simp only [dO_some,dig_val (by decide:2≤1000000000)];exact hle)
  simp only [dO_some,dig_val (by decide:2≤1000000000)] at hdf
  exact hdf
 refine CallsP.en0 Go.Proofs.Tryz.func156 rfl fun _=>AW.q ?_
 refine AW.sr fun K hK=>?_
 simp
 repeat refine and_o ?_
 apply hK
 refine AW.f1 hn ?_
 refine AW.q ?_
 have w0:=w64 (n:=((dO a).length:Int) - 1) (by omega) (by omega)
 refine AW.seqK fun K hK=>AW.f1 w0 ?_
 refine AW.block ?_
 refine AW.loopV (fun (p:Nat × List Nat × Nat)=>⟨frOf [(0,nK .i64 a),(1,nK .i64 b),(6,.c (.lsl 0 0 (dO a).length 1)),(7,.c (.d (.int .i64 n))),(8,nK .i64 (if p.1=(dO a).length then none else some (dig 1000000000 p.2.2))),(9,.c (.d (.int .i64 ((p.1:Int) - 1))))],
  upd (fun _=>.hole) 0 (.cells true false 2 (wK .i64 (List.replicate p.1 0++p.2.1)))⟩) 1
  (fun p=>p.1+p.2.1.length=(dO a).length∧ok 1000000000 p.2.1∧p.2.2<vb∧(p.1=(dO a).length→p.2.2=0)∧vb*val 1000000000 p.2.1+p.2.2=val 1000000000 ((dO a).drop p.1))
  (fun p=>p.1) ((dO a).length,[],0) (Le.mk' _ (by simp [wK_zeros]) (by simp) (by simp [nK_none])) ⟨by simp,ok_nil _,hvp,fun _=>rfl,by simp⟩ ?_
 rintro⟨k,qs,R⟩ ⟨h1,h2,h3,h5,h4⟩
 simp only at h1 h2 h3 h4 h5
 obtain⟨ro,hro⟩:∃ ro,(if k=(dO a).length then none else some (dig 1000000000 R))=ro:=⟨_,rfl⟩
 have hdr:dO ro=dig 1000000000 R:=by
  rw [← hro];split
  ·rename_i h;rw [h5 h,dig0];rfl
  ·rfl
 simp only [hro]
 refine AW.seqK fun K3 hK3=>AW.q ?_
 cases k with
 | zero=>
  refine AW.cn (AW.exit (hK _ _ (AW.seqK fun K hK=>?_)))
  have hl:qs.length=(dO a).length:=by omega
  rw [List.drop_zero] at h4
  have hq:val 1000000000 qs=val 1000000000 (dO a) / vb:=by
   rw [← h4,Nat.mul_add_div hvp,Nat.div_eq_of_lt h3,Nat.add_zero]
  have hr:R=val 1000000000 (dO a) % vb:=by
   rw [← h4,Nat.mul_add_mod,Nat.mod_eq_of_lt h3]
  have hout:trimN qs=dig 1000000000 (val 1000000000 (dO a) / vb):=trim_dig (by decide) h2 hq
  have hrem:rRem a b=ro:=by
   unfold rRem
   rw [← hro,hvb,← hr]
   by_cases h:dO a=[]
   ·grind
   ·rw [if_neg h,if_neg (fun e=>h (List.eq_nil_of_length_eq_zero e.symm))]
  refine AW.rP ?_
  simp
  rw [← hl]
  refine CallP.frzN (T:=2) (k:=.i64) (l:=qs) 1 9 0 (by simp) (by omega) (r_trimS_ok _ _ (by omega)) (by simp) (by simp) (by simp) ?_
  simp
  apply hK
  exact AW.ret (κ:=0) (FinP.tmp2 (κ:=0) (t:=4) (u:=5) rfl 9 (by simp_all) (by simp [hrem]) (by simp) (by simp) (by simp) (by simp) (by simp) (by decide))
 | succ k=>
  have hk:k<(dO a).length:=by omega
  have e2:((k+1:Nat):Int) - 1=k:=by omega
  simp only [e2]
  have hx:(dO a)[k]<1000000000:=oka _ (List.getElem_mem hk)
  have hxv:=val_drop (B:=1000000000) hk
  obtain⟨x,hxe⟩:∃ x,(dO a)[k]=x:=⟨_,rfl⟩
  rw [hxe] at hx hxv
  obtain⟨V,hV⟩:∃ V,x+1000000000*R=V:=⟨_,rfl⟩
  have hRV:V<1000000000*vb:=by
   have:1000000000*(R+1)≤1000000000*vb:=Nat.mul_le_mul_left _ h3
   omega
  have hRl:(dig 1000000000 R).length≤n:=by rw [← hn,hdb];exact dig_len_mono (by decide) (Nat.le_of_lt h3)
  have htr:trimN (x::dig 1000000000 R)=dig 1000000000 V:=trim_dig (by decide) (ok_cons.2 ⟨hx,(dig_can (by decide) R).1⟩) (by rw [val_cons,dig_val (by decide),hV])
  have hsr:∀ lv:Key→LB,srcA lv 1 (nK .i64 ro)=some ((dig 1000000000 R).length,wK .i64 (dig 1000000000 R)):=fun lv=>by rw [srcA_r,hdr]
  have hcmp:=cmpG V
  have w9:=w64 (n:=(k:Int) - 1) (by omega) (by omega)
  have hkn:¬ k=(dO a).length:=by omega
  have hnext:vb*val 1000000000 ((V / vb)::qs)+V % vb=val 1000000000 ((dO a).drop k):=by rw [hxv,val_cons];exact dv_step hV h4
  have hqB:V / vb<1000000000:=by rw [Nat.div_lt_iff_lt_mul hvp];exact hRV
  refine AW.cy (AW.skip (hK3 _ _ (AW.seqK fun K5 hK5=>AW.block (AW.sr fun K6 hK6=>?_))))
  simp [hk,hxe,hbs,hsr,keyOf,wK_cons,-stepBuildSlice]
  repeat refine and_o ?_
  have hc1:(x::dig 1000000000 R).length=1+(dig 1000000000 R).length:=by simp;omega
  rw [← hc1]
  refine CallP.frzN (k:=.i64) (T:=2) (l:=x::dig 1000000000 R) 3 9 2 (by simp) (by simp;omega) (r_trimS_ok _ _ (by simp;omega)) (by simp) (by simp) (by simp) ?_
  simp [htr]
  apply hK6
  refine AW.seqK fun K6 hK6=>AW.seqK fun K7 hK7=>?_
  by_cases hlt:V<vb
  ·have hc:=cmpN_lt hlt
   have hq0:V / vb=0:=Nat.div_eq_of_lt hlt
   rw [hq0,Nat.mod_eq_of_lt hlt] at hnext
   refine AW.m1 3 hcmp hc (hK7 _ _ ?_)
   refine AW.cy (AW.exit (hK5 _ _ (AW.rP ?_)))
   simp [w9]
   refine⟨k,0::qs,V,Le.keys [(0,0,.cells true false 2 (wK .i64 (List.replicate k 0++0::qs)))] 19 _ rfl rfl (by simp) (by simp) (by simp) ?_ ?_,⟨by simp;omega,ok_cons.2 ⟨by omega,h2⟩,hlt,fun h=>absurd h hkn,hnext⟩,by omega⟩
   ·intro e he
    simp only [List.mem_cons,List.not_mem_nil,or_false] at he
    subst he
    have e:List.replicate k 0++0::qs=List.replicate (k+1) 0++qs:=by rw [List.replicate_succ',List.append_assoc];rfl
    rw [e]
    simpa using like_w .i64 2 (List.replicate (k+1) 0++qs) _
   ·simp [kmap,hkn]
  ·have hge:vb≤V:=by omega
   have hlen1:n≤(dig 1000000000 V).length:=by rw [← hn,hdb];exact dig_len_mono (by decide) hge
   have hlen2:(dig 1000000000 V).length≤n+1:=by
    refine dig_len_le (by decide) ?_
    rw [Nat.pow_succ,Nat.mul_comm]
    exact Nat.lt_of_lt_of_le hRV (Nat.mul_le_mul_left _ (Nat.le_of_lt hvl))
   have hX:=topX (B:=1000000000) (by decide) (dig_can (by decide) V).1 hn1 hlen1 hlen2
   rw [dig_val (by decide)] at hX
   obtain⟨X,hXe⟩:∃ X,V / 1000000000 ^ (n - 1)=X:=⟨_,rfl⟩
   rw [hXe] at hX
   have hX1:X*1000000000 ^ (n - 1)≤V:=by rw [← hXe];exact Nat.div_mul_le_self _ _
   have hX2:V<(X+1)*1000000000 ^ (n - 1):=by rw [← hXe];exact Nat.lt_mul_of_div_lt (Nat.lt_succ_self _) hPp
   have hlo:=dv_lo hX1 hb2 hvp
   have hhi:=dv_hi hX2 hb1 ht0
   obtain⟨Q,hQ⟩:∃ Q,V / vb=Q:=⟨_,rfl⟩
   rw [hQ] at hlo hhi hnext hqB
   have hcne:¬ cmpN V vb<0:=by
    by_cases e:V=vb
    ·rw [cmpN_eq e];omega
    ·rw [cmpN_gt (by omega)];omega
   have hokV:=(dig_can (B:=1000000000) (by decide) V).1
   obtain⟨r1,hr1⟩:∃ r1,(dig 1000000000 V)[n - 1]'(by omega)=r1:=⟨_,rfl⟩
   have hr1B:r1<1000000000:=by rw [← hr1];exact hokV _ (List.getElem_mem _)
   have hr1g:(dig 1000000000 V).getD (n - 1) 0=r1:=by rw [List.getD_eq_getElem?_getD,List.getElem?_eq_getElem (by omega),hr1];rfl
   rw [hr1g] at hX
   have wn:IntKind.i64.wrap ((n:Int) - 1)=((n - 1:Nat):Int):=by rw [w64 (by omega) (by omega)];omega
   have hix1:∀ lv,stepIndexAddr Tryz.prog 36 lv (nK .i64 (some (dig 1000000000 V))) (.c (.d (.int .i64 ((n - 1:Nat):Int))))=some (.c (.d (.ptr [DV.int .i64 (r1:Int)])),[],[],True):=fun lv=>by
    have:=ix_nK' (P:=Tryz.prog) (T:=36) (lv:=lv) (k:=.i64) (k':=.i64) (o:=some (dig 1000000000 V)) (i:=n - 1) (by simp) (by simp;omega)
    rw [this];simp only [dO_some,hr1]
   have hixb:∀ lv,stepIndexAddr Tryz.prog 36 lv (nK .i64 b) (.c (.d (.int .i64 ((n - 1:Nat):Int))))=some (.c (.d (.ptr [DV.int .i64 (t:Int)])),[],[],True):=fun lv=>by
    have:=ix_nK' (P:=Tryz.prog) (T:=36) (lv:=lv) (k:=.i64) (k':=.i64) (o:=b) (i:=n - 1) (by simp) (by omega)
    grind
   refine AW.m1 3 hcmp hcne (hK7 _ _ ?_)
   refine AW.fn (by rfl) (AW.skip (hK6 _ _ (AW.sr fun K6 hK6=>?_)))
   simp [wn,hix1,-ix_nK']
   apply hK6
   refine AW.seqK fun K6 hK6=>?_
   have g1:∀ (fr:Nat→AV) (κ:Nat),fr 0=nK .i64 a→fr 1=nK .i64 b→fr 6=.c (.lsl 0 0 (dO a).length 1)→fr 7=.c (.d (.int .i64 n))→fr 8=nK .i64 (some (dig 1000000000 V))→fr 9=.c (.d (.int .i64 (k:Int)))→fr 10=.c (.d (.int .i64 (X:Int)))→∀ lv:Key→LB,lv 0=.cells true false 2 (wK .i64 (List.replicate (k+1) 0++qs))→lv 19=.hole →
    K6 ⟨fr,lv⟩ κ:=by
    intro fr κ z0 z1 z6 z7 z8 z9 z10 lv l0 l19
    have hX3:X≤1000000000000000000:=by
     have:V / 1000000000 ^ (n - 1)<1000000000*1000000000:=by
      rw [Nat.div_lt_iff_lt_mul hPp]
      have e:1000000000*1000000000*1000000000 ^ (n - 1)=1000000000*1000000000 ^ n:=by
       obtain⟨n',rfl⟩:∃ n',n=n'+1:=⟨n - 1,by omega⟩
       rw [Nat.add_sub_cancel,Nat.pow_succ,Nat.mul_comm (1000000000 ^ n') 1000000000,Nat.mul_assoc]
      rw [e]
      exact Nat.lt_of_lt_of_le hRV (Nat.mul_le_mul_left _ (Nat.le_of_lt hvl))
     omega
    apply hK6
    refine AW.seqK fun K7 hK7=>?_
    have f1:=w64 (n:=(t:Int)+1) (by omega) (by omega)
    have f2:=w64 (n:=(X:Int)+1) (by omega) (by omega)
    have f3:(X:Int).tdiv ((t:Int)+1)=((X / (t+1):Nat):Int):=by
     have:=td_nat X (t+1);rwa [Int.natCast_add,Int.natCast_one] at this
    have f4:((X:Int)+1).tdiv (t:Int)=(((X+1) / t:Nat):Int):=by
     have:=td_nat (X+1) t;rwa [Int.natCast_add,Int.natCast_one] at this
    have hle1:X / (t+1)≤X:=Nat.div_le_self _ _
    have hle2:(X+1) / t≤X+1:=Nat.div_le_self _ _
    obtain⟨D1,hD1⟩:∃ D,X / (t+1)=D:=⟨_,rfl⟩
    obtain⟨D2,hD2⟩:∃ D,(X+1) / t=D:=⟨_,rfl⟩
    rw [hD1] at hlo f3 hle1
    rw [hD2] at hhi f4 hle2
    have f5:=w64 (n:=(D1:Int)) (by omega) (by omega)
    have f6:=w64 (n:=(D2:Int)) (by omega) (by omega)
    have t1:¬ (t:Int)+1=0:=by omega
    have t2:¬ (t:Int)=0:=by omega
    have t3:¬ t=0:=by omega
    have hmin:(if (999999999:Int)<(D2:Int) then (999999999:Int) else (D2:Int))=((min D2 999999999:Nat):Int):=by split <;> omega
    have hmin':(if 999999999<D2 then (999999999:Int) else (D2:Int))=((min D2 999999999:Nat):Int):=by split <;> omega
    have hhi2:Q≤min D2 999999999:=by omega
    have hhB:min D2 999999999≤999999999:=by omega
    obtain⟨H,hH⟩:∃ H,min D2 999999999=H:=⟨_,rfl⟩
    rw [hH] at hmin hmin' hhi2 hhB
    refine AW.drawQ mixed (by kernel_rfl) rfl rfl ?_
    simp [intsOf,z1,z7,z10,wn,hixb,f1,f2,f3,f4,f5,f6,t1,t3,hmin,-ix_nK']
    apply hK7
    refine AW.seqK fun K7 hK7=>AW.block ?_
    refine AW.loopV (fun (p:Nat × Nat)=>⟨frOf [(0,nK .i64 a),(1,nK .i64 b),(6,.c (.lsl 0 0 (dO a).length 1)),(7,.c (.d (.int .i64 n))),(8,nK .i64 (some (dig 1000000000 V))),(9,.c (.d (.int .i64 (k:Int)))),(11,.c (.d (.int .i64 (p.1:Int)))),(12,.c (.d (.int .i64 (p.2:Int))))],
     upd (fun _=>.hole) 0 (.cells true false 2 (wK .i64 (List.replicate (k+1) 0++qs)))⟩) 1
     (fun p=>p.1≤Q∧Q≤p.2∧p.2≤999999999) (fun p=>p.2 - p.1) (D1,H) (Le.keys [(0,0,.cells true false 2 (wK .i64 (List.replicate (k+1) 0++qs)))] 19 _ rfl rfl (by simp) (by simp) (by simp [l19]) ?_ ?_) ⟨hlo,hhi2,hhB⟩ ?_
    ·intro e he
     simp only [List.mem_cons,List.not_mem_nil,or_false] at he
     subst he
     simpa [l0] using like_w .i64 2 (List.replicate (k+1) 0++qs) _
    ·simp [kmap,z0,z1,z6,z7,z8,z9]
    rintro⟨lo,hi⟩ ⟨q1,q2,q3⟩
    simp only at q1 q2 q3
    refine AW.seqK fun K8 hK8=>AW.q ?_
    by_cases hlh:lo<hi
    ·have u1:IntKind.i64.wrap ((lo:Int)+hi)=((lo+hi:Nat):Int):=by rw [w64 (by omega) (by omega)];omega
     have u2:IntKind.i64.wrap (((lo+hi:Nat):Int)+1)=((lo+hi+1:Nat):Int):=by rw [w64 (by omega) (by omega)];omega
     have u3:(((lo+hi+1:Nat):Int)).tdiv 2=(((lo+hi+1) / 2:Nat):Int):=td_nat _ 2
     obtain⟨mi,hmi⟩:∃ mi,(lo+hi+1) / 2=mi:=⟨_,rfl⟩
     rw [hmi] at u3
     have u4:=w64 (n:=(mi:Int)) (by omega) (by omega)
     have u5:=w64 (n:=(mi:Int) - 1) (by omega) (by omega)
     have hpr:=prG mi (by omega)
     have hcm:=cmG (vb*mi) V
     refine AW.fy (by simp [hlh] <;> omega) (AW.skip (hK8 _ _ (AW.block (AW.sr fun K9 hK9=>?_))))
     simp [u1,u2,u3,u4,-Int.natCast_add]
     apply hK9
     refine AW.seqK fun K9 hK9=>?_
     by_cases hle:vb*mi≤V
     ·have hc:cmpN (vb*mi) V≤0:=by
       by_cases e:vb*mi=V
       ·rw [cmpN_eq e];omega
       ·rw [cmpN_lt (by omega)];omega
      have hmQ:mi≤Q:=by rw [← hQ,Nat.le_div_iff_mul_le hvp,Nat.mul_comm];exact hle
      refine AW.rP ?_
      simp [hbs,-stepBuildSlice]
      refine CallDo.frzN2 (T:=2) (l:=[mi]) 2 9 1 (by simp [wK]) (by simp) hpr (by simp) (by simp) (by simp) ?_
      simp
      refine CallDo.p 2 9 hcm ?_
      simp [hc]
      apply hK9
      refine AW.cy (AW.rP ?_)
      simp
      refine⟨mi,hi,Le.keys [(0,0,.cells true false 2 (wK .i64 (List.replicate (k+1) 0++qs)))] 19 _ rfl rfl (by simp) (by simp) (by simp) ?_ (by simp [kmap]),⟨hmQ,q2,q3⟩,by omega⟩
      intro e he
      simp only [List.mem_cons,List.not_mem_nil,or_false] at he
      subst he
      simpa using like_w .i64 2 (List.replicate (k+1) 0++qs) _
     ·have hc:¬ cmpN (vb*mi) V≤0:=by rw [cmpN_gt (by omega)];omega
      have hmQ:Q≤mi - 1:=by
       have:¬ mi≤Q:=by rw [← hQ,Nat.le_div_iff_mul_le hvp,Nat.mul_comm];exact hle
       omega
      have u6:(mi:Int) - 1=((mi - 1:Nat):Int):=by omega
      refine AW.rP ?_
      simp [hbs,-stepBuildSlice]
      refine CallDo.frzN2 (T:=2) (l:=[mi]) 2 9 1 (by simp [wK]) (by simp) hpr (by simp) (by simp) (by simp) ?_
      simp
      refine CallDo.p 2 9 hcm ?_
      simp [hc]
      apply hK9
      refine AW.cn (AW.rP ?_)
      simp [u5]
      refine⟨lo,mi - 1,Le.keys [(0,0,.cells true false 2 (wK .i64 (List.replicate (k+1) 0++qs)))] 19 _ rfl rfl (by simp) (by simp) (by simp) ?_ (by simp [kmap,u6]),⟨q1,hmQ,by omega⟩,by omega⟩
      intro e he
      simp only [List.mem_cons,List.not_mem_nil,or_false] at he
      subst he
      simpa using like_w .i64 2 (List.replicate (k+1) 0++qs) _
    ·refine AW.fn (by simp [hlh] <;> omega) (AW.exit (hK7 _ _ ?_))
     obtain rfl:lo=Q:=by omega
     have f5:setSeg (wK .i64 (List.replicate (k+1) 0++qs)) k [CV.d (.int .i64 (lo:Int))]=wK .i64 (List.replicate k 0++(lo::qs)):=by
      rw [wK_set _ (by simp;omega),zeros_set]
     have hk2:(k:Int)<((dO a).length:Int):=by omega
     have hk3:k<k+1+qs.length:=by omega
     refine AW.sr fun K8 hK8=>?_
     simp [f5,hk2]
     apply hK8
     refine AW.at0 1 ?_
     have hpr:=prG lo (by omega)
     have hle:vb*lo≤V:=by rw [← hQ];exact Nat.mul_div_le _ _
     have hdf:=dfG V (vb*lo) (by omega) hle
     have hmod:V - vb*lo=V % vb:=by
      have:=Nat.div_add_mod V vb
      rw [hQ] at this;omega
     rw [hmod] at hdf
     refine AW.rP ?_
     simp [hbs,-stepBuildSlice]
     refine CallDo.frzN2 (T:=2) (l:=[lo]) 2 9 1 (by simp [wK]) (by simp) hpr (by simp) (by simp) (by simp) ?_
     simp
     refine CallDo.p 2 9 hdf ?_
     simp
     apply hK5
     refine AW.rP ?_
     simp [w9]
     refine⟨k,lo::qs,V % vb,Le.keys [(0,0,.cells true false 2 (wK .i64 (List.replicate k 0++lo::qs)))] 19 _ rfl rfl (by simp) (by simp) (by simp) ?_ ?_,⟨by simp;omega,ok_cons.2 ⟨by omega,h2⟩,Nat.mod_lt _ hvp,fun h=>absurd h hkn,hnext⟩,by omega⟩
     ·intro e he
      simp only [List.mem_cons,List.not_mem_nil,or_false] at he
      subst he
      simpa using like_w .i64 2 (List.replicate k 0++lo::qs) _
     ·simp [kmap,hkn]
   refine AW.q ?_
   by_cases hln:n<(dig 1000000000 V).length
   ·obtain⟨r2,hr2⟩:∃ r2,(dig 1000000000 V)[n]=r2:=⟨_,rfl⟩
    have hr2B:r2<1000000000:=by rw [← hr2];exact hokV _ (List.getElem_mem _)
    have hr2g:(dig 1000000000 V).getD n 0=r2:=by rw [List.getD_eq_getElem?_getD,List.getElem?_eq_getElem hln,hr2];rfl
    rw [hr2g] at hX
    have hix2:∀ lv,stepIndexAddr Tryz.prog 36 lv (nK .i64 (some (dig 1000000000 V))) (.c (.d (.int .i64 ((n:Nat):Int))))=some (.c (.d (.ptr [DV.int .i64 (r2:Int)])),[],[],True):=fun lv=>by
     have:=ix_nK' (P:=Tryz.prog) (T:=36) (lv:=lv) (k:=.i64) (k':=.i64) (o:=some (dig 1000000000 V)) (i:=n) (by simp) (by simpa using hln)
     rw [this];simp only [dO_some,hr2]
    have v1:IntKind.i64.wrap (1000000000*(r2:Int))=((1000000000*r2:Nat):Int):=by rw [w64 (by omega) (by omega)];omega
    have v2:IntKind.i64.wrap ((r1:Int)+((1000000000*r2:Nat):Int))=(X:Int):=by rw [w64 (by omega) (by omega)];omega
    refine AW.fy (by simp [hln] <;> omega) (AW.rP ?_)
    simp [hix2,v1,v2,-ix_nK',-Int.natCast_mul]
    exact g1 _ _ (by simp) (by simp) (by simp) (by simp) (by simp) (by simp) (by simp) _ (by simp) (by simp)
   ·have hX0:X=r1:=by
     rw [List.getD_eq_getElem?_getD,List.getElem?_eq_none (by omega)] at hX
     simpa using hX
    refine AW.fn (by simp [hln] <;> omega) (AW.skip ?_)
    simp
    exact g1 _ _ (by simp) (by simp) (by simp) (by simp) (by simp) (by simp) (by simp [hX0]) _ (by simp) (by simp)
theorem gcd_half {A B:Nat}(ha:A % 2=0) (hb:B % 2=1):Nat.gcd (A / 2) B=Nat.gcd A B:=by
 have h:Nat.Coprime 2 B:=by
  have:Nat.gcd 2 B=Nat.gcd (B % 2) 2:=Nat.gcd_rec 2 B
  unfold Nat.Coprime
  rw [this,hb];rfl
 have e:A=2*(A / 2):=by omega
 conv=>rhs;rw [e]
 exact (Nat.Coprime.gcd_mul_left_cancel _ h).symm
theorem gcd_halves {A B:Nat}(ha:A % 2=0) (hb:B % 2=0):2*Nat.gcd (A / 2) (B / 2)=Nat.gcd A B:=by
 rw [← Nat.gcd_mul_left]
 grind
theorem gcd_less {A B:Nat}(h:B≤A):Nat.gcd (A - B) B=Nat.gcd A B:=by
 simp_all
theorem tw_bound {tw vb n:Nat}(h:2 ^ tw≤vb) (hl:(dig 1000000000 vb).length≤n):tw<30*n:=by
 have h1:=dig_lt (B:=1000000000) (by decide) (n:=vb)
 have h2:1000000000 ^ (dig 1000000000 vb).length≤1000000000 ^ n:=Nat.pow_le_pow_right (by decide) hl
 have h3:1000000000 ^ n≤(2 ^ 30) ^ n:=Nat.pow_le_pow_left (by decide) n
 rw [← Nat.pow_mul] at h3
 exact (Nat.pow_lt_pow_iff_right (by decide:1<2)).1 (Nat.lt_of_le_of_lt h (Nat.lt_of_lt_of_le h1 (Nat.le_trans h2 h3)))
theorem dlen0 {n:Nat}:(dig 1000000000 n).length=0↔n=0:=by
 rw [List.length_eq_zero_iff];exact dig_nil (by decide)
theorem r_odd_dig (G:List (List DV))(A:Nat):CallsP Tryz.prog G 212 [(nK .i64 (some (dig 1000000000 (A))))] (.c (.d (.bool (decide (A % 2=1))))):=by
 have h:=r_odd_ok G (some (dig 1000000000 A))
 rwa [dO_some,dig_val (by decide)] at h
theorem r_half_dig (G:List (List DV))(A:Nat)(h:(dig 1000000000 A).length≤100000):CallsP Tryz.prog G 213 [(nK .i64 (some (dig 1000000000 (A))))] (nK .i64 (some (dig 1000000000 (A / 2)))):=by
 have h:=r_half_ok G (some (dig 1000000000 A)) (dig_can (by decide) A).1 (by rw [dO_some];omega)
 rwa [dO_some,dig_val (by decide)] at h
theorem r_sum_dig (G:List (List DV))(A B:Nat)(h:(dig 1000000000 A).length≤1000000)(h':(dig 1000000000 B).length≤1000000):CallsP Tryz.prog G 137 [(nK .i64 (some (dig 1000000000 (A)))),(nK .i64 (some (dig 1000000000 (B))))] (nK .i64 (some (dig 1000000000 (A+B)))):=by
 have h:=r_sum_ok G (some (dig 1000000000 A)) (some (dig 1000000000 B)) (dig_can (by decide) A) (dig_can (by decide) B) h h'
 rwa [dO_some,dO_some,dig_val (by decide),dig_val (by decide)] at h
theorem r_diff_dig (G:List (List DV))(A B:Nat)(h:(dig 1000000000 A).length≤1000000)(hle:B≤A):CallsP Tryz.prog G 139 [(nK .i64 (some (dig 1000000000 (A)))),(nK .i64 (some (dig 1000000000 (B))))] (nK .i64 (some (dig 1000000000 (A - B)))):=by
 have hl:=dig_len_mono (B:=1000000000) (by decide) hle
 have h:=r_difference_ok G (some (dig 1000000000 A)) (some (dig 1000000000 B)) (dig_can (by decide) A).1 (dig_can (by decide) B).1 h (by rw [dO_some];omega) (by rw [dO_some,dO_some,dig_val (by decide),dig_val (by decide)];exact hle)
 rwa [dO_some,dO_some,dig_val (by decide),dig_val (by decide)] at h
theorem r_cmp_dig (G:List (List DV))(A B:Nat):CallsP Tryz.prog G 138 [(nK .i64 (some (dig 1000000000 (A)))),(nK .i64 (some (dig 1000000000 (B))))] (.c (.d (.int .i64 (cmpN A B)))):=by
 have h:=r_compare_ok G (a:=some (dig 1000000000 A)) (b:=some (dig 1000000000 B)) (dig_can (by decide) A) (dig_can (by decide) B)
 rwa [dO_some,dO_some,dig_val (by decide),dig_val (by decide)] at h
theorem r_divisor_ok (G:List (List DV))(va vb:Nat)(ha0:0<va)(hb0:0<vb)(hal:(dig 1000000000 va).length≤100000)(hbl:(dig 1000000000 vb).length≤100000) :
 CallsP Tryz.prog G 155 [(nK .i64 (some (dig 1000000000 (va)))),(nK .i64 (some (dig 1000000000 (vb))))] (nK .i64 (some (dig 1000000000 (Nat.gcd va vb)))):=by
 have hdv:=r_divided_ok G (some (dig 1000000000 va)) (some (dig 1000000000 vb)) (dig_can (by decide) va).1 (dig_can (by decide) vb) (by rw [dO_some];intro h;have:=(dig_nil (by decide)).1 h;omega) hal hbl
 have hrm:rRem (some (dig 1000000000 va)) (some (dig 1000000000 vb))=some (dig 1000000000 (va % vb)):=by
  unfold rRem
  rw [dO_some,dO_some,if_neg (by intro h;have:=(dig_nil (by decide)).1 h;omega),dig_val (by decide),dig_val (by decide)]
 rw [hrm] at hdv
 have dle:∀ n,n≤vb→(dig 1000000000 n).length≤100000:=fun n h=>Nat.le_trans (dig_len_mono (by decide) h) hbl
 have tw_le:∀ tw,2 ^ tw≤vb→tw<3000000:=fun tw h=>Nat.lt_of_lt_of_le (tw_bound h hbl) (by decide)
 have hg0:Nat.gcd va vb=Nat.gcd (va % vb) vb:=by rw [Nat.gcd_comm,Nat.gcd_rec]
 have oddG:∀ A,CallsP Tryz.prog G 212 [(nK .i64 (some (dig 1000000000 (A))))] (.c (.d (.bool (decide (A % 2=1))))):=fun A=>r_odd_dig G A
 have halfG:∀ A,A≤vb→CallsP Tryz.prog G 213 [(nK .i64 (some (dig 1000000000 (A))))] (nK .i64 (some (dig 1000000000 (A / 2)))):=fun A h=>r_half_dig G A (dle A h)
 have sumG:∀ A,A≤vb→CallsP Tryz.prog G 137 [(nK .i64 (some (dig 1000000000 (A)))),(nK .i64 (some (dig 1000000000 (A))))] (nK .i64 (some (dig 1000000000 (A+A)))):=fun A h=>r_sum_dig G A A (by grind) (by grind)
 have diffG:∀ A B,A≤vb→B≤A→CallsP Tryz.prog G 139 [(nK .i64 (some (dig 1000000000 (A)))),(nK .i64 (some (dig 1000000000 (B))))] (nK .i64 (some (dig 1000000000 (A - B)))):=fun A B h h'=>r_diff_dig G A B (by grind) h'
 have cmpG:∀ A B,CallsP Tryz.prog G 138 [(nK .i64 (some (dig 1000000000 (A)))),(nK .i64 (some (dig 1000000000 (B))))] (.c (.d (.int .i64 (cmpN A B)))):=fun A B=>r_cmp_dig G A B
 refine CallsP.en Go.Proofs.Tryz.func155 rfl fun _=>AW.q ?_
 refine AW.sr fun K hK=>?_
 simp
 refine CallDo.pure 0 9 hdv (rtup2_pure _ _) (by simp) rfl ?_
 simp
 apply hK
 refine AW.seqK fun K hK=>AW.q ?_
 by_cases hm:va % vb=0
 ·have h1:dig 1000000000 (va % vb)=[]:=(dig_nil (by decide)).2 hm
  have hgv:Nat.gcd va vb=vb:=by rw [hg0,hm,Nat.gcd_zero_left]
  rw [hgv]
  refine AW.fy (by simp_all) (AW.q ?_)
  exact AW.r0 (FinP.rt (t:=4) rfl 9 (by simp))
 have h1:¬ dig 1000000000 (va % vb)=[]:=fun h=>hm ((dig_nil (by decide)).1 h)
 have hmlt:va % vb<vb:=Nat.mod_lt _ hb0
 refine AW.fn (by simp_all) (AW.skip (hK _ _ (AW.q ?_)))
 refine AW.seqK fun K hK=>AW.block ?_
 refine AW.loopV (fun (p:Nat × Nat × Nat)=>⟨frOf [(0,(nK .i64 (some (dig 1000000000 (p.1))))),(1,(nK .i64 (some (dig 1000000000 (p.2.1))))),(5,.c (.d (.int .i64 (p.2.2:Int))))],fun _=>.hole⟩) 0
  (fun p=>0<p.1∧0<p.2.1∧p.1≤vb∧p.2.1≤vb∧2 ^ p.2.2*Nat.gcd p.1 p.2.1=Nat.gcd va vb∧2 ^ p.2.2*p.2.1≤vb) (fun p=>p.1) (va % vb,vb,0) (Le.mk' _ rfl noMap_hole (by simp)) ⟨by omega,hb0,by omega,Nat.le_refl _,by simp [hg0],by simp⟩ ?_
 rintro⟨A,B,tw⟩ ⟨hA,hB,hA2,hB2,hg,ht⟩
 simp only at hA hB hA2 hB2 hg ht
 have htw:tw<3000000:=tw_le tw (Nat.le_trans (Nat.le_mul_of_pos_right _ hB) ht)
 have wt:=w64 (n:=(tw:Int)+1) (by omega) (by omega)
 have oA:=oddG A
 have oB:=oddG B
 have hAl:=dle (A) (by omega)
 have hBl:=dle (B) (by omega)
 have st2:(A % 2=1∨B % 2=1)→∀ (fr:Nat→AV) (κ:Nat),fr 0=(nK .i64 (some (dig 1000000000 (A))))→fr 1=(nK .i64 (some (dig 1000000000 (B))))→fr 5=.c (.d (.int .i64 (tw:Int)))→K ⟨fr,fun _=>.hole⟩ κ:=by
  intro hodd fr κ z0 z1 z5
  apply hK
  refine AW.seqK fun K hK=>AW.block ?_
  refine AW.loopV (fun (p:Nat × Nat)=>⟨frOf [(0,(nK .i64 (some (dig 1000000000 (p.1))))),(1,(nK .i64 (some (dig 1000000000 (p.2))))),(5,.c (.d (.int .i64 (tw:Int))))],fun _=>.hole⟩) 0
   (fun p=>0<p.2∧p.1≤vb∧p.2≤vb∧(p.1 % 2=1∨p.2 % 2=1)∧2 ^ tw*Nat.gcd p.1 p.2=Nat.gcd va vb) (fun p=>p.1+p.2) (A,B) (Le.mk' _ rfl noMap_hole (by simp_all)) ⟨hB,hA2,hB2,hodd,hg⟩ ?_
  rintro⟨C,D⟩ ⟨i1,i2,i3,i4,i5⟩
  simp only at i1 i2 i3 i4 i5
  have fin:∀ (Z:Nat) (fr:Nat→AV) (κ:Nat),Z≤vb→2 ^ tw*Z=Nat.gcd va vb→fr 1=(nK .i64 (some (dig 1000000000 (Z))))→fr 5=.c (.d (.int .i64 (tw:Int)))→K ⟨fr,fun _=>.hole⟩ κ:=by
   intro Z fr κ hZ0 hZ z1 z5
   apply hK
   refine AW.seqK fun K hK=>AW.q ?_
   refine AW.block ?_
   refine AW.loopV (fun (i:Nat)=>⟨frOf [(1,(nK .i64 (some (dig 1000000000 (Z*2 ^ i))))),(5,.c (.d (.int .i64 (tw:Int)))),(6,.c (.d (.int .i64 (i:Int))))],fun _=>.hole⟩) 0 (fun i=>i≤tw) (fun i=>tw - i) 0 (Le.mk' _ rfl noMap_hole (by simp_all)) (Nat.zero_le _) ?_
   intro i hi
   try simp only at hi
   refine AW.seqK fun K2 hK2=>AW.q ?_
   by_cases hlt:i<tw
   ·have wi:=w64 (n:=(i:Int)+1) (by omega) (by omega)
    have hgv:Nat.gcd va vb≤vb:=Nat.gcd_le_right _ hb0
    have hle:Z*2 ^ i≤vb:=by
     rw [Nat.mul_comm]
     exact Nat.le_trans (Nat.mul_le_mul_right Z (Nat.pow_le_pow_right (by decide) (Nat.le_of_lt hlt))) (by omega)
    have hll:=dle (Z*2 ^ i) (by omega)
    have hs:=sumG (Z*2 ^ i) hle
    have he:Z*2 ^ i+Z*2 ^ i=Z*2 ^ (i+1):=by rw [Nat.pow_succ,← Nat.mul_assoc];omega
    rw [he] at hs
    refine AW.fy (by simp_all) (AW.skip (hK2 _ _ (AW.seqK fun K5 hK5=>AW.block (AW.m0 0 hs (hK5 _ _ ?_)))))
    refine AW.rP ?_
    simp [wi]
    exact⟨i+1,Le.mk' _ rfl noMap_hole (by simp),by omega,by omega⟩
   ·obtain rfl:i=tw:=by omega
    refine AW.fn (by simp) (AW.exit (hK _ _ (AW.q ?_)))
    rw [← hZ,Nat.mul_comm]
    exact AW.r0 (FinP.rt (t:=4) rfl 9 (by simp))
  have hCl:=dle (C) (by omega)
  refine AW.seqK fun K2 hK2=>AW.q ?_
  by_cases hC0:C=0
  ·have h2:¬ 0<(dig 1000000000 C).length:=by rw [Nat.pos_iff_ne_zero];exact fun h=>h (dlen0.2 hC0)
   subst hC0
   rw [Nat.gcd_zero_left] at i5
   refine AW.fn (by rfl) (AW.exit ?_)
   simp
   exact fin D _ _ i3 i5 (by simp) (by simp)
  have h2:0<(dig 1000000000 C).length:=Nat.pos_of_ne_zero fun h=>hC0 (dlen0.1 h)
  refine AW.fy (by simp_all) (AW.skip (hK2 _ _ (AW.block (AW.seqK fun K5 hK5=>AW.block ?_))))
  refine AW.loopV (fun (C':Nat)=>⟨frOf [(0,(nK .i64 (some (dig 1000000000 (C'))))),(1,(nK .i64 (some (dig 1000000000 (D))))),(5,.c (.d (.int .i64 (tw:Int))))],fun _=>.hole⟩) 0
   (fun C'=>0<C'∧C'≤C∧(C' % 2=1∨D % 2=1)∧Nat.gcd C' D=Nat.gcd C D) (fun C'=>C') C (Le.mk' _ rfl noMap_hole (by simp)) ⟨by omega,Nat.le_refl _,i4,rfl⟩ ?_
  rintro C' ⟨j1,j2,j3,j4⟩
  have oC:=oddG C'
  have hhC:=halfG C' (by omega)
  refine AW.seqK fun K6 hK6=>AW.sr fun K7 hK7=>?_
  simp
  by_cases c1:C' % 2=1
  rotate_left
  ·have hd1:D % 2=1:=by omega
   refine CallDo.p 0 9 oC ?_
   simp [c1]
   apply hK7
   refine AW.cy (AW.skip (hK6 _ _ (AW.block (AW.rP ?_))))
   simp
   refine CallDo.p 0 9 hhC ?_
   simp
   exact⟨C' / 2,Le.mk' _ rfl noMap_hole (by simp),⟨by omega,by omega,.inr hd1,by rw [gcd_half (by omega) hd1,j4]⟩,by omega⟩
  refine CallDo.p 0 9 oC ?_
  simp [c1]
  apply hK7
  refine AW.cn (AW.exit (hK5 _ _ (AW.seqK fun K8 hK8=>AW.block ?_)))
  refine AW.loopV (fun (D':Nat)=>⟨frOf [(0,(nK .i64 (some (dig 1000000000 (C'))))),(1,(nK .i64 (some (dig 1000000000 (D'))))),(5,.c (.d (.int .i64 (tw:Int))))],fun _=>.hole⟩) 0
   (fun D'=>0<D'∧D'≤D∧Nat.gcd C' D'=Nat.gcd C D) (fun D'=>D') D (Le.mk' _ rfl noMap_hole (by simp)) ⟨i1,Nat.le_refl _,j4⟩ ?_
  rintro D' ⟨l1,l2,l3⟩
  have oD:=oddG D'
  have hhD:=halfG D' (by omega)
  refine AW.seqK fun K9 hK9=>AW.sr fun K10 hK10=>?_
  simp
  by_cases d1:D' % 2=1
  rotate_left
  ·refine CallDo.p 0 9 oD ?_
   simp [d1]
   apply hK10
   refine AW.cy (AW.skip (hK9 _ _ (AW.block (AW.rP ?_))))
   simp
   refine CallDo.p 0 9 hhD ?_
   simp
   exact⟨D' / 2,Le.mk' _ rfl noMap_hole (by simp),⟨by omega,by omega,by rw [Nat.gcd_comm,gcd_half (by omega) c1,Nat.gcd_comm,l3]⟩,by omega⟩
  have hDl:=dle (D') (by omega)
  refine CallDo.p 0 9 oD ?_
  simp [d1]
  apply hK10
  refine AW.cn (AW.exit (hK8 _ _ ?_))
  rw [← l3] at i5
  refine AW.seqK fun K11 hK11=>AW.seqK fun K12 hK12=>?_
  by_cases hD1:D'=1
  ·subst hD1
   have e1:dig 1000000000 1=[1]:=(dig_of (by decide:2≤1000000000) (l:=[1]) ⟨by intro d hd;simp at hd;omega,by simp⟩ (by simp)).symm
   have e2:=ix_nK' (P:=Tryz.prog) (T:=36) (lv:=fun _=>.hole) (k:=.i64) (k':=.i64) (o:=some [1]) (i:=0) (by simp) (by simp)
   simp only [Int.natCast_zero,dO_some,List.getElem_cons_zero] at e2
   rw [e1]
   rw [Nat.gcd_one_right,Nat.mul_one] at i5
   refine AW.rP ?_
   simp [e2,-ix_nK']
   apply hK12
   refine AW.cy (AW.exit ?_)
   simp
   exact fin 1 _ _ (by omega) (by omega) (by simp [e1]) (by simp)
  have one:∀ lv:Key→LB,(dig 1000000000 D').length=1→stepIndexAddr Tryz.prog 36 lv (nK .i64 (some (dig 1000000000 D'))) (.c (.d (.int .i64 0)))=some (.c (.d (.ptr [DV.int .i64 (D':Int)])),[],[],True):=fun lv h=>by
   have h0:0<(dO (some (dig 1000000000 D'))).length:=by rw [dO_some];omega
   have h2:=ix_nK' (P:=Tryz.prog) (T:=36) (lv:=lv) (k:=.i64) (k':=.i64) (o:=some (dig 1000000000 D')) (i:=0) (by simp) h0
   have hx:(dig 1000000000 D')[0]'(by omega)=D':=by
    obtain⟨x,hx⟩:∃ x,dig 1000000000 D'=[x]:=by match hd:dig 1000000000 D',h with|[x],_=>exact⟨x,rfl⟩
    have hv:=dig_val (B:=1000000000) (by decide) D'
    rw [hx] at hv
    simp at hv
    simp [hx,hv]
   simp only [Int.natCast_zero,dO_some,hx] at h2
   exact h2
  have hD1':¬ (D':Int)=1:=by omega
  have rest:∀ (fr:Nat→AV) (κ:Nat),fr 0=(nK .i64 (some (dig 1000000000 (C'))))→fr 1=(nK .i64 (some (dig 1000000000 (D'))))→fr 5=.c (.d (.int .i64 (tw:Int)))→K11 ⟨fr,fun _=>.hole⟩ κ:=by
   intro fr κ z0 z1 z5
   apply hK11
   refine AW.seqK fun K13 hK13=>?_
   have fin2:∀ (X Y:Nat) (fr:Nat→AV) (κ:Nat),Y≤X→X≤vb→0<Y→Y % 2=1→X % 2=1→X+Y=C'+D'→Nat.gcd X Y=Nat.gcd C' D'→fr 0=(nK .i64 (some (dig 1000000000 (X))))→fr 1=(nK .i64 (some (dig 1000000000 (Y))))→fr 5=.c (.d (.int .i64 (tw:Int)))→K13 ⟨fr,fun _=>.hole⟩ κ:=by
    intro X Y fr κ hXY hXv hY hY1 hX1 hs hgg z0 z1 z5
    have hdf:=diffG X Y hXv hXY
    apply hK13
    refine AW.rP ?_
    simp [z0,z1]
    refine CallDo.p 0 9 hdf ?_
    simp
    refine⟨X - Y,Y,Le.mk' _ rfl noMap_hole (by simp [z1,z5]),⟨hY,by omega,by omega,.inr hY1,by rw [gcd_less hXY,hgg];exact i5⟩,by omega⟩
   have hcm:=cmpG C' D'
   refine AW.seqK fun K14 hK14=>?_
   by_cases hlt:C'<D'
   ·have hc:cmpN C' D'<0:=by rw [cmpN_lt hlt];omega
    refine AW.rP ?_
    simp [z0,z1]
    refine CallDo.p 0 9 hcm ?_
    simp [hc]
    apply hK14
    refine AW.cy (AW.rP ?_)
    simp [z0,z1]
    exact fin2 D' C' _ _ (by omega) (by omega) j1 c1 d1 (by omega) (Nat.gcd_comm _ _) (by simp) (by simp) (by simp [z5])
   ·have hc:¬ cmpN C' D'<0:=by
     by_cases e:C'=D'
     ·rw [cmpN_eq e];omega
     ·rw [cmpN_gt (by omega)];omega
    refine AW.rP ?_
    simp [z0,z1]
    refine CallDo.p 0 9 hcm ?_
    simp [hc]
    apply hK14
    refine AW.cn (AW.skip ?_)
    simp
    exact fin2 C' D' _ _ (by omega) (by omega) l1 d1 c1 rfl rfl (by simp [z0]) (by simp [z1]) (by simp [z5])
  by_cases hl1:(dig 1000000000 D').length=1
  ·have o1:=fun lv=>one lv hl1
   refine AW.rP ?_
   simp [hl1,o1,hD1',-ix_nK']
   apply hK12
   refine AW.cn (AW.skip ?_)
   simp
   exact rest _ _ (by simp) (by simp) (by simp)
  ·have hl1':¬ ((dig 1000000000 D').length:Int)=1:=by omega
   refine AW.l2 hl1 hl1' (hK12 _ _ ?_)
   refine AW.cn (AW.skip ?_)
   simp
   exact rest _ _ (by simp) (by simp) (by simp)
 refine AW.seqK fun K2 hK2=>AW.sr fun K3 hK3=>?_
 simp
 by_cases a1:A % 2=1
 ·refine CallDo.p 0 9 oA ?_
  simp [a1]
  apply hK3
  refine AW.cn (AW.exit ?_)
  simp_all
 by_cases b1:B % 2=1
 ·refine CallDo.p 0 9 oA ?_
  simp [a1]
  refine CallDo.p 0 9 oB ?_
  simp [b1]
  apply hK3
  refine AW.cn (AW.exit ?_)
  simp_all
 have hhA:=halfG A (by omega)
 have hhB:=halfG B (by omega)
 refine CallDo.p 0 9 oA ?_
 simp [a1]
 refine CallDo.p 0 9 oB ?_
 simp [b1]
 apply hK3
 refine AW.cy (AW.skip (hK2 _ _ (AW.block (AW.sr fun K5 hK5=>?_))))
 simp
 refine CallDo.p 0 9 hhA ?_
 simp
 refine CallDo.p 0 9 hhB ?_
 simp
 apply hK5
 refine AW.rP ?_
 simp [wt]
 refine⟨A / 2,B / 2,tw+1,Le.mk' _ rfl noMap_hole (by simp),⟨by omega,by omega,by omega,by omega,?_,?_⟩,by omega⟩
 ·rw [Nat.pow_succ,Nat.mul_assoc,gcd_halves (by omega) (by omega)];exact hg
 ·have e:2 ^ (tw+1)*(B / 2)=2 ^ tw*(2*(B / 2)):=by rw [Nat.pow_succ,Nat.mul_assoc]
  rw [e,show 2*(B / 2)=B by omega];exact ht
def blen (n:Nat):Nat:=if n=0 then 0 else Nat.log2 n+1
theorem blen_of {n k:Nat}(h1:2 ^ k≤n) (h2:n<2 ^ (k+1)):blen n=k+1:=by
 have h0:n≠0:=by have:=Nat.pow_pos (a:=2) (n:=k) (by decide);omega
 have:=(Nat.log2_eq_iff h0).2 ⟨h1,h2⟩
 simp [blen,h0,this]
theorem blen_lt (n:Nat):n<2 ^ blen n:=by
 unfold blen;split
 ·simp [*]
 ·exact Nat.lt_log2_self
theorem blen_le {n:Nat}(h:n≠0):2 ^ (blen n - 1)≤n:=by
 simp only [blen,h,if_false,Nat.add_sub_cancel];exact Nat.log2_self_le h
theorem blen_shift {n k:Nat}(h:2 ^ k≤n):blen n=blen (n / 2 ^ k)+k:=by
 have hk:=Nat.pow_pos (a:=2) (n:=k) (by decide)
 have h0:n / 2 ^ k≠0:=by have:=Nat.div_pos h hk;omega
 have h1:=blen_le h0
 have h2:=blen_lt (n / 2 ^ k)
 have h3:0<blen (n / 2 ^ k):=by simp [blen,h0]
 have h4:2 ^ (blen (n / 2 ^ k) - 1)*2 ^ k≤n:=Nat.le_trans (Nat.mul_le_mul_right _ h1) (Nat.div_mul_le_self n _)
 have h5:n<2 ^ blen (n / 2 ^ k)*2 ^ k:=by rw [← Nat.div_lt_iff_lt_mul hk];exact h2
 rw [← Nat.pow_add] at h4 h5
 have h6:=blen_of h4 (by grind)
 omega
theorem len8 (f:List UInt8)(hf:(List.range 256).all (fun i=>(f[i]?.getD 0).toNat == blen i)=true)(x:Nat)(hx:x<256):(f[x]?.getD 0).toNat=blen x:=by
 grind
theorem bits_Len32_ok (G:List (List DV))(n:Nat)(hn:n<4294967296):CallsP Tryz.prog G 246 [.c (.d (.int .u32 n))] (.c (.d (.int .i64 (blen n)))):=by
 refine CallsP.en Go.Proofs.Tryz.func246 rfl fun _=>AW.q ?_
 refine AW.seqK fun K hK=>AW.q ?_
 have step2:∀ (x m:Nat) (fr:Nat→AV) (κ:Nat),x<65536→m≤16→blen n=m+blen x→fr 0=.c (.d (.int .u32 x))→fr 2=.c (.d (.int .i64 m))→K ⟨fr,fun _=>.hole⟩ κ:=by
  intro x m fr κ hx hm hb f0 f2
  apply hK
  refine AW.seqK fun K hK=>AW.f1 f0 ?_
  have step3:∀ (x m:Nat) (fr:Nat→AV) (κ:Nat),x<256→m≤24→blen n=m+blen x→fr 0=.c (.d (.int .u32 x))→fr 2=.c (.d (.int .i64 m))→K ⟨fr,fun _=>.hole⟩ κ:=by
   intro x m fr κ hx hm hb f0 f2
   apply hK
   refine AW.seqK fun K hK=>?_
   have e1:IntKind.u8.wrap (x:Int)=x:=wrap_in ⟨by simp only [loK];omega,by simp only [hiK];omega⟩
   have hbl:blen x≤8:=by
    by_cases h0:x=0
    ·subst h0;decide
    ·have:=blen_le h0
     apply Classical.byContradiction
     intro hc
     have h9:2 ^ 8≤2 ^ (blen x - 1):=Nat.pow_le_pow_right (by decide) (by omega)
     omega
   refine AW.rP ?_
   simp [f0,f2,e1]
   rw [len8 (x:=x) (hx:=hx)]
   ·have e2:=w64 (n:=(blen x:Int)) (by omega) (by omega)
    have e3:=w64 (n:=(m:Int)+blen x) (by omega) (by omega)
    rw [e2,e3]
    repeat refine and_o ?_
    apply hK
    exact AW.r0 (FinP.rt rfl 0 (by simp [hb]))
   ·kernel_rfl
  by_cases h:256≤x
  ·refine AW.fy (by simp <;> omega) ?_
   have e1:Int.fdiv (x:Int) 256=((x / 256:Nat):Int):=by rw [Int.fdiv_eq_ediv_of_nonneg _ (by omega)];omega
   have e2:=w64 (n:=(m:Int)+8) (by omega) (by omega)
   refine AW.sr fun K1 hK1=>?_
   simp [f0,IntKind.bits,e1,-Int.natCast_ediv]
   apply hK1
   refine AW.rP ?_
   simp [f2,e2]
   refine step3 (x / 256) (m+8) _ _ (by omega) (by omega) ?_ (by simp) (by simp)
   have:=blen_shift (n:=x) (k:=8) (by omega)
   grind
  ·refine AW.fn (by simp <;> omega) (AW.skip ?_)
   simp
   exact step3 x m _ _ (by omega) (by omega) hb (by simp [f0]) (by simp [f2])
 by_cases h:65536≤n
 ·refine AW.fy (by simp <;> omega) ?_
  have e1:Int.fdiv (n:Int) 65536=((n / 65536:Nat):Int):=by rw [Int.fdiv_eq_ediv_of_nonneg _ (by omega)];omega
  refine AW.sr fun K1 hK1=>?_
  simp [IntKind.bits,e1,-Int.natCast_ediv]
  apply hK1
  refine AW.rP ?_
  simp
  refine step2 (n / 65536) 16 _ _ (by omega) (by omega) ?_ (by simp) (by simp)
  have:=blen_shift (n:=n) (k:=16) (by omega)
  grind
 ·refine AW.fn (by simp <;> omega) (AW.skip ?_)
  simp
  exact step2 n 0 _ _ (by omega) (by omega) (by simp) (by simp) (by simp)
theorem bits_LeadingZeros32_ok (G:List (List DV))(n:Nat)(hn:n<4294967296):CallsP Tryz.prog G 205 [.c (.d (.int .u32 n))] (.c (.d (.int .i64 (32 - (blen n:Int))))):=by
 have hbl:blen n≤32:=by
  by_cases h0:n=0
  ·subst h0;decide
  ·have:=blen_le h0
   apply Classical.byContradiction
   intro hc
   have h9:2 ^ 32≤2 ^ (blen n - 1):=Nat.pow_le_pow_right (by decide) (by omega)
   omega
 refine CallsP.en Go.Proofs.Tryz.func205 rfl fun _=>AW.q ?_
 refine AW.sr fun K hK=>?_
 simp
 refine CallDo.pure 0 0 (bits_Len32_ok _ n hn) rfl (by simp) rfl ?_
 have e2:=w64 (n:=32 - (blen n:Int)) (by omega) (by omega)
 simp [e2]
 apply hK
 exact AW.r0 (FinP.rt rfl 0 (by simp))
theorem exact_bits_ok (G:List (List DV))(a:Option (List Nat))(ha:can 4294967296 (dO a))(hl:(dO a).length≤1000000000000):CallsP Tryz.prog G 236 [nK .u32 a] (.c (.d (.int .i64 (blen (val 4294967296 (dO a)))))):=by
 refine CallsP.en Go.Proofs.Tryz.func236 rfl fun _=>AW.q ?_
 refine AW.q ?_
 refine AW.seqK fun K hK=>AW.q ?_
 by_cases h0:dO a=[]
 ·refine AW.fy (by simp_all) (AW.q ?_)
  exact AW.r0 (FinP.rt rfl 0 (by simp [h0,blen]))
 ·refine AW.fn (by simp_all) (AW.skip (hK _ _ (AW.seqK fun K hK=>?_)))
  have h0':0<(dO a).length:=List.length_pos_iff.2 h0
  have hk:(dO a).length - 1<(dO a).length:=by omega
  have e1:IntKind.i64.wrap (((dO a).length:Int) - 1)=(((dO a).length - 1:Nat):Int):=by rw [w64 (by omega) (by omega)];omega
  have e2:=w64 (n:=32*(((dO a).length - 1:Nat):Int)) (by omega) (by omega)
  have hx:(dO a)[(dO a).length - 1]<4294967296:=ha.1 _ (List.getElem_mem hk)
  have hx0:(dO a)[(dO a).length - 1]≠0:=ha.2 _ (by grind)
  have hv:=val_take_drop (B:=4294967296) (dO a) ((dO a).length - 1) (by omega)
  rw [val_drop hk,val_drop_ge (l:=dO a) (i:=(dO a).length - 1+1) (by omega)] at hv
  have hlt:=val_lt (ok_take ha.1 ((dO a).length - 1))
  rw [List.length_take,Nat.min_eq_left (by omega)] at hlt
  generalize (dO a).length - 1=k at *
  generalize hxe:(dO a)[k]=x at *
  have hbl:blen x≤32:=by
   have:=blen_le hx0
   apply Classical.byContradiction
   intro hc
   have h9:2 ^ 32≤2 ^ (blen x - 1):=Nat.pow_le_pow_right (by decide) (by omega)
   omega
  have hb:blen (val 4294967296 (dO a))=32*k+blen x:=by
   have hP:(4294967296:Nat) ^ k=2 ^ (32*k):=by rw [Nat.pow_mul]
   rw [hP] at hv hlt
   have h1:val 4294967296 (dO a) / 2 ^ (32*k)=x:=by
    rw [hv,Nat.mul_zero,Nat.add_zero,Nat.add_mul_div_left _ _ (Nat.pow_pos (by decide)),Nat.div_eq_of_lt hlt,Nat.zero_add]
   have h2:=blen_shift (n:=val 4294967296 (dO a)) (k:=32*k) (by
    have:2 ^ (32*k)*1≤2 ^ (32*k)*(x+4294967296*0):=Nat.mul_le_mul_left _ (by omega)
    omega)
   rw [h1] at h2;omega
  refine AW.rP ?_
  simp [e1,e2,hk,hxe]
  refine CallDo.pure 0 0 (bits_Len32_ok _ x hx) rfl (by simp) rfl ?_
  have e3:=w64 (n:=32*(k:Int)+blen x) (by omega) (by omega)
  simp [e3]
  apply hK
  exact AW.r0 (FinP.rt rfl 0 (by simp [hb]))
theorem shl_word {x s:Nat}(hx:x<4294967296) (hs:s<32):∃ y h:Nat,(x*2 ^ s) % 4294967296=y*2 ^ s∧(x*2 ^ s) / 4294967296=h∧y*2 ^ s+2 ^ s≤4294967296∧h<2 ^ s∧x*2 ^ s<18446744073709551616:=by
 have hP:(2:Nat) ^ (32 - s)*2 ^ s=4294967296:=by rw [← Nat.pow_add,Nat.sub_add_cancel (by omega)]
 have h0:0<2 ^ s:=Nat.pow_pos (by decide)
 have h1:0<2 ^ (32 - s):=Nat.pow_pos (by decide)
 refine⟨x % 2 ^ (32 - s),_,?_,rfl,?_,?_,?_⟩
 ·rw [← hP,Nat.mul_mod_mul_right]
 ·have:=Nat.mod_lt x h1
  calc x % 2 ^ (32 - s)*2 ^ s+2 ^ s=(x % 2 ^ (32 - s)+1)*2 ^ s:=by grind
   _≤2 ^ (32 - s)*2 ^ s:=Nat.mul_le_mul_right _ this
   _=4294967296:=hP
 ·rw [Nat.div_lt_iff_lt_mul (by decide),Nat.mul_comm]
  simp_all
 ·have h2:2 ^ s<4294967296:=Nat.pow_lt_pow_right (by decide) hs |> fun h=>h
  calc x*2 ^ s≤4294967295*2 ^ s:=Nat.mul_le_mul_right _ (by omega)
   _≤4294967295*4294967295:=Nat.mul_le_mul_left _ (by omega)
   _<_:=by decide
theorem exact_shl_ok (G:List (List DV))(a:Option (List Nat))(k:Nat)(ha:(dO a).length≤1000000000000)(hk:k≤1000000000000) :
 CallsP Tryz.prog G 206 [nK .u32 a,.c (.d (.int .i64 k))] (if dO a=[] then nK .u32 none else nK .u32 (some (dig 4294967296 (val 4294967296 (dO a)*2 ^ k)))):=by
 refine CallsS.know 0 (by simp) (fun V v h=>nK_rng h) fun hra=>?_
 have oka:ok 4294967296 (dO a):=fun d hd=>by have:=hra.2 d hd;simp only [hiK] at this;omega
 by_cases h0:dO a=[]
 ·rw [if_pos h0]
  refine CallsP.en Go.Proofs.Tryz.func206 rfl fun _=>AW.q ?_
  refine AW.seqK fun K hK=>AW.q ?_
  refine AW.fy (by simp_all) (AW.q ?_)
  exact AW.r0 (FinP.rt rfl 0 (by simp [nK]))
 ·rw [if_neg h0]
  refine CallsP.en Go.Proofs.Tryz.func206 rfl fun _=>AW.q ?_
  refine AW.seqK fun K hK=>AW.q ?_
  refine AW.fn (by simp_all) (AW.skip (hK _ _ (AW.seqK fun K hK=>?_)))
  have d1:Int.tdiv (k:Int) 32=((k / 32:Nat):Int):=by rw [Int.tdiv_eq_ediv_of_nonneg (by omega)];omega
  have d2:Int.tmod (k:Int) 32=((k % 32:Nat):Int):=by rw [Int.tmod_eq_emod_of_nonneg (by omega)];omega
  have hks:k=32*(k / 32)+k % 32:=by omega
  have hs:k % 32<32:=by omega
  have hw:k / 32≤1000000000000:=by omega
  have d3:=w64 (n:=((k / 32:Nat):Int)) (by omega) (by omega)
  have d4:=wu64 (n:=((k % 32:Nat):Int)) (by omega) (by omega)
  generalize k / 32=w at *
  generalize k % 32=s at *
  refine AW.l4 d1 d2 d3 d4 (hK _ _ ?_)
  have e1:IntKind.i64.wrap (((dO a).length:Int)+w)=(((dO a).length+w:Nat):Int):=by rw [w64 (by omega) (by omega)];omega
  have e2:IntKind.i64.wrap ((((dO a).length+w:Nat):Int)+1)=(((dO a).length+w+1:Nat):Int):=by rw [w64 (by omega) (by omega)];omega
  refine AW.sr fun K hK=>?_
  simp [e1,e2,-Int.natCast_add]
  repeat refine and_o ?_
  apply hK
  refine AW.seqK fun K hK=>AW.q ?_
  refine AW.block ?_
  refine AW.loopV (fun (p:Nat × List Nat)=>⟨frOf [(0,nK .u32 a),(5,.c (.d (.int .i64 w))),(6,.c (.d (.int .u64 s))),(7,.c (.lsl 0 0 ((dO a).length+w+1) 1)),(25,nK .u32 a),(26,.c (.d (.int .i64 (dO a).length))),(27,.c (.d (.int .i64 p.1)))],
   upd (fun _=>.hole) 0 (.cells true false 194 (wK .u32 (p.2++List.replicate ((dO a).length - p.1) 0)))⟩) 1
   (fun p=>p.1≤(dO a).length∧p.2.length=p.1+w+1∧ok 4294967296 p.2∧p.2.getD (p.1+w) 0<2 ^ s∧val 4294967296 p.2=4294967296 ^ w*(val 4294967296 ((dO a).take p.1)*2 ^ s))
   (fun p=>(dO a).length - p.1) (0,List.replicate (w+1) 0) (Le.mk' _ (by simp [wK_zeros,show (dO a).length+w+1=w+1+(dO a).length by omega]) (by simp) (by simp)) ⟨by simp,by simp,ok_zeros (by omega) _,by grind,by simp [val_zeros]⟩ ?_
  rintro⟨i,lo⟩ ⟨h1,h2,h3,h4,h5⟩
  simp only at h1 h2 h3 h4 h5
  refine AW.q ?_
  refine AW.seqK fun K2 hK2=>?_
  by_cases hlt:i<(dO a).length
  ·refine AW.fy (by simp_all) (AW.skip (hK2 _ _ (AW.seqK fun K3 hK3=>AW.block (AW.sr fun K4 hK4=>?_))))
   simp [hlt]
   apply hK4
   refine AW.seqK fun K4 hK4=>?_
   have hx:(dO a)[i]<4294967296:=oka _ (List.getElem_mem hlt)
   have hbt:val 4294967296 ((dO a).take (i+1))=val 4294967296 ((dO a).take i)+4294967296 ^ i*(dO a)[i]:=val_take_succ hlt
   generalize (dO a)[i]=x at hx hbt
   obtain⟨y,hh,g1,g2,g3,g4,g5⟩:=shl_word hx hs
   have e3:=wu64 (n:=(x:Int)) (by omega) (by omega)
   have e4:IntKind.u64.wrap ((x:Int)*2 ^ min s 64)=((x*2 ^ s:Nat):Int):=by
    rw [Nat.min_eq_left (by omega),show ((x:Int)*2 ^ s)=((x*2 ^ s:Nat):Int) by rfl]
    generalize x*2 ^ s=z at g5
    exact wu64 (by omega) (by omega)
   refine AW.rP ?_
   simp [e3,IntKind.bits,e4,-Int.natCast_mul,-Int.natCast_pow]
   apply hK4
   have hij:i+w<lo.length:=by omega
   have hij2:i+w<(lo++List.replicate ((dO a).length - i) 0).length:=by simp;omega
   have hij3:i+w<lo.length+((dO a).length - i):=by omega
   have ht:lo[i+w]<2 ^ s:=by rw [List.getD_eq_getElem?_getD,List.getElem?_eq_getElem hij] at h4;exact h4
   have ho2:(lo++List.replicate ((dO a).length - i) 0)[i+w]=lo[i+w]:=List.getElem_append_left hij
   have hset:=val_set (B:=4294967296) hij
   generalize lo[i+w]=t at ht ho2 hset
   have f1:IntKind.i64.wrap ((i:Int)+w)=((i+w:Nat):Int):=by rw [w64 (by omega) (by omega)];omega
   have f2:IntKind.u32.wrap ((x*2 ^ s:Nat):Int)=((y*2 ^ s:Nat):Int):=by rw [← g1,wu32m];generalize x*2 ^ s=z;omega
   have f3:orI .u32 (t:Int) ((y*2 ^ s:Nat):Int)=((y*2 ^ s+t:Nat):Int):=or_add32 ht (by omega)
   have f8:y*2 ^ s+t<4294967296:=by omega
   have f4:setSeg (wK .u32 (lo++List.replicate ((dO a).length - i) 0)) (i+w) [CV.d (.int .u32 ((y*2 ^ s+t:Nat):Int))]=wK .u32 (lo.set (i+w) (y*2 ^ s+t)++List.replicate ((dO a).length - i) 0):=by
    rw [wK_set _ hij2,List.set_append_left _ _ hij]
   have f5:i+w<(dO a).length+w+1:=by omega
   refine AW.sr fun K4 hK4=>?_
   simp [f1,f2,f3,f4,f5,hij3,ho2,-Int.natCast_mul,-Int.natCast_pow,-Int.natCast_add]
   repeat refine and_o ?_
   apply hK4
   have f6:Int.fdiv ((x*2 ^ s:Nat):Int) 4294967296=(hh:Int):=by rw [Int.fdiv_eq_ediv_of_nonneg _ (by omega),← g2];generalize x*2 ^ s=z;omega
   have f7:IntKind.i64.wrap (((i+w:Nat):Int)+1)=((i+w+1:Nat):Int):=by rw [w64 (by omega) (by omega)];omega
   have hs32:(2:Nat) ^ s<4294967296:=Nat.pow_lt_pow_right (by decide) hs |> fun h=>h
   have f9:=wu32 (n:=(hh:Int)) (by omega) (by omega)
   have hz:(dO a).length - i=((dO a).length - i - 1)+1:=by omega
   have f10:setSeg (wK .u32 (lo.set (i+w) (y*2 ^ s+t)++List.replicate ((dO a).length - i) 0)) (i+w+1) [CV.d (.int .u32 (hh:Int))]=wK .u32 (lo.set (i+w) (y*2 ^ s+t)++[hh]++List.replicate ((dO a).length - i - 1) 0):=by
    rw [wK_set _ (by simp;omega),hz]
    have:i+w+1=(lo.set (i+w) (y*2 ^ s+t)).length:=by simp;omega
    rw [this,set_zeros];simp
   have f11:i+w+1<lo.length+((dO a).length - i):=by omega
   refine AW.rP ?_
   simp [f1,f6,f7,f9,f10,IntKind.bits,-Int.natCast_mul,-Int.natCast_pow,-Int.natCast_add]
   repeat refine and_o ?_
   apply hK3
   have f12:=w64 (n:=(i:Int)+1) (by omega) (by omega)
   refine AW.rP ?_
   simp [f12]
   have f13:(dO a).length - (i+1)=(dO a).length - i - 1:=by omega
   refine⟨i+1,lo.set (i+w) (y*2 ^ s+t)++[hh],Le.mk' _ (by simp [f13]) (by simp) (by simp),⟨by omega,by simp;omega,ok_append.2 ⟨ok_set h3 _ f8,ok_cons.2 ⟨by omega,ok_nil _⟩⟩,?_,?_⟩,by omega⟩
   ·grind
   ·rw [val_snoc,List.length_set,h2,hbt]
    have p1:=hset (y*2 ^ s+t)
    have p2:=mod_div_pow 4294967296 (i+w) (x*2 ^ s)
    grind
  ·refine AW.fn (by simp_all) (AW.exit ?_)
   simp
   have e9:i=(dO a).length:=by omega
   subst e9
   apply hK
   refine AW.sr fun K hK=>?_
   simp
   rw [← h2]
   have hout:trimN lo=dig 4294967296 (val 4294967296 (dO a)*2 ^ k):=by
    refine trim_dig (by decide) h3 ?_
    rw [h5,val_take_ge (Nat.le_refl _),hks,Nat.pow_add,Nat.pow_mul]
    generalize 2 ^ s=S
    generalize val 4294967296 (dO a)=V
    have:(2:Nat) ^ 32=4294967296:=by decide
    rw [this]
    generalize 4294967296 ^ w=W
    grind
   refine CallP.frzN 0 1 0 (by simp;rfl) (by omega) (exact_cut_ok _ _) (by simp) (by simp) (by simp) ?_
   simp
   apply hK
   exact AW.r0 (FinP.rt rfl 1 (by simp [hout]))
theorem val_div_pow {B:Nat}{l:List Nat}(h:ok B l) (i:Nat) (hi:i≤l.length):val B l / B ^ i=val B (l.drop i):=by
 have h1:=val_take_drop (B:=B) l i hi
 have h2:=val_lt (ok_take h i)
 rw [List.length_take,Nat.min_eq_left hi] at h2
 have hp:0<B ^ i:=by omega
 rw [h1,Nat.add_mul_div_left _ _ hp,Nat.div_eq_of_lt h2,Nat.zero_add]
theorem shr_digit {D x y z s:Nat}(hs:s<32) (hD:D=x+4294967296*(y+4294967296*z)):D / 2 ^ s % 4294967296=(y*4294967296+x) / 2 ^ s % 4294967296:=by
 have hP:(2:Nat) ^ (32 - s)*2 ^ s=4294967296:=by rw [← Nat.pow_add,Nat.sub_add_cancel (by omega)]
 have h0:0<2 ^ s:=Nat.pow_pos (by decide)
 have e:D=(y*4294967296+x)+2 ^ s*(4294967296*(2 ^ (32 - s)*z)):=by
  have aux:∀ S T B:Nat,T*S=B→S*(B*(T*z))=B*(B*z):=by
   intro S T B h
   calc S*(B*(T*z))=(T*S)*(B*z):=by ac_rfl
    _=_:=by rw [h]
  have this:=aux (2 ^ s) (2 ^ (32 - s)) 4294967296 hP
  rw [this,hD];omega
 rw [e,Nat.add_mul_div_left _ _ h0,Nat.add_mul_mod_self_left]
theorem exact_shr_ok (G:List (List DV))(a:Option (List Nat))(k:Nat)(ha:(dO a).length≤1000000000000)(hk:k≤1000000000000) :
 CallsP Tryz.prog G 209 [nK .u32 a,.c (.d (.int .i64 k))] (if (dO a).length≤k / 32 then nK .u32 none else nK .u32 (some (dig 4294967296 (val 4294967296 (dO a) / 2 ^ k)))):=by
 refine CallsS.know 0 (by simp) (fun V v h=>nK_rng h) fun hra=>?_
 have oka:ok 4294967296 (dO a):=fun d hd=>by have:=hra.2 d hd;simp only [hiK] at this;omega
 have d1:Int.tdiv (k:Int) 32=((k / 32:Nat):Int):=by rw [Int.tdiv_eq_ediv_of_nonneg (by omega)];omega
 have d2:Int.tmod (k:Int) 32=((k % 32:Nat):Int):=by rw [Int.tmod_eq_emod_of_nonneg (by omega)];omega
 have hks:k=32*(k / 32)+k % 32:=by omega
 have hs:k % 32<32:=by omega
 have hw:k / 32≤1000000000000:=by omega
 have d3:=w64 (n:=((k / 32:Nat):Int)) (by omega) (by omega)
 have d4:=wu64 (n:=((k % 32:Nat):Int)) (by omega) (by omega)
 generalize k / 32=w at *
 generalize k % 32=s at *
 by_cases h0:(dO a).length≤w
 ·rw [if_pos h0]
  refine CallsP.en Go.Proofs.Tryz.func209 rfl fun _=>AW.q ?_
  refine AW.f4 d1 d2 d3 d4 ?_
  refine AW.seqK fun K hK=>AW.q ?_
  refine AW.fy (by simp_all) (AW.q ?_)
  exact AW.r0 (FinP.rt rfl 0 (by simp [nK]))
 ·rw [if_neg h0]
  refine CallsP.en Go.Proofs.Tryz.func209 rfl fun _=>AW.q ?_
  refine AW.f4 d1 d2 d3 d4 ?_
  refine AW.seqK fun K hK=>AW.q ?_
  refine AW.fn (by simp_all) (AW.skip (hK _ _ ?_))
  have e1:IntKind.i64.wrap (((dO a).length:Int) - w)=(((dO a).length - w:Nat):Int):=by rw [w64 (by omega) (by omega)];omega
  have hw1:w≤(dO a).length:=by omega
  have hD:=val_div_pow oka w hw1
  refine AW.f1 e1 ?_
  refine AW.seqK fun K hK=>AW.q ?_
  refine AW.block ?_
  refine AW.loopV (fun (pre:List Nat)=>⟨frOf [(0,nK .u32 a),(5,.c (.d (.int .i64 w))),(6,.c (.d (.int .u64 s))),(7,.c (.lsl 0 0 ((dO a).length - w) 1)),(25,.c (.d (.int .i64 ((dO a).length - w:Nat)))),(26,.c (.d (.int .i64 pre.length)))],
   upd (fun _=>.hole) 0 (.cells true false 194 (wK .u32 (pre++List.replicate ((dO a).length - w - pre.length) 0)))⟩) 1
   (fun pre=>pre.length≤(dO a).length - w∧ok 4294967296 pre∧val 4294967296 pre=(val 4294967296 ((dO a).drop w) / 2 ^ s) % 4294967296 ^ pre.length)
   (fun pre=>(dO a).length - w - pre.length) [] (Le.mk' _ (by simp [wK_zeros]) (by simp) (by simp)) ⟨by simp,ok_nil _,by simp [Nat.mod_one]⟩ ?_
  rintro pre ⟨h1,h2,h3⟩
  refine AW.q ?_
  refine AW.seqK fun K2 hK2=>?_
  by_cases hlt:pre.length<(dO a).length - w
  ·refine AW.fy (by simp_all) (AW.skip (hK2 _ _ (AW.seqK fun K3 hK3=>AW.block (AW.q ?_))))
   refine AW.seqK fun K4 hK4=>?_
   have hi:pre.length+w<(dO a).length:=by omega
   have f1:IntKind.i64.wrap ((pre.length:Int)+w)=((pre.length+w:Nat):Int):=by rw [w64 (by omega) (by omega)];omega
   have f2:IntKind.i64.wrap (((pre.length+w:Nat):Int)+1)=((pre.length+w+1:Nat):Int):=by rw [w64 (by omega) (by omega)];omega
   have hx:(dO a)[pre.length+w]<4294967296:=oka _ (List.getElem_mem hi)
   have hdr:val 4294967296 ((dO a).drop w) / 4294967296 ^ pre.length=(dO a)[pre.length+w]+4294967296*val 4294967296 ((dO a).drop (pre.length+w+1)):=by
    rw [val_div_pow (ok_drop oka w) _ (by simp;omega),List.drop_drop,Nat.add_comm w,val_drop hi]
   have hix:=ix_nK' (P:=Tryz.prog) (T:=28) (lv:=upd (fun _=>.hole) 0 (.cells true false 194 (wK .u32 (pre++List.replicate ((dO a).length - w - pre.length) 0)))) (k:=.u32) (k':=.i64) (o:=a) (i:=pre.length+w) (by simp) hi
   generalize (dO a)[pre.length+w]=x at hx hdr hix
   have e3:=wu64 (n:=(x:Int)) (by omega) (by omega)
   refine AW.rP ?_
   simp [f1,hix,e3,-Int.natCast_add]
   apply hK4
   refine AW.seqK fun K5 hK5=>AW.seqK fun K6 hK6=>?_
   have fin:∀ (y z:Nat) (fr:Nat→AV) (κ:Nat),y<4294967296→val 4294967296 ((dO a).drop (pre.length+w+1))=y+4294967296*z →
    fr 0=nK .u32 a→fr 5=.c (.d (.int .i64 w))→fr 6=.c (.d (.int .u64 s))→fr 7=.c (.lsl 0 0 ((dO a).length - w) 1)→fr 8=.c (.d (.int .i64 pre.length))→fr 9=.c (.d (.int .u64 ((y*4294967296+x:Nat):Int))) →
    fr 25=.c (.d (.int .i64 ((dO a).length - w:Nat)))→fr 26=.c (.d (.int .i64 pre.length)) →
    K5 ⟨fr,upd (fun _=>.hole) 0 (.cells true false 194 (wK .u32 (pre++List.replicate ((dO a).length - w - pre.length) 0)))⟩ κ:=by
    intro y z fr κ hy hyz q0 q5 q6 q7 q8 q9 q25 q26
    apply hK5
    refine AW.at0 2 ?_
    have g1:Int.fdiv ((y*4294967296+x:Nat):Int) (2 ^ min s 64)=(((y*4294967296+x) / 2 ^ s:Nat):Int):=by
     rw [Nat.min_eq_left (by omega),Int.fdiv_eq_ediv_of_nonneg _ (Int.le_of_lt (Int.pow_pos (by decide)))]
     generalize y*4294967296+x=m
     rw [Int.natCast_ediv];congr 1
    have g2:IntKind.u32.wrap (((y*4294967296+x) / 2 ^ s:Nat):Int)=(((y*4294967296+x) / 2 ^ s % 4294967296:Nat):Int):=by
     rw [wu32m];generalize (y*4294967296+x) / 2 ^ s=m;omega
    have hdig:=shr_digit (x:=x) (y:=y) (z:=z) hs (D:=val 4294967296 ((dO a).drop w) / 4294967296 ^ pre.length) (by omega)
    have hv:(y*4294967296+x) / 2 ^ s % 4294967296<4294967296:=Nat.mod_lt _ (by omega)
    generalize (y*4294967296+x) / 2 ^ s % 4294967296=v at g2 hdig hv
    have hz:(dO a).length - w - pre.length=((dO a).length - w - pre.length - 1)+1:=by omega
    have g3:setSeg (wK .u32 (pre++List.replicate ((dO a).length - w - pre.length) 0)) pre.length [CV.d (.int .u32 (v:Int))]=wK .u32 (pre++[v]++List.replicate ((dO a).length - w - pre.length - 1) 0):=by
     rw [hz,wK_set _ (by simp),set_zeros];simp
    refine AW.rP ?_
    simp [q6,q7,q8,q9,IntKind.bits,g1,g2,g3,hlt,-Int.natCast_add,-Int.natCast_mul,-Int.natCast_ediv,-Int.natCast_pow]
    repeat refine and_o ?_
    apply hK3
    have g4:=w64 (n:=(pre.length:Int)+1) (by omega) (by omega)
    refine AW.rP ?_
    simp [q26,g4]
    have g5:(dO a).length - w - (pre.length+1)=(dO a).length - w - pre.length - 1:=by omega
    refine⟨pre++[v],Le.mk' _ (by simp [g5]) (by simp) (by simp [q0,q5,q6,q7,q25]),⟨by simp;omega,ok_append.2 ⟨h2,ok_cons.2 ⟨hv,ok_nil _⟩⟩,?_⟩,by simp;omega⟩
    rw [val_snoc,List.length_append,List.length_singleton,Nat.mod_pow_succ,h3,Nat.div_div_eq_div_mul,Nat.mul_comm (2 ^ s),← Nat.div_div_eq_div_mul,hdig]
   refine AW.rP ?_
   simp [f1,f2,-Int.natCast_add]
   apply hK6
   by_cases hlb:pre.length+w+1<(dO a).length
   ·refine AW.fy (by simp [hlb] <;> omega) ?_
    have hy:(dO a)[pre.length+w+1]<4294967296:=oka _ (List.getElem_mem hlb)
    have hyz:=val_drop (B:=4294967296) hlb
    have hiy:=ix_nK' (P:=Tryz.prog) (T:=28) (lv:=upd (fun _=>.hole) 0 (.cells true false 194 (wK .u32 (pre++List.replicate ((dO a).length - w - pre.length) 0)))) (k:=.u32) (k':=.i64) (o:=a) (i:=pre.length+w+1) (by simp) hlb
    generalize (dO a)[pre.length+w+1]=y at hy hyz hiy
    have p1:=wu64 (n:=(y:Int)) (by omega) (by omega)
    have p2:IntKind.u64.wrap ((y:Int)*4294967296)=((y*4294967296:Nat):Int):=by rw [wu64 (by omega) (by omega)];omega
    have p3:orI .u64 (x:Int) ((y*4294967296:Nat):Int)=((y*4294967296+x:Nat):Int):=by rw [orI_comm];exact or_add64 hy hx
    refine AW.rP ?_
    simp [f1,f2,hiy,p1,p2,p3,IntKind.bits,-Int.natCast_add,-Int.natCast_mul]
    exact fin y _ _ _ hy hyz (by simp) (by simp) (by simp) (by simp) (by simp) (by simp) (by simp) (by simp)
   ·refine AW.fn (by simp [hlb] <;> omega) (AW.skip ?_)
    simp
    exact fin 0 0 _ _ (by omega) (by rw [val_drop_ge (by omega)]) (by simp) (by simp) (by simp) (by simp) (by simp) (by simp) (by simp) (by simp)
  ·refine AW.fn (by simp_all) (AW.exit ?_)
   simp
   have e9:pre.length=(dO a).length - w:=by omega
   apply hK
   refine AW.sr fun K hK=>?_
   simp
   have hout:trimN pre=dig 4294967296 (val 4294967296 (dO a) / 2 ^ k):=by
    refine trim_dig (by decide) h2 ?_
    have hl:=val_lt (ok_drop oka w)
    rw [List.length_drop,← e9] at hl
    rw [h3,Nat.mod_eq_of_lt (Nat.lt_of_le_of_lt (Nat.div_le_self _ _) hl),← hD,Nat.div_div_eq_div_mul,hks,Nat.pow_add,Nat.pow_mul]
   rw [← e9]
   simp only [Nat.sub_self,List.replicate_zero,List.append_nil]
   refine CallP.frzN 0 1 0 (by simp;rfl) (by omega) (exact_cut_ok _ _) (by simp) (by simp) (by simp) ?_
   simp
   apply hK
   exact AW.r0 (FinP.rt rfl 1 (by simp [hout]))
theorem take_step {x0 cb b:Nat}(hx:x0<4294967296) (hc:cb<4294967296) (hb:b≤1) :
 ∃ v b':Nat,v<4294967296∧b'≤1∧v+cb+b=x0+4294967296*b'∧IntKind.u32.wrap (IntKind.u64.wrap (IntKind.u64.wrap ((x0:Int) - cb) - b))=v∧Int.fdiv (IntKind.u64.wrap (IntKind.u64.wrap ((x0:Int) - cb) - b)) 9223372036854775808=b':=by
 simp only [wu32m,wu64m]
 by_cases h:cb+b≤x0
 ·refine⟨x0 - cb - b,0,by omega,by omega,by omega,by omega,?_⟩
  grind
 ·refine⟨x0+4294967296 - cb - b,1,by omega,by omega,by omega,by omega,?_⟩
  grind
theorem wK_pure (k:IntKind)(l:List Nat):∀ x∈wK k l,x.pure=true:=by
 intro x hx;simp only [wK,List.mem_map] at hx;obtain⟨y,_,rfl⟩:=hx;rfl
def takeB (w m:Nat):Nat:=if w<m then 1 else 0
theorem take_fin {L W M R bb:Nat}(hbb:bb≤1) (h:R+M=W+L*bb) (hR:R<L):bb=takeB W M∧R=W+L*takeB W M - M:=by
 unfold takeB
 have:bb=0∨bb=1:=by omega
 grind
theorem exact_take_ok (G:List (List DV))(lo win hi:List Nat)(n t:Nat)(v:Option (List Nat))(hw:win.length=(dO v).length+1)(hn:win.length≤n)(okw:ok 4294967296 win)(ht:t<4294967296)(hl:(lo++win++hi).length≤1000000000000) :
 CallsS Tryz.prog G 207 [.c (.lsl 0 lo.length n 1),nK .u32 v,.c (.d (.int .u64 t))] [.cells false false 194 (wK .u32 (lo++win++hi))]
  (.ret (.c (.d (.bool (decide (takeB (val 4294967296 win) (t*val 4294967296 (dO v))=1))))) [.cells false false 194 (wK .u32 (lo++digL 4294967296 win.length (val 4294967296 win+4294967296 ^ win.length*takeB (val 4294967296 win) (t*val 4294967296 (dO v)) - t*val 4294967296 (dO v))++hi))] []):=by
 refine CallsS.know 1 (by simp) (fun V v h=>nK_rng h) fun hrv=>?_
 have okv:ok 4294967296 (dO v):=fun d hd=>by have:=hrv.2 d hd;simp only [hiK] at this;omega
 simp only [List.length_append] at hl
 refine CallsS.en1 Go.Proofs.Tryz.func207 rfl fun _=>AW.q ?_
 refine AW.q ?_
 refine AW.seqK fun K hK=>AW.q ?_
 refine AW.block ?_
 refine AW.loopV (fun (p:List Nat × Nat × Nat)=>⟨frOf [(0,.c (.lsl 0 lo.length n 1)),(1,nK .u32 v),(2,.c (.d (.int .u64 t))),(7,.c (.d (.int .u64 p.2.1))),(8,.c (.d (.int .u64 p.2.2))),(13,nK .u32 v),(14,.c (.d (.int .i64 (dO v).length))),(15,.c (.d (.int .i64 p.1.length)))],
  upd (fun _=>.hole) 0 (.cells false false 194 (wK .u32 (lo++(p.1++win.drop p.1.length)++hi)))⟩) 1000
  (fun p=>p.1.length≤(dO v).length∧ok 4294967296 p.1∧p.2.1<4294967296∧p.2.2≤1∧val 4294967296 p.1+t*val 4294967296 ((dO v).take p.1.length)=val 4294967296 (win.take p.1.length)+4294967296 ^ p.1.length*(p.2.1+p.2.2))
  (fun p=>(dO v).length - p.1.length) ([],0,0) (Le.mk' _ (by simp) (by simp) (by simp)) ⟨by simp,ok_nil _,by simp,by simp,by simp⟩ ?_
 rintro⟨pre,c,b⟩ ⟨h1,h2,h3,h4,h5⟩
 simp only at h1 h2 h3 h4 h5
 have hwl:pre.length<win.length:=by omega
 have hwd:win.drop pre.length=win[pre.length]::win.drop (pre.length+1):=List.drop_eq_getElem_cons hwl
 have hwx:win[pre.length]<4294967296:=okw _ (List.getElem_mem hwl)
 have hwt:=val_take_succ (B:=4294967296) hwl
 generalize hx0:win[pre.length]=x0 at hwd hwx hwt
 generalize hB:lo++(pre++win.drop pre.length)++hi=BL
 rw [hwd] at hB
 have hget:BL[lo.length+pre.length]?=some x0:=by rw [← hB];exact mid_get hi
 have hBl:BL.length=lo.length+(win.length+hi.length):=by rw [← hB];simp;omega
 refine AW.q ?_
 refine AW.seqK fun K2 hK2=>?_
 by_cases hlt:pre.length<(dO v).length
 ·refine AW.fy (by simp_all) (AW.skip (hK2 _ _ (AW.seqK fun K3 hK3=>AW.block (AW.sr fun K4 hK4=>?_))))
  simp [hlt]
  apply hK4
  refine AW.seqK fun K4 hK4=>?_
  have hx:(dO v)[pre.length]<4294967296:=okv _ (List.getElem_mem hlt)
  have hvt:=val_take_succ (B:=4294967296) hlt
  generalize (dO v)[pre.length]=x at hx hvt
  have htx:t*x≤4294967295*4294967295:=Nat.mul_le_mul (by omega) (by omega)
  have e1:=wu64 (n:=(x:Int)) (by omega) (by omega)
  have e2:IntKind.u64.wrap ((t:Int)*x)=((t*x:Nat):Int):=by
   rw [← Int.natCast_mul];generalize t*x=p at htx;exact wu64 (by omega) (by omega)
  have e3:IntKind.u64.wrap ((c:Int)+((t*x:Nat):Int))=((c+t*x:Nat):Int):=by
   generalize t*x=p at htx;rw [wu64 (by omega) (by omega)];omega
  refine AW.rP ?_
  simp [e1,e2,e3,-Int.natCast_add,-Int.natCast_mul]
  apply hK4
  generalize hm:c+t*x=m at *
  have hml:m<18446744073709551616:=by rw [← hm];generalize t*x=p at htx;omega
  have e4:IntKind.u32.wrap (m:Int)=((m % 4294967296:Nat):Int):=by rw [wu32m];omega
  have e5:=wu64 (n:=((m % 4294967296:Nat):Int)) (by omega) (by omega)
  have e6:=wu64 (n:=(x0:Int)) (by omega) (by omega)
  have hcb:m % 4294967296<4294967296:=Nat.mod_lt _ (by omega)
  have hdm:=Nat.div_add_mod m 4294967296
  obtain⟨d,b',g1,g2,g3,g4,g5⟩:=take_step hwx hcb h4
  have e7:Int.fdiv (m:Int) 4294967296=((m / 4294967296:Nat):Int):=by rw [Int.fdiv_eq_ediv_of_nonneg _ (by omega)];omega
  generalize m % 4294967296=mr at *
  generalize m / 4294967296=mq at *
  have i1:=wK_load? (P:=Tryz.prog) (T:=194) (by simp) .u32 hget
  have i2:setSeg (wK .u32 BL) (lo.length+pre.length) [CV.d (.int .u32 (d:Int))]=wK .u32 (lo++((pre++[d])++win.drop (pre.length+1))++hi):=by
   rw [wK_set _ (by omega),← hB,mid_set]
  have i3:lo.length+pre.length+1≤BL.length:=by omega
  have i4:pre.length<n:=by omega
  refine AW.sr fun K4 hK4=>?_
  simp [i1,e4,e5,e6,i4,-Int.natCast_emod]
  apply hK4
  refine AW.f4 g4 i2 i3 i4 ?_
  refine AW.sr fun K4 hK4=>?_
  simp [IntKind.bits,g5]
  apply hK4
  refine AW.rP ?_
  simp [IntKind.bits,e7,-Int.natCast_ediv]
  apply hK3
  have e8:=w64 (n:=(pre.length:Int)+1) (by omega) (by omega)
  refine AW.rP ?_
  simp [e8]
  refine⟨pre++[d],mq,b',Le.mk' _ (by simp) (by simp) (by simp),⟨by simp;omega,ok_append.2 ⟨h2,ok_cons.2 ⟨g1,ok_nil _⟩⟩,by omega,g2,?_⟩,by simp;omega⟩
  rw [List.length_append,List.length_singleton,val_snoc,hvt,hwt,Nat.pow_succ]
  grind
 ·refine AW.fn (by simp_all) (AW.exit ?_)
  simp
  have ek:pre.length=(dO v).length:=by omega
  apply hK
  have hgl:win.drop (pre.length+1)=[]:=List.drop_eq_nil_of_le (by omega)
  obtain⟨d,b',g1,g2,g3,g4,g5⟩:=take_step hwx h3 h4
  have e6:=wu64 (n:=(x0:Int)) (by omega) (by omega)
  have i1:=wK_load? (P:=Tryz.prog) (T:=194) (by simp) .u32 hget
  have i2:setSeg (wK .u32 BL) (lo.length+pre.length) [CV.d (.int .u32 (d:Int))]=wK .u32 (lo++(pre++[d])++hi):=by
   rw [wK_set _ (by omega),← hB,mid_set,hgl,List.append_nil]
  have i3:lo.length+pre.length+1≤BL.length:=by omega
  have i4:pre.length<n:=by omega
  rw [← ek]
  refine AW.sr fun K hK=>?_
  simp [← ek,i1,e6,i4]
  apply hK
  refine AW.sr fun K hK=>?_
  simp [← ek,i2,i3,i4,g4]
  apply hK
  refine AW.sr fun K hK=>?_
  simp [IntKind.bits,g5]
  apply hK
  have hvv:val 4294967296 ((dO v).take pre.length)=val 4294967296 (dO v):=val_take_ge (by omega)
  have hww:val 4294967296 (win.take (pre.length+1))=val 4294967296 win:=val_take_ge (by omega)
  have hL:win.length=pre.length+1:=by omega
  rw [hvv] at h5
  have hfin:val 4294967296 (pre++[d])+t*val 4294967296 (dO v)=val 4294967296 win+4294967296 ^ win.length*b':=by
   rw [hL,val_snoc,← hww,hwt,Nat.pow_succ]
   have j1:4294967296 ^ pre.length*(d+c+b)=4294967296 ^ pre.length*(x0+4294967296*b'):=by rw [g3]
   rw [Nat.mul_add,Nat.mul_add,Nat.mul_add,← Nat.mul_assoc] at j1
   rw [Nat.mul_add] at h5
   omega
  have hok:ok 4294967296 (pre++[d]):=ok_append.2 ⟨h2,ok_cons.2 ⟨g1,ok_nil _⟩⟩
  have hlt2:=val_lt hok
  rw [List.length_append,List.length_singleton,← hL] at hlt2
  obtain⟨q1,q2⟩:=take_fin g2 hfin hlt2
  have hdig:=digL_of hok q2
  rw [List.length_append,List.length_singleton,← hL] at hdig
  rw [← hdig]
  have q3:(b':Int)=1↔takeB (val 4294967296 win) (t*val 4294967296 (dO v))=1:=by rw [← q1];omega
  refine AW.ret (κ:=0) (FinS.tmp (κ:=0) rfl (by simp [q3]) rfl (by simp) (by simp))
theorem digL_mod {B n:Nat}(hB:0<B) {l:List Nat}(h:ok B l) (hv:val B l=n % B ^ l.length):l=digL B l.length n:=by
 have h1:=digL_of (digL_ok hB l.length n) (digL_val l.length n)
 rw [digL_len] at h1
 rw [h1];exact digL_of h hv
theorem exact_give_ok (G:List (List DV))(lo win hi:List Nat)(n:Nat)(v:Option (List Nat))(hw:win.length=(dO v).length+1)(hn:win.length≤n)(okw:ok 4294967296 win)(hl:(lo++win++hi).length≤1000000000000) :
 CallsS Tryz.prog G 208 [.c (.lsl 0 lo.length n 1),nK .u32 v] [.cells false false 194 (wK .u32 (lo++win++hi))]
  (.ret (.tup []) [.cells false false 194 (wK .u32 (lo++digL 4294967296 win.length (val 4294967296 win+val 4294967296 (dO v))++hi))] []):=by
 refine CallsS.know 1 (by simp) (fun V v h=>nK_rng h) fun hrv=>?_
 have okv:ok 4294967296 (dO v):=fun d hd=>by have:=hrv.2 d hd;simp only [hiK] at this;omega
 simp only [List.length_append] at hl
 refine CallsS.en1 Go.Proofs.Tryz.func208 rfl fun _=>AW.q ?_
 refine AW.seqK fun K hK=>AW.q ?_
 refine AW.block ?_
 refine AW.loopV (fun (p:List Nat × Nat)=>⟨frOf [(0,.c (.lsl 0 lo.length n 1)),(1,nK .u32 v),(4,.c (.d (.int .u64 p.2))),(7,nK .u32 v),(8,.c (.d (.int .i64 (dO v).length))),(9,.c (.d (.int .i64 p.1.length)))],
  upd (fun _=>.hole) 0 (.cells false false 194 (wK .u32 (lo++(p.1++win.drop p.1.length)++hi)))⟩) 1000
  (fun p=>p.1.length≤(dO v).length∧ok 4294967296 p.1∧p.2≤1∧val 4294967296 p.1+4294967296 ^ p.1.length*p.2=val 4294967296 (win.take p.1.length)+val 4294967296 ((dO v).take p.1.length))
  (fun p=>(dO v).length - p.1.length) ([],0) (Le.mk' _ (by simp) (by simp) (by simp)) ⟨by simp,ok_nil _,by simp,by simp⟩ ?_
 rintro⟨pre,c⟩ ⟨h1,h2,h4,h5⟩
 simp only at h1 h2 h4 h5
 have hwl:pre.length<win.length:=by omega
 have hwd:win.drop pre.length=win[pre.length]::win.drop (pre.length+1):=List.drop_eq_getElem_cons hwl
 have hwx:win[pre.length]<4294967296:=okw _ (List.getElem_mem hwl)
 have hwt:=val_take_succ (B:=4294967296) hwl
 generalize hx0:win[pre.length]=x0 at hwd hwx hwt
 generalize hB:lo++(pre++win.drop pre.length)++hi=BL
 rw [hwd] at hB
 have hget:BL[lo.length+pre.length]?=some x0:=by rw [← hB];exact mid_get hi
 have hBl:BL.length=lo.length+(win.length+hi.length):=by rw [← hB];simp;omega
 have i1:=wK_load? (P:=Tryz.prog) (T:=194) (by simp) .u32 hget
 have i3:lo.length+pre.length+1≤BL.length:=by omega
 have i4:pre.length<n:=by omega
 refine AW.q ?_
 refine AW.seqK fun K2 hK2=>?_
 by_cases hlt:pre.length<(dO v).length
 ·refine AW.fy (by simp_all) (AW.skip (hK2 _ _ (AW.seqK fun K3 hK3=>AW.block (AW.sr fun K4 hK4=>?_))))
  simp [hlt]
  apply hK4
  refine AW.seqK fun K4 hK4=>?_
  have hx:(dO v)[pre.length]<4294967296:=okv _ (List.getElem_mem hlt)
  have hvt:=val_take_succ (B:=4294967296) hlt
  generalize (dO v)[pre.length]=x at hx hvt
  have e1:=wu64 (n:=(x:Int)) (by omega) (by omega)
  have e2:=wu64 (n:=(x0:Int)) (by omega) (by omega)
  have e3:IntKind.u64.wrap ((x0:Int)+x)=((x0+x:Nat):Int):=by rw [wu64 (by omega) (by omega)];omega
  have e4:IntKind.u64.wrap ((c:Int)+((x0+x:Nat):Int))=((c+(x0+x):Nat):Int):=by rw [wu64 (by omega) (by omega)];omega
  refine AW.rP ?_
  simp [i1,i4,e1,e2,e3,e4,-Int.natCast_add]
  apply hK4
  have hs:=snoc_carry 4294967296 pre (c+(x0+x))
  have hml:c+(x0+x)<8589934592:=by omega
  generalize hm:c+(x0+x)=m at *
  have e5:IntKind.u32.wrap (m:Int)=((m % 4294967296:Nat):Int):=by rw [wu32m];omega
  have e7:Int.fdiv (m:Int) 4294967296=((m / 4294967296:Nat):Int):=by rw [Int.fdiv_eq_ediv_of_nonneg _ (by omega)];omega
  have hd:m % 4294967296<4294967296:=Nat.mod_lt _ (by omega)
  have hq:m / 4294967296≤1:=by omega
  generalize m % 4294967296=d at *
  generalize m / 4294967296=q at *
  have i2:setSeg (wK .u32 BL) (lo.length+pre.length) [CV.d (.int .u32 (d:Int))]=wK .u32 (lo++((pre++[d])++win.drop (pre.length+1))++hi):=by
   rw [wK_set _ (by omega),← hB,mid_set]
  refine AW.f4 e5 i2 i3 i4 ?_
  refine AW.rP ?_
  simp [IntKind.bits,e7]
  apply hK3
  have e8:=w64 (n:=(pre.length:Int)+1) (by omega) (by omega)
  refine AW.rP ?_
  simp [e8]
  refine⟨pre++[d],q,Le.mk' _ (by simp) (by simp) (by simp),⟨by simp;omega,ok_append.2 ⟨h2,ok_cons.2 ⟨hd,ok_nil _⟩⟩,hq,?_⟩,by simp;omega⟩
  rw [List.length_append,List.length_singleton,hs,hvt,hwt,← hm,Nat.mul_add,Nat.mul_add]
  omega
 ·refine AW.fn (by simp_all) (AW.exit ?_)
  simp
  have ek:pre.length=(dO v).length:=by omega
  apply hK
  have hgl:win.drop (pre.length+1)=[]:=List.drop_eq_nil_of_le (by omega)
  have e1:=wu32 (n:=(c:Int)) (by omega) (by omega)
  have hs:=snoc_carry 4294967296 pre (x0+c)
  have e2:IntKind.u32.wrap ((x0:Int)+c)=(((x0+c) % 4294967296:Nat):Int):=by rw [wu32m];omega
  have hd:(x0+c) % 4294967296<4294967296:=Nat.mod_lt _ (by omega)
  generalize (x0+c) / 4294967296=q at *
  generalize (x0+c) % 4294967296=d at *
  have i2:setSeg (wK .u32 BL) (lo.length+pre.length) [CV.d (.int .u32 (d:Int))]=wK .u32 (lo++(pre++[d])++hi):=by
   rw [wK_set _ (by omega),← hB,mid_set,hgl,List.append_nil]
  refine AW.rP ?_
  simp [← ek,i1,i2,i3,i4,e1,e2]
  have hvv:val 4294967296 ((dO v).take pre.length)=val 4294967296 (dO v):=val_take_ge (by omega)
  have hww:val 4294967296 (win.take (pre.length+1))=val 4294967296 win:=val_take_ge (by omega)
  have hL:win.length=(pre++[d]).length:=by simp;omega
  rw [hvv] at h5
  have hok:ok 4294967296 (pre++[d]):=ok_append.2 ⟨h2,ok_cons.2 ⟨hd,ok_nil _⟩⟩
  have hlt2:=val_lt hok
  have hval:val 4294967296 win+val 4294967296 (dO v)=val 4294967296 (pre++[d])+4294967296 ^ (pre++[d]).length*q:=by
   rw [List.length_append,List.length_singleton,hs,← hww,hwt,Nat.mul_add];omega
  have hdig:pre++[d]=digL 4294967296 win.length (val 4294967296 win+val 4294967296 (dO v)):=by
   rw [hL]
   refine digL_mod (by decide) hok ?_
   rw [hval,Nat.add_mul_mod_self_left,Nat.mod_eq_of_lt hlt2]
  refine FinS.none (.inl rfl) rfl (by simp) ?_
  grind
theorem div_easy1 (G:List (List DV))(a b:Option (List Nat))(ha:can 4294967296 (dO a))(hb:can 4294967296 (dO b))(h:val 4294967296 (dO a)<val 4294967296 (dO b)) :
 CallsP Tryz.prog G 150 [nK .u32 a,nK .u32 b] (.tup [nK .u32 none,nK .u32 a]):=by
 refine CallsP.en Go.Proofs.Tryz.func150 rfl fun _=>AW.q ?_
 refine AW.scope ?_
 refine AW.q ?_
 refine AW.seqK fun K hK=>AW.block (AW.sr fun K1 hK1=>?_)
 simp
 refine CallDo.pure 0 0 (exact_cmp_ok ha hb) rfl (by simp) rfl ?_
 simp [cmpN_lt h]
 apply hK1
 refine AW.cy (AW.q ?_)
 exact AW.r0 (FinP.t2 rfl 0 (by simp [nK]) (by simp))
theorem div_easy2 (G:List (List DV))(a b:Option (List Nat))(ha:can 4294967296 (dO a))(hb:can 4294967296 (dO b))(h:val 4294967296 (dO b)≤val 4294967296 (dO a))(hn:(dO b).length=1)(hl:(dO a).length≤1000000000000) :
 CallsP Tryz.prog G 150 [nK .u32 a,nK .u32 b] (.tup [nK .u32 (some (dig 4294967296 (val 4294967296 (dO a) / val 4294967296 (dO b)))),nK .u32 (some (dig 4294967296 (val 4294967296 (dO a) % val 4294967296 (dO b))))]):=by
 obtain⟨x,hx⟩:∃ x,dO b=[x]:=by
  match hd:dO b,hn with|[x],_=>exact⟨x,rfl⟩
 have hxv:val 4294967296 (dO b)=x:=by simp [hx]
 have hx0:x≠0:=hb.2 x (by grind)
 have hxl:x<4294967296:=hb.1 x (by grind)
 have hlt:(0:Nat)<(dO b).length:=by omega
 have hix:=ix_nK' (P:=Tryz.prog) (T:=28) (lv:=fun _=>.hole) (k:=.u32) (k':=.i64) (o:=b) (i:=0) (by simp) hlt
 have hg:(dO b)[0]=x:=by simp [hx]
 simp only [hg,Int.natCast_zero] at hix
 refine CallsP.en Go.Proofs.Tryz.func150 rfl fun _=>AW.q ?_
 refine AW.scope ?_
 refine AW.q ?_
 refine AW.seqK fun K hK=>AW.block (AW.seqK fun K1 hK1=>?_)
 have hc:¬ cmpN (val 4294967296 (dO a)) (val 4294967296 (dO b))<0:=by unfold cmpN;(repeat' split) <;> omega
 refine AW.rP ?_
 simp
 refine CallDo.pure 0 0 (exact_cmp_ok ha hb) rfl (by simp) rfl ?_
 simp only [hxv] at hc ⊢
 simp [hc]
 apply hK1
 refine AW.fn (by rfl) (AW.q ?_)
 refine AW.fy (by simp_all) (AW.sr fun K1 hK1=>?_)
 simp [hix]
 refine CallDo.pure 0 0 (exact_small_ok _ a x hx0 hl) (by simp [AV.pure,AV.pure0];exact⟨rfl,rfl⟩) (by simp) rfl ?_
 simp [-Int.natCast_emod]
 apply hK1
 have hml:val 4294967296 (dO a) % x<x:=Nat.mod_lt _ (by omega)
 generalize hr:val 4294967296 (dO a) % x=r at *
 have e1:=wu64 (n:=(r:Int)) (by omega) (by omega)
 refine AW.sr fun K1 hK1=>?_
 simp [e1]
 refine CallDo.pure 0 0 (exact_of_ok _ r (by omega)) (by simp) (by simp) rfl ?_
 simp
 apply hK1
 exact AW.r0 (FinP.t2 rfl 0 (by simp [hxv]) (by simp_all))
theorem srcA_nK {lv:Key→LB}(k:IntKind) (l:List Nat):srcA lv 1 (nK k (some l))=some (l.length,wK k l):=by
 have h1:(dK k l).all (fun e=>e.length == 1)=true:=by simp [dK]
 have h2:(dK k l).flatten.map CV.d=wK k l:=by
  induction l with
  | nil=>rfl
  | cons x l ih=>simp only [dK,wK,List.map_cons,List.flatten_cons,List.map_append] at ih ⊢;simp [ih]
 simp only [srcA,nK,h1,if_true,h2]
 simp [dK]
theorem mid_get' {lo wl hi:List Nat}{i:Nat}(h:i<wl.length):(lo++wl++hi)[lo.length+i]?=wl[i]?:=by
 grind
theorem top3 {B:Nat}{l:List Nat}{n:Nat}(hn:2≤n) (hl:l.length=n+1):val B l=((l[n]*B+l[n - 1])*B+l[n - 2])*B ^ (n - 2)+val B (l.take (n - 2)):=by
 have h1:=val_take_drop (B:=B) l (n - 2) (by omega)
 have e1:n - 2+1=n - 1:=by omega
 have e2:n - 1+1=n:=by omega
 rw [val_drop (by omega:n - 2<l.length)] at h1
 simp only [e1] at h1
 rw [val_drop (by omega:n - 1<l.length)] at h1
 simp only [e2] at h1
 rw [val_drop (by omega:n<l.length),val_drop_ge (by omega)] at h1
 grind
theorem top2 {B:Nat}{l:List Nat}{n:Nat}(hn:2≤n) (hl:l.length=n):val B l=(l[n - 1]*B+l[n - 2])*B ^ (n - 2)+val B (l.take (n - 2)):=by
 have h1:=val_take_drop (B:=B) l (n - 2) (by omega)
 have e1:n - 2+1=n - 1:=by omega
 rw [val_drop (by omega:n - 2<l.length)] at h1
 simp only [e1] at h1
 rw [val_drop (by omega:n - 1<l.length),val_drop_ge (by omega)] at h1
 grind
end Go.Am
