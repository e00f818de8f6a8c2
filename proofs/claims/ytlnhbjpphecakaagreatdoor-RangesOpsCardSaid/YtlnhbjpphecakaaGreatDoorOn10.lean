/- Helpers: an abstract machine for Go functions, and walks of functions of the program. -/
import Derived.Test.YtlnhbjpphecakaaGreatDoorOn09

set_option linter.all false
set_option maxHeartbeats 8000000
set_option maxRecDepth 100000
namespace Go.Am
open Go.Am.Ty Go.Proofs N
theorem upd_hm {lv:Key→LB}{k:Key}(h:lv k=.hole):upd lv k .hole=lv:=by
 funext j
 simp_all
def sK (l:List (List UInt8)):List CV:=l.map fun s=>CV.d (.str s)
def sB (l:List (List UInt8)):LB:=if l=[] then .hole else .cells true false 9 (sK l)
def sS (l:List (List UInt8)):AV:=if l=[] then .c (.d .nilsl) else .c (.lsl 0 0 l.length 1)
theorem sK_len (l:List (List UInt8)):(sK l).length=l.length:=by simp [sK]
theorem sK_ren (l:List (List UInt8))(g:Key→Key):(sK l).map (CV.ren g)=sK l:=by
 unfold sK;rw [List.map_map];rfl
theorem sB_snoc (l:List (List UInt8))(x:List UInt8):sB (l++[x])=.cells true false 9 (sK l++[.d (.str x)]):=by
 unfold sB;rw [if_neg (by simp)];simp [sK]
theorem sS_snoc (l:List (List UInt8))(x:List UInt8):sS (l++[x])=.c (.lsl 0 0 (l.length+1) 1):=by
 unfold sS;rw [if_neg (by simp)];simp
theorem bsS1 (lv:Key→LB)(κ:Key)(h:lv κ=.hole)(a:CV):stepBuildSlice Tryz.prog 224 1 [0] lv κ [.c a]=some (.c (.lsl κ 0 1 1),[(κ,.cells true false 9 [a])],[],True):=by
 unfold stepBuildSlice;rw [h];kernel_rfl
theorem concatT (s t:List UInt8):stepBin Tryz.prog .add 9 (.c (.d (.str s))) (.c (.d (.str t)))=some (.c (.d (.str (s++t))),[],[],s.length+t.length≤9223372036854775807):=by
 simp [stepBin,binS,binSok]
theorem ixS1 (lv:Key→LB){cs:List CV}{n i:Nat}(h:lv 0=.cells false false 9 cs) (hi:i<n):stepIndexAddr Tryz.prog 224 lv (.c (.lsl 0 0 n 1)) (.c (.d (.int .i64 (i:Int))))=some (.c (.ptr 0 i),[],[0],i<n):=by
 simp [stepIndexAddr,h]
theorem ldS1 (lv:Key→LB){cs:List CV}{i:Nat}{s:List UInt8}(h:lv 0=.cells false false 9 cs) (hs:cs[i]?=some (.d (.str s))):stepLoad Tryz.prog 9 lv (.c (.ptr 0 i))=some (.c (.d (.str s)),[],[0],True):=by
 obtain⟨hi,hs⟩:=List.getElem?_eq_some_iff.1 hs
 have hd:cs.drop i=.d (.str s)::cs.drop (i+1):=by rw [List.drop_eq_getElem_cons hi,hs]
 simp [stepLoad,h,hd]
def wJ (A j:Nat):List UInt8:=((pts A).drop j).reverse.flatten
def bdJ (w:List UInt8):LB:=if w=[] then .cells false false 232 [.d .nilp,.d .nilsl] else bdC 2 w.length
def byJ (w:List UInt8):LB:=if w=[] then .hole else byC w
theorem wJ_all (A:Nat)(h:A≠0):wJ A 0=decU A:=by unfold wJ;rw [List.drop_zero,pts_flat A h]
theorem wJ_end (A:Nat):wJ A (pts A).length=[]:=by unfold wJ;rw [List.drop_length];rfl
theorem wJ_step (A j:Nat)(h:j<(pts A).length):wJ A j=wJ A (j+1)++(pts A)[j]:=by
 unfold wJ
 rw [List.drop_eq_getElem_cons h,List.reverse_cons,List.flatten_append];simp
theorem flat_le9:∀ {l:List (List UInt8)},(∀ p∈l,p.length≤9)→l.flatten.length≤9*l.length
 | [],_=>by simp
 | p::l,h=>by
  have h1:=h p (List.mem_cons_self ..)
  have h2:=flat_le9 (l:=l) fun q hq=>h q (List.mem_cons_of_mem _ hq)
  simp only [List.flatten_cons,List.length_append,List.length_cons];omega
theorem wJ_len (A j:Nat):(wJ A j).length≤9*(pts A).length:=by
 unfold wJ
 refine Nat.le_trans (flat_le9 fun p hp=>(pts_ne A p (List.mem_of_mem_drop (List.mem_reverse.1 hp))).2) ?_
 rw [List.length_reverse,List.length_drop];omega
theorem wJ_ne (A j:Nat)(h:j<(pts A).length):wJ A j≠[]:=by
 rw [wJ_step A j h]
 have:=(pts_ne A _ (List.getElem_mem h)).1
 simp [this]
theorem ndig_nl (A:Nat):ndig A≤10*(dig 4294967296 A).length:=by
 refine dig_len_le (by decide) ?_
 rw [Nat.pow_mul]
 exact Nat.lt_of_lt_of_le (dig_lt (by decide)) (Nat.pow_le_pow_left (by decide) _)
theorem pts_count {A:Nat}(h:A≠0):(pts A).length≤10*(dig 4294967296 A).length:=by
 have h1:=flat_len (l:=(pts A).reverse) fun p hp=>(pts_ne A p (List.mem_reverse.1 hp)).1
 rw [List.length_reverse,pts_flat A h,decU_dgT h,dgT_len] at h1
 exact Nat.le_trans h1 (ndig_nl A)
theorem SimW.step {c:Ctx}{r:Option Nat}{ops:Array Oper}{o:Oper}{s:LSt}{κ:Key}{x:AV}{us:List (Key × LB)}{rds:List Key}{vc:Prop}(hd:∀ d,o.dst=some d→d<c.n) (hg:o.guard=none)
 (h:stepF c.P o.op (o.op.operands.toList.map (s.val c.G)) s.lv κ=some (x,us,rds,vc)) (hvc:vc) {s1:LSt}(h1:s1=LSt.put ⟨s.fr,updL s.lv us⟩ o.dst x):SimW c r ops o s s1:=by
 subst h1
 exact SimW.of_eff (EffOK.plain hd (by unfold wantA;rw [hg]) h hvc)
theorem allOk_hole:AllOk (fun _=>.hole):=fun _=>rfl
theorem allOk_upd {lv:Key→LB}{k:Key}{b:LB}(h:AllOk lv) (hb:b.okB=true):AllOk (upd lv k b):=by
 intro j
 unfold upd;split
 ·exact hb
 ·exact h j
theorem bdJ_ok (w:List UInt8):(bdJ w).okB=true:=by unfold bdJ;split <;> rfl
theorem byJ_ok (w:List UInt8):(byJ w).okB=true:=by unfold byJ;split <;> rfl
theorem bytesA_ren (l:List UInt8)(g:Key→Key):(bytesA l).map (CV.ren g)=bytesA l:=by
 unfold bytesA;rw [List.map_map];rfl
theorem nat_text_ok (m:Int)(o:Option (List Nat))(A:Nat)(ho:dO o=(dig 4294967296 A))(hA:(dig 4294967296 A).length≤1000000000):CallsP Tryz.prog (GG m) 119 [nK .u32 o] (.c (.d (.str (decU A)))):=by
 by_cases h0:A=0
 ·subst h0
  have hl:(dO o).length=0:=by rw [ho];rfl
  have hl':((dO o).length:Int)=0:=by omega
  have hd:decU 0=[48]:=rfl
  rw [hd]
  refine CallsP.en Go.Proofs.Tryz.func119 rfl fun _=>AW.q ?_
  refine AW.seqK fun K hK=>AW.f1 hl ?_
  refine AW.cy (AW.q ?_)
  exact AW.r0 (FinP.rt rfl 2 (by simp))
 have hne:(dig 4294967296 A)≠[]:=fun e=>h0 ((dig_nil (by decide)).1 e)
 obtain rfl:o=some (dig 4294967296 A):=by
  cases o with
  | none=>exact absurd ho.symm hne
  | some l=>exact congrArg some ho
 have hl:¬ ((dig 4294967296 A).length:Int)=0:=by
  have:=List.length_pos_iff.2 hne;omega
 have hl0:¬ (dig 4294967296 A).length=0:=by omega
 refine CallsP.en0 Go.Proofs.Tryz.func119 rfl fun _=>AW.q ?_
 refine AW.seqK fun K hK=>AW.f2 hl hl0 ?_
 refine AW.fn (by simp [hl] <;> omega) (AW.skip (hK _ _ (AW.q ?_)))
 refine AW.seqK fun K hK=>AW.block ?_
 refine AW.loopV (fun (d:Nat × List (List UInt8))=>⟨frOf [(0,nK .u32 (some (dig 4294967296 d.1))),(3,sS d.2)],upd (fun _=>.hole) 0 (sB d.2)⟩) 1
  (fun d=>d.1≤A∧d.2++(if d.1=0 then [] else pts d.1)=pts A) (fun d=>d.1) (A,[]) (Le.mk2 _ (by simp only [sB,if_true];exact (upd_hm rfl).symm) (by simp [sS])) ⟨Nat.le_refl _,by rw [if_neg h0];rfl⟩ ?_
 rintro⟨n,p⟩ hi
 obtain⟨hi,hp⟩:=hi
 try simp only at hi hp ⊢
 have hnl:(dig 4294967296 n).length≤1000000000:=Nat.le_trans (dig_len_mono (by decide) hi) hA
 refine AW.seqK fun K3 hK3=>AW.q ?_
 by_cases hn0:n=0
 rotate_left
 ·have hpos:0<(dig 4294967296 n).length:=List.length_pos_iff.2 fun e=>hn0 ((dig_nil (by decide)).1 e)
  have csm:=exact_small_ok (GG m) (some (dig 4294967296 n)) 1000000000 (by decide) (by rw [dO_some];omega)
  rw [dO_some,dig_val (by decide)] at csm
  rw [if_neg hn0] at hp
  have hpl:p.length≤10000000000:=by
   have h1:p.length+(pts n).length=(pts A).length:=by rw [← hp,List.length_append]
   have h2:=pts_count h0
   omega
  have hr:n % 1000000000<1000000000:=Nat.mod_lt _ (by decide)
  have hqn:n / 1000000000<n:=Nat.div_lt_self (by omega) (by decide)
  have hlo:=@pts_lo n
  have hhi:=@pts_hi n
  have hmm:n / 1000000000=0→n % 1000000000=n:=by omega
  generalize n / 1000000000=q at *
  generalize n % 1000000000=r at *
  have cfu:=fmtU_ok m r hr
  have w1:=wu64 (n:=(r:Int)) (by omega) (by omega)
  have hdl:=decU_len hr
  have hpad:=dec_pad hr
  have crp:=repeat_ok m (9 - (decU r).length) (by omega)
  have hsub:(9:Int) - ((decU r).length:Int)=((9 - (decU r).length:Nat):Int):=by omega
  have w2:=w64 (n:=((9 - (decU r).length:Nat):Int)) (by omega) (by omega)
  refine AW.fy (by simp [hpos] <;> omega) (AW.skip (hK3 _ _ (AW.block (AW.c0 10 csm ?_))))
  refine AW.c1 10 cfu w1 ?_
  refine AW.seqK fun K5 hK5=>AW.q ?_
  by_cases hq:q=0
  ·have hps:p++[decU r]++(if q=0 then [] else pts q)=p++pts n:=by rw [if_pos hq,hlo hq,hmm hq];simp
   have hqz:¬ 0<(dig 4294967296 q).length:=by rw [hq];decide
   refine AW.fn (by simp [hqz] <;> omega) (AW.skip (hK5 _ _ (AW.seqK fun K5 hK5=>?_)))
   by_cases hl:p=[]
   ·subst hl
    refine AW.rP ?_
    simp [sB,sS,bsS1,srcA,keyOf,-stepBuildSlice]
    repeat refine and_o ?_
    apply hK5
    refine AW.rP ?_
    simp
    exact⟨q,[]++[decU r],Le.keys [(0,11,sB ([]++[decU r]))] 19 _ rfl rfl (by simp) (by simp) (by simp) (by
     intro e he
     simp only [List.mem_cons,List.not_mem_nil,or_false] at he
     subst he
     rw [sB_snoc]
     simp [sK]) (by rw [sS_snoc];simp [kmap]),⟨by omega,by rw [← hp];exact hps⟩,by omega⟩
   ·have hzb:sB p=.cells true false 9 (sK p):=if_neg hl
    have hzs:sS p=.c (.lsl 0 0 p.length 1):=if_neg hl
    have hzl:=sK_len p
    refine AW.rP ?_
    simp [hzb,hzs,bsS1,srcA,keyOf,hzl,-stepBuildSlice]
    repeat refine and_o ?_
    apply hK5
    refine AW.rP ?_
    simp
    exact⟨q,p++[decU r],Le.keys [(0,11,sB (p++[decU r]))] 19 _ rfl rfl (by simp) (by simp) (by simp) (by
     intro e he
     simp only [List.mem_cons,List.not_mem_nil,or_false] at he
     subst he
     rw [sB_snoc]
     simp [sK_ren]) (by rw [sS_snoc];simp [kmap]),⟨by omega,by rw [← hp];exact hps⟩,by omega⟩
  ·have hps:p++[dgT 9 r]++(if q=0 then [] else pts q)=p++pts n:=by rw [if_neg hq,hhi hq];simp
   have hqz:0<(dig 4294967296 q).length:=List.length_pos_iff.2 fun e=>hq ((dig_nil (by decide)).1 e)
   refine AW.fy (by simp [hqz] <;> omega) (AW.rP ?_)
   simp [hsub,w2]
   refine CallDo.p 10 9 crp ?_
   simp [concatT,hpad]
   repeat refine and_o ?_
   apply hK5
   refine AW.seqK fun K5 hK5=>?_
   by_cases hl:p=[]
   ·subst hl
    refine AW.rP ?_
    simp [sB,sS,bsS1,srcA,keyOf,-stepBuildSlice]
    repeat refine and_o ?_
    apply hK5
    refine AW.rP ?_
    simp
    exact⟨q,[]++[dgT 9 r],Le.keys [(0,11,sB ([]++[dgT 9 r]))] 19 _ rfl rfl (by simp) (by simp) (by simp) (by
     intro e he
     simp only [List.mem_cons,List.not_mem_nil,or_false] at he
     subst he
     rw [sB_snoc]
     simp [sK]) (by rw [sS_snoc];simp [kmap]),⟨by omega,by rw [← hp];exact hps⟩,by omega⟩
   ·have hzb:sB p=.cells true false 9 (sK p):=if_neg hl
    have hzs:sS p=.c (.lsl 0 0 p.length 1):=if_neg hl
    have hzl:=sK_len p
    refine AW.rP ?_
    simp [hzb,hzs,bsS1,srcA,keyOf,hzl,-stepBuildSlice]
    repeat refine and_o ?_
    apply hK5
    refine AW.rP ?_
    simp
    exact⟨q,p++[dgT 9 r],Le.keys [(0,11,sB (p++[dgT 9 r]))] 19 _ rfl rfl (by simp) (by simp) (by simp) (by
     intro e he
     simp only [List.mem_cons,List.not_mem_nil,or_false] at he
     subst he
     rw [sB_snoc]
     simp [sK_ren]) (by rw [sS_snoc];simp [kmap]),⟨by omega,by rw [← hp];exact hps⟩,by omega⟩
 subst hn0
 have hpe:p=pts A:=by rw [← hp];simp
 have hpn:p≠[]:=by rw [hpe];exact pts_nil A
 have hzb:sB p=.cells true false 9 (sK p):=if_neg hpn
 have hzs:sS p=.c (.lsl 0 0 p.length 1):=if_neg hpn
 rw [hzb,hzs,hpe]
 have hplen:(pts A).length≤10000000000:=Nat.le_trans (pts_count h0) (by omega)
 have w1:=w64 (n:=((pts A).length:Int) - 1) (by omega) (by omega)
 refine AW.cn (AW.exit (hK _ _ (AW.q ?_)))
 refine AW.seqK fun K hK=>AW.f1 w1 ?_
 refine AW.block ?_
 refine AW.loopV (fun (j:Nat)=>⟨frOf [(3,.c (.lsl 0 0 (pts A).length 1)),(7,.c (.ptr 1 0)),(8,.c (.d (.int .i64 ((j:Int) - 1))))],upd (upd (upd (fun _=>.hole) 0 (.cells false false 9 (sK (pts A)))) 1 (bdJ (wJ A j))) 2 (byJ (wJ A j))⟩) 3
  (fun j=>j≤(pts A).length) (fun j=>j) (pts A).length ?_ (Nat.le_refl _) ?_
 ·rw [wJ_end]
  simp only [bdJ,byJ,if_true]
  exact Le.keys [(0,0,.cells false false 9 (sK (pts A))),(1,1,.cells false false 232 [.d .nilp,.d .nilsl])] 19 _ (upd_hm rfl) rfl (by simp) (by simp) (by simp) (by
   intro e he
   simp only [List.mem_cons,List.not_mem_nil,or_false] at he
   rcases he with rfl|rfl
   ·simp [sK_ren]
   ·simp [CV.ren]) (by simp [kmap])
 rintro j hj
 try simp only at hj
 refine AW.seqK fun K4 hK4=>AW.q ?_
 cases j with
 | zero=>
  refine AW.cn (AW.exit (hK _ _ (AW.seqK fun K hK=>?_)))
  have hne:wJ A 0≠[]:=wJ_ne A 0 (List.length_pos_iff.2 (pts_nil A))
  have hlim:(wJ A 0).length≤100000000000:=Nat.le_trans (wJ_len A 0) (by omega)
  have hb:bdJ (wJ A 0)=bdC 2 (wJ A 0).length:=if_neg hne
  have hy:byJ (wJ A 0)=byC (wJ A 0):=if_neg hne
  have hd:=wJ_all A h0
  obtain⟨L,hL⟩:∃ L,L=upd (upd (upd (fun _=>LB.hole) 0 (.cells false false 9 (sK (pts A)))) 1 (bdJ (wJ A 0))) 2 (byJ (wJ A 0)):=⟨_,rfl⟩
  have hL1:L 1=bdC 2 (wJ A 0).length:=by rw [hL,← hb];rfl
  have hL2:L 2=byC (wJ A 0):=by rw [hL,← hy];rfl
  have hLk:AllOk L:=by rw [hL];exact allOk_upd (allOk_upd (allOk_upd allOk_hole rfl) (bdJ_ok _)) (byJ_ok _)
  rw [← hL]
  have hcall:=bs_ok m L (wJ A 0) hL1 hL2 hlim hne
  refine AW.regionS' ⟨_,⟨_,SimW.callG (f:=181) (fs:=[]) (cs:=[]) (by intro d hd;cases hd;show (_:Nat)<50;decide) rfl rfl rfl (by simp) (by exact hLk) (by exact hcall),_,SimW.step (x:=.c (.d (.str (wJ A 0)))) (us:=[]) (rds:=[]) (vc:=True) (κ:=19) (by intro d hd;cases hd;show (_:Nat)<50;decide) rfl rfl trivial rfl,rfl⟩,?_⟩
  refine hK _ _ ?_
  rw [← hd]
  exact AW.ret (κ:=0) (FinP.tmp rfl 19 (by simp) rfl (by simp [hL]) rfl)
 | succ i=>
  have e1:((i+1:Nat):Int) - 1=(i:Int):=by omega
  have hi:i<(pts A).length:=hj
  have hi0:(0:Int)≤(i:Int):=by omega
  have hw:=wJ_step A i hi
  have hpn:=pts_ne A _ (List.getElem_mem hi)
  have hsk:(sK (pts A))[i]?=some (.d (.str (pts A)[i])):=by unfold sK;rw [List.getElem?_map,List.getElem?_eq_getElem hi];rfl
  rw [e1]
  refine AW.fy (by simp [hi0] <;> omega) (AW.skip (hK4 _ _ (AW.seqK fun K6 hK6=>AW.block ?_)))
  have hlim:(wJ A (i+1)).length+(pts A)[i].length≤100000000000:=by
   have h1:=wJ_len A i
   rw [hw,List.length_append] at h1
   omega
  have w3:=w64 (n:=(i:Int) - 1) (by omega) (by omega)
  obtain⟨L,hL⟩:∃ L,L=upd (upd (upd (fun _=>LB.hole) 0 (.cells false false 9 (sK (pts A)))) 1 (bdJ (wJ A (i+1)))) 2 (byJ (wJ A (i+1))):=⟨_,rfl⟩
  have hL0:L 0=.cells false false 9 (sK (pts A)):=by rw [hL];rfl
  have hL1:L 1=bdJ (wJ A (i+1)):=by rw [hL];rfl
  have hL2:L 2=byJ (wJ A (i+1)):=by rw [hL];rfl
  have hLk:AllOk L:=by rw [hL];exact allOk_upd (allOk_upd (allOk_upd allOk_hole rfl) (bdJ_ok _)) (byJ_ok _)
  rw [← hL]
  by_cases hwe:wJ A (i+1)=[]
  ·have hb:bdJ (wJ A (i+1))=.cells false false 232 [.d .nilp,.d .nilsl]:=if_pos hwe
   have hy:byJ (wJ A (i+1))=.hole:=if_pos hwe
   rw [hb] at hL1
   rw [hy] at hL2
   have hcall:=ws_first m L (pts A)[i] hLk hL1 hL2 (by omega) hpn.1
   rw [hwe,List.nil_append] at hw
   refine AW.regionS' ⟨_,⟨_,SimW.step (κ:=19) (x:=.c (.lsl 0 0 (pts A).length 1)) (us:=[]) (rds:=[]) (vc:=True) (by intro d hd;cases hd;show (_:Nat)<50;decide) rfl rfl trivial rfl,_,SimW.step (κ:=19) (x:=.c (.d (.int .i64 (i:Int)))) (us:=[]) (rds:=[]) (vc:=True) (by intro d hd;cases hd;show (_:Nat)<50;decide) rfl rfl trivial rfl,
    _,SimW.step (κ:=19) (x:=.c (.ptr 0 i)) (us:=[]) (rds:=[0]) (vc:=i<(pts A).length) (by intro d hd;cases hd;show (_:Nat)<50;decide) rfl (by exact ixS1 L hL0 hi) hi rfl,_,SimW.step (κ:=19) (x:=.c (.d (.str (pts A)[i]))) (us:=[]) (rds:=[0]) (vc:=True) (by intro d hd;cases hd;show (_:Nat)<50;decide) rfl (by exact ldS1 L hL0 hsk) trivial rfl,
    _,SimW.callG (f:=180) (fs:=[]) (cs:=[]) (by intro d hd;cases hd;show (_:Nat)<50;decide) rfl rfl rfl (by simp) (by exact hLk) (by exact hcall),rfl⟩,?_⟩
   refine hK6 _ _ ?_
   refine AW.rP ?_
   simp [w3]
   have hb':bdJ (wJ A i)=bdC 2 (pts A)[i].length:=by unfold bdJ;rw [hw,if_neg hpn.1]
   have hy':byJ (wJ A i)=byC (pts A)[i]:=by unfold byJ;rw [hw,if_neg hpn.1]
   exact⟨i,Le.keys [(0,0,.cells false false 9 (sK (pts A))),(1,1,bdC 2 (pts A)[i].length),(2,2,byC (pts A)[i])] 19 _ (by rw [hb',hy'];rfl) rfl (by simp) (by simp) (by simp [hL]) (by
    intro e he
    simp only [List.mem_cons,List.not_mem_nil,or_false] at he
    rcases he with rfl|rfl|rfl
    ·simp [hL0,sK_ren]
    ·simp [bdC,kmap,CV.ren]
    ·simp [byC,bytesA_ren]) (by simp [kmap]),by omega,by omega⟩
  ·have hb:bdJ (wJ A (i+1))=bdC 2 (wJ A (i+1)).length:=if_neg hwe
   have hy:byJ (wJ A (i+1))=byC (wJ A (i+1)):=if_neg hwe
   rw [hb] at hL1
   rw [hy] at hL2
   have hL3:L 3=.hole:=by rw [hL];rfl
   have hcall:=ws_used m L (wJ A (i+1)) (pts A)[i] hLk hL1 hL2 hL3 hlim
   refine AW.regionS' ⟨_,⟨_,SimW.step (κ:=19) (x:=.c (.lsl 0 0 (pts A).length 1)) (us:=[]) (rds:=[]) (vc:=True) (by intro d hd;cases hd;show (_:Nat)<50;decide) rfl rfl trivial rfl,_,SimW.step (κ:=19) (x:=.c (.d (.int .i64 (i:Int)))) (us:=[]) (rds:=[]) (vc:=True) (by intro d hd;cases hd;show (_:Nat)<50;decide) rfl rfl trivial rfl,
    _,SimW.step (κ:=19) (x:=.c (.ptr 0 i)) (us:=[]) (rds:=[0]) (vc:=i<(pts A).length) (by intro d hd;cases hd;show (_:Nat)<50;decide) rfl (by exact ixS1 L hL0 hi) hi rfl,_,SimW.step (κ:=19) (x:=.c (.d (.str (pts A)[i]))) (us:=[]) (rds:=[0]) (vc:=True) (by intro d hd;cases hd;show (_:Nat)<50;decide) rfl (by exact ldS1 L hL0 hsk) trivial rfl,
    _,SimW.callG (f:=180) (fs:=[]) (cs:=[]) (by intro d hd;cases hd;show (_:Nat)<50;decide) rfl rfl rfl (by simp) (by exact hLk) (by exact hcall),rfl⟩,?_⟩
   refine hK6 _ _ ?_
   refine AW.rP ?_
   simp [w3]
   have hne:¬ wJ A i=[]:=wJ_ne A i hi
   have hb':bdJ (wJ A i)=bdC 2 ((wJ A (i+1)).length+(pts A)[i].length):=by unfold bdJ;rw [if_neg hne,hw,List.length_append]
   have hy':byJ (wJ A i)=byC (wJ A (i+1)++(pts A)[i]):=by unfold byJ;rw [if_neg hne,hw]
   exact⟨i,Le.keys [(0,0,.cells false false 9 (sK (pts A))),(1,1,bdC 2 ((wJ A (i+1)).length+(pts A)[i].length)),(2,3,byC (wJ A (i+1)++(pts A)[i]))] 19 _ (by rw [hb',hy'];rfl) rfl (by simp) (by simp) (by simp [hL]) (by
    intro e he
    simp only [List.mem_cons,List.not_mem_nil,or_false] at he
    rcases he with rfl|rfl|rfl
    ·simp [hL0,sK_ren]
    ·simp [bdC,kmap,CV.ren]
    ·simp [byC,bytesA_ren]) (by simp [kmap]),by omega,by omega⟩
theorem neqNilQ (q:Option (List Nat)):stepBin Tryz.prog .neq 28 (.c (nC q)) (.c (.d .nilsl))=some (.c (.d (.bool q.isSome)),[],[],True):=by
 cases q with
 | none=>kernel_rfl
 | some l=>exact (show ∀ es,stepBin Tryz.prog .neq 28 (.c (.d (.sl es))) (.c (.d .nilsl))=some (.c (.d (.bool true)),[],[],True) from fun es=>by kernel_rfl) _
theorem natT (m:Int)(A:Nat)(h:(dig 4294967296 A).length≤1000000000):CallsP Tryz.prog (GG m) 119 [.c (nC (natO A))] (.c (.d (.str (decU A)))):=by
 rw [← nK_nC];exact nat_text_ok m _ A (natO_d A) h
theorem denT (m:Int)(A:Nat)(h:(dig 4294967296 A).length≤1000000000)(h1:A≠1):CallsP Tryz.prog (GG m) 119 [.c (nC (denO A))] (.c (.d (.str (decU A)))):=by
 rw [← nK_nC];exact nat_text_ok m _ A (by unfold denO;rw [if_neg h1];rfl) h
def ratU (x:Rat):List UInt8:=(if x.num<0 then [45] else [])++decU x.num.natAbs++(if x.den=1 then [] else [47]++decU x.den)
theorem decU_len2 (A:Nat):(decU A).length≤10*(dig 4294967296 A).length+1:=by
 by_cases h:A=0
 ·subst h;decide
 ·rw [decU_dgT h,dgT_len];have:=ndig_nl A;omega
theorem num_Text (m:Int)(x:Rat)(hx:szR x 1000000000):CallsP Tryz.prog (GG m) 53 [ratV x] (.c (.d (.str (ratU x)))):=by
 have c1:=natT m x.num.natAbs hx.1
 have l1:=decU_len2 x.num.natAbs
 have l2:=decU_len2 x.den
 have hx1:(dig 4294967296 x.num.natAbs).length≤1000000000:=hx.1
 have hx2:(dig 4294967296 x.den).length≤1000000000:=hx.2
 have cat:=concatT
 by_cases hd:x.den=1
 ·have e:ratU x=(if x.num<0 then [45] else [])++decU x.num.natAbs:=by unfold ratU;rw [if_pos hd,List.append_nil]
  have hdn:denO x.den=none:=by unfold denO;rw [if_pos hd]
  rw [e]
  show CallsP Tryz.prog (GG m) 53 [.agg [.d (.bool (decide (x.num<0))),nC (natO x.num.natAbs),nC (denO x.den)]] _
  rw [hdn]
  by_cases hn:x.num<0
  ·rw [if_pos hn]
   generalize decU x.num.natAbs=s at *
   refine CallsP.en Go.Proofs.Tryz.func53 rfl fun _=>AW.q ?_
   refine AW.c0 2 c1 ?_
   refine AW.seqK fun K hK=>AW.q ?_
   refine AW.fy (by simp [hn] <;> omega) (AW.l1 cat (hK _ _ ?_))
   refine AW.seqK fun K hK=>AW.f1 @neqNilQ ?_
   refine AW.cn (AW.skip (hK _ _ (AW.q ?_)))
   exact AW.r0 (FinP.rt (t:=2) rfl 9 (by simp))
  ·rw [if_neg hn]
   generalize decU x.num.natAbs=s at *
   refine CallsP.en Go.Proofs.Tryz.func53 rfl fun _=>AW.q ?_
   refine AW.c0 2 c1 ?_
   refine AW.seqK fun K hK=>AW.q ?_
   refine AW.fn (by simp [hn] <;> omega) (AW.skip (hK _ _ (AW.seqK fun K hK=>AW.f1 @neqNilQ ?_)))
   refine AW.cn (AW.skip (hK _ _ (AW.q ?_)))
   exact AW.r0 (FinP.rt (t:=2) rfl 9 (by simp))
 ·have e:ratU x=(if x.num<0 then [45] else [])++decU x.num.natAbs++([47]++decU x.den):=by unfold ratU;rw [if_neg hd]
  have c2:=denT m x.den hx.2 hd
  have hdn:(denO x.den).isSome=true:=by unfold denO;rw [if_neg hd];rfl
  rw [e]
  show CallsP Tryz.prog (GG m) 53 [.agg [.d (.bool (decide (x.num<0))),nC (natO x.num.natAbs),nC (denO x.den)]] _
  generalize denO x.den=q at *
  by_cases hn:x.num<0
  ·rw [if_pos hn]
   generalize decU x.num.natAbs=s at *
   generalize decU x.den=t at *
   refine CallsP.en Go.Proofs.Tryz.func53 rfl fun _=>AW.q ?_
   refine AW.c0 2 c1 ?_
   refine AW.seqK fun K hK=>AW.q ?_
   refine AW.fy (by simp [hn] <;> omega) (AW.l1 cat (hK _ _ ?_))
   refine AW.seqK fun K hK=>AW.f2 @neqNilQ hdn ?_
   refine AW.cy (AW.m1 3 c2 cat (hK _ _ ?_))
   refine AW.q ?_
   exact AW.r0 (FinP.rt (t:=2) rfl 9 (by simp))
  ·rw [if_neg hn]
   generalize decU x.num.natAbs=s at *
   generalize decU x.den=t at *
   refine CallsP.en Go.Proofs.Tryz.func53 rfl fun _=>AW.q ?_
   refine AW.c0 2 c1 ?_
   refine AW.seqK fun K hK=>AW.q ?_
   refine AW.fn (by simp [hn] <;> omega) (AW.skip (hK _ _ (AW.seqK fun K hK=>AW.f2 @neqNilQ hdn ?_)))
   refine AW.cy (AW.m1 3 c2 cat (hK _ _ ?_))
   refine AW.q ?_
   exact AW.r0 (FinP.rt (t:=2) rfl 9 (by simp))
theorem dgT_one (n:Nat)(h:n<10):dgT 1 n=[dgU n]:=by
 show [UInt8.ofNat (48+n % 10)]=_
 rw [Nat.mod_eq_of_lt h];rfl
theorem decU_S (n:Nat):decU n=decS n:=by
 induction n using Nat.strongRecOn with
 | _ n ih=>
  by_cases h0:n=0
  ·subst h0;decide
  by_cases h10:n<10
  ·rw [decS_lt h10,decU_dgT h0,ndig_step h0,Nat.div_eq_of_lt h10]
   exact dgT_one n h10
  ·have hq:n / 10≠0:=by omega
   rw [decS_ge h10,← ih (n / 10) (by omega),decU_dgT h0,decU_dgT hq,ndig_step h0]
   have:=dgT_add (ndig (n / 10)) 1 n
   rw [Nat.pow_one] at this
   rw [this]
   rfl
theorem ratU_S (x:Rat):ratU x=ratS x:=by unfold ratU ratS;simp only [decU_S]
theorem eqSpT (s t s' t':List UInt8):eqT Tryz.prog 20 24 (.agg [.d (.str s),.d (.str t)]) (.agg [.d (.str s'),.d (.str t')])=some ((s == s') && ((t == t') && true)):=by kernel_rfl
theorem eqSp (s t:List UInt8):stepBin Tryz.prog .eql 24 (.agg [.d (.str s),.d (.str t)]) (.agg [.d (.str s),.d (.str t)])=some (.c (.d (.bool true)),[],[],True):=by
 simp [stepBin,eqSpT,eqable]
theorem bSp (a b:List UInt8):buildA Tryz.prog 24 [0,1] [.c (.d (.str a)),.c (.d (.str b))]=some (.agg [.d (.str a),.d (.str b)],[],[],True):=by kernel_rfl
theorem eqRat (s:List UInt8):stepBin Tryz.prog .eql 22 (.c (.d (.str s))) (.c (.d (.str s)))=some (.c (.d (.bool true)),[],[],True):=by
 simp [stepBin,binS,binSok]
theorem szE {x:Rat}(h:szR x 300):szR x 1000000000:=szR_mono h (by decide)
theorem loadSp (a b:CV):loadA Tryz.prog 24 [a,b]=some (.agg [a,b]):=by kernel_rfl
theorem span_ok (m:Int)(a:Iv)(h:a.z):CallsP Tryz.prog (GG m) 82 [ivV a] (.agg [.d (.str (ratU a.1)),.d (.str (ratU a.2))]):=by
 have c1:=num_Text m a.1 (szE h.1)
 have c2:=num_Text m a.2 (szE h.2)
 obtain⟨a1,a2⟩:=a
 simp only at c1 c2
 generalize ratU a1=s at *
 generalize ratU a2=t at *
 refine CallsP.enc Go.Proofs.Tryz.func82 rfl (fun lv=>rfl) fun _=>AW.q ?_
 refine AW.seqK fun K hK=>?_
 refine AW.drawP mixed (by kernel_rfl) rfl ?_
 simp [setSeg]
 refine CallDo.p 10 9 c1 ?_
 simp [setSeg]
 refine CallDo.p 10 9 c2 ?_
 simp [bSp,setSeg]
 refine⟨by kernel_rfl,?_⟩
 repeat refine and_o ?_
 apply hK
 refine AW.ret (FinC.cell (κ:=0) (T:=24) (t:=2) (k:=1) (off:=0) (own:=true) (fz:=false) (U:=24) (cs:=[.d (.str s),.d (.str t)]) rfl (by simp) (by simp [setSeg]) ?_)
 rw [List.drop_zero];exact loadSp _ _
theorem told0_ok (m:Int):CallsP Tryz.prog (GG m) 27 [ivV (0,0),.c (.d (.str [48])),.c (.d (.str [48]))] (.c (.d (.bool true))):=by
 have c1:=span_ok m (0,0) ⟨szR_zero _ (by decide),szR_zero _ (by decide)⟩
 have hu:ratU 0=[48]:=by decide
 simp only [hu] at c1
 refine CallsP.en Go.Proofs.Tryz.func27 rfl fun _=>AW.q ?_
 refine AW.c2 10 c1 @bSp @eqSp ?_
 exact AW.r0 (FinP.rt rfl 6 (by simp))
end Go.Am
namespace Go.Am
open Go.Proofs N
abbrev txA (k:Nat):AV:=.c (.d (.sl [[.int .u32 (.ofNat k)]]))
theorem text_dig (m:Int)(k:Nat)(h1:1≤k)(h2:k≤9):CallsP Tryz.prog (GG m) 119 [txA k] (.c (.d (.str [UInt8.ofNat (48+k)]))):=by
 have h:k=1∨k=2∨k=3∨k=4∨k=5∨k=6∨k=7∨k=8∨k=9:=by omega
 rcases h with rfl|rfl|rfl|rfl|rfl|rfl|rfl|rfl|rfl <;> exact CallsP.of_ev (evX_ok m 40) (by kernel_rfl)
theorem text_nil (m:Int):CallsP Tryz.prog (GG m) 119 [.c (.d .nilsl)] (.c (.d (.str [48]))):=CallsP.of_ev (evX_ok m 40) (by kernel_rfl)
def gText:List AV→Option AV
 | [.c (.d .nilsl)]=>some (.c (.d (.str [48])))
 | [.c (.d (.sl [[.int .u32 (.ofNat k)]]))]=>bif Nat.ble 1 k && Nat.ble k 9 then some (.c (.d (.str [UInt8.ofNat (48+k)]))) else none
 | _=>none
theorem gText_ok (m:Int){us:List AV}{x:AV}(h:gText us=some x) (lv:Key→LB):CallG Tryz.prog (GG m) 119 us lv (.ret x lv):=by
 unfold gText at h
 split at h
 ·cases h
  exact CallG.of_CallsP (fun u hu=>by simp only [List.mem_cons,List.not_mem_nil,or_false] at hu;subst hu;rfl) rfl (text_nil m)
 ·rename_i k
  cases hb:Nat.ble 1 k && Nat.ble k 9 with
  | false=>rw [hb] at h;cases h
  | true=>
   rw [hb] at h;cases h
   simp only [Bool.and_eq_true] at hb
   exact CallG.of_CallsP (fun u hu=>by simp only [List.mem_cons,List.not_mem_nil,or_false] at hu;subst hu;rfl) rfl (text_dig m k (Nat.le_of_ble_eq_true hb.1) (Nat.le_of_ble_eq_true hb.2))
 ·cases h
def gPar:List AV→Option AV
 | [.c (.d (.str s))]=>some (.tup [ratV (ratP s),iA (ratE s)])
 | _=>none
theorem gPar_ok (m:Int){us:List AV}{x:AV}(h:gPar us=some x) (lv:Key→LB):CallG Tryz.prog (GG m) 32 us lv (.ret x lv):=by
 unfold gPar at h
 split at h
 ·rename_i s
  cases h
  exact CallG.of_CallsP (fun u hu=>by simp only [List.mem_cons,List.not_mem_nil,or_false] at hu;subst hu;rfl) (tupR_pure _ _) (rat_Parse m s)
 ·cases h
noncomputable def spY:Tb Spec:=setS 119 (.pure (gF gText)) (setS 32 (.pure (gF gPar)) spX)
theorem evY_ok (m:Int)(n:Nat):CallOK Tryz.prog (GG m) (evK Tryz.prog (GG m) spY 0 n):=evK_ok mixed (((spX_ok m).f _ _ (gPar_ok m)).f _ _ (gText_ok m)) n
end Go.Am
