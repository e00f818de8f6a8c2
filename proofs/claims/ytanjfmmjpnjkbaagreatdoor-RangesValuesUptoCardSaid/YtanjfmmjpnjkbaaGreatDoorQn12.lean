/- Helpers: an abstract machine for Go functions, and walks of functions of the program. -/
import Derived.Test.YtanjfmmjpnjkbaaGreatDoorQn11

set_option linter.all false
set_option maxHeartbeats 8000000
set_option maxRecDepth 100000
namespace Go.Am
open Go.Am.Ty Go.Proofs N
def qF (f:Sq):Nat→LB
 | 0=>.hole
 | n+1=>.cells true true 27 (qK f (n+1))
theorem nuO_range (f:Sq){n:Nat}(h:n≠0):AV.c (scC (nuO ((List.range n).map f)))=numsA ((List.range n).map f):=by
 unfold nuO;rw [if_neg (by simp [h])];rfl
theorem CallDo.atQ {c0:Ctx}{fid:FuncId}{lv:Key→LB}{K:AV→List (Key × LB)→List Key→Nat→Prop}{X a:AV}(κ':Nat) (kb:Key) (f:Sq) (N:Nat) (ha:a.pure=true) (hc:CallsP c0.P c0.G fid [a,.c (scC (nuO ((List.range N).map f)))] X) (hX:X.pure=true) (hN:N≤1000000000000)
 (hk:lv kb=qB f N) (hh:lv 9=.hole) (hkb:(9:Key)≠kb) (hK:∀ eff rds,updL lv eff=upd lv kb (qF f N)→K X eff rds κ'):CallDo c0 fid [a,qS kb N] lv K:=by
 cases N with
 | zero=>
  refine CallDo.pure κ' 9 hc hX (fun b hb=>?_) hh (hK _ _ ?_)
  ·simp only [List.mem_cons,List.not_mem_nil,or_false] at hb
   rcases hb with rfl|rfl
   ·exact ha
   ·rfl
  ·exact (upd_hl hk).symm
 | succ n=>
  rw [nuO_range f (Nat.succ_ne_zero n)] at hc
  have hd:dArg (upd lv kb (.cells true true 27 (qK f (n+1)))) (.c (.lsl kb 0 (n+1) 3))=some (numsA ((List.range (n+1)).map f),[kb]):=by
   have:=dRes_qK (lv:=upd lv kb (.cells true true 27 (qK f (n+1)))) (k:=kb) (own:=true) (fz:=true) (T:=27) (c:=f) (M:=n+1) (upd_same _ _ _) (by omega)
   exact this
  refine CallDo.frz κ' 9 kb 27 (qK f (n+1)) [9] hc hX hk hh hkb rfl (fun i p q=>?_) (fun b hb j hj=>?_) (by simp) (hK _ _ rfl)
  ·match i,p,q with
   | 0,_,_=>exact .inl ⟨ha,rfl⟩
   | 1,_,_=>exact .inr hd
  ·simp only [List.mem_cons,List.not_mem_nil,or_false] at hb
   rcases hb with rfl|rfl
   ·rw [rdA_pure ha] at hj;cases hj
   ·have hj:j∈rdK (upd lv kb (.cells true true 27 (qK f (n+1)))) 8 (.lsl kb 0 (n+1) 3):=hj
    simp only [rdK,upd_same,rdK_qc,List.mem_cons,List.not_mem_nil,or_false] at hj
    exact .inr hj
theorem CallDo.nums {c0:Ctx}{fid:FuncId}{lv:Key→LB}{K:AV→List (Key × LB)→List Key→Nat→Prop}{a:AV}(κ':Nat) (f:Sq) (n:Nat) (ok:Bool) (ha:a.pure=true) (hc:CallsS c0.P c0.G fid [a] [] (.ret (.tup [qS 1000 n,rqS 1001 n,.c (.d (.bool ok))]) [] (nB2 f n)))
 (h0:lv 50=.hole) (h1:lv 51=.hole) (hh:lv 9=.hole) (hK:∀ eff rds,updL lv eff=upd (upd lv 50 (qB f n)) 51 (rqB f n)→K (.tup [qS 50 n,rqS 51 n,.c (.d (.bool ok))]) eff rds κ'):CallDo c0 fid [a] lv K:=by
 have hx:∀ b∈[a],b.pure=true:=fun b hb=>by rw [List.mem_singleton.1 hb];exact ha
 cases n with
 | zero=>
  refine CallDo.newN κ' 9 [] [] hc hx (by simp) (by simp) rfl (by simp) hh (by simp) ?_
  refine hK _ _ ?_
  rw [show qB f 0=.hole from rfl,show rqB f 0=.hole from rfl,upd_hl h0,upd_hl h1];rfl
 | succ n=>
  refine CallDo.newN κ' 9 [50,51] [.cells true false 27 (qK f (n+1)),.cells true false 55 (rqK f (n+1))] hc hx (by simp) (by simp) rfl (by intro k hk;simp only [List.mem_cons,List.not_mem_nil,or_false] at hk;rcases hk with rfl|rfl;exact h0;exact h1) hh (by simp) ?_
  have e:backW (keyMap [] [50,51] 9) true [50,51] [.cells true false 27 (qK f (n+1)),.cells true false 55 (rqK f (n+1))]=[(50,.cells true false 27 (qK f (n+1))),(51,.cells true false 55 (rqK f (n+1)))]:=by
   simp [backW,LB.fix,qK_ren,rqK_ren]
  rw [e]
  exact hK _ _ rfl
def clip (a:Iv)(x:Rat):Rat:=minR (maxR x a.1) a.2
theorem clip_in {a:Iv}(h:a.1≤a.2) (x:Rat):a.1≤clip a x∧clip a x≤a.2:=by
 unfold clip minR maxR
 constructor
 ·split <;> split <;> grind
 ·split <;> split <;> grind
def clS (is:List Iv)(f:Sq)(i:Nat):Sq:=fun k=>if k<i then clip (is.getD k (0,0)) (f k) else f k
theorem clS_zero (is:List Iv)(f:Sq):clS is f 0=f:=by funext k;exact if_neg (by omega)
theorem clS_at (is:List Iv)(f:Sq)(i:Nat):clS is f i i=f i:=if_neg (by omega)
theorem clS_step (is:List Iv)(f:Sq)(i:Nat):(fun k=>if k=i then clip (is.getD i (0,0)) (f i) else clS is f i k)=clS is f (i+1):=by
 funext k
 unfold clS
 by_cases e:k=i
 ·subst e;rw [if_pos rfl,if_pos (by omega)]
 ·rw [if_neg e]
  by_cases h:k<i
  ·rw [if_pos h,if_pos (by omega)]
  ·rw [if_neg h,if_neg (by omega)]
theorem ext0 (k j:Key)(n i:Nat)(x:AV):extA 0 (.tup [qS k n,rqS j i,x])=some (qS k n,[],[],True):=by cases n <;> rfl
theorem ext1 (k j:Key)(n i:Nat)(x:AV):extA 1 (.tup [qS k n,rqS j i,x])=some (rqS j i,[],[],True):=by cases i <;> rfl
theorem qB_like (f:Sq)(n:Nat)(g:Key→Key):(qB f n).like (qB f n) g:=by
 cases n with
 | zero=>rfl
 | succ n=>exact LB.like_cells.2 ⟨rfl,rfl,(qK_ren f (n+1) g).symm,id⟩
theorem lpQ (f:Sq)(n:Nat)(hn:n≤1048576):∃ rds,∀ lv:Key→LB,lv 50=qB f n→lenP Tryz.prog 48 lv (qS 50 n)=some (.c (.d (.int .i64 (n:Int))),[],rds,True):=by
 cases n with
 | zero=>exact⟨[],fun lv _=>by simp [qS,lenP,lenA,keyOf]⟩
 | succ n=>exact⟨[50],fun lv h=>by simp [qS,lenP,lenA,keyOf,h,qB];omega⟩
theorem atS_sz {xs:List Rat}{l:List Tm}{n:Nat}(hz:∀ x∈xs,szR x 300) (hok:∀ t∈l,TmOK n t):∀ i,i≤l.length→szR (atS xs l i) (1+5201*i)
 | 0,_=>by rw [atS_zero];exact szR_zero' _ (by decide)
 | i+1,h=>by
  rw [atS_succ xs (show i<l.length by omega)]
  have h1:=atS_sz hz hok i (by omega)
  have hto:=hok _ (List.getElem_mem (show i<l.length by omega))
  have hc0:szR (tmT (l[i]'(by omega))).1 (300+301*0):=ratP_sz _
  have h2:=szR_atP (ks:=(tmT (l[i]'(by omega))).2) hz hc0
  have hs:=hto.sum
  exact szR_mono (szR_add' h1 h2) (by omega)
theorem atV_sz {xs:List Rat}{l:List Tm}{n:Nat}(hz:∀ x∈xs,szR x 300) (hok:∀ t∈l,TmOK n t) (hl:l.length≤200):szR (atV xs (l.map tmT)) 10000000000:=by
 rw [← atS_all];exact szR_mono (atS_sz hz hok _ (Nat.le_refl _)) (by omega)
theorem bxI_get {l:List Sp}{i:Nat}(h:i<l.length):(bxI l).getD i (0,0)=ofI l[i].1 l[i].2:=by
 rw [List.getD_eq_getElem?_getD,List.getElem?_eq_getElem (by rw [bxI_len];exact h)]
 simp [bxI]
theorem bxE_of:∀ {l:List Sp}{w:Int},bxE l w=0→w=0∧∀ s∈l,ofE s.1 s.2=0
 | [],w,h=>⟨h,fun s hs=>by cases hs⟩
 | s::l,w,h=>by
  rw [bxE] at h
  by_cases h7:ofE s.1 s.2=7
  ·rw [if_pos h7] at h
   exact absurd (bxE_of h).1 (by decide)
  ·rw [if_neg h7] at h
   by_cases h0:ofE s.1 s.2=0
   ·rw [if_neg (not_not_intro h0)] at h
    obtain⟨h1,h2⟩:=bxE_of h
    refine⟨h1,fun u hu=>?_⟩
    rcases List.mem_cons.1 hu with rfl|hu
    ·exact h0
    ·exact h2 u hu
   ·rw [if_pos h0] at h;exact absurd h h0
theorem minL_sz {L:Nat}:∀ {l:List Rat}{m:Rat},(∀ x∈l,szR x L)→szR m L→szR (minL l m) L
 | [],_,_,h=>h
 | x::l,m,hl,h=>minL_sz (l:=l) (m:=minR x m) (fun y hy=>hl y (List.mem_cons_of_mem _ hy)) (szR_min (hl x (List.mem_cons_self ..)) h)
theorem maxL_sz {L:Nat}:∀ {l:List Rat}{m:Rat},(∀ x∈l,szR x L)→szR m L→szR (maxL l m) L
 | [],_,_,h=>h
 | x::l,m,hl,h=>maxL_sz (l:=l) (m:=maxR m x) (fun y hy=>hl y (List.mem_cons_of_mem _ hy)) (szR_max h (hl x (List.mem_cons_self ..)))
theorem ldNumD (lv:Key→LB)(y:Rat):stepLoad Tryz.prog 27 lv (.c (.d (.ptr (numD y))))=some (ratV y,[],[],True):=by
 simp [stepLoad,numD,nD_C]
theorem AW.nm {c:Ctx}{r:Option Nat}{x:Code}{fr:Nat→AV}{lv:Key→LB}{κ:Nat}{Q:Ex→LSt→Nat→Prop}(h:∀ lv',lv'=lv→AW c r x ⟨fr,lv'⟩ κ Q):AW c r x ⟨fr,lv⟩ κ Q:=h _ rfl
theorem values_m (m:Int)(z:Ev)(bt:Option (List Tm))(b:Option (List Sp))(f:Sq)(A:Iv)(C:DV)(hl:(tmL bt).length≤9223372036854775807)(hw:∀ t∈tmL bt,(pwL t.2).length≤9223372036854775807)(hb:(bxL b).length≤1048576)
 (hE:cfE (tmL bt) (bxL b)=0) (hA:bnR (tmL bt) (bxL b)=A) (hC:AV.c (.d C)=numsA (cfL ((tmL bt).map tmT) (bxI (bxL b)))) (hf:∀ i,szR (f i) 300) :
 AW (⟨Tryz.prog,GG m,z.w,z.F,z.W,Tryz.f5.ntmps,fun _=>.hole,z.b,z.d⟩:Ctx) none (cW [1,1,1,1,1,1] Tryz.f5)
  ⟨frOf [(0,.c (scC (tmO bt))),(1,.c (scC (bxO b))),(7,qS 50 (bxL b).length),(10,.c (.ptr 60 0)),(13,.c (.d C)),(15,.c (.d .nilsl)),(16,.c (.d .nilsl))],
   upd (upd (fun _=>.hole) 50 (qB f (bxL b).length)) 60 (.cells true false 29 [.d (.bool (decide (A.1.num<0))),nC (natO A.1.num.natAbs),nC (denO A.1.den),.d (.bool (decide (A.2.num<0))),nC (natO A.2.num.natAbs),nC (denO A.2.den)])⟩ 70
  (FinP (⟨Tryz.prog,GG m,z.w,z.F,z.W,Tryz.f5.ntmps,fun _=>.hole,z.b,z.d⟩:Ctx) Tryz.f5 (.c (.d (.bool true)))):=by
 conv=>
  enter [3]
  whnf
 have ca:=awake_ok m
 obtain⟨hx0,htm,hM6⟩:=cfE_M hE
 obtain⟨ht200,htok⟩:=tmE_ok htm
 have hlb:=fun lv=>lpBx lv b
 have hib:=fun lv {i:Nat}(hi:i<(bxL b).length)=>ixBx lv b hi
 have hgi:=fun {i:Nat}(hi:i<(bxL b).length)=>bxI_get hi
 have hoE:=(bxE_of hx0).2
 have hiz:=bxI_z (bxL b)
 have hil:=bxI_len (bxL b)
 obtain⟨is,his⟩:∃ is,bxI (bxL b)=is:=⟨_,rfl⟩
 obtain⟨lo,hlo⟩:∃ lo:Sq,(fun j=>(is.getD j (0,0)).1)=lo:=⟨_,rfl⟩
 obtain⟨hi',hhi⟩:∃ hi':Sq,(fun j=>(is.getD j (0,0)).2)=hi':=⟨_,rfl⟩
 simp only [his] at hgi hiz hil
 obtain⟨N,hN⟩:∃ N,(bxL b).length=N:=⟨_,rfl⟩
 simp only [hN] at hgi hil hlb hib hb
 have hz0:=clS_zero is f
 rw [hN]
 refine AW.seqK fun K hK=>AW.q ?_
 refine AW.block ?_
 refine AW.loopV (fun (i:Nat)=>⟨frOf [(0,.c (scC (tmO bt))),(1,.c (scC (bxO b))),(7,qS 50 N),(10,.c (.ptr 60 0)),(13,.c (.d C)),(15,qS 80 i),(16,qS 81 i),(17,.c (.d (.int .i64 i)))],
  upd (upd (upd (upd (fun _=>.hole) 50 (qB (clS is f i) N)) 60 (.cells true false 29 [.d (.bool (decide (A.1.num<0))),nC (natO A.1.num.natAbs),nC (denO A.1.den),.d (.bool (decide (A.2.num<0))),nC (natO A.2.num.natAbs),nC (denO A.2.den)])) 80 (qB lo i)) 81 (qB hi' i)⟩) 85
  (fun i=>i≤N) (fun i=>N - i) 0 (Le.keys [(50,50,qB f N),(60,60,.cells true false 29 [.d (.bool (decide (A.1.num<0))),nC (natO A.1.num.natAbs),nC (denO A.1.den),.d (.bool (decide (A.2.num<0))),nC (natO A.2.num.natAbs),nC (denO A.2.den)])] 9 _ (by rw [hz0,show qB lo 0=.hole from rfl,show qB hi' 0=.hole from rfl,upd_hl rfl,upd_hl rfl];rfl) rfl (by simp) (by simp) rfl (by
   intro e he
   simp only [List.mem_cons,List.not_mem_nil,or_false] at he
   rcases he with rfl|rfl
   ·exact qB_like f N _
   ·exact LB.like_cells.2 ⟨rfl,rfl,by simp,id⟩) (by cases N <;> simp [kmap,qS])) (Nat.zero_le _) ?_
 rintro i hi
 try simp only at hi ⊢
 refine AW.seqK fun K2 hK2=>AW.seqK fun K3 hK3=>AW.rP ?_
 simp [hlb]
 repeat refine and_o ?_
 apply hK3
 by_cases hlt:i<N
 ·have hlt':(i:Int)<(N:Int):=by omega
  have hltb:i<(bxL b).length:=by omega
  have hx:=fun lv=>hib lv hlt
  have hgi':=hgi hlt
  have co:=of_ok m (bxL b)[i].1 (bxL b)[i].2
  have hiL:i<is.length:=by omega
  have hza:(is.getD i (0,0)).z:=by rw [List.getD_eq_getElem?_getD,List.getElem?_eq_getElem hiL];exact hiz _ (List.getElem_mem hiL)
  rw [← hgi'] at co
  generalize (bxL b)[i]=s at *
  have hst:=clS_step is f i
  have hli:lo i=(is.getD i (0,0)).1:=by rw [← hlo]
  have hhi2:hi' i=(is.getD i (0,0)).2:=by rw [← hhi]
  generalize is.getD i (0,0)=a at *
  generalize ofE s.1 s.2=eo at *
  have f66:=w64 (n:=(i:Int)+1) (by omega) (by omega)
  have c1:=iv_Lo (GG m) a
  have c2:=iv_Hi (GG m) a
  have c3:=rat_Max (GG m) (f i) a.1 (szB (hf i)) (szB hza.1)
  have c4:CallsP Tryz.prog (GG m) 25 [ratV (maxR (f i) a.1),ratV a.2] (ratV (clip a (f i))):=rat_Min (GG m) (maxR (f i) a.1) a.2 (szR_max (szB (hf i)) (szB hza.1)) (szB hza.2)
  rw [← hli] at c1 c3 c4
  rw [← hhi2] at c2 c4
  have hN0:N≠0:=by omega
  have hq50:=qB_pos (clS is f i) hN0
  have hs50:=qS_pos 50 hN0
  generalize clip a (f i)=v at *
  refine AW.fy (by simp [hlt'] <;> omega) (AW.skip (hK2 _ _ (AW.seqK fun K5 hK5=>AW.block (AW.sr fun K6 hK6=>?_))))
  simp [hx,spD]
  refine CallDo.p 86 9 co ?_
  simp [setSeg]
  repeat refine and_o ?_
  apply hK6
  refine AW.seqK fun K6 hK6=>?_
  rw [hs50,hq50]
  by_cases h0:i=0
  ·have hS:qS 80 i=.c (.d .nilsl):=by subst h0;rfl
   have hB:qB lo i=.hole:=by subst h0;rfl
   have hS2:qS 81 i=.c (.d .nilsl):=by subst h0;rfl
   have hB2:qB hi' i=.hole:=by subst h0;rfl
   rw [hS,hB,hS2,hB2]
   refine AW.drawP mixed (by kernel_rfl) rfl ?_
   simp [bsQ,srcA,keyOf,setSeg,-stepBuildSlice]
   refine CallDo.p 90 9 c1 ?_
   simp [bsQ,srcA,keyOf,setSeg,-stepBuildSlice]
   refine CallDo.p 92 9 c2 ?_
   simp [bsQ,srcA,keyOf,setSeg,-stepBuildSlice]
   refine⟨by kernel_rfl,?_⟩
   repeat refine and_o ?_
   apply hK6
   refine AW.nm fun lv hlv=>?_
   have q50:lv 50=.cells true false 27 (qK (clS is f i) N):=by rw [hlv];rfl
   have q60:lv 60=.cells true false 29 [.d (.bool (decide (A.1.num<0))),nC (natO A.1.num.natAbs),nC (denO A.1.den),.d (.bool (decide (A.2.num<0))),nC (natO A.2.num.natAbs),nC (denO A.2.den)]:=by rw [hlv];rfl
   have q86:lv 86=.cells true false 29 [.d (.bool (decide (a.1.num<0))),nC (natO a.1.num.natAbs),nC (denO a.1.den),.d (.bool (decide (a.2.num<0))),nC (natO a.2.num.natAbs),nC (denO a.2.den)]:=by rw [hlv];rfl
   have q9:lv 9=.hole:=by rw [hlv];rfl
   have q91:lv 91=.cells true false 27 (qK lo (i+1)):=by rw [hlv];subst h0;rfl
   have q93:lv 93=.cells true false 27 (qK hi' (i+1)):=by rw [hlv];subst h0;rfl
   clear hlv
   have x1:=ixQ (n:=N) (i:=i) q50
   rw [eq_true hlt] at x1
   have x2:=ldQ (i:=i) q50 hlt
   rw [clS_at] at x2
   have x3:=stQ (i:=i) q50 hlt v
   rw [hst] at x3
   have x4:stepLoad Tryz.prog 29 lv (.c (.ptr 86 0))=some (ivV a,[],[86],True):=by simp [stepLoad,q86,loadIv]
   refine AW.drawP mixed (by kernel_rfl) rfl ?_
   simp [x1,x2,x4,q50,q86,-stepLoad,-stepStore]
   refine CallDo.p 100 9 c1 ?_ (hh:=q9)
   simp [-stepLoad,-stepStore]
   refine CallDo.p 100 9 c3 ?_ (hh:=q9)
   simp [x4,-stepLoad,-stepStore]
   refine CallDo.p 100 9 c2 ?_ (hh:=q9)
   simp [-stepLoad,-stepStore]
   refine CallDo.p 100 9 c4 ?_ (hh:=q9)
   simp [x1,x3,q50,-stepLoad,-stepStore]
   refine⟨by kernel_rfl,?_⟩
   repeat refine and_o ?_
   apply hK5
   refine AW.rP ?_
   simp [f66]
   exact⟨i+1,Le.keys [(50,50,qB (clS is f (i+1)) N),(60,60,.cells true false 29 [.d (.bool (decide (A.1.num<0))),nC (natO A.1.num.natAbs),nC (denO A.1.den),.d (.bool (decide (A.2.num<0))),nC (natO A.2.num.natAbs),nC (denO A.2.den)]),(80,91,qB lo (i+1)),(81,93,qB hi' (i+1))] 9 _ rfl rfl (by simp) (by simp) q9 (by
    intro e he
    simp only [List.mem_cons,List.not_mem_nil,or_false] at he
    rcases he with rfl|rfl|rfl|rfl
    ·rw [qB_pos _ hN0];exact LB.like_cells.2 ⟨rfl,rfl,(qK_ren _ _ _).symm,id⟩
    ·show (lv 60).like _ _
     rw [q60];exact LB.like_cells.2 ⟨rfl,rfl,by simp,id⟩
    ·show (lv 91).like _ _
     rw [q91];exact LB.like_cells.2 ⟨rfl,rfl,(qK_ren lo (i+1) _).symm,id⟩
    ·show (lv 93).like _ _
     rw [q93];exact LB.like_cells.2 ⟨rfl,rfl,(qK_ren hi' (i+1) _).symm,id⟩) (by rw [hs50,show qS 80 (i+1)=.c (.lsl 80 0 (i+1) 3) from rfl,show qS 81 (i+1)=.c (.lsl 81 0 (i+1) 3) from rfl];simp [kmap,h0]),by omega,by omega⟩
  ·have hS:=qS_pos 80 h0
   have hB:=qB_pos lo h0
   have hS2:=qS_pos 81 h0
   have hB2:=qB_pos hi' h0
   have hl1:=qK_len lo i
   have hl2:=qK_len hi' i
   rw [hS,hB,hS2,hB2]
   refine AW.drawP mixed (by kernel_rfl) rfl ?_
   simp [bsQ,srcA,keyOf,setSeg,hl1,hl2,-stepBuildSlice]
   refine CallDo.p 90 9 c1 ?_
   simp [bsQ,srcA,keyOf,setSeg,hl1,hl2,-stepBuildSlice]
   repeat refine and_o ?_
   refine CallDo.p 92 9 c2 ?_
   simp [bsQ,srcA,keyOf,setSeg,hl1,hl2,-stepBuildSlice]
   repeat refine and_o ?_
   refine⟨by kernel_rfl,?_⟩
   repeat refine and_o ?_
   apply hK6
   refine AW.nm fun lv hlv=>?_
   have q50:lv 50=.cells true false 27 (qK (clS is f i) N):=by rw [hlv];rfl
   have q60:lv 60=.cells true false 29 [.d (.bool (decide (A.1.num<0))),nC (natO A.1.num.natAbs),nC (denO A.1.den),.d (.bool (decide (A.2.num<0))),nC (natO A.2.num.natAbs),nC (denO A.2.den)]:=by rw [hlv];rfl
   have q86:lv 86=.cells true false 29 [.d (.bool (decide (a.1.num<0))),nC (natO a.1.num.natAbs),nC (denO a.1.den),.d (.bool (decide (a.2.num<0))),nC (natO a.2.num.natAbs),nC (denO a.2.den)]:=by rw [hlv];rfl
   have q9:lv 9=.hole:=by rw [hlv];rfl
   have q91:lv 91=.cells true false 27 (qK lo (i+1)):=by rw [hlv];rfl
   have q93:lv 93=.cells true false 27 (qK hi' (i+1)):=by rw [hlv];rfl
   clear hlv
   have x1:=ixQ (n:=N) (i:=i) q50
   rw [eq_true hlt] at x1
   have x2:=ldQ (i:=i) q50 hlt
   rw [clS_at] at x2
   have x3:=stQ (i:=i) q50 hlt v
   rw [hst] at x3
   have x4:stepLoad Tryz.prog 29 lv (.c (.ptr 86 0))=some (ivV a,[],[86],True):=by simp [stepLoad,q86,loadIv]
   refine AW.drawP mixed (by kernel_rfl) rfl ?_
   simp [x1,x2,x4,q50,q86,-stepLoad,-stepStore]
   refine CallDo.p 100 9 c1 ?_ (hh:=q9)
   simp [-stepLoad,-stepStore]
   refine CallDo.p 100 9 c3 ?_ (hh:=q9)
   simp [x4,-stepLoad,-stepStore]
   refine CallDo.p 100 9 c2 ?_ (hh:=q9)
   simp [-stepLoad,-stepStore]
   refine CallDo.p 100 9 c4 ?_ (hh:=q9)
   simp [x1,x3,q50,-stepLoad,-stepStore]
   refine⟨by kernel_rfl,?_⟩
   repeat refine and_o ?_
   apply hK5
   refine AW.rP ?_
   simp [f66]
   exact⟨i+1,Le.keys [(50,50,qB (clS is f (i+1)) N),(60,60,.cells true false 29 [.d (.bool (decide (A.1.num<0))),nC (natO A.1.num.natAbs),nC (denO A.1.den),.d (.bool (decide (A.2.num<0))),nC (natO A.2.num.natAbs),nC (denO A.2.den)]),(80,91,qB lo (i+1)),(81,93,qB hi' (i+1))] 9 _ rfl rfl (by simp) (by simp) q9 (by
    intro e he
    simp only [List.mem_cons,List.not_mem_nil,or_false] at he
    rcases he with rfl|rfl|rfl|rfl
    ·rw [qB_pos _ hN0];exact LB.like_cells.2 ⟨rfl,rfl,(qK_ren _ _ _).symm,id⟩
    ·show (lv 60).like _ _
     rw [q60];exact LB.like_cells.2 ⟨rfl,rfl,by simp,id⟩
    ·show (lv 91).like _ _
     rw [q91];exact LB.like_cells.2 ⟨rfl,rfl,(qK_ren lo (i+1) _).symm,id⟩
    ·show (lv 93).like _ _
     rw [q93];exact LB.like_cells.2 ⟨rfl,rfl,(qK_ren hi' (i+1) _).symm,id⟩) (by rw [hs50,show qS 80 (i+1)=.c (.lsl 80 0 (i+1) 3) from rfl,show qS 81 (i+1)=.c (.lsl 81 0 (i+1) 3) from rfl];simp [kmap,h0]),by omega,by omega⟩
 ·have hie:i=N:=by omega
  subst hie
  clear hlt
  have hn1:∀ g:Sq,((List.range i).map g).length=i:=fun g=>by simp
  have hsz:∀ g:Sq,(∀ j,szR (g j) 300)→∀ x∈(List.range i).map g,szR x 300:=fun g hg x hx=>by
   obtain⟨j,_,rfl⟩:=List.mem_map.1 hx
   exact hg j
  have hgz:∀ j,(is.getD j (0,0)).z:=fun j=>by
   rw [List.getD_eq_getElem?_getD]
   by_cases hj:j<is.length
   ·rw [List.getElem?_eq_getElem hj];exact hiz _ (List.getElem_mem hj)
   ·rw [List.getElem?_eq_none (by omega)];exact⟨szR_zero _ (by decide),szR_zero _ (by decide)⟩
  have hz1:∀ j,szR (clS is f i j) 300:=fun j=>by
   unfold clS clip
   split
   ·exact szR_min (szR_max (hf j) (hgz j).1) (hgz j).2
   ·exact hf j
  have hz2:∀ j,szR (lo j) 300:=fun j=>by rw [← hlo];exact (hgz j).1
  have hz3:∀ j,szR (hi' j) 300:=fun j=>by rw [← hhi];exact (hgz j).2
  have htm':tmE (tmL bt) (i:Int)=0:=by rw [← hN];exact htm
  have hts:∀ t∈(tmL bt).map tmT,t.2.length=is.length:=fun t ht=>by
   obtain⟨u,hu,rfl⟩:=List.mem_map.1 ht
   rw [hil,← hN,← (htok u hu).len];simp [tmT]
  have hat:∀ g:Sq,(∀ j,szR (g j) 300)→CallsP Tryz.prog (GG m) 17 [.c (scC (tmO bt)),.c (scC (nuO ((List.range i).map g)))] (.tup [ratV (atV ((List.range i).map g) ((tmL bt).map tmT)),.c (.d (.int .i64 0))]):=fun g hg=>by
   have h:=At_ok m bt ((List.range i).map g) (by omega) (fun t ht=>by have:=hw t ht;omega) (hsz g hg)
   rw [hn1 g,htm'] at h
   have e:atR (tmL bt) ((List.range i).map g)=atV ((List.range i).map g) ((tmL bt).map tmT):=by unfold atR;rw [hn1 g];exact if_pos htm'
   rw [e] at h
   exact h
  have hvs:∀ g:Sq,(∀ j,szR (g j) 300)→szR (atV ((List.range i).map g) ((tmL bt).map tmT)) 10000000000:=fun g hg=>atV_sz (hsz g hg) htok ht200
  have c13:=hat _ hz1
  have c14:=hat _ hz2
  have c15:=hat _ hz3
  have hlow:atV ((List.range i).map lo) ((tmL bt).map tmT)=cfB ((tmL bt).map tmT) is 0:=by rw [← at_low hts,hil,hlo]
  have hhigh:atV ((List.range i).map hi') ((tmL bt).map tmT)=cfB ((tmL bt).map tmT) is (cfM ((tmL bt).map tmT) i - 1):=by rw [← hil,← at_high hts,hil,hhi]
  have hmid:A.1≤atV ((List.range i).map (clS is f i)) ((tmL bt).map tmT)∧atV ((List.range i).map (clS is f i)) ((tmL bt).map tmT)≤A.2:=by
   rw [← hil]
   refine at_mid hts _ (fun j hj=>?_) (fun k hk=>by rw [← hA,← his];rw [← his] at hk;exact bnR_all hE hk)
   have e:clS is f is.length j=clip (is.getD j (0,0)) (f j):=if_pos hj
   rw [e]
   refine clip_in ?_ _
   have hjb:j<(bxL b).length:=by omega
   rw [hgi (by omega)]
   exact ofI_le (hoE _ (List.getElem_mem hjb))
  have hAz:A.sz 10000000000:=by
   have hB:=cfB_sz hE
   have e:A=(minL ((cfL ((tmL bt).map tmT) (bxI (bxL b))).drop 1) (cfB ((tmL bt).map tmT) (bxI (bxL b)) 0),maxL ((cfL ((tmL bt).map tmT) (bxI (bxL b))).drop 1) (cfB ((tmL bt).map tmT) (bxI (bxL b)) 0)):=by rw [← hA];exact if_pos hE
   have hall:∀ x∈(cfL ((tmL bt).map tmT) (bxI (bxL b))).drop 1,szR x 10000000000:=fun x hx=>by
    obtain⟨k,hk,rfl⟩:=List.getElem_of_mem (List.mem_of_mem_drop hx)
    rw [cfL_get];exact szR_mono (hB k) (by omega)
   rw [e]
   exact⟨minL_sz hall (szR_mono (hB 0) (by omega)),maxL_sz hall (szR_mono (hB 0) (by omega))⟩
  have hcs:∀ k,szR (cfB ((tmL bt).map tmT) is k) 10000000000:=fun k=>by rw [← his];exact szR_mono (cfB_sz hE k) (by omega)
  have ch:=iv_Has (GG m) A _ hAz (hvs _ hz1)
  rw [decide_eq_true (show A.has _ from hmid)] at ch
  obtain⟨cl,hcl⟩:∃ cl,cfL ((tmL bt).map tmT) (bxI (bxL b))=cl:=⟨_,rfl⟩
  obtain⟨M,hM⟩:∃ M,cfM ((tmL bt).map tmT) i=M+1:=⟨cfM ((tmL bt).map tmT) i - 1,by have:=sizN_pos (dgL ((tmL bt).map tmT) i);unfold cfM;omega⟩
  have hcll:cl.length=M+1:=by rw [← hcl,cfL_len,his,hil,hM]
  have hg0:cl[0]?=some (cfB ((tmL bt).map tmT) is 0):=by
   rw [← hcl,List.getElem?_eq_getElem (by rw [hcl,hcll];omega),cfL_get,his]
  have hgM:cl[M]?=some (cfB ((tmL bt).map tmT) is M):=by
   rw [← hcl,List.getElem?_eq_getElem (by rw [hcl,hcll];omega),cfL_get,his]
  rw [hM,Nat.add_sub_cancel] at hhigh
  rw [hlow] at c14
  rw [hhigh] at c15
  have cc0:=rat_Cmp (GG m) (cfB ((tmL bt).map tmT) is 0) _ (hcs 0) (hcs 0)
  have ccM:=rat_Cmp (GG m) (cfB ((tmL bt).map tmT) is M) _ (hcs M) (hcs M)
  have hcr:∀ x:Rat,cmpR x x=0:=fun x=>by unfold cmpR;rw [if_neg Rat.lt_irrefl,if_neg Rat.lt_irrefl]
  rw [hcr] at cc0 ccM
  rw [hcl] at hC
  obtain rfl:C=.sl (cl.map numD):=by cases hC;rfl
  have hM6':M+1≤600:=by rw [← hM,← hN];exact hM6
  have hlc:=fun lv=>lpNums cl lv
  rw [hcll] at hlc
  have hi0:∀ lv,stepIndexAddr Tryz.prog 48 lv (.c (.d (.sl (cl.map numD)))) (.c (.d (.int .i64 0)))=some (.c (.d (.ptr (numD (cfB ((tmL bt).map tmT) is 0)))),[],[],True):=fun lv=>ixNums cl lv 0 _ hg0
  have hiM:=fun lv=>ixNums cl lv M _ hgM
  have fM:=w64 (n:=(M:Int)) (by omega) (by omega)
  generalize cfB ((tmL bt).map tmT) is 0=y0 at *
  generalize cfB ((tmL bt).map tmT) is M=yM at *
  generalize clS is f i=g1 at *
  generalize atV ((List.range i).map g1) ((tmL bt).map tmT)=v1 at *
  refine AW.cn (AW.exit ?_)
  simp
  repeat refine and_o ?_
  apply hK
  refine AW.seqK fun K hK=>AW.rP ?_
  simp
  refine CallDo.atQ 110 50 g1 i (by simp) c13 (by simp) (by omega) (by rfl) (by rfl) (by decide) ?_
  intro eff rds heff
  simp [heff,setSeg]
  repeat refine and_o ?_
  apply hK
  refine AW.sr fun K hK=>?_
  simp
  refine CallDo.atQ 120 80 lo i (by simp) c14 (by simp) (by omega) (by rfl) (by rfl) (by decide) ?_
  intro eff2 rds2 heff2
  simp [heff2,setSeg]
  repeat refine and_o ?_
  apply hK
  refine AW.sr fun K hK=>?_
  simp
  refine CallDo.atQ 130 81 hi' i (by simp) c15 (by simp) (by omega) (by rfl) (by rfl) (by decide) ?_
  intro eff3 rds3 heff3
  simp [heff3,setSeg]
  repeat refine and_o ?_
  apply hK
  refine AW.seqK fun K hK=>?_
  refine AW.nm fun lv hlv=>?_
  have q9:lv 9=.hole:=by rw [hlv];rfl
  have q60:lv 60=.cells true false 29 [.d (.bool (decide (A.1.num<0))),nC (natO A.1.num.natAbs),nC (denO A.1.den),.d (.bool (decide (A.2.num<0))),nC (natO A.2.num.natAbs),nC (denO A.2.den)]:=by rw [hlv];rfl
  have q110:lv 110=.cells true false 27 [.d (.bool (decide (v1.num<0))),nC (natO v1.num.natAbs),nC (denO v1.den)]:=by rw [hlv];rfl
  have q120:lv 120=.cells true false 27 [.d (.bool (decide (y0.num<0))),nC (natO y0.num.natAbs),nC (denO y0.den)]:=by rw [hlv];rfl
  have q130:lv 130=.cells true false 27 [.d (.bool (decide (yM.num<0))),nC (natO yM.num.natAbs),nC (denO yM.den)]:=by rw [hlv];rfl
  clear hlv
  have z1:stepLoad Tryz.prog 29 lv (.c (.ptr 60 0))=some (ivV A,[],[60],True):=by simp [stepLoad,q60,loadIv]
  have z2:stepLoad Tryz.prog 27 lv (.c (.ptr 110 0))=some (ratV v1,[],[110],True):=by simp [stepLoad,q110]
  have z3:stepLoad Tryz.prog 27 lv (.c (.ptr 120 0))=some (ratV y0,[],[120],True):=by simp [stepLoad,q120]
  have z4:stepLoad Tryz.prog 27 lv (.c (.ptr 130 0))=some (ratV yM,[],[130],True):=by simp [stepLoad,q130]
  refine AW.drawP mixed (by kernel_rfl) rfl ?_
  simp [hlc,z1,z2,-stepLoad]
  refine CallDo.p 140 9 ch ?_ (hh:=q9)
  simp [z3,hi0,ldNumD,-stepLoad]
  refine CallDo.p 140 9 cc0 ?_ (hh:=q9)
  simp [z4,hlc,fM,hiM,ldNumD,-stepLoad]
  refine CallDo.p 140 9 ccM ?_ (hh:=q9)
  simp [-stepLoad]
  refine CallDo.p 140 9 ca ?_ (hh:=q9)
  simp [-stepLoad]
  refine⟨by kernel_rfl,?_⟩
  repeat refine and_o ?_
  apply hK
  exact AW.r0 (FinP.t rfl 9 rfl (hh:=q9))
theorem cfA_dv (l:List Tm)(b:List Sp):∃ D C:DV,cfA l b=.tup [.c (.d D),.c (.d C),.c (.d (.int .i64 (cfE l b)))]∧(cfE l b=0→AV.c (.d C)=numsA (cfL (l.map tmT) (bxI b))):=by
 unfold cfA
 by_cases h:cfE l b=0
 ·rw [if_pos h,h];exact⟨_,_,rfl,fun _=>rfl⟩
 ·rw [if_neg h];exact⟨_,_,rfl,fun h'=>absurd h' h⟩
theorem nums_any (m:Int)(p:Option (List Str))(hp:(stL p).length≤1048576):∃ (n:Nat) (ok:Bool),CallsS Tryz.prog (GG m) 16 [.c (scC (stO p))] [] (.ret (.tup [qS 1000 n,rqS 1001 n,.c (.d (.bool ok))]) [] (nB2 (nmF (stL p)) n))∧n≤1048576∧(ok=true→n=(stL p).length∧nmO (stL p)):=by
 by_cases h:nmO (stL p)
 ·exact⟨_,true,numbers_w m p hp (fun⟨s,hs,he⟩=>absurd (h s hs) he) (fun _=>⟨rfl,rfl⟩),hp,fun _=>⟨rfl,h⟩⟩
 ·exact⟨0,false,numbers_w m p hp (R:=.tup [qS 1000 0,rqS 1001 0,.c (.d (.bool false))]) (ν:=nB2 (nmF (stL p)) 0) (fun _=>⟨rfl,rfl⟩) (fun h'=>absurd h' h),by omega,fun h=>by cases h⟩
theorem nmF_sz (l:List Str)(i:Nat):szR (nmF l i) 300:=ratP_sz _
theorem rangesValues_ok (m:Int)(bt:Option (List Tm))(b:Option (List Sp))(p:Option (List Str))(hl:(tmL bt).length≤9223372036854775807)(hw:∀ t∈tmL bt,(pwL t.2).length≤9223372036854775807)(hb:(bxL b).length≤1048576)(hp:(stL p).length≤1048576) :
 CallsP Tryz.prog (GG m) 5 [.c (scC (tmO bt)),.c (scC (bxO b)),.c (scC (stO p))] (.c (.d (.bool true))):=by
 have ca:=awake_ok m
 have cB:=Bernstein_ok m bt b (by omega) (fun t ht=>by have:=hw t ht;omega) hb
 have cC:=Coefs_ok m bt b (by omega) (fun t ht=>by have:=hw t ht;omega) hb
 obtain⟨D,C,hDC,hC⟩:=cfA_dv (tmL bt) (bxL b)
 rw [hDC] at cC
 obtain⟨n,ok,cn,hn,hok⟩:=nums_any m p hp
 obtain⟨rq,hlq⟩:=lpQ (nmF (stL p)) n hn
 have hlb:=fun lv=>lpBx lv b
 have hnsz:=nmF_sz (stL p)
 obtain⟨e,he⟩:∃ e,cfE (tmL bt) (bxL b)=e:=⟨_,rfl⟩
 obtain⟨A,hA⟩:∃ A,bnR (tmL bt) (bxL b)=A:=⟨_,rfl⟩
 rw [he] at cB cC hC
 rw [hA] at cB
 generalize nmF (stL p)=f at *
 refine CallsP.en0 Go.Proofs.Tryz.func5 rfl fun _=>AW.seqK fun K hK=>AW.rP ?_
 simp
 repeat refine and_o ?_
 apply hK
 refine AW.seqK fun K hK=>AW.rP ?_
 simp
 refine CallDo.nums 60 f n ok (by simp) cn rfl rfl rfl ?_
 intro eff rds heff
 simp [heff,ext0,ext1]
 repeat refine and_o ?_
 apply hK
 refine AW.c1 60 cB @setSeg.eq_1 ?_
 refine AW.c1 70 cC @setSeg.eq_1 ?_
 refine AW.seqK fun K hK=>AW.seqK fun K1 hK1=>?_
 cases ok with
 | false=>
  refine AW.l0 (hK1 _ _ ?_)
  refine AW.cy (AW.seqK fun K1 hK1=>AW.rP ?_)
  simp
  refine CallDo.p 80 9 ca ?_
  simp [setSeg]
  repeat refine and_o ?_
  apply hK1
  exact AW.r0 (FinP.rt rfl 6 (by simp))
 | true=>
  obtain⟨hnp,hnm⟩:=hok rfl
  have hlen:=bxI_len (bxL b)
  by_cases h0:e=0
  rotate_left
  ·refine AW.l1 h0 (hK1 _ _ ?_)
   refine AW.cy (AW.seqK fun K1 hK1=>AW.rP ?_)
   simp
   refine CallDo.p 80 9 ca ?_
   simp [setSeg]
   repeat refine and_o ?_
   apply hK1
   exact AW.r0 (FinP.rt rfl 6 (by simp))
  by_cases h1:n=(bxL b).length
  rotate_left
  ·have h1':¬ (n:Int)=((bxL b).length:Int):=by omega
   refine AW.rP ?_
   simp [h0,hlq,hlb,h1]
   repeat refine and_o ?_
   apply hK1
   refine AW.cy (AW.seqK fun K1 hK1=>AW.rP ?_)
   simp
   refine CallDo.p 80 9 ca ?_
   simp [setSeg]
   repeat refine and_o ?_
   apply hK1
   exact AW.r0 (FinP.rt rfl 6 (by simp))
  subst h1
  refine AW.rP ?_
  simp [h0,hlq,hlb]
  repeat refine and_o ?_
  apply hK1
  refine AW.cn (AW.skip (hK _ _ (AW.sr fun K hK=>?_)))
  simp
  repeat refine and_o ?_
  apply hK
  subst h0
  exact AW.as (y:=cW [1,1,1,1,1,1] Tryz.f5) (by kernel_rfl) (AW.le (Le.keys [(50,50,qB f (bxL b).length),(60,60,.cells true false 29 [.d (.bool (decide (A.1.num<0))),nC (natO A.1.num.natAbs),nC (denO A.1.den),.d (.bool (decide (A.2.num<0))),nC (natO A.2.num.natAbs),nC (denO A.2.den)])] 9 _ rfl rfl (by simp) (by simp) rfl (by
   intro e he
   simp only [List.mem_cons,List.not_mem_nil,or_false] at he
   rcases he with rfl|rfl
   ·exact qB_like f _ _
   ·exact LB.like_cells.2 ⟨rfl,rfl,by simp,id⟩) (by generalize (bxL b).length=N;cases N <;> simp [kmap,qS])) (values_m m _ bt b f A C hl hw hb he hA (hC rfl) hnsz))
end Go.Am
