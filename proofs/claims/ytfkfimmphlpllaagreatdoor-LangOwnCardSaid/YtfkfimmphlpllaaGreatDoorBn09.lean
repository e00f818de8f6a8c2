/- Helpers: an abstract machine for Go functions, and walks of functions of the program. -/
import Derived.Test.YtfkfimmphlpllaaGreatDoorBn08
import Derived.Lib.IndexMore

set_option linter.all false

namespace Go.Am
open Go.Am.Ty Go.Proofs N
def nC:Option (List Nat)→CV
 | none=>.d .nilsl
 | some l=>.d (.sl (dK .u32 l))
theorem nK_nC (o:Option (List Nat)):nK .u32 o=.c (nC o):=by cases o <;> rfl
@[simp] theorem nC_dArg (lv:Key→LB)(b:Bool)(p q:Option (List Nat)):dRes lv (.agg [.d (.bool b),nC p,nC q])=some (.agg [.d (.bool b),nC p,nC q],[]):=by
 cases p <;> cases q <;> rfl
@[simp] theorem nC_pure (o:Option (List Nat)):(nC o).pure=true:=by cases o <;> rfl
@[simp] theorem nC_flat1 (o:Option (List Nat)):(AV.c (nC o)).flat1=true:=by cases o <;> rfl
@[simp] theorem nC_apure (o:Option (List Nat)):(AV.c (nC o)).pure=true:=by cases o <;> rfl
theorem FinC.cell {c:Ctx}{fn:Func}{x:AV}{t k off:Nat}{T U:TypeId}{own fz:Bool}{cs:List CV}{s:LSt}{κ:Nat}(hr:fn.results=#[.cell t T]) (ht:s.fr t=.c (.ptr k off)) (hk:s.lv k=.cells own fz U cs)
 (hx:loadA c.P T (cs.drop off)=some x):FinC c fn x .ret s κ:=by
 show resA c.P s fn.results.toList=some x
 rw [hr]
 simp [resA,resL,resV,ht,hk,hx]
theorem FinC.cell2 {c:Ctx}{fn:Func}{x y:AV}{t u k off:Nat}{T U:TypeId}{own fz:Bool}{cs:List CV}{s:LSt}{κ:Nat}(hr:fn.results=#[.cell t T,.tmp u]) (ht:s.fr t=.c (.ptr k off)) (hk:s.lv k=.cells own fz U cs)
 (hx:loadA c.P T (cs.drop off)=some x) (hy:s.fr u=y) (hn:x.noTup=true) (hm:y.noTup=true):FinC c fn (.tup [x,y]) .ret s κ:=by
 show resA c.P s fn.results.toList=some _
 rw [hr]
 simp [resA,resL,resV,ht,hk,hx,hy,hn,hm]
attribute [local irreducible] FinC
theorem bNum0:buildA Tryz.prog 224 [] []=some (.agg [.d (.bool false),.d .nilsl,.d .nilsl],[],[],True):=by kernel_rfl
theorem bNum (b p q:CV):buildA Tryz.prog 224 [0,1,2] [.c b,.c p,.c q]=some (.agg [b,p,q],[],[],True):=by kernel_rfl
theorem loadNum (b p q:CV):loadA Tryz.prog 224 [b,p,q]=some (.agg [b,p,q]):=by kernel_rfl
abbrev nmA (neg:Bool)(p q:Option (List Nat)):AV:=.agg [.d (.bool neg),nC p,nC q]
def gO (p q:Option (List Nat)):Option (List Nat):=gcdO p q (val 4294967296 (dO q))
def mP (p q:Option (List Nat)):Option (List Nat):=if val 4294967296 (dO q)=1 then p else if val 4294967296 (dO (gO p q))=1 then p else divQ p (gO p q)
def mQ0 (p q:Option (List Nat)):Option (List Nat):=if val 4294967296 (dO q)=1 then q else if val 4294967296 (dO (gO p q))=1 then q else divQ q (gO p q)
def mQ (p q:Option (List Nat)):Option (List Nat):=if val 4294967296 (dO (mQ0 p q))=1 then none else mQ0 p q
def madeA (neg:Bool)(p q:Option (List Nat)):AV:=if dO p=[] then nmA false none none else nmA neg (mP p q) (mQ p q)
theorem madeA_dRes (lv:Key→LB)(neg:Bool)(p q:Option (List Nat)):dRes lv (madeA neg p q)=some (madeA neg p q,[]):=by
 unfold madeA;split <;> exact nC_dArg ..
set_option maxHeartbeats 2000000 in
theorem exact_made_ok (G:List (List DV))(neg:Bool)(p q:Option (List Nat))(hp:can 4294967296 (dO p))(hq:can 4294967296 (dO q))(hq0:dO q≠[])(hl:(dO p).length<1000000000000)(hl':(dO q).length<1000000000000) :
 CallsP Tryz.prog G 225 [.c (.d (.bool neg)),nK .u32 p,nK .u32 q] (madeA neg p q):=by
 have hgd:=gcdO_d hp hq
 have hgc:can 4294967296 (dO (gO p q)):=by unfold gO;rw [hgd];exact dig_can (by decide) _
 have hqv:0<val 4294967296 (dO q):=can_pos hq hq0
 have hg0:dO (gO p q)≠[]:=by
  unfold gO;rw [hgd];intro h
  have:=(dig_nil (by decide)).1 h
  have:=Nat.gcd_pos_of_pos_right (val 4294967296 (dO p)) hqv
  omega
 refine CallsP.of_AWc Go.Proofs.Tryz.func225 rfl (by rw [Tryz.ntmps225];simp) (fun lv=>madeA_dRes lv _ _ _) ?_
 rintro⟨_,_,w0,F0,W0,_,lv0,β0⟩ rfl rfl rfl
 refine AW.seqK fun K hK=>?_
 refine AW.regionP rfl ?_
 simp
 repeat (refine And.intro (by omega) ?_)
 apply hK;clear hK K
 refine AW.seqK fun K hK=>?_
 refine AW.seqK fun K1 hK1=>?_
 refine AW.regionP rfl ?_
 simp
 repeat (refine And.intro (by omega) ?_)
 apply hK1;clear hK1 K1
 by_cases hpe:dO p=[]
 ·refine AW.cond (b:=true) (by first|(simp [hpe];done)|(simp [hpe];omega)) ?_
  refine AW.seqK fun K1 hK1=>?_
  refine AW.regionP rfl ?_
  simp [bNum0]
  repeat (refine And.intro (by omega) ?_)
  apply hK1;clear hK1 K1
  refine AW.ret ?_
  refine FinC.cell (T:=224) (t:=6) (k:=0) (off:=0) (own:=true) (fz:=false) (U:=224) (cs:=[.d (.bool false),.d .nilsl,.d .nilsl]) rfl ?_ ?_ ?_
  ·simp
  ·simp [setSeg]
  ·rw [List.drop_zero,loadNum];simp [madeA,hpe,nC]
 refine AW.cond (b:=false) (by first|(simp [hpe];done)|(simp [hpe];omega)) ?_
 refine AW.skip ?_
 simp
 repeat (refine And.intro (by omega) ?_)
 apply hK;clear hK K
 refine AW.seqK fun K hK=>?_
 have rest:∀ (fr:Nat→AV) (κ:Nat) (p' q':Option (List Nat)),fr 0=.c (.d (.bool neg))→fr 1=nK .u32 p'→fr 2=nK .u32 q'→fr 6=.c (.ptr 0 0)→can 4294967296 (dO q')→mP p q=p'→mQ0 p q=q' →
  K ⟨fr,upd (fun _=>.hole) 0 (.cells true false 224 [.d (.bool false),.d .nilsl,.d .nilsl])⟩ κ:=by
  intro fr κ p' q' z0 z1 z2 z6 hc e1 e2
  repeat (refine And.intro (by omega) ?_)
  apply hK
  refine AW.seqK fun K1 hK1=>?_
  refine AW.seqK fun K2 hK2=>?_
  refine AW.regionP rfl ?_
  simp [z2]
  refine CallDo.pure κ 9 (exact_is1_ok _ _ hc) rfl (by simp) (by simp) ?_
  simp
  repeat (refine And.intro (by omega) ?_)
  apply hK2;clear hK2 K2
  by_cases h1:val 4294967296 (dO q')=1
  ·refine AW.cond (b:=true) (by first|(simp [h1];done)|(simp [h1];omega)) ?_
   refine AW.regionP rfl ?_
   simp
   repeat (refine And.intro (by omega) ?_)
   apply hK1;clear hK1 K1
   refine AW.seqK fun K1 hK1=>?_
   refine AW.regionP rfl ?_
   simp [z0,z1,z6,nK_nC,bNum]
   repeat (refine And.intro (by omega) ?_)
   apply hK1;clear hK1 K1
   refine AW.ret ?_
   refine FinC.cell (T:=224) (t:=6) (k:=0) (off:=0) (own:=true) (fz:=false) (U:=224) (cs:=[.d (.bool neg),nC p',.d .nilsl]) rfl ?_ ?_ ?_
   ·simp [z6]
   ·simp [setSeg]
   ·rw [List.drop_zero,loadNum];simp [madeA,hpe,e1,mQ,e2,h1,nC]
  ·refine AW.cond (b:=false) (by first|(simp [h1];done)|(simp [h1];omega)) ?_
   refine AW.skip ?_
   simp
   repeat (refine And.intro (by omega) ?_)
   apply hK1;clear hK1 K1
   refine AW.seqK fun K1 hK1=>?_
   refine AW.regionP rfl ?_
   simp [z0,z1,z2,z6,nK_nC,bNum]
   repeat (refine And.intro (by omega) ?_)
   apply hK1;clear hK1 K1
   refine AW.ret ?_
   refine FinC.cell (T:=224) (t:=6) (k:=0) (off:=0) (own:=true) (fz:=false) (U:=224) (cs:=[.d (.bool neg),nC p',nC q']) rfl ?_ ?_ ?_
   ·simp [z6]
   ·simp [setSeg]
   ·rw [List.drop_zero,loadNum];simp [madeA,hpe,e1,mQ,e2,h1]
 refine AW.seqK fun K1 hK1=>?_
 refine AW.regionP rfl ?_
 simp
 refine CallDo.pure 1 9 (exact_is1_ok _ _ hq) rfl (by simp) (by simp) ?_
 simp
 repeat (refine And.intro (by omega) ?_)
 apply hK1;clear hK1 K1
 by_cases h1:val 4294967296 (dO q)=1
 ·refine AW.cond (b:=false) (by first|(simp [h1];done)|(simp [h1];omega)) ?_
  refine AW.skip ?_
  simp
  exact rest _ _ p q (by simp) (by simp) (by simp) (by simp) hq (by simp [mP,h1]) (by simp [mQ0,h1])
 refine AW.cond (b:=true) (by first|(simp [h1];done)|(simp [h1];omega)) ?_
 refine AW.seqK fun K1 hK1=>?_
 refine AW.regionP rfl ?_
 simp
 refine CallDo.pure 1 9 (exact_gcd_ok _ _ _ hp hq hl hl') (by simp) (by simp) (by simp) ?_
 simp
 repeat (refine And.intro (by omega) ?_)
 apply hK1;clear hK1 K1
 refine AW.seqK fun K1 hK1=>?_
 refine AW.regionP rfl ?_
 simp
 refine CallDo.pure 1 9 (exact_is1_ok _ (gcdO p q (val 4294967296 (dO q))) hgc) rfl (by simp) (by simp) ?_
 simp
 repeat (refine And.intro (by omega) ?_)
 apply hK1;clear hK1 K1
 by_cases h2:val 4294967296 (dO (gO p q))=1
 ·have h2':val 4294967296 (dO (gcdO p q (val 4294967296 (dO q))))=1:=h2
  refine AW.cond (b:=false) (by first|(simp [h2'];done)|(simp [h2'];omega)) ?_
  refine AW.skip ?_
  simp
  exact rest _ _ p q (by simp) (by simp) (by simp) (by simp) hq (by simp [mP,h2]) (by simp [mQ0,h2])
 have h2':¬ val 4294967296 (dO (gcdO p q (val 4294967296 (dO q))))=1:=h2
 refine AW.cond (b:=true) (by first|(simp [h2'];done)|(simp [h2'];omega)) ?_
 refine AW.seqK fun K1 hK1=>?_
 refine AW.regionP rfl ?_
 simp
 refine CallDo.pure 1 9 (exact_div_ok _ _ (gcdO p q (val 4294967296 (dO q))) hp hgc hg0 hl) (tup2_pure _ _) (by simp) (by simp) ?_
 simp
 repeat (refine And.intro (by omega) ?_)
 apply hK1;clear hK1 K1
 refine AW.regionP rfl ?_
 simp
 refine CallDo.pure 1 9 (exact_div_ok _ _ (gcdO p q (val 4294967296 (dO q))) hq hgc hg0 hl') (tup2_pure _ _) (by simp) (by simp) ?_
 simp
 exact rest _ _ (divQ p (gO p q)) (divQ q (gO p q)) (by simp) (by simp;rfl) (by simp;rfl) (by simp) (by rw [divQ_d];exact dig_can (by decide) _) (by simp [mP,h1,h2]) (by simp [mQ0,h1,h2])
end Go.Am

namespace Go.Am
open Go.Am.Ty Go.Proofs N
theorem eqNil (q:Option (List Nat)):stepBin Tryz.prog .eql 222 (.c (nC q)) (.c (.d .nilsl))=some (.c (.d (.bool q.isNone)),[],[],True):=by
 cases q with
 | none=>kernel_rfl
 | some l=>exact (show ∀ es,stepBin Tryz.prog .eql 222 (.c (.d (.sl es))) (.c (.d .nilsl))=some (.c (.d (.bool false)),[],[],True) from fun es=>by kernel_rfl) _
theorem lpC (lv:Key→LB)(o:Option (List Nat)):lenP Tryz.prog 222 lv (.c (nC o))=some (.c (.d (.int .i64 (dO o).length)),[],[],True):=by
 rw [← nK_nC];exact lenP_nK slT_222
@[simp] theorem nmA_pure (neg:Bool)(p q:Option (List Nat)):(AV.agg [.d (.bool neg),nC p,nC q]).pure=true:=by cases p <;> cases q <;> rfl
def sgA (neg:Bool)(p:Option (List Nat)):Int:=if dO p=[] then 0 else if neg then -1 else 1
def botO:Option (List Nat)→Option (List Nat)
 | none=>some (dig 4294967296 1)
 | some l=>some l
theorem num_Sign_ok (G:List (List DV))(neg:Bool)(p q:Option (List Nat)):CallsP Tryz.prog G 231 [nmA neg p q] (.c (.d (.int .i64 (sgA neg p)))):=by
 refine CallsP.of_AW Go.Proofs.Tryz.func231 rfl (by rw [Tryz.ntmps231];simp) ?_
 rintro⟨_,_,w0,F0,W0,_,lv0,β0⟩ rfl rfl rfl
 refine AW.seqK fun K hK=>?_
 refine AW.regionP rfl ?_
 simp
 repeat (refine And.intro (by omega) ?_)
 apply hK;clear hK K
 refine AW.seqK fun K hK=>?_
 refine AW.block ?_
 refine AW.seqK fun K1 hK1=>?_
 refine AW.regionP rfl ?_
 simp [lpC]
 repeat (refine And.intro (by omega) ?_)
 apply hK1;clear hK1 K1
 by_cases hp:dO p=[]
 ·refine AW.cond (b:=true) (by first|(simp [hp];done)|(simp [hp];omega)) ?_
  refine AW.seqK fun K1 hK1=>?_
  refine AW.regionP rfl ?_
  simp
  repeat (refine And.intro (by omega) ?_)
  apply hK1;clear hK1 K1
  exact AW.ret (κ:=0) (FinP.tmp (κ:=0) rfl 2 (by simp [sgA,hp]) (by first|rfl|simp) (by first|rfl|simp) (by first|rfl|simp))
 ·refine AW.cond (b:=false) (by first|(simp [hp];done)|(simp [hp];omega)) ?_
  refine AW.seqK fun K1 hK1=>?_
  refine AW.regionP rfl ?_
  simp
  repeat (refine And.intro (by omega) ?_)
  apply hK1;clear hK1 K1
  cases neg with
  | true=>
   refine AW.cond (b:=true) (by first|(simp [];done)|(simp [];omega)) ?_
   refine AW.seqK fun K1 hK1=>?_
   refine AW.regionP rfl ?_
   simp
   repeat (refine And.intro (by omega) ?_)
   apply hK1;clear hK1 K1
   exact AW.ret (κ:=0) (FinP.tmp (κ:=0) rfl 2 (by simp [sgA,hp]) (by first|rfl|simp) (by first|rfl|simp) (by first|rfl|simp))
  | false=>
   refine AW.cond (b:=false) (by first|(simp [];done)|(simp [];omega)) ?_
   refine AW.skip ?_
   simp
   repeat (refine And.intro (by omega) ?_)
   apply hK;clear hK K
   refine AW.seqK fun K hK=>?_
   refine AW.regionP rfl ?_
   simp
   repeat (refine And.intro (by omega) ?_)
   apply hK;clear hK K
   exact AW.ret (κ:=0) (FinP.tmp (κ:=0) rfl 2 (by simp [sgA,hp]) (by first|rfl|simp) (by first|rfl|simp) (by first|rfl|simp))
theorem num_bottom_ok (G:List (List DV))(neg:Bool)(p q:Option (List Nat)):CallsP Tryz.prog G 239 [nmA neg p q] (.c (nC (botO q))):=by
 have hof:=exact_of_ok G 1 (by decide)
 simp only [nK_nC] at hof
 refine CallsP.of_AW Go.Proofs.Tryz.func239 rfl (by rw [Tryz.ntmps239];simp) ?_
 rintro⟨_,_,w0,F0,W0,_,lv0,β0⟩ rfl rfl rfl
 refine AW.seqK fun K hK=>?_
 refine AW.regionP rfl ?_
 simp
 repeat (refine And.intro (by omega) ?_)
 apply hK;clear hK K
 refine AW.seqK fun K hK=>?_
 refine AW.seqK fun K1 hK1=>?_
 refine AW.regionP rfl ?_
 simp [eqNil]
 repeat (refine And.intro (by omega) ?_)
 apply hK1;clear hK1 K1
 cases q with
 | none=>
  refine AW.cond (b:=true) (by first|(simp [];done)|(simp [];omega)) ?_
  refine AW.seqK fun K1 hK1=>?_
  refine AW.regionP rfl ?_
  simp
  refine CallDo.pure 1 9 hof (by simp) (by simp) (by simp) ?_
  simp
  repeat (refine And.intro (by omega) ?_)
  apply hK1;clear hK1 K1
  exact AW.ret (κ:=0) (FinP.tmp (κ:=0) rfl 2 (by simp [botO]) (by first|rfl|simp) (by first|rfl|simp) (by first|rfl|simp))
 | some l=>
  refine AW.cond (b:=false) (by first|(simp [];done)|(simp [];omega)) ?_
  refine AW.skip ?_
  simp
  repeat (refine And.intro (by omega) ?_)
  apply hK;clear hK K
  refine AW.seqK fun K hK=>?_
  refine AW.regionP rfl ?_
  simp
  repeat (refine And.intro (by omega) ?_)
  apply hK;clear hK K
  exact AW.ret (κ:=0) (FinP.tmp (κ:=0) rfl 2 (by simp [botO]) (by first|rfl|simp) (by first|rfl|simp) (by first|rfl|simp))
theorem num_IsInt_ok (G:List (List DV))(neg:Bool)(p q:Option (List Nat)):CallsP Tryz.prog G 235 [nmA neg p q] (.c (.d (.bool q.isNone))):=by
 refine CallsP.of_AW Go.Proofs.Tryz.func235 rfl (by rw [Tryz.ntmps235];simp) ?_
 rintro⟨_,_,w0,F0,W0,_,lv0,β0⟩ rfl rfl rfl
 refine AW.seqK fun K hK=>?_
 refine AW.regionP rfl ?_
 simp
 repeat (refine And.intro (by omega) ?_)
 apply hK;clear hK K
 refine AW.seqK fun K hK=>?_
 refine AW.regionP rfl ?_
 simp [eqNil]
 repeat (refine And.intro (by omega) ?_)
 apply hK;clear hK K
 exact AW.ret (κ:=0) (FinP.tmp (κ:=0) rfl 2 (by simp []) (by first|rfl|simp) (by first|rfl|simp) (by first|rfl|simp))
theorem num_Abs_ok (G:List (List DV))(neg:Bool)(p q:Option (List Nat)):CallsP Tryz.prog G 236 [nmA neg p q] (nmA false p q):=by
 refine CallsP.of_AWc Go.Proofs.Tryz.func236 rfl (by rw [Tryz.ntmps236];simp) (fun lv=>nC_dArg lv _ _ _) ?_
 rintro⟨_,_,w0,F0,W0,_,lv0,β0⟩ rfl rfl rfl
 refine AW.seqK fun K hK=>?_
 refine AW.regionP rfl ?_
 simp
 repeat (refine And.intro (by omega) ?_)
 apply hK;clear hK K
 refine AW.seqK fun K hK=>?_
 refine AW.regionP rfl ?_
 simp [bNum]
 repeat (refine And.intro (by omega) ?_)
 apply hK;clear hK K
 refine AW.ret ?_
 refine FinC.cell (T:=224) (t:=2) (k:=1) (off:=0) (own:=true) (fz:=false) (U:=224) (cs:=[.d (.bool false),nC p,nC q]) rfl ?_ ?_ ?_
 ·simp
 ·simp [setSeg]
 ·rw [List.drop_zero,loadNum]
def cmA (neg:Bool)(p q:Option (List Nat))(neg':Bool)(p' q':Option (List Nat)):Int:=
 if sgA neg p=sgA neg' p' then sgA neg p*cmpN (val 4294967296 (dO p)*val 4294967296 (dO (botO q'))) (val 4294967296 (dO p')*val 4294967296 (dO (botO q)))
 else if sgA neg p<sgA neg' p' then -1 else 1
theorem cmpN_rng (a b:Nat):-1≤cmpN a b∧cmpN a b≤1:=by unfold cmpN;(repeat' split) <;> omega
theorem sg_mul (neg:Bool)(p:Option (List Nat))(a b:Nat):IntKind.i64.wrap (sgA neg p*cmpN a b)=sgA neg p*cmpN a b:=by
 have h1:=cmpN_rng a b
 have h2:sgA neg p=0∨sgA neg p=1∨sgA neg p = -1:=by unfold sgA;split <;> (try split) <;> simp
 rcases h2 with h|h|h <;> rw [h] <;> exact w64 (by omega) (by omega)
theorem botO_len {q:Option (List Nat)}{n:Nat}(h:(dO q).length≤n) (hn:1≤n):(dO (botO q)).length≤n:=by
 cases q with
 | none=>exact Nat.le_trans (dig_len_le (m:=1) (by decide) (by decide)) hn
 | some l=>exact h
set_option maxHeartbeats 2000000 in
theorem num_Cmp_ok (G:List (List DV))(neg neg':Bool)(p q p' q':Option (List Nat))(h1:(dO p).length≤100000000000)(h2:(dO q).length≤100000000000)(h3:(dO p').length≤100000000000)(h4:(dO q').length≤100000000000) :
 CallsP Tryz.prog G 161 [nmA neg p q,nmA neg' p' q'] (.c (.d (.int .i64 (cmA neg p q neg' p' q')))):=by
 have b1:=botO_len h2 (by decide)
 have b2:=botO_len h4 (by decide)
 have m1:=exact_mul_ok G p (botO q') (by omega) (by omega)
 have m2:=exact_mul_ok G p' (botO q) (by omega) (by omega)
 have m3:=exact_cmp_ok (G:=G) (a:=some (dig 4294967296 (val 4294967296 (dO p)*val 4294967296 (dO (botO q'))))) (b:=some (dig 4294967296 (val 4294967296 (dO p')*val 4294967296 (dO (botO q))))) (dig_can (by decide) _) (dig_can (by decide) _)
 simp only [dO_some,dig_val (by decide:2≤4294967296)] at m3
 simp only [nK_nC] at m1 m2 m3
 refine CallsP.of_AW Go.Proofs.Tryz.func161 rfl (by rw [Tryz.ntmps161];simp) ?_
 rintro⟨_,_,w0,F0,W0,_,lv0,β0⟩ rfl rfl rfl
 refine AW.seqK fun K hK=>?_
 refine AW.regionP rfl ?_
 simp
 repeat (refine And.intro (by omega) ?_)
 apply hK;clear hK K
 refine AW.seqK fun K hK=>?_
 refine AW.drawP mixed (by kernel_rfl) rfl ?_
 simp
 refine CallDo.pure 2 9 (num_Sign_ok _ neg p q) (by simp) (by simp) rfl ?_
 simp
 refine CallDo.pure 2 9 (num_Sign_ok _ neg' p' q') (by simp) (by simp) rfl ?_
 simp
 refine⟨by kernel_rfl,?_⟩
 repeat (refine And.intro (by omega) ?_)
 apply hK;clear hK K
 refine AW.seqK fun K hK=>?_
 refine AW.seqK fun K1 hK1=>?_
 refine AW.regionP rfl ?_
 simp
 repeat (refine And.intro (by omega) ?_)
 apply hK1;clear hK1 K1
 by_cases hs:sgA neg p=sgA neg' p'
 ·refine AW.cond (b:=false) (by first|(simp [hs];done)|(simp [hs];omega)) ?_
  refine AW.skip ?_
  simp
  repeat (refine And.intro (by omega) ?_)
  apply hK;clear hK K
  refine AW.seqK fun K hK=>?_
  refine AW.drawP mixed (by kernel_rfl) rfl ?_
  simp [hs]
  refine CallDo.pure 2 9 (num_bottom_ok _ neg' p' q') (by simp) (by simp) rfl ?_
  simp
  refine CallDo.pure 2 9 m1 (by simp) (by simp) rfl ?_
  simp
  refine CallDo.pure 2 9 (num_bottom_ok _ neg p q) (by simp) (by simp) rfl ?_
  simp
  refine CallDo.pure 2 9 m2 (by simp) (by simp) rfl ?_
  simp
  refine CallDo.pure 2 9 m3 (by simp) (by simp) rfl ?_
  simp [sg_mul]
  refine⟨by kernel_rfl,?_⟩
  repeat (refine And.intro (by omega) ?_)
  apply hK;clear hK K
  exact AW.ret (κ:=0) (FinP.tmp (κ:=0) rfl 4 (by simp [cmA,hs]) (by first|rfl|simp) (by first|rfl|simp) (by first|rfl|simp))
 ·refine AW.cond (b:=true) (by first|(simp [hs];done)|(simp [hs];omega)) ?_
  refine AW.seqK fun K1 hK1=>?_
  refine AW.seqK fun K2 hK2=>?_
  refine AW.regionP rfl ?_
  simp
  repeat (refine And.intro (by omega) ?_)
  apply hK2;clear hK2 K2
  by_cases hlt:sgA neg p<sgA neg' p'
  ·refine AW.cond (b:=true) (by first|(simp [hlt];done)|(simp [hlt];omega)) ?_
   refine AW.seqK fun K2 hK2=>?_
   refine AW.regionP rfl ?_
   simp
   repeat (refine And.intro (by omega) ?_)
   apply hK2;clear hK2 K2
   exact AW.ret (κ:=0) (FinP.tmp (κ:=0) rfl 4 (by simp [cmA,hs,hlt]) (by first|rfl|simp) (by first|rfl|simp) (by first|rfl|simp))
  ·refine AW.cond (b:=false) (by first|(simp [hlt];done)|(simp [hlt];omega)) ?_
   refine AW.skip ?_
   simp
   repeat (refine And.intro (by omega) ?_)
   apply hK1;clear hK1 K1
   refine AW.seqK fun K1 hK1=>?_
   refine AW.regionP rfl ?_
   simp
   repeat (refine And.intro (by omega) ?_)
   apply hK1;clear hK1 K1
   exact AW.ret (κ:=0) (FinP.tmp (κ:=0) rfl 4 (by simp [cmA,hs,hlt]) (by first|rfl|simp) (by first|rfl|simp) (by first|rfl|simp))
end Go.Am

namespace Go.Am
open Go.Am.Ty Go.Proofs N
def natO (n:Nat):Option (List Nat):=if n=0 then none else some (dig 4294967296 n)
def denO (n:Nat):Option (List Nat):=if n=1 then none else some (dig 4294967296 n)
abbrev ratV (x:Rat):AV:=nmA (decide (x.num<0)) (natO x.num.natAbs) (denO x.den)
def sgI (neg:Bool)(a:Nat):Int:=if neg then -(a:Int) else a
theorem natO_d (n:Nat):dO (natO n)=(dig 4294967296 n):=by
 unfold natO;split
 ·rename_i h;subst h;rfl
 ·rfl
theorem denO_b (n:Nat):botO (denO n)=some (dig 4294967296 n):=by
 unfold denO;split
 ·rename_i h;subst h;rfl
 ·rfl
theorem val_dig (n:Nat):val 4294967296 (dig 4294967296 n)=n:=dig_val (by decide) n
theorem can_dig (n:Nat):can 4294967296 (dig 4294967296 n):=dig_can (by decide) n
theorem natO_v (n:Nat):(val 4294967296 (dO (natO n)))=n:=by rw [natO_d,val_dig]
theorem denO_v (n:Nat):(val 4294967296 (dO (botO (denO n))))=n:=by rw [denO_b,dO_some,val_dig]
theorem natO_can (n:Nat):can 4294967296 (dO (natO n)):=by rw [natO_d];exact can_dig n
theorem denO_can (n:Nat):can 4294967296 (dO (botO (denO n))):=by rw [denO_b];exact can_dig n
theorem dig_ne {n:Nat}(h:n≠0):(dig 4294967296 n)≠[]:=fun e=>h ((dig_nil (by decide)).1 e)
theorem some_of_ne {o:Option (List Nat)}(hc:can 4294967296 (dO o)) (h:dO o≠[]):o=some (dig 4294967296 (val 4294967296 (dO o))):=by
 cases o with
 | none=>exact absurd rfl h
 | some l=>exact congrArg some (dig_of (by decide) hc rfl)
theorem mkRat_sg (neg:Bool){a b:Nat}(hb:b≠0):(mkRat (sgI neg a) b).num=sgI neg (a / Nat.gcd a b)∧(mkRat (sgI neg a) b).den=b / Nat.gcd a b:=by
 have h1:(sgI neg a).natAbs=a:=by unfold sgI;split <;> omega
 rw [Rat.num_mkRat,Rat.den_mkRat,if_neg hb,if_neg hb,h1,Nat.gcd_comm b a]
 refine⟨?_,rfl⟩
 cases neg with
 | false=>rfl
 | true=>
  show -(a:Int) / ((Nat.gcd a b:Nat):Int) = -((a / Nat.gcd a b:Nat):Int)
  rw [Int.neg_ediv_of_dvd (Int.ofNat_dvd.2 (Nat.gcd_dvd_left a b))];rfl
theorem sgI_abs (neg:Bool)(a:Nat):(sgI neg a).natAbs=a:=by unfold sgI;split <;> omega
theorem sgI_neg (neg:Bool){a:Nat}(h:a≠0):decide (sgI neg a<0)=neg:=by
 cases neg <;> simp [sgI] <;> omega
theorem mP_eq {p q:Option (List Nat)}(hp:can 4294967296 (dO p)) (hq:can 4294967296 (dO q)) (h0:dO p≠[]):mP p q=natO ((val 4294967296 (dO p)) / Nat.gcd (val 4294967296 (dO p)) (val 4294967296 (dO q))):=by
 have ha:0<(val 4294967296 (dO p)):=can_pos hp h0
 have ep:=some_of_ne hp h0
 have hgv:(val 4294967296 (dO (gO p q)))=Nat.gcd (val 4294967296 (dO p)) (val 4294967296 (dO q)):=by unfold gO;rw [gcdO_d hp hq,val_dig]
 have hgp:0<Nat.gcd (val 4294967296 (dO p)) (val 4294967296 (dO q)):=Nat.gcd_pos_of_pos_left _ ha
 have hle:Nat.gcd (val 4294967296 (dO p)) (val 4294967296 (dO q))≤(val 4294967296 (dO p)):=Nat.le_of_dvd ha (Nat.gcd_dvd_left _ _)
 have hag:(val 4294967296 (dO p)) / Nat.gcd (val 4294967296 (dO p)) (val 4294967296 (dO q))≠0:=Nat.ne_of_gt (Nat.div_pos hle hgp)
 unfold natO;rw [if_neg hag];unfold mP
 split
 ·rename_i h;rw [h,Nat.gcd_one_right,Nat.div_one];exact ep
 ·split
  ·rename_i h;rw [hgv] at h;rw [h,Nat.div_one];exact ep
  ·unfold divQ;rw [hgv,if_neg (Nat.not_lt.2 hle)]
theorem mQ_eq {p q:Option (List Nat)}(hp:can 4294967296 (dO p)) (hq:can 4294967296 (dO q)) (h0:dO q≠[]):mQ p q=denO ((val 4294967296 (dO q)) / Nat.gcd (val 4294967296 (dO p)) (val 4294967296 (dO q))):=by
 have hb:0<(val 4294967296 (dO q)):=can_pos hq h0
 have eq:=some_of_ne hq h0
 have hgv:(val 4294967296 (dO (gO p q)))=Nat.gcd (val 4294967296 (dO p)) (val 4294967296 (dO q)):=by unfold gO;rw [gcdO_d hp hq,val_dig]
 have hle:Nat.gcd (val 4294967296 (dO p)) (val 4294967296 (dO q))≤(val 4294967296 (dO q)):=Nat.le_of_dvd hb (Nat.gcd_dvd_right _ _)
 have e:mQ0 p q=some (dig 4294967296 ((val 4294967296 (dO q)) / Nat.gcd (val 4294967296 (dO p)) (val 4294967296 (dO q)))):=by
  unfold mQ0
  split
  ·rename_i h;rw [h,Nat.gcd_one_right,Nat.div_one,← h];exact eq
  ·split
   ·rename_i h;rw [hgv] at h;rw [h,Nat.div_one];exact eq
   ·unfold divQ;rw [hgv,if_neg (Nat.not_lt.2 hle)]
 unfold mQ denO
 rw [e,dO_some,val_dig]
theorem madeA_rat (neg:Bool){p q:Option (List Nat)}(hp:can 4294967296 (dO p)) (hq:can 4294967296 (dO q)) (hq0:dO q≠[]):madeA neg p q=ratV (mkRat (sgI neg (val 4294967296 (dO p))) (val 4294967296 (dO q))):=by
 have hb:(val 4294967296 (dO q))≠0:=Nat.ne_of_gt (can_pos hq hq0)
 unfold madeA
 by_cases h0:dO p=[]
 ·have e:sgI neg (val 4294967296 (dO p))=0:=by rw [h0,val_nil];cases neg <;> rfl
  rw [if_pos h0,e,Rat.zero_mkRat];rfl
 ·have ha:0<(val 4294967296 (dO p)):=can_pos hp h0
  have hgp:0<Nat.gcd (val 4294967296 (dO p)) (val 4294967296 (dO q)):=Nat.gcd_pos_of_pos_left _ ha
  have hle:Nat.gcd (val 4294967296 (dO p)) (val 4294967296 (dO q))≤(val 4294967296 (dO p)):=Nat.le_of_dvd ha (Nat.gcd_dvd_left _ _)
  have hag:(val 4294967296 (dO p)) / Nat.gcd (val 4294967296 (dO p)) (val 4294967296 (dO q))≠0:=Nat.ne_of_gt (Nat.div_pos hle hgp)
  obtain⟨n1,n2⟩:=mkRat_sg neg (a:=(val 4294967296 (dO p))) hb
  rw [if_neg h0,mP_eq hp hq h0,mQ_eq hp hq hq0]
  show nmA neg _ _=nmA (decide (_<0)) (natO _) (denO _)
  rw [n1,n2,sgI_abs,sgI_neg neg hag]
theorem rat_sg (x:Rat):sgI (decide (x.num<0)) x.num.natAbs=x.num:=by
 unfold sgI
 by_cases h:x.num<0
 ·rw [decide_eq_true h,if_pos rfl];omega
 ·rw [decide_eq_false h,if_neg (by decide)];omega
def nl (n:Nat):Nat:=(dig 4294967296 n).length
theorem nl_le {n m:Nat}(h:n<4294967296 ^ m):nl n≤m:=dig_len_le (by decide) h
theorem nl_lt (n:Nat):n<4294967296 ^ nl n:=dig_lt (by decide)
theorem nl_mono {m n:Nat}(h:m≤n):nl m≤nl n:=dig_len_mono (by decide) h
theorem nl_mul (a b:Nat):nl (a*b)≤nl a+nl b:=by
 refine nl_le ?_
 rw [Nat.pow_add]
 exact Nat.mul_lt_mul'' (nl_lt a) (nl_lt b)
theorem nl_add (a b:Nat):nl (a+b)≤max (nl a) (nl b)+1:=by
 refine nl_le ?_
 have h1:a<4294967296 ^ max (nl a) (nl b):=Nat.lt_of_lt_of_le (nl_lt a) (Nat.pow_le_pow_right (by decide) (by omega))
 have h2:b<4294967296 ^ max (nl a) (nl b):=Nat.lt_of_lt_of_le (nl_lt b) (Nat.pow_le_pow_right (by decide) (by omega))
 rw [Nat.pow_succ]
 generalize 4294967296 ^ max (nl a) (nl b)=z at *
 omega
theorem pow32 (m:Nat):(2:Nat) ^ (32*m)=4294967296 ^ m:=by rw [Nat.pow_mul]
theorem nl_two (k:Nat):nl (2 ^ k)≤k / 32+1:=by
 refine nl_le ?_
 rw [← pow32]
 exact Nat.pow_lt_pow_right (by decide) (by omega)
theorem nl_one:nl 1=1:=by unfold nl;rw [dig_small (by decide) (by decide) (by decide)];rfl
theorem nl_ten {a L:Nat}(h:a<10 ^ L):nl a≤(L+8) / 9:=by
 refine nl_le (Nat.lt_of_lt_of_le h ?_)
 have h1:(10:Nat) ^ L≤10 ^ (9*((L+8) / 9)):=Nat.pow_le_pow_right (by decide) (by omega)
 rw [Nat.pow_mul] at h1
 exact Nat.le_trans h1 (Nat.pow_le_pow_left (by decide) _)
theorem blen_nl {n:Nat}(h:n≠0):blen n≤32*nl n:=by
 have h1:=nl_lt n
 rw [← pow32] at h1
 have h2:=blen_le h
 have h3:blen n - 1<32*nl n:=(Nat.pow_lt_pow_iff_right (by decide)).1 (Nat.lt_of_le_of_lt h2 h1)
 omega
def szR (x:Rat)(L:Nat):Prop:=nl x.num.natAbs≤L∧nl x.den≤L
theorem szR_mono {x:Rat}{L M:Nat}(h:szR x L) (hm:L≤M):szR x M:=⟨Nat.le_trans h.1 hm,Nat.le_trans h.2 hm⟩
theorem szR_mk (neg:Bool){a b L:Nat}(hb:b≠0) (h1:nl a≤L) (h2:nl b≤L):szR (mkRat (sgI neg a) b) L:=by
 obtain⟨n1,n2⟩:=mkRat_sg neg (a:=a) hb
 unfold szR
 rw [n1,n2,sgI_abs]
 exact⟨Nat.le_trans (nl_mono (Nat.div_le_self _ _)) h1,Nat.le_trans (nl_mono (Nat.div_le_self _ _)) h2⟩
theorem szR_neg {x:Rat}{L:Nat}(h:szR x L):szR (-x) L:=by
 unfold szR at *;rw [Rat.neg_num,Rat.neg_den,Int.natAbs_neg];exact h
def shiftR (x:Rat)(k:Int):Rat:=if k<0 then mkRat x.num (x.den*2 ^ (-k).toNat) else mkRat (x.num*2 ^ k.toNat) x.den
theorem den_pow_ne (x:Rat)(k:Nat):x.den*2 ^ k≠0:=Nat.ne_of_gt (Nat.mul_pos x.den_pos (Nat.pow_pos (by decide)))
theorem shiftR_neg {x:Rat}{k:Int}(h:k<0):shiftR x k=mkRat (sgI (decide (x.num<0)) x.num.natAbs) (x.den*2 ^ (-k).toNat):=by rw [rat_sg];unfold shiftR;rw [if_pos h]
theorem sgI_mul (neg:Bool)(a b:Nat):sgI neg a*(b:Int)=sgI neg (a*b):=by
 unfold sgI;cases neg
 ·simp
 ·simp [Int.neg_mul]
theorem shiftR_pos {x:Rat}{k:Int}(h:¬ k<0):shiftR x k=mkRat (sgI (decide (x.num<0)) (x.num.natAbs*2 ^ k.toNat)) x.den:=by
 unfold shiftR;rw [if_neg h,← sgI_mul,rat_sg]
 congr 2
theorem szR_shift {x:Rat}{L:Nat}(h:szR x L) (k:Int):szR (shiftR x k) (L+k.natAbs / 32+1):=by
 by_cases hk:k<0
 ·rw [shiftR_neg hk]
  refine szR_mk _ (den_pow_ne _ _) (by have:=h.1;omega) ?_
  have h1:=nl_mul x.den (2 ^ (-k).toNat)
  have h2:=nl_two (-k).toNat
  have h3:(-k).toNat=k.natAbs:=by omega
  have:=h.2
  rw [h3] at h1 h2 ⊢
  omega
 ·rw [shiftR_pos hk]
  refine szR_mk _ x.den_nz ?_ (by have:=h.2;omega)
  have h1:=nl_mul x.num.natAbs (2 ^ k.toNat)
  have h2:=nl_two k.toNat
  have h3:k.toNat=k.natAbs:=by omega
  have:=h.1
  rw [h3] at h1 h2 ⊢
  omega
theorem add_mk (x y:Rat):x+y=mkRat (sgI (decide (x.num<0)) (x.num.natAbs*y.den)+sgI (decide (y.num<0)) (y.num.natAbs*x.den)) (x.den*y.den):=by
 rw [Rat.add_def',← sgI_mul,← sgI_mul,rat_sg,rat_sg]
theorem sgI_add (neg:Bool)(a b:Nat):sgI neg a+sgI neg b=sgI neg (a+b):=by unfold sgI;cases neg <;> simp <;> omega
theorem sgI_lt {neg neg':Bool}(h:neg≠neg') {a b:Nat}(hab:a<b):sgI neg a+sgI neg' b=sgI neg' (b - a):=by
 unfold sgI;cases neg <;> cases neg' <;> simp_all <;> omega
theorem sgI_ge {neg neg':Bool}(h:neg≠neg') {a b:Nat}(hab:¬ a<b):sgI neg a+sgI neg' b=sgI neg (a - b):=by
 unfold sgI;cases neg <;> cases neg' <;> simp_all <;> omega
theorem szR_add {x y:Rat}{L:Nat}(hx:szR x L) (hy:szR y L):szR (x+y) (2*L+1):=by
 have hd:x.den*y.den≠0:=Nat.ne_of_gt (Nat.mul_pos x.den_pos y.den_pos)
 have e1:=nl_mul x.num.natAbs y.den
 have e2:=nl_mul y.num.natAbs x.den
 have e3:=nl_mul x.den y.den
 obtain⟨a1,a2⟩:=hx
 obtain⟨b1,b2⟩:=hy
 rw [add_mk]
 by_cases h:decide (x.num<0)=decide (y.num<0)
 ·rw [h,sgI_add]
  refine szR_mk _ hd ?_ (by omega)
  have:=nl_add (x.num.natAbs*y.den) (y.num.natAbs*x.den)
  omega
 ·by_cases hab:x.num.natAbs*y.den<y.num.natAbs*x.den
  ·rw [sgI_lt h hab]
   refine szR_mk _ hd ?_ (by omega)
   have:=nl_mono (Nat.sub_le (y.num.natAbs*x.den) (x.num.natAbs*y.den))
   omega
  ·rw [sgI_ge h hab]
   refine szR_mk _ hd ?_ (by omega)
   have:=nl_mono (Nat.sub_le (x.num.natAbs*y.den) (y.num.natAbs*x.den))
   omega
def cmpR (x y:Rat):Int:=if x<y then -1 else if y<x then 1 else 0
end Go.Am

namespace Go.Am
open Go.Am.Ty Go.Proofs N
theorem eqBool (a b:Bool):stepBin Tryz.prog .eql 4 (.c (.d (.bool a))) (.c (.d (.bool b)))=some (.c (.d (.bool (a == b))),[],[],True):=by
 cases a <;> cases b <;> kernel_rfl
theorem rat_made (G:List (List DV))(neg:Bool)(p q:Option (List Nat))(hp:can 4294967296 (dO p))(hq:can 4294967296 (dO q))(hq0:dO q≠[])(hl:(dO p).length<1000000000000)(hl':(dO q).length<1000000000000) :
 CallsP Tryz.prog G 225 [.c (.d (.bool neg)),.c (nC p),.c (nC q)] (ratV (mkRat (sgI neg (val 4294967296 (dO p))) (val 4294967296 (dO q)))):=by
 have:=exact_made_ok G neg p q hp hq hq0 hl hl'
 rw [madeA_rat neg hp hq hq0] at this
 simp only [nK_nC] at this
 exact this
theorem rat_made' (G:List (List DV))(neg:Bool)(a b:Nat)(hb:b≠0)(hl:nl a<1000000000000)(hl':nl b<1000000000000) :
 CallsP Tryz.prog G 225 [.c (.d (.bool neg)),.c (nC (some (dig 4294967296 a))),.c (nC (some (dig 4294967296 b)))] (ratV (mkRat (sgI neg a) b)):=by
 have:=rat_made G neg (some (dig 4294967296 a)) (some (dig 4294967296 b)) (can_dig a) (can_dig b) (dig_ne hb) hl hl'
 simp only [dO_some,val_dig] at this
 exact this
theorem num_Neg_ok (G:List (List DV))(neg:Bool)(p q:Option (List Nat)):CallsP Tryz.prog G 198 [nmA neg p q] (nmA (!neg && decide (dO p≠[])) p q):=by
 cases neg with
 | true=>
  show CallsP Tryz.prog G 198 [nmA true p q] (nmA false p q)
  refine CallsP.of_AWc Go.Proofs.Tryz.func198 rfl (by rw [Tryz.ntmps198];simp) (fun lv=>nC_dArg lv _ _ _) ?_
  rintro⟨_,_,w0,F0,W0,_,lv0,β0⟩ rfl rfl rfl
  refine AW.seqK fun K hK=>?_
  refine AW.regionP rfl ?_
  simp
  repeat (refine And.intro (by omega) ?_)
  apply hK;clear hK K
  refine AW.seqK fun K hK=>?_
  refine AW.regionP rfl ?_
  simp [bNum]
  repeat (refine And.intro (by omega) ?_)
  apply hK;clear hK K
  refine AW.ret ?_
  refine FinC.cell (κ:=0) (T:=224) (t:=2) (k:=1) (off:=0) (own:=true) (fz:=false) (U:=224) (cs:=[.d (.bool false),nC p,nC q]) rfl ?_ ?_ ?_
  ·simp
  ·simp [setSeg]
  ·rw [List.drop_zero,loadNum]
 | false=>
  by_cases hp:dO p=[]
  ·rw [show (!false && decide (dO p≠[]))=false by simp [hp]]
   refine CallsP.of_AWc Go.Proofs.Tryz.func198 rfl (by rw [Tryz.ntmps198];simp) (fun lv=>nC_dArg lv _ _ _) ?_
   rintro⟨_,_,w0,F0,W0,_,lv0,β0⟩ rfl rfl rfl
   refine AW.seqK fun K hK=>?_
   refine AW.regionP rfl ?_
   simp
   repeat (refine And.intro (by omega) ?_)
   apply hK;clear hK K
   refine AW.seqK fun K hK=>?_
   refine AW.regionP rfl ?_
   simp [bNum,lpC,hp]
   repeat (refine And.intro (by omega) ?_)
   apply hK;clear hK K
   refine AW.ret ?_
   refine FinC.cell (κ:=0) (T:=224) (t:=2) (k:=1) (off:=0) (own:=true) (fz:=false) (U:=224) (cs:=[.d (.bool false),nC p,nC q]) rfl ?_ ?_ ?_
   ·simp
   ·simp [setSeg]
   ·rw [List.drop_zero,loadNum]
  ·rw [show (!false && decide (dO p≠[]))=true by simp [hp]]
   refine CallsP.of_AWc Go.Proofs.Tryz.func198 rfl (by rw [Tryz.ntmps198];simp) (fun lv=>nC_dArg lv _ _ _) ?_
   rintro⟨_,_,w0,F0,W0,_,lv0,β0⟩ rfl rfl rfl
   refine AW.seqK fun K hK=>?_
   refine AW.regionP rfl ?_
   simp
   repeat (refine And.intro (by omega) ?_)
   apply hK;clear hK K
   refine AW.seqK fun K hK=>?_
   have hp':=List.length_pos_iff.2 hp
   refine AW.regionP rfl ?_
   simp [bNum,lpC,hp,hp']
   repeat (refine And.intro (by omega) ?_)
   apply hK;clear hK K
   refine AW.ret ?_
   refine FinC.cell (κ:=0) (T:=224) (t:=2) (k:=1) (off:=0) (own:=true) (fz:=false) (U:=224) (cs:=[.d (.bool true),nC p,nC q]) rfl ?_ ?_ ?_
   ·simp
   ·simp [setSeg]
   ·rw [List.drop_zero,loadNum]
theorem rat_Neg (G:List (List DV))(x:Rat):CallsP Tryz.prog G 198 [ratV x] (ratV (-x)):=by
 have h:=num_Neg_ok G (decide (x.num<0)) (natO x.num.natAbs) (denO x.den)
 have e:(!decide (x.num<0) && decide (dO (natO x.num.natAbs)≠[]))=decide ((-x).num<0):=by
  rw [Rat.neg_num,natO_d]
  by_cases h0:x.num=0
  ·rw [h0];rfl
  ·have h1:(dig 4294967296 x.num.natAbs)≠[]:=dig_ne (by omega)
   rw [decide_eq_true h1,Bool.and_true]
   by_cases h2:x.num<0
   ·rw [decide_eq_true h2,decide_eq_false (by omega)];rfl
   ·rw [decide_eq_false h2,decide_eq_true (by omega)];rfl
 rw [e] at h
 show CallsP _ _ _ _ (nmA (decide ((-x).num<0)) (natO (-x).num.natAbs) (denO (-x).den))
 rw [show (-x).num.natAbs=x.num.natAbs by rw [Rat.neg_num,Int.natAbs_neg],Rat.neg_den]
 exact h
theorem mkRat_int (neg:Bool)(a:Nat):mkRat (sgI neg a) 1=((sgI neg a:Int):Rat):=by
 rw [Rat.mkRat_one]
theorem rat_Int (G:List (List DV))(n:Int)(h1:-9223372036854775808≤n)(h2:n≤9223372036854775807):CallsP Tryz.prog G 263 [.c (.d (.int .i64 n))] (ratV (n:Rat)):=by
 have hof1:=exact_of_ok G 1 (by decide)
 have hofn:=exact_of_ok G n.natAbs (by omega)
 have hl:nl n.natAbs<1000000000000:=by
  have e2:(4294967296:Nat) ^ 2=18446744073709551616:=by decide
  have:=nl_le (n:=n.natAbs) (m:=2) (by omega)
  omega
 have hm:=fun neg=>rat_made' G neg n.natAbs 1 (by decide) hl (by rw [nl_one];decide)
 simp only [nK_nC] at hof1 hofn
 simp only [mkRat_int] at hm
 by_cases hn:n<0
 ·have e:sgI true n.natAbs=n:=by unfold sgI;rw [if_pos rfl];omega
  have hm1:=hm true
  rw [e] at hm1
  have ew:IntKind.u64.wrap (-IntKind.u64.wrap n)=(n.natAbs:Int):=by rw [wu64m,wu64m];omega
  refine CallsP.of_AWc Go.Proofs.Tryz.func263 rfl (by rw [Tryz.ntmps263];simp) (fun lv=>nC_dArg lv _ _ _) ?_
  rintro⟨_,_,w0,F0,W0,_,lv0,β0⟩ rfl rfl rfl
  refine AW.seqK fun K hK=>?_
  refine AW.regionP rfl ?_
  simp
  repeat (refine And.intro (by omega) ?_)
  apply hK;clear hK K
  refine AW.seqK fun K hK=>?_
  refine AW.seqK fun K1 hK1=>?_
  refine AW.regionP rfl ?_
  simp [hn]
  repeat (refine And.intro (by omega) ?_)
  apply hK1;clear hK1 K1
  refine AW.cond (b:=true) (by first|(simp [hn];done)|(simp [hn];omega)) ?_
  refine AW.seqK fun K1 hK1=>?_
  refine AW.regionP rfl ?_
  simp [ew]
  refine CallDo.pure 1 9 (hofn) (by first|(simp;done)|rfl) (by simp) (by first|rfl|simp) ?_
  simp
  refine CallDo.pure 1 9 (hof1) (by first|(simp;done)|rfl) (by simp) (by first|rfl|simp) ?_
  simp
  refine CallDo.pure 1 9 (hm1) (by first|(simp;done)|rfl) (by simp) (by first|rfl|simp) ?_
  simp
  repeat (refine And.intro (by omega) ?_)
  apply hK1;clear hK1 K1
  refine AW.ret ?_
  refine FinC.cell (κ:=0) (T:=224) (t:=2) (k:=0) (off:=0) (own:=true) (fz:=false) (U:=224) (cs:=[.d (.bool (decide ((n:Rat).num<0))),nC (natO (n:Rat).num.natAbs),nC (denO (n:Rat).den)]) rfl ?_ ?_ ?_
  ·simp
  ·simp [setSeg]
  ·rw [List.drop_zero,loadNum]
 ·have e:sgI false n.natAbs=n:=by unfold sgI;rw [if_neg (by decide)];omega
  have hm1:=hm false
  rw [e] at hm1
  have ew:IntKind.u64.wrap n=(n.natAbs:Int):=by rw [wu64m];omega
  refine CallsP.of_AWc Go.Proofs.Tryz.func263 rfl (by rw [Tryz.ntmps263];simp) (fun lv=>nC_dArg lv _ _ _) ?_
  rintro⟨_,_,w0,F0,W0,_,lv0,β0⟩ rfl rfl rfl
  refine AW.seqK fun K hK=>?_
  refine AW.regionP rfl ?_
  simp
  repeat (refine And.intro (by omega) ?_)
  apply hK;clear hK K
  refine AW.seqK fun K hK=>?_
  refine AW.seqK fun K1 hK1=>?_
  refine AW.regionP rfl ?_
  simp [hn]
  repeat (refine And.intro (by omega) ?_)
  apply hK1;clear hK1 K1
  refine AW.cond (b:=false) (by first|(simp [hn];done)|(simp [hn];omega)) ?_
  refine AW.skip ?_
  simp
  repeat (refine And.intro (by omega) ?_)
  apply hK;clear hK K
  refine AW.seqK fun K hK=>?_
  refine AW.regionP rfl ?_
  simp [ew]
  refine CallDo.pure 1 9 (hofn) (by first|(simp;done)|rfl) (by simp) (by first|rfl|simp) ?_
  simp
  refine CallDo.pure 1 9 (hof1) (by first|(simp;done)|rfl) (by simp) (by first|rfl|simp) ?_
  simp
  refine CallDo.pure 1 9 (hm1) (by first|(simp;done)|rfl) (by simp) (by first|rfl|simp) ?_
  simp
  repeat (refine And.intro (by omega) ?_)
  apply hK;clear hK K
  refine AW.ret ?_
  refine FinC.cell (κ:=0) (T:=224) (t:=2) (k:=0) (off:=0) (own:=true) (fz:=false) (U:=224) (cs:=[.d (.bool (decide ((n:Rat).num<0))),nC (natO (n:Rat).num.natAbs),nC (denO (n:Rat).den)]) rfl ?_ ?_ ?_
  ·simp
  ·simp [setSeg]
  ·rw [List.drop_zero,loadNum]
def addR (neg:Bool)(a:Nat)(neg':Bool)(b q:Nat):Rat:=
 if neg=neg' then mkRat (sgI neg (a+b)) q else if a<b then mkRat (sgI neg' (b - a)) q else mkRat (sgI neg (a - b)) q
theorem cmpN_neg {a b:Nat}:(cmpN a b<0)↔a<b:=by unfold cmpN;(repeat' split) <;> omega
set_option maxHeartbeats 4000000 in
theorem num_Add_ok (G:List (List DV))(neg neg':Bool)(p q p' q':Option (List Nat))(h1:(dO p).length≤10000000000)(h2:(dO q).length≤10000000000)(h3:(dO p').length≤10000000000)(h4:(dO q').length≤10000000000)
 (c1:can 4294967296 (dO p)) (c2:can 4294967296 (dO (botO q))) (c3:can 4294967296 (dO p')) (c4:can 4294967296 (dO (botO q'))) (z2:(val 4294967296 (dO (botO q)))≠0) (z4:(val 4294967296 (dO (botO q')))≠0) :
 CallsP Tryz.prog G 335 [nmA neg p q,nmA neg' p' q'] (ratV (addR neg ((val 4294967296 (dO p))*(val 4294967296 (dO (botO q')))) neg' ((val 4294967296 (dO p'))*(val 4294967296 (dO (botO q)))) ((val 4294967296 (dO (botO q)))*(val 4294967296 (dO (botO q')))))):=by
 have b1:=botO_len h2 (by decide)
 have b2:=botO_len h4 (by decide)
 have m1:=exact_mul_ok G p (botO q') (by omega) (by omega)
 have m2:=exact_mul_ok G p' (botO q) (by omega) (by omega)
 have m3:=exact_mul_ok G (botO q) (botO q') (by omega) (by omega)
 have hQ:(val 4294967296 (dO (botO q)))*(val 4294967296 (dO (botO q')))≠0:=Nat.ne_of_gt (Nat.mul_pos (Nat.pos_of_ne_zero z2) (Nat.pos_of_ne_zero z4))
 have lv:∀ {o:Option (List Nat)},can 4294967296 (dO o)→nl (val 4294967296 (dO o))=(dO o).length:=fun {o} hc=>by unfold nl;rw [← dig_of (by decide) hc rfl]
 have l1:nl ((val 4294967296 (dO p))*(val 4294967296 (dO (botO q'))))≤20000000000:=by
  have:=nl_mul (val 4294967296 (dO p)) (val 4294967296 (dO (botO q')))
  rw [lv c1,lv c4] at this;omega
 have l2:nl ((val 4294967296 (dO p'))*(val 4294967296 (dO (botO q))))≤20000000000:=by
  have:=nl_mul (val 4294967296 (dO p')) (val 4294967296 (dO (botO q)))
  rw [lv c3,lv c2] at this;omega
 have l3:nl ((val 4294967296 (dO (botO q)))*(val 4294967296 (dO (botO q'))))≤20000000000:=by
  have:=nl_mul (val 4294967296 (dO (botO q))) (val 4294967296 (dO (botO q')))
  rw [lv c2,lv c4] at this;omega
 generalize (val 4294967296 (dO p))*(val 4294967296 (dO (botO q')))=a at *
 generalize (val 4294967296 (dO p'))*(val 4294967296 (dO (botO q)))=b at *
 generalize (val 4294967296 (dO (botO q)))*(val 4294967296 (dO (botO q')))=Q at *
 have la:(dO (some (dig 4294967296 a))).length≤20000000000:=l1
 have lb:(dO (some (dig 4294967296 b))).length≤20000000000:=l2
 have k1:=exact_add_ok G (some (dig 4294967296 a)) (some (dig 4294967296 b)) (by omega) (by omega)
 have k2:=exact_cmp_ok (G:=G) (a:=some (dig 4294967296 a)) (b:=some (dig 4294967296 b)) (can_dig _) (can_dig _)
 have k3:=fun h=>exact_sub_ok G (some (dig 4294967296 a)) (some (dig 4294967296 b)) (by omega) h
 have k4:=fun h=>exact_sub_ok G (some (dig 4294967296 b)) (some (dig 4294967296 a)) (by omega) h
 simp only [dO_some,val_dig] at k1 k2 k3 k4
 simp only [nK_nC,N32] at m1 m2 m3 k1 k2 k3 k4
 have mk1:=fun neg n (h:nl n≤20000000001)=>rat_made' G neg n Q hQ (by omega) (by omega)
 have hsum:nl (a+b)≤20000000001:=by have:=nl_add a b;omega
 have hs1:nl (a - b)≤20000000001:=by have:=nl_mono (Nat.sub_le a b);omega
 have hs2:nl (b - a)≤20000000001:=by have:=nl_mono (Nat.sub_le b a);omega
 refine CallsP.of_AWc Go.Proofs.Tryz.func335 rfl (by rw [Tryz.ntmps335];simp) (fun lv=>nC_dArg lv _ _ _) ?_
 rintro⟨_,_,w0,F0,W0,_,lv0,β0⟩ rfl rfl rfl
 refine AW.seqK fun K hK=>?_
 refine AW.regionP rfl ?_
 simp
 repeat (refine And.intro (by omega) ?_)
 apply hK;clear hK K
 refine AW.seqK fun K hK=>?_
 refine AW.drawP mixed (by kernel_rfl) rfl ?_
 simp
 refine CallDo.pure 3 9 (num_bottom_ok _ neg' p' q') (by first|(simp;done)|rfl) (by simp) (by first|rfl|simp) ?_
 simp
 refine CallDo.pure 3 9 (m1) (by first|(simp;done)|rfl) (by simp) (by first|rfl|simp) ?_
 simp
 refine CallDo.pure 3 9 (num_bottom_ok _ neg p q) (by first|(simp;done)|rfl) (by simp) (by first|rfl|simp) ?_
 simp
 refine CallDo.pure 3 9 (m2) (by first|(simp;done)|rfl) (by simp) (by first|rfl|simp) ?_
 simp
 refine CallDo.pure 3 9 (num_bottom_ok _ neg p q) (by first|(simp;done)|rfl) (by simp) (by first|rfl|simp) ?_
 simp
 refine CallDo.pure 3 9 (num_bottom_ok _ neg' p' q') (by first|(simp;done)|rfl) (by simp) (by first|rfl|simp) ?_
 simp
 refine CallDo.pure 3 9 (m3) (by first|(simp;done)|rfl) (by simp) (by first|rfl|simp) ?_
 simp
 refine⟨by kernel_rfl,?_⟩
 repeat (refine And.intro (by omega) ?_)
 apply hK;clear hK K
 refine AW.seqK fun K hK=>?_
 refine AW.block ?_
 refine AW.seqK fun K1 hK1=>?_
 refine AW.regionP rfl ?_
 simp [eqBool]
 repeat (refine And.intro (by omega) ?_)
 apply hK1;clear hK1 K1
 by_cases hn:neg=neg'
 ·subst hn
  have e:addR neg a neg b Q=mkRat (sgI neg (a+b)) Q:=by unfold addR;rw [if_pos rfl]
  rw [e]
  refine AW.cond (b:=true) (by first|(simp [];done)|(simp [];omega)) ?_
  refine AW.seqK fun K1 hK1=>?_
  refine AW.drawP mixed (by kernel_rfl) rfl ?_
  simp
  refine CallDo.pure 3 9 (k1) (by first|(simp;done)|rfl) (by simp) (by first|rfl|simp) ?_
  simp
  refine CallDo.pure 3 9 (mk1 neg _ hsum) (by first|(simp;done)|rfl) (by simp) (by first|rfl|simp) ?_
  simp
  refine⟨by kernel_rfl,?_⟩
  repeat (refine And.intro (by omega) ?_)
  apply hK1;clear hK1 K1
  refine AW.ret ?_
  refine FinC.cell (κ:=0) (T:=224) (t:=4) (k:=2) (off:=0) (own:=true) (fz:=false) (U:=224) (cs:=[.d (.bool (decide ((mkRat (sgI neg (a+b)) Q).num<0))),nC (natO (mkRat (sgI neg (a+b)) Q).num.natAbs),nC (denO (mkRat (sgI neg (a+b)) Q).den)]) rfl ?_ ?_ ?_
  ·simp
  ·simp [setSeg]
  ·rw [List.drop_zero,loadNum]
 have hn':(neg == neg')=false:=by cases neg <;> cases neg' <;> simp_all
 refine AW.cond (b:=false) (by first|(simp [hn'];done)|(simp [hn'];omega)) ?_
 refine AW.seqK fun K1 hK1=>?_
 refine AW.regionP rfl ?_
 simp
 refine CallDo.pure 3 9 (k2) (by first|(simp;done)|rfl) (by simp) (by first|rfl|simp) ?_
 simp
 repeat (refine And.intro (by omega) ?_)
 apply hK1;clear hK1 K1
 by_cases hab:a<b
 ·have e:addR neg a neg' b Q=mkRat (sgI neg' (b - a)) Q:=by unfold addR;rw [if_neg hn,if_pos hab]
  rw [e]
  have hc:=cmpN_neg.2 hab
  refine AW.cond (b:=true) (by first|(simp [hc];done)|(simp [hc];omega)) ?_
  refine AW.seqK fun K1 hK1=>?_
  refine AW.drawP mixed (by kernel_rfl) rfl ?_
  simp
  refine CallDo.pure 3 9 (k4 (by omega)) (by first|(simp;done)|rfl) (by simp) (by first|rfl|simp) ?_
  simp
  refine CallDo.pure 3 9 (mk1 neg' _ hs2) (by first|(simp;done)|rfl) (by simp) (by first|rfl|simp) ?_
  simp
  refine⟨by kernel_rfl,?_⟩
  repeat (refine And.intro (by omega) ?_)
  apply hK1;clear hK1 K1
  refine AW.ret ?_
  refine FinC.cell (κ:=0) (T:=224) (t:=4) (k:=2) (off:=0) (own:=true) (fz:=false) (U:=224) (cs:=[.d (.bool (decide ((mkRat (sgI neg' (b - a)) Q).num<0))),nC (natO (mkRat (sgI neg' (b - a)) Q).num.natAbs),nC (denO (mkRat (sgI neg' (b - a)) Q).den)]) rfl ?_ ?_ ?_
  ·simp
  ·simp [setSeg]
  ·rw [List.drop_zero,loadNum]
 ·have e:addR neg a neg' b Q=mkRat (sgI neg (a - b)) Q:=by unfold addR;rw [if_neg hn,if_neg hab]
  have hc:¬ cmpN a b<0:=fun h=>hab (cmpN_neg.1 h)
  refine AW.cond (b:=false) (by first|(simp [hc];done)|(simp [hc];omega)) ?_
  refine AW.skip ?_
  simp
  repeat (refine And.intro (by omega) ?_)
  apply hK;clear hK K
  refine AW.seqK fun K hK=>?_
  refine AW.drawP mixed (by kernel_rfl) rfl ?_
  simp
  refine CallDo.pure 3 9 (k3 (by omega)) (by first|(simp;done)|rfl) (by simp) (by first|rfl|simp) ?_
  simp
  refine CallDo.pure 3 9 (mk1 neg _ hs1) (by first|(simp;done)|rfl) (by simp) (by first|rfl|simp) ?_
  simp
  refine⟨by kernel_rfl,?_⟩
  repeat (refine And.intro (by omega) ?_)
  apply hK;clear hK K
  refine AW.ret ?_
  refine FinC.cell (κ:=0) (T:=224) (t:=4) (k:=2) (off:=0) (own:=true) (fz:=false) (U:=224) (cs:=[.d (.bool (decide ((mkRat (sgI neg (a - b)) Q).num<0))),nC (natO (mkRat (sgI neg (a - b)) Q).num.natAbs),nC (denO (mkRat (sgI neg (a - b)) Q).den)]) rfl ?_ ?_ ?_
  ·simp
  ·simp [setSeg]
  ·rw [List.drop_zero,loadNum,e]
theorem natO_len (n:Nat):(dO (natO n)).length=nl n:=by rw [natO_d];rfl
theorem denO_len (n:Nat):(dO (denO n)).length≤nl n:=by
 unfold denO;split
 ·exact Nat.zero_le _
 ·exact Nat.le_refl _
theorem rat_Add (G:List (List DV))(x y:Rat)(hx:szR x 10000000000)(hy:szR y 10000000000):CallsP Tryz.prog G 335 [ratV x,ratV y] (ratV (x+y)):=by
 have h:=num_Add_ok G (decide (x.num<0)) (decide (y.num<0)) (natO x.num.natAbs) (denO x.den) (natO y.num.natAbs) (denO y.den)
  (by rw [natO_len];exact hx.1) (Nat.le_trans (denO_len _) hx.2) (by rw [natO_len];exact hy.1) (Nat.le_trans (denO_len _) hy.2) (natO_can _) (denO_can _) (natO_can _) (denO_can _) (by rw [denO_v];exact x.den_nz) (by rw [denO_v];exact y.den_nz)
 simp only [natO_v,denO_v] at h
 have e:addR (decide (x.num<0)) (x.num.natAbs*y.den) (decide (y.num<0)) (y.num.natAbs*x.den) (x.den*y.den)=x+y:=by
  rw [add_mk];unfold addR
  split
  ·rename_i hh;rw [hh,sgI_add]
  ·split
   ·rename_i hh hl;rw [sgI_lt hh hl]
   ·rename_i hh hl;rw [sgI_ge hh hl]
 rw [e] at h
 exact h
theorem rat_Sub (G:List (List DV))(x y:Rat)(hx:szR x 10000000000)(hy:szR y 10000000000):CallsP Tryz.prog G 287 [ratV x,ratV y] (ratV (x - y)):=by
 have h1:=rat_Neg G y
 have h2:=rat_Add G x (-y) hx (szR_neg hy)
 rw [← Rat.sub_eq_add_neg] at h2
 refine CallsP.of_AWc Go.Proofs.Tryz.func287 rfl (by rw [Tryz.ntmps287];simp) (fun lv=>nC_dArg lv _ _ _) ?_
 rintro⟨_,_,w0,F0,W0,_,lv0,β0⟩ rfl rfl rfl
 refine AW.seqK fun K hK=>?_
 refine AW.regionP rfl ?_
 simp
 repeat (refine And.intro (by omega) ?_)
 apply hK;clear hK K
 refine AW.seqK fun K hK=>?_
 refine AW.drawP mixed (by kernel_rfl) rfl ?_
 simp
 refine CallDo.pure 3 9 (h1) (by first|(simp;done)|rfl) (by simp) (by first|rfl|simp) ?_
 simp
 refine CallDo.pure 3 9 (h2) (by first|(simp;done)|rfl) (by simp) (by first|rfl|simp) ?_
 simp
 refine⟨by kernel_rfl,?_⟩
 repeat (refine And.intro (by omega) ?_)
 apply hK;clear hK K
 refine AW.ret ?_
 refine FinC.cell (κ:=0) (T:=224) (t:=4) (k:=2) (off:=0) (own:=true) (fz:=false) (U:=224) (cs:=[.d (.bool (decide ((x - y).num<0))),nC (natO (x - y).num.natAbs),nC (denO (x - y).den)]) rfl ?_ ?_ ?_
 ·simp
 ·simp [setSeg]
 ·rw [List.drop_zero,loadNum]
set_option maxHeartbeats 1000000 in
theorem rat_shifted (G:List (List DV))(x:Rat)(k:Int)(hx:szR x 10000000000)(h1:-1000000≤k)(h2:k≤1000000):CallsP Tryz.prog G 332 [ratV x,.c (.d (.int .i64 k))] (ratV (shiftR x k)):=by
 have hbot:=num_bottom_ok G (decide (x.num<0)) (natO x.num.natAbs) (denO x.den)
 rw [denO_b] at hbot
 have hw:IntKind.i64.wrap (-k) = -k:=w64 (by omega) (by omega)
 by_cases hk:k<0
 ·have e:=shiftR_neg (x:=x) hk
  have ht:((-k).toNat:Int) = -k:=by omega
  have hs:=exact_shl_ok G (some (dig 4294967296 x.den)) (-k).toNat (by have:=hx.2;show nl _≤_;omega) (by omega)
  simp only [dO_some,dig_ne x.den_nz,if_false,val_dig,nK_nC,ht] at hs
  have hm:=rat_made G (decide (x.num<0)) (natO x.num.natAbs) (some (dig 4294967296 (x.den*2 ^ (-k).toNat))) (natO_can _) (can_dig _) (dig_ne (den_pow_ne _ _)) (by rw [natO_len];have:=hx.1;omega) (by
   have h3:=nl_mul x.den (2 ^ (-k).toNat)
   have h4:=nl_two (-k).toNat
   have:=hx.2
   show nl _<_
   omega)
  rw [natO_v,dO_some,val_dig,← e] at hm
  generalize shiftR x k=r at *
  refine CallsP.of_AWc Go.Proofs.Tryz.func332 rfl (by rw [Tryz.ntmps332];simp) (fun lv=>nC_dArg lv _ _ _) ?_
  rintro⟨_,_,w0,F0,W0,_,lv0,β0⟩ rfl rfl rfl
  refine AW.seqK fun K hK=>?_
  refine AW.regionP rfl ?_
  simp
  repeat (refine And.intro (by omega) ?_)
  apply hK;clear hK K
  refine AW.seqK fun K hK=>?_
  refine AW.seqK fun K1 hK1=>?_
  refine AW.regionP rfl ?_
  simp [hk]
  repeat (refine And.intro (by omega) ?_)
  apply hK1;clear hK1 K1
  refine AW.cond (b:=true) (by first|(simp [hk];done)|(simp [hk];omega)) ?_
  refine AW.seqK fun K1 hK1=>?_
  refine AW.drawP mixed (by kernel_rfl) rfl ?_
  simp [hw]
  refine CallDo.pure 2 9 (hbot) (by first|(simp;done)|rfl) (by simp) (by first|rfl|simp) ?_
  simp [hw]
  refine CallDo.pure 2 9 (hs) (by first|(simp;done)|rfl) (by simp) (by first|rfl|simp) ?_
  simp [hw]
  refine CallDo.pure 2 9 (hm) (by first|(simp;done)|rfl) (by simp) (by first|rfl|simp) ?_
  simp
  refine⟨by kernel_rfl,?_⟩
  repeat (refine And.intro (by omega) ?_)
  apply hK1;clear hK1 K1
  refine AW.ret ?_
  refine FinC.cell (κ:=0) (T:=224) (t:=4) (k:=1) (off:=0) (own:=true) (fz:=false) (U:=224) (cs:=[.d (.bool (decide (r.num<0))),nC (natO r.num.natAbs),nC (denO r.den)]) rfl ?_ ?_ ?_
  ·simp
  ·simp [setSeg]
  ·rw [List.drop_zero,loadNum]
 ·have e:=shiftR_pos (x:=x) hk
  have ht:(k.toNat:Int)=k:=by omega
  have hs:=exact_shl_ok G (natO x.num.natAbs) k.toNat (by rw [natO_len];have:=hx.1;omega) (by omega)
  have hs':CallsP Tryz.prog G 326 [.c (nC (natO x.num.natAbs)),.c (.d (.int .i64 k))] (.c (nC (natO (x.num.natAbs*2 ^ k.toNat)))):=by
   simp only [natO_v] at hs
   simp only [natO_d,ht,nK_nC] at hs
   by_cases h0:x.num.natAbs=0
   ·have:(dig 4294967296 x.num.natAbs)=[]:=by rw [h0];rfl
    rw [if_pos this] at hs
    rw [h0,Nat.zero_mul]
    rw [h0] at hs
    exact hs
   ·rw [if_neg (dig_ne h0)] at hs
    unfold natO at hs ⊢
    rw [if_neg h0] at hs
    rw [if_neg h0,if_neg (Nat.ne_of_gt (Nat.mul_pos (Nat.pos_of_ne_zero h0) (Nat.pow_pos (by decide))))]
    exact hs
  have hm:=rat_made G (decide (x.num<0)) (natO (x.num.natAbs*2 ^ k.toNat)) (some (dig 4294967296 x.den)) (natO_can _) (can_dig _) (dig_ne x.den_nz) (by
   rw [natO_len]
   have h3:=nl_mul x.num.natAbs (2 ^ k.toNat)
   have h4:=nl_two k.toNat
   have:=hx.1
   omega) (by have:=hx.2;show nl _<_;omega)
  rw [natO_v,dO_some,val_dig,← e] at hm
  generalize shiftR x k=r at *
  refine CallsP.of_AWc Go.Proofs.Tryz.func332 rfl (by rw [Tryz.ntmps332];simp) (fun lv=>nC_dArg lv _ _ _) ?_
  rintro⟨_,_,w0,F0,W0,_,lv0,β0⟩ rfl rfl rfl
  refine AW.seqK fun K hK=>?_
  refine AW.regionP rfl ?_
  simp
  repeat (refine And.intro (by omega) ?_)
  apply hK;clear hK K
  refine AW.seqK fun K hK=>?_
  refine AW.seqK fun K1 hK1=>?_
  refine AW.regionP rfl ?_
  simp [hk]
  repeat (refine And.intro (by omega) ?_)
  apply hK1;clear hK1 K1
  refine AW.cond (b:=false) (by first|(simp [hk];done)|(simp [hk];omega)) ?_
  refine AW.skip ?_
  simp
  repeat (refine And.intro (by omega) ?_)
  apply hK;clear hK K
  refine AW.seqK fun K hK=>?_
  refine AW.drawP mixed (by kernel_rfl) rfl ?_
  simp
  refine CallDo.pure 2 9 (hs') (by first|(simp;done)|rfl) (by simp) (by first|rfl|simp) ?_
  simp
  refine CallDo.pure 2 9 (hbot) (by first|(simp;done)|rfl) (by simp) (by first|rfl|simp) ?_
  simp
  refine CallDo.pure 2 9 (hm) (by first|(simp;done)|rfl) (by simp) (by first|rfl|simp) ?_
  simp
  refine⟨by kernel_rfl,?_⟩
  repeat (refine And.intro (by omega) ?_)
  apply hK;clear hK K
  refine AW.ret ?_
  refine FinC.cell (κ:=0) (T:=224) (t:=4) (k:=1) (off:=0) (own:=true) (fz:=false) (U:=224) (cs:=[.d (.bool (decide (r.num<0))),nC (natO r.num.natAbs),nC (denO r.den)]) rfl ?_ ?_ ?_
  ·simp
  ·simp [setSeg]
  ·rw [List.drop_zero,loadNum]
theorem dRes_num (lv:Key→LB)(b:Bool)(p q:Option (List Nat))(n:Int):dRes lv (.tup [nmA b p q,.c (.d (.int .i64 n))])=some (.tup [nmA b p q,.c (.d (.int .i64 n))],[]):=by
 cases p <;> cases q <;> rfl
@[simp] theorem tup_num_pure (b:Bool)(p q:Option (List Nat))(n:Int):(AV.tup [.agg [.d (.bool b),nC p,nC q],.c (.d (.int .i64 n))]).pure=true:=by
 cases p <;> cases q <;> rfl
theorem rat_Shift (G:List (List DV))(x:Rat)(k:Int)(hx:szR x 10000000000)(h1:-20000≤k)(h2:k≤20000):CallsP Tryz.prog G 283 [ratV x,.c (.d (.int .i64 k))] (.tup [ratV (shiftR x k),.c (.d (.int .i64 0))]):=by
 have h:=rat_shifted G x k hx (by omega) (by omega)
 generalize shiftR x k=r at *
 have i1:¬ k < -20000:=by omega
 have i2:¬ 20000<k:=by omega
 refine CallsP.of_AWc Go.Proofs.Tryz.func283 rfl (by rw [Tryz.ntmps283];simp) (fun lv=>dRes_num lv _ _ _ _) ?_
 rintro⟨_,_,w0,F0,W0,_,lv0,β0⟩ rfl rfl rfl
 refine AW.seqK fun K hK=>?_
 refine AW.regionP rfl ?_
 simp
 repeat (refine And.intro (by omega) ?_)
 apply hK;clear hK K
 refine AW.seqK fun K hK=>?_
 refine AW.seqK fun K1 hK1=>?_
 refine AW.regionP rfl ?_
 simp [i1,i2]
 repeat (refine And.intro (by omega) ?_)
 apply hK1;clear hK1 K1
 refine AW.cond (b:=false) (by first|(simp [];done)|(simp [];omega)) ?_
 refine AW.skip ?_
 simp
 repeat (refine And.intro (by omega) ?_)
 apply hK;clear hK K
 refine AW.seqK fun K hK=>?_
 refine AW.regionP rfl ?_
 simp
 refine CallDo.pure 2 9 (h) (by first|(simp;done)|rfl) (by simp) (by first|rfl|simp) ?_
 simp
 repeat (refine And.intro (by omega) ?_)
 apply hK;clear hK K
 refine AW.ret ?_
 refine FinC.cell2 (κ:=0) (T:=224) (t:=4) (u:=5) (k:=1) (off:=0) (own:=true) (fz:=false) (U:=224) (cs:=[.d (.bool (decide (r.num<0))),nC (natO r.num.natAbs),nC (denO r.den)]) rfl ?_ ?_ ?_ ?_ rfl rfl
 ·simp
 ·simp [setSeg]
 ·rw [List.drop_zero,loadNum]
 ·simp
theorem rat_Two (G:List (List DV))(k:Int)(h1:-20000≤k)(h2:k≤20000):CallsP Tryz.prog G 334 [.c (.d (.int .i64 k))] (.tup [ratV (shiftR 1 k),.c (.d (.int .i64 0))]):=by
 have hi:=rat_Int G 1 (by decide) (by decide)
 have h:=rat_Shift G 1 k ⟨by show nl 1≤_;rw [nl_one];decide,by show nl 1≤_;rw [nl_one];decide⟩ h1 h2
 change CallsP _ _ _ _ (ratV (1:Rat)) at hi
 generalize shiftR 1 k=r at *
 generalize (1:Rat)=o at *
 refine CallsP.of_AWc Go.Proofs.Tryz.func334 rfl (by rw [Tryz.ntmps334];simp) (fun lv=>dRes_num lv _ _ _ _) ?_
 rintro⟨_,_,w0,F0,W0,_,lv0,β0⟩ rfl rfl rfl
 refine AW.seqK fun K hK=>?_
 refine AW.regionP rfl ?_
 simp
 repeat (refine And.intro (by omega) ?_)
 apply hK;clear hK K
 refine AW.seqK fun K hK=>?_
 refine AW.regionP rfl ?_
 simp
 refine CallDo.pure 1 9 (hi) (by first|(simp;done)|rfl) (by simp) (by first|rfl|simp) ?_
 simp
 refine CallDo.pure 1 9 (h) (by first|(simp;done)|rfl) (by simp) (by first|rfl|simp) ?_
 simp
 repeat (refine And.intro (by omega) ?_)
 apply hK;clear hK K
 refine AW.ret ?_
 refine FinC.cell2 (κ:=0) (T:=224) (t:=2) (u:=3) (k:=0) (off:=0) (own:=true) (fz:=false) (U:=224) (cs:=[.d (.bool (decide (r.num<0))),nC (natO r.num.natAbs),nC (denO r.den)]) rfl ?_ ?_ ?_ ?_ rfl rfl
 ·simp
 ·simp [setSeg]
 ·rw [List.drop_zero,loadNum]
 ·simp
def logR (x:Rat):Int:=
 let k:=(blen x.num.natAbs:Int) - blen x.den
 if x.num.natAbs*2 ^ (max (-k) 0).toNat<x.den*2 ^ (max k 0).toNat then k - 1 else k
theorem logR_rng {x:Rat}(hx:x≠0) {L:Nat}(h:szR x L):-(32*(L:Int))≤logR x∧logR x≤32*L:=by
 have h0:x.num.natAbs≠0:=by intro e;exact hx (Rat.num_eq_zero.1 (by omega))
 have h1:=blen_nl h0
 have h2:=blen_nl x.den_nz
 have h3:1≤blen x.num.natAbs:=by unfold blen;rw [if_neg h0];omega
 have h4:1≤blen x.den:=by unfold blen;rw [if_neg x.den_nz];omega
 have:=h.1
 have:=h.2
 unfold logR
 simp only
 split <;> omega
set_option maxHeartbeats 1000000 in
theorem rat_log (G:List (List DV))(x:Rat)(hx:x≠0)(hs:szR x 10000000):CallsP Tryz.prog G 333 [ratV x] (.c (.d (.int .i64 (logR x)))):=by
 have h0:x.num.natAbs≠0:=by intro e;exact hx (Rat.num_eq_zero.1 (by omega))
 have hbot:=num_bottom_ok G (decide (x.num<0)) (natO x.num.natAbs) (denO x.den)
 rw [denO_b] at hbot
 have l1:=hs.1
 have l2:=hs.2
 have b1:=blen_nl h0
 have b2:=blen_nl x.den_nz
 have p1:=exact_bits_ok G (natO x.num.natAbs) (natO_can _) (by rw [natO_len];omega)
 have p2:=exact_bits_ok G (some (dig 4294967296 x.den)) (can_dig _) (by show nl _≤_;omega)
 rw [natO_v] at p1
 rw [dO_some,val_dig] at p2
 have ek:∃ k:Int,(blen x.num.natAbs:Int) - blen x.den=k∧-320000000≤k∧k≤320000000:=⟨_,rfl,by omega,by omega⟩
 obtain⟨k,hk,k1,k2⟩:=ek
 have ew:IntKind.i64.wrap ((blen x.num.natAbs:Int) - blen x.den)=k:=by rw [hk];exact w64 (by omega) (by omega)
 have ew2:IntKind.i64.wrap (-k) = -k:=w64 (by omega) (by omega)
 have mx1:(List.foldl (fun a b:Int=>if a<b then b else a) (-k) [0])=((max (-k) 0).toNat:Int):=by simp only [List.foldl];split <;> omega
 have mx2:(List.foldl (fun a b:Int=>if a<b then b else a) k [0])=((max k 0).toNat:Int):=by simp only [List.foldl];split <;> omega
 have hlog:logR x=if x.num.natAbs*2 ^ (max (-k) 0).toNat<x.den*2 ^ (max k 0).toNat then k - 1 else k:=by unfold logR;simp only [hk]
 have s1:=exact_shl_ok G (natO x.num.natAbs) (max (-k) 0).toNat (by rw [natO_len];omega) (by omega)
 have s2:=exact_shl_ok G (some (dig 4294967296 x.den)) (max k 0).toNat (by show nl _≤_;omega) (by omega)
 rw [natO_d,if_neg (dig_ne h0),val_dig] at s1
 rw [dO_some,if_neg (dig_ne x.den_nz),val_dig] at s2
 have cm:=exact_cmp_ok (G:=G) (a:=some (dig 4294967296 (x.num.natAbs*2 ^ (max (-k) 0).toNat))) (b:=some (dig 4294967296 (x.den*2 ^ (max k 0).toNat))) (can_dig _) (can_dig _)
 simp only [dO_some,val_dig] at cm
 generalize x.num.natAbs*2 ^ (max (-k) 0).toNat=a at *
 generalize x.den*2 ^ (max k 0).toNat=b at *
 generalize (max (-k) 0).toNat=u at *
 generalize (max k 0).toNat=v at *
 simp only [nK_nC] at p1 p2 s1 s2 cm
 have ew3:IntKind.i64.wrap (k - 1)=k - 1:=w64 (by omega) (by omega)
 refine CallsP.of_AW Go.Proofs.Tryz.func333 rfl (by rw [Tryz.ntmps333];simp) ?_
 rintro⟨_,_,w0,F0,W0,_,lv0,β0⟩ rfl rfl rfl
 refine AW.seqK fun K hK=>?_
 refine AW.regionP rfl ?_
 simp
 repeat (refine And.intro (by omega) ?_)
 apply hK;clear hK K
 refine AW.seqK fun K hK=>?_
 refine AW.regionP rfl ?_
 simp
 refine CallDo.pure 1 9 (hbot) (by first|(simp;done)|rfl) (by simp) (by first|rfl|simp) ?_
 simp
 repeat (refine And.intro (by omega) ?_)
 apply hK;clear hK K
 refine AW.seqK fun K hK=>?_
 refine AW.regionP rfl ?_
 simp
 refine CallDo.pure 1 9 (p1) (by first|(simp;done)|rfl) (by simp) (by first|rfl|simp) ?_
 simp
 refine CallDo.pure 1 9 (p2) (by first|(simp;done)|rfl) (by simp) (by first|rfl|simp) ?_
 simp [ew]
 repeat (refine And.intro (by omega) ?_)
 apply hK;clear hK K
 refine AW.seqK fun K hK=>?_
 refine AW.seqK fun K1 hK1=>?_
 refine AW.regionP rfl ?_
 simp [ew2,intsOf,mx1,mx2,-List.foldl_cons,-List.foldl_nil]
 refine CallDo.pure 1 9 (s1) (by first|(simp;done)|rfl) (by simp) (by first|rfl|simp) ?_
 simp [ew2,intsOf,mx1,mx2,-List.foldl_cons,-List.foldl_nil]
 refine CallDo.pure 1 9 (s2) (by first|(simp;done)|rfl) (by simp) (by first|rfl|simp) ?_
 simp [ew2,intsOf,mx1,mx2,-List.foldl_cons,-List.foldl_nil]
 refine CallDo.pure 1 9 (cm) (by first|(simp;done)|rfl) (by simp) (by first|rfl|simp) ?_
 simp
 repeat (refine And.intro (by omega) ?_)
 apply hK1;clear hK1 K1
 by_cases hab:a<b
 ·have hc:=cmpN_neg.2 hab
  rw [if_pos hab] at hlog
  refine AW.cond (b:=true) (by first|(simp [hc];done)|(simp [hc];omega)) ?_
  refine AW.regionP rfl ?_
  simp [ew3]
  repeat (refine And.intro (by omega) ?_)
  apply hK;clear hK K
  refine AW.seqK fun K hK=>?_
  refine AW.regionP rfl ?_
  simp
  repeat (refine And.intro (by omega) ?_)
  apply hK;clear hK K
  exact AW.ret (κ:=0) (FinP.tmp (κ:=0) rfl 2 (by simp [hlog]) (by first|rfl|simp) (by first|rfl|simp) (by first|rfl|simp))
 ·have hc:¬ cmpN a b<0:=fun h=>hab (cmpN_neg.1 h)
  rw [if_neg hab] at hlog
  refine AW.cond (b:=false) (by first|(simp [hc];done)|(simp [hc];omega)) ?_
  refine AW.skip ?_
  simp
  repeat (refine And.intro (by omega) ?_)
  apply hK;clear hK K
  refine AW.seqK fun K hK=>?_
  refine AW.regionP rfl ?_
  simp
  repeat (refine And.intro (by omega) ?_)
  apply hK;clear hK K
  exact AW.ret (κ:=0) (FinP.tmp (κ:=0) rfl 2 (by simp [hlog]) (by first|rfl|simp) (by first|rfl|simp) (by first|rfl|simp))
theorem sgA_ne {x:Rat}(hx:x≠0):sgA (decide (x.num<0)) (natO x.num.natAbs)≠0:=by
 have h0:x.num.natAbs≠0:=by intro e;exact hx (Rat.num_eq_zero.1 (by omega))
 unfold sgA;rw [natO_d,if_neg (dig_ne h0)];split <;> decide
theorem sgA_zero {x:Rat}(hx:x=0):sgA (decide (x.num<0)) (natO x.num.natAbs)=0:=by subst hx;rfl
theorem rat_Log (G:List (List DV))(x:Rat)(hx:x≠0)(hs:szR x 10000000):CallsP Tryz.prog G 285 [ratV x] (.tup [.c (.d (.int .i64 (logR x))),.c (.d (.int .i64 0))]):=by
 have h:=rat_log G x hx hs
 have hg:=num_Sign_ok G (decide (x.num<0)) (natO x.num.natAbs) (denO x.den)
 have hne:=sgA_ne hx
 refine CallsP.of_AW Go.Proofs.Tryz.func285 rfl (by rw [Tryz.ntmps285];simp) ?_
 rintro⟨_,_,w0,F0,W0,_,lv0,β0⟩ rfl rfl rfl
 refine AW.seqK fun K hK=>?_
 refine AW.regionP rfl ?_
 simp
 repeat (refine And.intro (by omega) ?_)
 apply hK;clear hK K
 refine AW.seqK fun K hK=>?_
 refine AW.seqK fun K1 hK1=>?_
 refine AW.regionP rfl ?_
 simp
 refine CallDo.pure 1 9 (hg) (by first|(simp;done)|rfl) (by simp) (by first|rfl|simp) ?_
 simp [hne]
 repeat (refine And.intro (by omega) ?_)
 apply hK1;clear hK1 K1
 refine AW.cond (b:=false) (by first|(simp [hne];done)|(simp [hne];omega)) ?_
 refine AW.skip ?_
 simp
 repeat (refine And.intro (by omega) ?_)
 apply hK;clear hK K
 refine AW.seqK fun K hK=>?_
 refine AW.regionP rfl ?_
 simp
 refine CallDo.pure 1 9 (h) (by first|(simp;done)|rfl) (by simp) (by first|rfl|simp) ?_
 simp
 repeat (refine And.intro (by omega) ?_)
 apply hK;clear hK K
 exact AW.ret (κ:=0) (FinP.tmp2 (κ:=0) rfl 9 (by simp) (by simp) rfl rfl (by simp) rfl rfl (by decide))
theorem rat_lt {x y:Rat}:x<y↔sgI (decide (x.num<0)) (x.num.natAbs*y.den)<sgI (decide (y.num<0)) (y.num.natAbs*x.den):=by
 rw [Rat.lt_iff,← sgI_mul,← sgI_mul,rat_sg,rat_sg]
theorem cmA_rat (x y:Rat):cmA (decide (x.num<0)) (natO x.num.natAbs) (denO x.den) (decide (y.num<0)) (natO y.num.natAbs) (denO y.den)=cmpR x y:=by
 unfold cmpR
 simp only [rat_lt]
 unfold cmA
 simp only [natO_v,denO_v]
 have hx:0<x.den:=x.den_pos
 have hy:0<y.den:=y.den_pos
 have sx:sgA (decide (x.num<0)) (natO x.num.natAbs)=if x.num.natAbs=0 then 0 else if x.num<0 then -1 else 1:=by
  unfold sgA;rw [natO_d];simp only [dig_nil (by decide:2≤4294967296),decide_eq_true_eq]
 have sy:sgA (decide (y.num<0)) (natO y.num.natAbs)=if y.num.natAbs=0 then 0 else if y.num<0 then -1 else 1:=by
  unfold sgA;rw [natO_d];simp only [dig_nil (by decide:2≤4294967296),decide_eq_true_eq]
 rw [sx,sy]
 have ha:x.num.natAbs*y.den=0↔x.num.natAbs=0:=by rw [Nat.mul_eq_zero];omega
 have hb:y.num.natAbs*x.den=0↔y.num.natAbs=0:=by rw [Nat.mul_eq_zero];omega
 generalize x.num.natAbs*y.den=a at *
 generalize y.num.natAbs*x.den=b at *
 unfold sgI cmpN
 simp only [decide_eq_true_eq]
 generalize x.num=u at *
 generalize y.num=v at *
 (repeat' split) <;> omega
theorem rat_Cmp (G:List (List DV))(x y:Rat)(hx:szR x 10000000000)(hy:szR y 10000000000):CallsP Tryz.prog G 161 [ratV x,ratV y] (.c (.d (.int .i64 (cmpR x y)))):=by
 have h:=num_Cmp_ok G (decide (x.num<0)) (decide (y.num<0)) (natO x.num.natAbs) (denO x.den) (natO y.num.natAbs) (denO y.den)
  (by rw [natO_len];have:=hx.1;omega) (Nat.le_trans (denO_len _) (by have:=hx.2;omega)) (by rw [natO_len];have:=hy.1;omega) (Nat.le_trans (denO_len _) (by have:=hy.2;omega))
 rw [cmA_rat] at h
 exact h
end Go.Am

namespace Go.Am
open Go.Proofs
theorem parse_bad (m:Int):CallsP Tryz.prog (GG m) 22 [.c (.d (.str [114,101,115,117,108,116,32,121,10]))]
 (.tup [.agg [.d .nilsl,.d (.int .i64 (.ofNat 0)),.d .nilsl,.d .nilsl,.d (.int .i64 (.ofNat 0)),.d (.int .i64 (.ofNat 0)),.d .nilsl,.d (.int .i64 (.ofNat 0))],.c (.d (.int .i64 (.ofNat 1))),.c (.d (.int .i64 (.ofNat 144)))]):=
 CallsP.of_ev (evA_ok m 60) (by kernel_rfl)
end Go.Am

namespace Go.Am
open Go.Am.Ty Go.Proofs N
def isDg (c:UInt8):Bool:=decide (48≤c.toNat∧c.toNat≤57)
def asc:List DV:=(List.range 256).map fun c=>.bool (decide (48≤c∧c≤57))
theorem asc_len:asc.length=256:=by simp [asc]
theorem asc_drop (c:UInt8):asc.drop c.toNat=.bool (isDg c)::asc.drop (c.toNat+1):=by
 have h:c.toNat<asc.length:=by rw [asc_len];exact c.toNat_lt
 rw [List.drop_eq_getElem_cons h]
 congr 1
 simp [asc,isDg]
theorem contains_ok (G:List (List DV))(c:UInt8):CallsP Tryz.prog G 344 [.c (.d (.ptr asc)),.c (.d (.int .u8 c.toNat))] (.c (.d (.bool (isDg c)))):=by
 have hc:=c.toNat_lt
 have hl:=asc_len
 have ha:=asc_drop c
 refine CallsP.of_AW Go.Proofs.Tryz.func344 rfl (by rw [Tryz.ntmps344];simp) ?_
 rintro⟨_,_,w0,F0,W0,_,lv0,β0⟩ rfl rfl rfl
 refine AW.seqK fun K hK=>?_
 refine AW.regionP rfl ?_
 simp
 repeat (refine And.intro (by omega) ?_)
 apply hK;clear hK K
 refine AW.seqK fun K hK=>?_
 refine AW.regionP rfl ?_
 simp [stepIndexAddr,ha,hl]
 repeat (refine And.intro (by omega) ?_)
 apply hK;clear hK K
 exact AW.ret (κ:=0) (FinP.tmp (κ:=0) rfl 4 (by simp []) (by first|rfl|simp) (by first|rfl|simp) (by first|rfl|simp))
theorem trimLeft_ok (G:List (List DV))(s:List UInt8):CallsP Tryz.prog G 308 [.c (.d (.str s)),.c (.d (.ptr asc))] (.c (.d (.str (s.dropWhile isDg)))):=by
 refine CallsP.of_AW Go.Proofs.Tryz.func308 rfl (by rw [Tryz.ntmps308];simp) ?_
 rintro⟨_,_,w0,F0,W0,_,lv0,β0⟩ rfl rfl rfl
 refine AW.seqK fun K hK=>?_
 refine AW.regionP rfl ?_
 simp
 repeat (refine And.intro (by omega) ?_)
 apply hK;clear hK K
 refine AW.seqK fun K hK=>?_
 refine AW.block ?_
 refine AW.loopV (fun (p:List UInt8)=>⟨frOf [(0,.c (.d (.str p))),(1,.c (.d (.ptr asc)))],fun _=>.hole⟩) 0 (fun p=>p.dropWhile isDg=s.dropWhile isDg) (fun p=>p.length) s (Le.mk' _ rfl (by intro k own es h;cases h) (by simp)) rfl ?_
 rintro p hp
 refine AW.seqK fun K3 hK3=>AW.seqK fun K4 hK4=>?_
 refine AW.regionP rfl ?_
 simp
 repeat (refine And.intro (by omega) ?_)
 apply hK4;clear hK4 K4
 cases p with
 | nil=>
  refine AW.cond (b:=false) (by first|(simp [];done)|(simp [];omega)) ?_
  refine AW.exit ?_
  simp
  repeat (refine And.intro (by omega) ?_)
  apply hK
  refine AW.seqK fun K3 hK3=>?_
  refine AW.regionP rfl ?_
  simp
  repeat (refine And.intro (by omega) ?_)
  apply hK3;clear hK3 K3
  have hp':s.dropWhile isDg=[]:=by rw [← hp];rfl
  exact AW.ret (κ:=0) (FinP.tmp (κ:=0) rfl 4 (by simp [hp']) (by first|rfl|simp) (by first|rfl|simp) (by first|rfl|simp))
 | cons c l=>
  refine AW.cond (b:=true) (by first|(simp [];done)|(simp [];omega)) ?_
  refine AW.skip ?_
  simp
  repeat (refine And.intro (by omega) ?_)
  apply hK3
  refine AW.block ?_
  refine AW.seqK fun K5 hK5=>?_
  refine AW.seqK fun K6 hK6=>?_
  refine AW.regionP rfl ?_
  simp
  refine CallDo.pure 0 9 (contains_ok _ c) (by simp) (by simp) rfl ?_
  simp
  repeat (refine And.intro (by omega) ?_)
  apply hK6;clear hK6 K6
  cases hd:isDg c with
  | false=>
   refine AW.cond (b:=true) (by first|(simp [hd];done)|(simp [hd];omega)) ?_
   refine AW.exit ?_
   simp
   repeat (refine And.intro (by omega) ?_)
   apply hK
   simp only [List.dropWhile,hd] at hp
   refine AW.seqK fun K3 hK3=>?_
   refine AW.regionP rfl ?_
   simp
   repeat (refine And.intro (by omega) ?_)
   apply hK3;clear hK3 K3
   exact AW.ret (κ:=0) (FinP.tmp (κ:=0) rfl 4 (by simp [hp]) (by first|rfl|simp) (by first|rfl|simp) (by first|rfl|simp))
  | true=>
   refine AW.cond (b:=false) (by first|(simp [hd];done)|(simp [hd];omega)) ?_
   refine AW.skip ?_
   simp
   repeat (refine And.intro (by omega) ?_)
   apply hK5;clear hK5 K5
   refine AW.regionP rfl ?_
   simp
   simp only [List.dropWhile,hd] at hp
   exact⟨by omega,l,Le.mk' _ rfl (by intro k own es h;cases h) (by simp),hp,by simp⟩
def trimRD (s:List UInt8):List UInt8:=(s.reverse.dropWhile isDg).reverse
theorem trimRight_ok (G:List (List DV))(s:List UInt8):CallsP Tryz.prog G 309 [.c (.d (.str s)),.c (.d (.ptr asc))] (.c (.d (.str (trimRD s)))):=by
 refine CallsS.know 0 (by simp) (fun V v h=>(show s.length≤9223372036854775807 by cases h.1 with|str _ hl=>exact hl)) fun hr=>?_
 refine CallsP.of_AW Go.Proofs.Tryz.func309 rfl (by rw [Tryz.ntmps309];simp) ?_
 rintro⟨_,_,w0,F0,W0,_,lv0,β0⟩ rfl rfl rfl
 refine AW.seqK fun K hK=>?_
 refine AW.regionP rfl ?_
 simp
 repeat (refine And.intro (by omega) ?_)
 apply hK;clear hK K
 refine AW.seqK fun K hK=>?_
 refine AW.block ?_
 refine AW.loopV (fun (p:List UInt8)=>⟨frOf [(0,.c (.d (.str p))),(1,.c (.d (.ptr asc)))],fun _=>.hole⟩) 0 (fun p=>p.reverse.dropWhile isDg=s.reverse.dropWhile isDg∧p.length≤s.length) (fun p=>p.length) s (Le.mk' _ rfl (by intro k own es h;cases h) (by simp)) ⟨rfl,Nat.le_refl _⟩ ?_
 rintro p ⟨hp,hpl⟩
 refine AW.seqK fun K3 hK3=>AW.seqK fun K4 hK4=>?_
 refine AW.regionP rfl ?_
 simp
 repeat (refine And.intro (by omega) ?_)
 apply hK4;clear hK4 K4
 rcases List.eq_nil_or_concat p with rfl|⟨l,c,rfl⟩
 ·refine AW.cond (b:=false) (by first|(simp [];done)|(simp [];omega)) ?_
  refine AW.exit ?_
  simp
  repeat (refine And.intro (by omega) ?_)
  apply hK
  refine AW.seqK fun K3 hK3=>?_
  refine AW.regionP rfl ?_
  simp
  repeat (refine And.intro (by omega) ?_)
  apply hK3;clear hK3 K3
  have hp':trimRD s=[]:=by unfold trimRD;rw [← hp];rfl
  exact AW.ret (κ:=0) (FinP.tmp (κ:=0) rfl 4 (by simp [hp']) (by first|rfl|simp) (by first|rfl|simp) (by first|rfl|simp))
 ·rw [List.concat_eq_append] at *
  have hn:0<(l++[c]).length:=by simp
  have hlen:(l++[c]).length=l.length+1:=by simp
  have e2:IntKind.i64.wrap (l.length:Int)=(l.length:Int):=w64 (by omega) (by omega)
  have hr1:(l++[c]).reverse=c::l.reverse:=by simp
  rw [hr1] at hp
  refine AW.cond (b:=true) (by first|(simp [];done)|(simp [];omega)) ?_
  refine AW.skip ?_
  simp
  repeat (refine And.intro (by omega) ?_)
  apply hK3
  refine AW.block ?_
  refine AW.seqK fun K5 hK5=>?_
  refine AW.seqK fun K6 hK6=>?_
  refine AW.regionP rfl ?_
  simp [e2]
  refine⟨by omega,?_⟩
  refine CallDo.pure 0 9 (contains_ok _ c) (by simp) (by simp) rfl ?_
  simp
  repeat (refine And.intro (by omega) ?_)
  apply hK6;clear hK6 K6
  cases hd:isDg c with
  | false=>
   refine AW.cond (b:=true) (by first|(simp [hd];done)|(simp [hd];omega)) ?_
   refine AW.exit ?_
   simp
   repeat (refine And.intro (by omega) ?_)
   apply hK
   simp only [List.dropWhile,hd] at hp
   refine AW.seqK fun K3 hK3=>?_
   refine AW.regionP rfl ?_
   simp
   repeat (refine And.intro (by omega) ?_)
   apply hK3;clear hK3 K3
   have hp':trimRD s=l++[c]:=by unfold trimRD;rw [← hp];simp
   exact AW.ret (κ:=0) (FinP.tmp (κ:=0) rfl 4 (by simp [hp']) (by first|rfl|simp) (by first|rfl|simp) (by first|rfl|simp))
  | true=>
   refine AW.cond (b:=false) (by first|(simp [hd];done)|(simp [hd];omega)) ?_
   refine AW.skip ?_
   simp
   repeat (refine And.intro (by omega) ?_)
   apply hK5;clear hK5 K5
   refine AW.regionP rfl ?_
   simp [e2]
   simp only [List.dropWhile,hd] at hp
   exact⟨by omega,l,Le.mk' _ rfl (by intro k own es h;cases h) (by simp),⟨hp,by omega⟩,by simp⟩
end Go.Am

namespace Go.Am
open Go.Proofs
theorem mkset_ok (m:Int):CallsP Tryz.prog (GG m) 307 [.c (.d (.str [48,49,50,51,52,53,54,55,56,57]))] (.tup [.agg (asc.map .d),.c (.d (.bool true))]):=
 CallsP.of_ev (evA_ok m 60) (by kernel_rfl)
end Go.Am

namespace Go.Am
open Go.Am.Ty Go.Proofs N
abbrev digs:List UInt8:=[48,49,50,51,52,53,54,55,56,57]
def trimD (s:List UInt8):List UInt8:=(trimRD s).dropWhile isDg
def zerS:List CV:=List.replicate 256 (.d (.bool false))
def ascC:List CV:=asc.map .d
theorem mkset' (m:Int):CallsP Tryz.prog (GG m) 307 [.c (.d (.str digs))] (.tup [.agg ascC,.c (.d (.bool true))]):=mkset_ok m
theorem mksetP:(AV.tup [.agg ascC,.c (.d (.bool true))]).pure=true:=by kernel_rfl
abbrev lvS:Key→LB:=upd (fun _=>LB.hole) 0 (.cells true false 342 ascC)
theorem dargS (s:List UInt8):dArgs lvS [.c (.d (.str s)),.c (.ptr 0 0)]=some ([.c (.d (.str s)),.c (.d (.ptr asc))],[0]):=by kernel_rfl
theorem rdaS:rdA lvS (.c (.ptr 0 0))=[0]:=by kernel_rfl
theorem rdS (s:List UInt8):∀ a∈[AV.c (.d (.str s)),AV.c (.ptr 0 0)],∀ k∈rdA lvS a,k∈[0]:=by
 intro a ha k hk
 simp only [List.mem_cons,List.not_mem_nil,or_false] at ha
 rcases ha with rfl|rfl
 ·cases hk
 ·rw [rdaS] at hk;exact hk
theorem zcS:zcells Tryz.prog 342=some zerS:=by kernel_rfl
theorem stS:stepStore Tryz.prog 342 (upd (fun _=>.hole) 0 (.cells true false 342 zerS)) (.c (.ptr 0 0)) (.agg ascC)=some (.undef,[(0,.cells true false 342 ascC)],[],True):=by
 have hl:ascC.length=256:=by unfold ascC;simp [asc_len]
 have hz:zerS.length=256:=List.length_replicate
 have hs:setSeg zerS 0 ascC=ascC:=by
  unfold setSeg;rw [hl,List.take_zero,List.nil_append,Nat.zero_add,List.drop_eq_nil_of_le (Nat.le_of_eq hz),List.append_nil]
 have hi:((Tryz.prog.info? 342).isSome && ascC.length == szT Tryz.prog 342)=true:=by kernel_rfl
 have hu:upd (fun _=>LB.hole) 0 (.cells true false 342 zerS) 0=.cells true false 342 (List.replicate 256 (.d (.bool false))):=upd_same _ _ _
 have ht:(0+ascC.length≤zerS.length)=True:=by rw [hl,hz];exact eq_true (by decide)
 unfold stepStore
 simp only [hu]
 show (if ((Tryz.prog.info? 342).isSome && ascC.length == szT Tryz.prog 342)=true then some (AV.undef,[(0,LB.cells true false 342 (setSeg zerS 0 ascC))],[],0+ascC.length≤zerS.length) else none)=_
 rw [if_pos hi,hs,ht]
theorem CallDo.flat {c:Ctx}{f:FuncId}{xs us:List AV}{ks rds:List Key}{x:AV}{lv:Key→LB}{K:AV→List (Key × LB)→List Key→Nat→Prop}(κ:Nat) (ha:dArgs lv xs=some (us,ks)) (hc:CallsP c.P c.G f us x) (hx:x.flat=true)
 (hr:∀ a∈xs,∀ k∈rdA lv a,k∈rds) (hK:K x [] rds κ):CallDo c f xs lv K:=⟨x,[],rds,κ,CallEff.flat us ks rds x ha hc hx hr,hK⟩
theorem eqEmpty (s:List UInt8):stepBin Tryz.prog .eql 9 (.c (.d (.str s))) (.c (.d (.str [])))=some (.c (.d (.bool (decide (s=[])))),[],[],True):=by
 cases s with
 | nil=>kernel_rfl
 | cons a l=>exact (show ∀ a l,stepBin Tryz.prog .eql 9 (.c (.d (.str (a::l)))) (.c (.d (.str [])))=some (.c (.d (.bool false)),[],[],True) from fun a l=>by kernel_rfl) a l
set_option maxHeartbeats 1000000 in
theorem trim_ok (m:Int)(s:List UInt8):CallsP Tryz.prog (GG m) 261 [.c (.d (.str s)),.c (.d (.str digs))] (.c (.d (.str (trimD s)))):=by
 refine CallsP.of_AW Go.Proofs.Tryz.func261 rfl (by rw [Tryz.ntmps261];simp) ?_
 rintro⟨_,_,w0,F0,W0,_,lv0,β0⟩ rfl rfl rfl
 refine AW.seqK fun K hK=>?_
 refine AW.regionP rfl ?_
 simp
 repeat (refine And.intro (by omega) ?_)
 apply hK;clear hK K
 refine AW.seqK fun K hK=>?_
 refine AW.seqK fun K1 hK1=>?_
 by_cases hs:s=[]
 ·refine AW.regionP rfl ?_
  simp [eqEmpty,hs]
  repeat (refine And.intro (by omega) ?_)
  apply hK1;clear hK1 K1
  refine AW.cond (b:=true) (by first|(simp [];done)|(simp [];omega)) ?_
  refine AW.seqK fun K1 hK1=>?_
  refine AW.regionP rfl ?_
  simp
  repeat (refine And.intro (by omega) ?_)
  apply hK1;clear hK1 K1
  exact AW.ret (κ:=0) (FinP.tmp (κ:=0) rfl 4 (by simp [hs,trimD,trimRD]) (by first|rfl|simp) (by first|rfl|simp) (by first|rfl|simp))
 refine AW.regionP rfl ?_
 simp [eqEmpty,hs]
 repeat (refine And.intro (by omega) ?_)
 apply hK1;clear hK1 K1
 refine AW.cond (b:=false) (by first|(simp [];done)|(simp [];omega)) ?_
 refine AW.skip ?_
 simp
 repeat (refine And.intro (by omega) ?_)
 apply hK;clear hK K
 refine AW.seqK fun K hK=>?_
 refine AW.seqK fun K1 hK1=>?_
 refine AW.regionP rfl ?_
 simp
 repeat (refine And.intro (by omega) ?_)
 apply hK1;clear hK1 K1
 refine AW.cond (b:=false) (by first|(simp [];done)|(simp [];omega)) ?_
 refine AW.skip ?_
 simp
 repeat (refine And.intro (by omega) ?_)
 apply hK;clear hK K
 refine AW.seqK fun K hK=>?_
 refine AW.seqK fun K1 hK1=>?_
 refine AW.regionP rfl ?_
 simp
 refine CallDo.pure 0 9 (mkset' m) mksetP (by simp) rfl ?_
 simp [zcS,stS,-stepStore]
 repeat (refine And.intro (by omega) ?_)
 apply hK1;clear hK1 K1
 refine AW.seqK fun K1 hK1=>?_
 refine AW.regionP rfl ?_
 simp
 repeat (refine And.intro (by omega) ?_)
 apply hK1;clear hK1 K1
 refine AW.cond (b:=true) (by first|(simp [];done)|(simp [];omega)) ?_
 refine AW.seqK fun K1 hK1=>?_
 refine AW.regionP rfl ?_
 simp
 refine CallDo.flat 2 (us:=[.c (.d (.str s)),.c (.d (.ptr asc))]) (ks:=[0]) (rds:=[0]) (dargS s) (trimRight_ok _ s) rfl (rdS s) ?_
 simp
 refine CallDo.flat 2 (us:=[.c (.d (.str (trimRD s))),.c (.d (.ptr asc))]) (ks:=[0]) (rds:=[0]) (dargS _) (trimLeft_ok _ (trimRD s)) rfl (rdS _) ?_
 simp
 repeat (refine And.intro (by omega) ?_)
 apply hK1;clear hK1 K1
 exact AW.ret (κ:=0) (FinP.tmp (κ:=0) rfl 9 (by simp [trimD]) rfl (by simp) rfl)
end Go.Am

namespace Go.Am
open Go.Am.Ty Go.Proofs N
theorem beqD (s t:List UInt8):(s == t)=decide (s=t):=by
 by_cases h:s=t
 ·subst h;simp
 ·rw [decide_eq_false h];exact beq_eq_false_iff_ne.2 h
theorem eqStr (s t:List UInt8):stepBin Tryz.prog .eql 9 (.c (.d (.str s))) (.c (.d (.str t)))=some (.c (.d (.bool (decide (s=t)))),[],[],True):=by
 rw [← beqD];kernel_rfl
theorem neStr (s t:List UInt8):stepBin Tryz.prog .neq 9 (.c (.d (.str s))) (.c (.d (.str t)))=some (.c (.d (.bool (!decide (s=t)))),[],[],True):=by
 rw [← beqD];kernel_rfl
def rowB (s:List UInt8):Bool:=!decide (s=[]) && decide (trimD s=[]) && (decide (s=[48]) || !decide (s.getD 0 0=48))
theorem row_ok (m:Int)(s:List UInt8):CallsP Tryz.prog (GG m) 224 [.c (.d (.str s))] (.c (.d (.bool (rowB s)))):=by
 refine CallsP.of_AW Go.Proofs.Tryz.func224 rfl (by rw [Tryz.ntmps224];simp) ?_
 rintro⟨_,_,w0,F0,W0,_,lv0,β0⟩ rfl rfl rfl
 refine AW.seqK fun K hK=>?_
 refine AW.regionP rfl ?_
 simp
 repeat (refine And.intro (by omega) ?_)
 apply hK;clear hK K
 refine AW.seqK fun K hK=>?_
 cases s with
 | nil=>
  refine AW.regionP rfl ?_
  simp [neStr]
  repeat (refine And.intro (by omega) ?_)
  apply hK;clear hK K
  exact AW.ret (κ:=0) (FinP.tmp (κ:=0) rfl 2 (by simp [rowB]) (by first|rfl|simp) (by first|rfl|simp) (by first|rfl|simp))
 | cons a l=>
  refine AW.regionP rfl ?_
  simp [neStr]
  refine CallDo.pure 0 9 (trim_ok m (a::l)) (by simp) (by simp) rfl ?_
  by_cases ht:trimD (a::l)=[]
  ·by_cases h0:a::l=[48]
   ·have ht':trimD [48]=[]:=h0 ▸ ht
    simp [eqStr,h0,ht']
    repeat (refine And.intro (by omega) ?_)
    apply hK;clear hK K
    exact AW.ret (κ:=0) (FinP.tmp (κ:=0) rfl 2 (by simp [rowB,h0,ht']) (by first|rfl|simp) (by first|rfl|simp) (by first|rfl|simp))
   ·simp [eqStr,ht,h0]
    repeat (refine And.intro (by omega) ?_)
    apply hK;clear hK K
    have ha:((a.toNat:Int)=48)↔a=48:=by
     constructor
     ·intro h;exact UInt8.toNat_inj.1 (by show a.toNat=48;omega)
     ·intro h;subst h;rfl
    have hr:rowB (a::l) = !decide ((a.toNat:Int)=48):=by
     have h1:decide ((a.toNat:Int)=48)=decide (a=48):=by simp only [ha]
     rw [h1]
     simp [rowB,ht,h0]
    exact AW.ret (κ:=0) (FinP.tmp (κ:=0) rfl 2 (by simp [hr]) (by first|rfl|simp) (by first|rfl|simp) (by first|rfl|simp))
  ·simp [eqStr,ht]
   repeat (refine And.intro (by omega) ?_)
   apply hK;clear hK K
   exact AW.ret (κ:=0) (FinP.tmp (κ:=0) rfl 2 (by simp [rowB,ht]) (by first|rfl|simp) (by first|rfl|simp) (by first|rfl|simp))
end Go.Am

namespace Go.Am
open Go.Am.Ty Go.Proofs N
def hpB (s p:List UInt8):Bool:=decide (p.length≤s.length) && decide (s.take p.length=p)
def cpS (s p:List UInt8):List UInt8:=if hpB s p=true then s.drop p.length else s
theorem hasPrefix_ok (G:List (List DV))(s p:List UInt8):CallsP Tryz.prog G 254 [.c (.d (.str s)),.c (.d (.str p))] (.c (.d (.bool (hpB s p)))):=by
 refine CallsP.of_AW Go.Proofs.Tryz.func254 rfl (by rw [Tryz.ntmps254];simp) ?_
 rintro⟨_,_,w0,F0,W0,_,lv0,β0⟩ rfl rfl rfl
 refine AW.seqK fun K hK=>?_
 refine AW.regionP rfl ?_
 simp
 repeat (refine And.intro (by omega) ?_)
 apply hK;clear hK K
 refine AW.seqK fun K hK=>?_
 by_cases h:p.length≤s.length
 ·have h':(p.length:Int)≤(s.length:Int):=by omega
  refine AW.regionP rfl ?_
  simp [eqStr,h,h']
  repeat (refine And.intro (by omega) ?_)
  apply hK;clear hK K
  exact AW.ret (κ:=0) (FinP.tmp (κ:=0) rfl 4 (by simp [hpB,h]) (by first|rfl|simp) (by first|rfl|simp) (by first|rfl|simp))
 ·have h':¬ (p.length:Int)≤(s.length:Int):=by omega
  refine AW.regionP rfl ?_
  simp [eqStr,h,h']
  repeat (refine And.intro (by omega) ?_)
  apply hK;clear hK K
  exact AW.ret (κ:=0) (FinP.tmp (κ:=0) rfl 4 (by simp [hpB,h]) (by first|rfl|simp) (by first|rfl|simp) (by first|rfl|simp))
theorem cutPrefix0_ok (G:List (List DV))(s p:List UInt8):CallsP Tryz.prog G 276 [.c (.d (.str s)),.c (.d (.str p))] (.tup [.c (.d (.str (cpS s p))),.c (.d (.bool (hpB s p)))]):=by
 refine CallsP.of_AW Go.Proofs.Tryz.func276 rfl (by rw [Tryz.ntmps276];simp) ?_
 rintro⟨_,_,w0,F0,W0,_,lv0,β0⟩ rfl rfl rfl
 refine AW.seqK fun K hK=>?_
 refine AW.regionP rfl ?_
 simp
 repeat (refine And.intro (by omega) ?_)
 apply hK;clear hK K
 refine AW.seqK fun K hK=>?_
 refine AW.seqK fun K1 hK1=>?_
 refine AW.regionP rfl ?_
 simp
 refine CallDo.pure 0 9 (hasPrefix_ok _ s p) (by simp) (by simp) rfl ?_
 simp
 repeat (refine And.intro (by omega) ?_)
 apply hK1;clear hK1 K1
 by_cases h:hpB s p=true
 ·refine AW.cond (b:=false) (by first|(simp [h];done)|(simp [h];omega)) ?_
  refine AW.skip ?_
  simp
  repeat (refine And.intro (by omega) ?_)
  apply hK;clear hK K
  refine AW.seqK fun K hK=>?_
  have hl:p.length≤s.length:=by
   unfold hpB at h;simp only [Bool.and_eq_true,decide_eq_true_eq] at h;exact h.1
  refine AW.regionP rfl ?_
  simp [hl]
  repeat (refine And.intro (by omega) ?_)
  apply hK;clear hK K
  exact AW.ret (κ:=0) (FinP.tmp2 (κ:=0) rfl 5 (by simp [cpS,h]) (by simp [h]) rfl rfl rfl rfl rfl (by decide))
 ·refine AW.cond (b:=true) (by first|(simp [h];done)|(simp [h];omega)) ?_
  refine AW.seqK fun K1 hK1=>?_
  refine AW.regionP rfl ?_
  simp
  repeat (refine And.intro (by omega) ?_)
  apply hK1;clear hK1 K1
  exact AW.ret (κ:=0) (FinP.tmp2 (κ:=0) rfl 5 (by simp [cpS,h]) (by simp [h]) rfl rfl rfl rfl rfl (by decide))
theorem cutPrefix_ok (G:List (List DV))(s p:List UInt8):CallsP Tryz.prog G 222 [.c (.d (.str s)),.c (.d (.str p))] (.tup [.c (.d (.str (cpS s p))),.c (.d (.bool (hpB s p)))]):=by
 refine CallsP.of_AW Go.Proofs.Tryz.func222 rfl (by rw [Tryz.ntmps222];simp) ?_
 rintro⟨_,_,w0,F0,W0,_,lv0,β0⟩ rfl rfl rfl
 refine AW.seqK fun K hK=>?_
 refine AW.regionP rfl ?_
 simp
 repeat (refine And.intro (by omega) ?_)
 apply hK;clear hK K
 refine AW.seqK fun K hK=>?_
 refine AW.regionP rfl ?_
 simp
 refine CallDo.pure 0 9 (cutPrefix0_ok _ s p) rfl (by simp) rfl ?_
 simp
 repeat (refine And.intro (by omega) ?_)
 apply hK;clear hK K
 exact AW.ret (κ:=0) (FinP.tmp2 (κ:=0) rfl 6 (by simp) (by simp) rfl rfl rfl rfl rfl (by decide))
end Go.Am

namespace Go.Am
open Go.Am.Ty Go.Proofs N
theorem FinP.tmp3 {c:Ctx}{fn:Func}{x y z:AV}{t u v:Nat}{s:LSt}{κ:Nat}(hr:fn.results=#[.tmp t,.tmp u,.tmp v]) (kh:Key) (hx:s.fr t=x) (hy:s.fr u=y) (hz:s.fr v=z) (hp:x.pure=true) (hq:y.pure=true) (hw:z.pure=true) (hh:s.lv kh=.hole)
 (hn:x.noTup=true) (hm:y.noTup=true) (hl:z.noTup=true) (htu:t≠u) (htv:t≠v) (huv:u≠v):FinP c fn (.tup [x,y,z]) .ret s κ:=by
 refine⟨[(t,x),(u,y),(v,z)],kh,by simp [hp,hx,hq,hy,hw,hz],hh,?_⟩
 rw [hr]
 have h1:¬ u=t:=fun h=>htu h.symm
 have h2:¬ v=t:=fun h=>htv h.symm
 have h3:¬ v=u:=fun h=>huv h.symm
 simp [resA,resL,resV,frOf,h1,h2,h3,hn,hm,hl]
def ctI (s t:List UInt8):Int:=Lib.index s t
def ctA (s t:List UInt8):List UInt8:=if 0≤ctI s t then s.take (ctI s t).toNat else s
def ctB (s t:List UInt8):List UInt8:=if 0≤ctI s t then s.drop ((ctI s t).toNat+t.length) else []
theorem index_lt (s t:List UInt8)(h:s.length≤9223372036854775807):-9223372036854775808≤Lib.index s t∧Lib.index s t≤9223372036854775807:=by
 have h1:=Lib.index_ge s t
 have h2:Lib.index s t≤s.length:=by
  clear h h1
  induction s with
  | nil=>simp only [Lib.index];split <;> simp
  | cons a s ih=>
   simp only [Lib.index]
   split
   ·simp;omega
   ·split <;> simp <;> omega
 omega
theorem indexB_ok (G:List (List DV))(s:List UInt8)(c:Nat)(hc:c<256):CallsP Tryz.prog G 255 [.c (.d (.str s)),.c (.d (.int .u8 (c:Int)))] (.c (.d (.int .i64 (ctI s [UInt8.ofNat c])))):=by
 refine CallsS.know 0 (by simp) (fun V v h=>(show s.length≤9223372036854775807 by cases h.1 with|str _ hl=>exact hl)) fun hs=>?_
 refine CallsP.of_CallG (X:=.c (.d (.int .i64 (ctI s [UInt8.ofNat c])))) (lv':=fun _=>.hole) (ks:=[]) ?_ rfl
 refine CallG.of_same (by rfl) fun F β w vs hS hl hv=>?_
 obtain⟨u,v,rfl,hu,hv⟩:=args2 hl hv
 have:=Tryz.stringslite_IndexByte ⟨s.toArray⟩ c w
 refine⟨.int .i64 (ctI s [UInt8.ofNat c]),av_int (index_lt s _ hs),?_⟩
 rw [Vw.c_str hu,Vw.c_int hv]
 simpa [ctI,← index_one] using this
theorem idx_self (c:UInt8):ctI [c] [c]=0:=by simp [ctI,Lib.index,List.isPrefixOf]
theorem index1_ok (G:List (List DV))(s:List UInt8)(c:UInt8):CallsP Tryz.prog G 253 [.c (.d (.str s)),.c (.d (.str [c]))] (.c (.d (.int .i64 (ctI s [c])))):=by
 have hb:=indexB_ok G s c.toNat c.toNat_lt
 rw [show UInt8.ofNat c.toNat=c from UInt8.ofNat_toNat] at hb
 refine CallsP.of_AW Go.Proofs.Tryz.func253 rfl (by rw [Tryz.ntmps253];simp) ?_
 rintro⟨_,_,w0,F0,W0,_,lv0,β0⟩ rfl rfl rfl
 refine AW.seqK fun K hK=>?_
 refine AW.regionP rfl ?_
 simp
 repeat (refine And.intro (by omega) ?_)
 apply hK;clear hK K
 refine AW.seqK fun K hK=>?_
 refine AW.regionP rfl ?_
 simp
 repeat (refine And.intro (by omega) ?_)
 apply hK;clear hK K
 refine AW.seqK fun K hK=>?_
 refine AW.block ?_
 refine AW.seqK fun K1 hK1=>?_
 by_cases hs:[c]=s
 ·have h0:ctI s [c]=0:=by rw [← hs];exact idx_self c
  refine AW.regionP rfl ?_
  simp [eqStr,hs]
  repeat (refine And.intro (by omega) ?_)
  apply hK1;clear hK1 K1
  refine AW.cond (b:=true) (by first|(simp [];done)|(simp [];omega)) ?_
  refine AW.seqK fun K1 hK1=>?_
  refine AW.regionP rfl ?_
  simp
  repeat (refine And.intro (by omega) ?_)
  apply hK1;clear hK1 K1
  exact AW.ret (κ:=0) (FinP.tmp (κ:=0) rfl 4 (by simp [h0]) (by first|rfl|simp) (by first|rfl|simp) (by first|rfl|simp))
 ·refine AW.regionP rfl ?_
  simp [eqStr,hs]
  repeat (refine And.intro (by omega) ?_)
  apply hK1;clear hK1 K1
  refine AW.cond (b:=false) (by first|(simp [];done)|(simp [];omega)) ?_
  refine AW.seqK fun K1 hK1=>?_
  refine AW.regionP rfl ?_
  simp
  repeat (refine And.intro (by omega) ?_)
  apply hK1;clear hK1 K1
  refine AW.cond (b:=true) (by first|(simp [];done)|(simp [];omega)) ?_
  refine AW.seqK fun K1 hK1=>?_
  refine AW.regionP rfl ?_
  simp
  refine CallDo.pure 0 9 hb (by simp) (by simp) rfl ?_
  simp
  repeat (refine And.intro (by omega) ?_)
  apply hK1;clear hK1 K1
  exact AW.ret (κ:=0) (FinP.tmp (κ:=0) rfl 4 (by simp []) (by first|rfl|simp) (by first|rfl|simp) (by first|rfl|simp))
set_option maxHeartbeats 1000000 in
theorem cutA0_ok (m:Int)(s t:List UInt8)(h:s.length≤9223372036854775807)(hix:CallsP Tryz.prog (GG m) 253 [.c (.d (.str s)),.c (.d (.str t))] (.c (.d (.int .i64 (ctI s t))))):CallsP Tryz.prog (GG m) 277 [.c (.d (.str s)),.c (.d (.str t))] (.tup [.c (.d (.str (ctA s t))),.c (.d (.str (ctB s t))),.c (.d (.bool (decide (0≤ctI s t))))]):=by
 refine CallsP.of_AW Go.Proofs.Tryz.func277 rfl (by rw [Tryz.ntmps277];simp) ?_
 rintro⟨_,_,w0,F0,W0,_,lv0,β0⟩ rfl rfl rfl
 refine AW.seqK fun K hK=>?_
 refine AW.regionP rfl ?_
 simp
 repeat (refine And.intro (by omega) ?_)
 apply hK;clear hK K
 refine AW.seqK fun K hK=>?_
 refine AW.seqK fun K1 hK1=>?_
 refine AW.regionP rfl ?_
 simp
 refine CallDo.pure 0 9 hix (by simp) (by simp) rfl ?_
 simp
 repeat (refine And.intro (by omega) ?_)
 apply hK1;clear hK1 K1
 refine AW.seqK fun K1 hK1=>?_
 refine AW.regionP rfl ?_
 simp
 repeat (refine And.intro (by omega) ?_)
 apply hK1;clear hK1 K1
 by_cases hi:0≤ctI s t
 ·refine AW.cond (b:=true) (by first|(simp [hi];done)|(simp [hi];omega)) ?_
  obtain⟨n,hn⟩:∃ n:Nat,ctI s t=n:=⟨(ctI s t).toNat,(Int.toNat_of_nonneg hi).symm⟩
  have hr:=Lib.index_room s t (by unfold ctI at hi;exact hi)
  have hr':n+t.length≤s.length:=by unfold ctI at hn;rw [hn] at hr;omega
  have hw:IntKind.i64.wrap ((n:Int)+t.length)=((n+t.length:Nat):Int):=by rw [w64 (by omega) (by omega)];omega
  have hn1:n≤s.length:=by omega
  refine AW.seqK fun K1 hK1=>?_
  refine AW.drawQ mixed (by kernel_rfl) rfl rfl ?_
  simp [hn,hw,hn1,hr',-Int.natCast_add]
  repeat (refine And.intro (by omega) ?_)
  apply hK1;clear hK1 K1
  exact AW.ret (κ:=0) (FinP.tmp3 (κ:=0) rfl 9 (by simp [ctA,hi,hn]) (by simp [ctB,hi,hn]) (by simp [hi,hn]) rfl rfl rfl rfl rfl rfl rfl (by decide) (by decide) (by decide))
 ·refine AW.cond (b:=false) (by first|(simp [hi];done)|(simp [hi];omega)) ?_
  refine AW.skip ?_
  simp
  repeat (refine And.intro (by omega) ?_)
  apply hK;clear hK K
  refine AW.seqK fun K hK=>?_
  refine AW.regionP rfl ?_
  simp
  repeat (refine And.intro (by omega) ?_)
  apply hK;clear hK K
  exact AW.ret (κ:=0) (FinP.tmp3 (κ:=0) rfl 9 (by simp [ctA,hi]) (by simp [ctB,hi]) (by simp [hi]) rfl rfl rfl rfl rfl rfl rfl (by decide) (by decide) (by decide))
theorem cutA_ok (m:Int)(s t:List UInt8)(h:s.length≤9223372036854775807)(hix:CallsP Tryz.prog (GG m) 253 [.c (.d (.str s)),.c (.d (.str t))] (.c (.d (.int .i64 (ctI s t))))):CallsP Tryz.prog (GG m) 223 [.c (.d (.str s)),.c (.d (.str t))] (.tup [.c (.d (.str (ctA s t))),.c (.d (.str (ctB s t))),.c (.d (.bool (decide (0≤ctI s t))))]):=by
 refine CallsP.of_AW Go.Proofs.Tryz.func223 rfl (by rw [Tryz.ntmps223];simp) ?_
 rintro⟨_,_,w0,F0,W0,_,lv0,β0⟩ rfl rfl rfl
 refine AW.seqK fun K hK=>?_
 refine AW.regionP rfl ?_
 simp
 repeat (refine And.intro (by omega) ?_)
 apply hK;clear hK K
 refine AW.seqK fun K hK=>?_
 refine AW.regionP rfl ?_
 simp
 refine CallDo.pure 0 9 (cutA0_ok m s t h hix) rfl (by simp) rfl ?_
 simp
 repeat (refine And.intro (by omega) ?_)
 apply hK;clear hK K
 exact AW.ret (κ:=0) (FinP.tmp3 (κ:=0) rfl 9 (by simp) (by simp) (by simp) rfl rfl rfl rfl rfl rfl rfl (by decide) (by decide) (by decide))
theorem cut1_ok (m:Int)(s:List UInt8)(c:UInt8):CallsP Tryz.prog (GG m) 223 [.c (.d (.str s)),.c (.d (.str [c]))] (.tup [.c (.d (.str (ctA s [c]))),.c (.d (.str (ctB s [c]))),.c (.d (.bool (decide (0≤ctI s [c]))))]):=by
 refine CallsS.know 0 (by simp) (fun V v h=>(show s.length≤9223372036854775807 by cases h.1 with|str _ hl=>exact hl)) fun hs=>?_
 exact cutA_ok m s [c] hs (index1_ok (GG m) s c)
end Go.Am

namespace Go.Am
open Go.Am.Ty Go.Proofs N
theorem dw_nil {p:UInt8→Bool}:∀ {l:List UInt8},l.dropWhile p=[]→∀ x∈l,p x=true
 | [],_,x,hx=>by cases hx
 | a::l,h,x,hx=>by
  simp only [List.dropWhile] at h
  split at h
  ·rename_i ha
   rcases List.mem_cons.1 hx with rfl|hx
   ·exact ha
   ·exact dw_nil h x hx
  ·cases h
theorem trimD_nil {s:List UInt8}(h:trimD s=[]):isD s:=by
 have h1:∀ x∈trimRD s,isDg x=true:=dw_nil h
 have h2:∀ x∈s.reverse.dropWhile isDg,isDg x=true:=fun x hx=>h1 x (by unfold trimRD;exact List.mem_reverse.2 hx)
 have h3:∀ x∈s.reverse,isDg x=true:=by
  intro x hx
  rw [← List.takeWhile_append_dropWhile (p:=isDg) (l:=s.reverse),List.mem_append] at hx
  rcases hx with hx|hx
  ·have:=List.all_takeWhile (p:=isDg) (l:=s.reverse)
   exact List.all_eq_true.1 this x hx
  ·exact h2 x hx
 intro c hc
 have:=h3 c (List.mem_reverse.2 hc)
 simpa [isDg] using this
theorem rowB_d {s:List UInt8}(h:rowB s=true):isD s∧s≠[]:=by
 unfold rowB at h
 simp only [Bool.and_eq_true,Bool.not_eq_true',decide_eq_false_iff_not,decide_eq_true_eq] at h
 exact⟨trimD_nil h.1.2,h.1.1⟩
abbrev nm0:AV:=nmA false none none
def badB (neg:Bool)(top bot:List UInt8)(brk:Bool):Bool:=!rowB top || (neg && decide (top=[48])) || (brk && (!rowB bot || decide (bot=[48]) || decide (bot=[49])))
abbrev rdO (s:List UInt8):Option (List Nat):=some (dig 4294967296 (decN s 0))
def parseR (neg:Bool)(top bot:List UInt8)(brk:Bool):AV:=
 if badB neg top bot brk=true then .tup [nm0,.c (.d (.int .i64 6))]
 else if 2000<max top.length bot.length then .tup [nm0,.c (.d (.int .i64 3))]
 else if brk=false then .tup [madeA neg (rdO top) (some (dig 4294967296 1)),.c (.d (.int .i64 0))]
 else if val 4294967296 (dO (gO (rdO top) (rdO bot)))=1 then .tup [nmA neg (rdO top) (rdO bot),.c (.d (.int .i64 0))]
 else .tup [nm0,.c (.d (.int .i64 6))]
theorem parseR_dRes (lv:Key→LB)(neg:Bool)(top bot:List UInt8)(brk:Bool):dRes lv (parseR neg top bot brk)=some (parseR neg top bot brk,[]):=by
 have h1:∀ b p q n,dRes lv (.tup [nmA b p q,.c (.d (.int .i64 n))])=some (.tup [nmA b p q,.c (.d (.int .i64 n))],[]):=by
  intro b p q n;cases p <;> cases q <;> rfl
 unfold parseR madeA
 (repeat' split) <;> exact h1 ..
theorem read_row (G:List (List DV)){s:List UInt8}(h:rowB s=true) (hl:s.length≤2000):CallsP Tryz.prog G 226 [.c (.d (.str s))] (.c (nC (rdO s))):=by
 obtain⟨h1,h2⟩:=rowB_d h
 have:=exact_read_ok G s h1 (by omega)
 have e:oO (!s.isEmpty) (decN s 0)=rdO s:=by
  cases s with
  | nil=>exact absurd rfl h2
  | cons a l=>rfl
 rw [e,nK_nC] at this
 exact this
set_option maxHeartbeats 4000000 in
theorem parse_ok (m:Int)(r:List UInt8) :
 CallsP Tryz.prog (GG m) 159 [.c (.d (.str r))] (parseR (hpB r [45]) (ctA (cpS r [45]) [47]) (ctB (cpS r [45]) [47]) (decide (0≤ctI (cpS r [45]) [47]))):=by
 refine CallsS.know 0 (by simp) (fun V v h=>(show r.length≤9223372036854775807 by cases h.1 with|str _ hl=>exact hl)) fun hr=>?_
 have hcl:(cpS r [45]).length≤9223372036854775807:=by
  unfold cpS;split
  ·rw [List.length_drop];omega
  ·exact hr
 have hcp:=cutPrefix_ok (GG m) r [45]
 have hct:=cut1_ok m (cpS r [45]) 47
 have hta:(ctA (cpS r [45]) [47]).length≤9223372036854775807:=by
  unfold ctA;split
  ·rw [List.length_take];omega
  ·omega
 have htb:(ctB (cpS r [45]) [47]).length≤9223372036854775807:=by
  unfold ctB;split
  ·rw [List.length_drop];omega
  ·simp
 generalize hpB r [45]=neg at *
 generalize cpS r [45]=s at *
 generalize ctA s [47]=top at *
 generalize ctB s [47]=bot at *
 generalize decide (0≤ctI s [47])=brk at *
 refine CallsP.of_AWc Go.Proofs.Tryz.func159 rfl (by rw [Tryz.ntmps159];simp) (fun lv=>parseR_dRes lv _ _ _ _) ?_
 rintro⟨_,_,w0,F0,W0,_,lv0,β0⟩ rfl rfl rfl
 refine AW.seqK fun K hK=>?_
 refine AW.regionP rfl ?_
 simp
 repeat (refine And.intro (by omega) ?_)
 apply hK;clear hK K
 refine AW.seqK fun K hK=>?_
 refine AW.regionP rfl ?_
 simp
 refine CallDo.pure 1 9 hcp rfl (by simp) (by simp) ?_
 simp
 repeat (refine And.intro (by omega) ?_)
 apply hK;clear hK K
 refine AW.seqK fun K hK=>?_
 refine AW.regionP rfl ?_
 simp
 refine CallDo.pure 1 9 hct rfl (by simp) (by simp) ?_
 simp
 repeat (refine And.intro (by omega) ?_)
 apply hK;clear hK K
 refine AW.seqK fun K hK=>?_
 refine AW.block ?_
 refine AW.seqK fun K1 hK1=>?_
 have row1:=row_ok m top
 have row2:=row_ok m bot
 have hbad:∀ (fr:Nat→AV) (κ:Nat),fr 2=.c (.ptr 0 0)→fr 22=.c (.d (.bool true))→badB neg top bot brk=true →
  K1 ⟨fr,upd (fun _=>.hole) 0 (.cells true false 224 [.d (.bool false),.d .nilsl,.d .nilsl])⟩ κ:=by
  intro fr κ z2 z22 hb
  repeat (refine And.intro (by omega) ?_)
  apply hK1
  refine AW.cond (b:=true) (by first|(simp [z22];done)|(simp [z22];omega)) ?_
  refine AW.seqK fun K2 hK2=>?_
  refine AW.regionP rfl ?_
  simp [z2,bNum0]
  repeat (refine And.intro (by omega) ?_)
  apply hK2;clear hK2 K2
  refine AW.ret ?_
  simp only [parseR,if_pos hb]
  refine FinC.cell2 (κ:=0) (T:=224) (t:=2) (u:=3) (k:=0) (off:=0) (own:=true) (fz:=false) (U:=224) (cs:=[.d (.bool false),.d .nilsl,.d .nilsl]) rfl ?_ ?_ ?_ ?_ rfl rfl
  ·simp [z2]
  ·simp [setSeg]
  ·rw [List.drop_zero,loadNum];rfl
  ·simp
 have hgood:∀ (fr:Nat→AV) (κ:Nat),fr 2=.c (.ptr 0 0)→fr 5=.c (.d (.bool neg))→fr 6=.c (.d (.str top))→fr 7=.c (.d (.str bot))→fr 8=.c (.d (.bool brk))→fr 22=.c (.d (.bool false)) →
  rowB top=true→(brk=true→rowB bot=true)→badB neg top bot brk=false →
  K1 ⟨fr,upd (fun _=>.hole) 0 (.cells true false 224 [.d (.bool false),.d .nilsl,.d .nilsl])⟩ κ:=by
  intro fr κ z2 z5 z6 z7 z8 z22 g1 g2 hb
  repeat (refine And.intro (by omega) ?_)
  apply hK1
  refine AW.cond (b:=false) (by first|(simp [z22];done)|(simp [z22];omega)) ?_
  refine AW.seqK fun K2 hK2=>?_
  have hmx:∀ (a b:Nat),(List.foldl (fun a b:Int=>if a<b then b else a) (a:Int) [(b:Int)])=((max a b:Nat):Int):=by
   intro a b;simp only [List.foldl];split <;> omega
  refine AW.regionP rfl ?_
  simp [z6,z7,intsOf,hmx,-List.foldl_cons,-List.foldl_nil]
  repeat (refine And.intro (by omega) ?_)
  apply hK2;clear hK2 K2
  have hbf:¬ badB neg top bot brk=true:=by rw [hb];decide
  by_cases hl:2000<max top.length bot.length
  ·have hl':(2000:Int)<((max top.length bot.length:Nat):Int):=by omega
   refine AW.cond (b:=true) (by first|(simp [hl'];done)|(simp [hl'];omega)) ?_
   refine AW.seqK fun K2 hK2=>?_
   refine AW.regionP rfl ?_
   simp [z2,bNum0]
   repeat (refine And.intro (by omega) ?_)
   apply hK2;clear hK2 K2
   refine AW.ret ?_
   simp only [parseR,if_neg hbf,if_pos hl]
   refine FinC.cell2 (κ:=0) (T:=224) (t:=2) (u:=3) (k:=0) (off:=0) (own:=true) (fz:=false) (U:=224) (cs:=[.d (.bool false),.d .nilsl,.d .nilsl]) rfl ?_ ?_ ?_ ?_ rfl rfl
   ·simp [z2]
   ·simp [setSeg]
   ·rw [List.drop_zero,loadNum];rfl
   ·simp
  have hl':¬ (2000:Int)<((max top.length bot.length:Nat):Int):=by omega
  refine AW.cond (b:=false) (by first|(simp [hl'];done)|(simp [hl'];omega)) ?_
  refine AW.skip ?_
  simp
  repeat (refine And.intro (by omega) ?_)
  apply hK
  have ht2:top.length≤2000:=by omega
  have hb2:bot.length≤2000:=by omega
  have rd1:=read_row (GG m) g1 ht2
  have hof:=exact_of_ok (GG m) 1 (by decide)
  have c1:can 4294967296 (dO (rdO top)):=dig_can (by decide) _
  have c2:can 4294967296 (dO (some (dig 4294967296 1))):=dig_can (by decide) _
  have dlen:∀ (u:List UInt8),isD u→u.length≤2000→(dO (rdO u)).length<1000000000000:=by
   intro u hu hlu
   have h1:=decN_lt hu
   have h2:(10:Nat) ^ u.length≤4294967296 ^ u.length:=Nat.pow_le_pow_left (by decide) _
   have:=dig_len_le (B:=4294967296) (n:=decN u 0) (m:=u.length) (by decide) (by omega)
   simp only [dO_some]
   omega
  have l1:=dlen top (rowB_d g1).1 ht2
  have l2:(dO (some (dig 4294967296 1))).length<1000000000000:=Nat.lt_of_le_of_lt (dig_len_le (m:=1) (by decide) (by decide)) (by decide)
  refine AW.seqK fun K3 hK3=>?_
  refine AW.seqK fun K4 hK4=>?_
  refine AW.regionP rfl ?_
  simp [z8]
  repeat (refine And.intro (by omega) ?_)
  apply hK4;clear hK4 K4
  cases hk:brk with
  | false=>
   rw [hk] at hbf
   have hmade:=exact_made_ok (GG m) neg (rdO top) (some (dig 4294967296 1)) c1 c2 (by intro h;exact absurd ((dig_nil (by decide)).1 h) (by decide)) l1 l2
   simp only [nK_nC] at hmade hof
   refine AW.cond (b:=true) (by first|(simp [];done)|(simp [];omega)) ?_
   refine AW.seqK fun K4 hK4=>?_
   refine AW.regionP rfl ?_
   simp [z5,z6]
   refine CallDo.pure κ 9 rd1 (by simp) (by simp) (by simp) ?_
   simp
   refine CallDo.pure κ 9 hof (by simp) (by simp) (by simp) ?_
   simp
   by_cases hz:dO (rdO top)=[]
   ·simp only [madeA,if_pos hz] at hmade
    refine CallDo.pure κ 9 hmade (by simp) (by simp) (by simp) ?_
    simp [z2]
    repeat (refine And.intro (by omega) ?_)
    apply hK4;clear hK4 K4
    refine AW.ret ?_
    simp only [parseR,if_neg hbf,if_neg hl,reduceIte,madeA,if_pos hz]
    refine FinC.cell2 (κ:=0) (T:=224) (t:=2) (u:=3) (k:=0) (off:=0) (own:=true) (fz:=false) (U:=224) (cs:=[.d (.bool false),nC none,nC none]) rfl ?_ ?_ ?_ ?_ rfl rfl
    ·simp [z2]
    ·simp [setSeg]
    ·rw [List.drop_zero,loadNum]
    ·simp
   ·simp only [madeA,if_neg hz] at hmade
    refine CallDo.pure κ 9 hmade (by simp) (by simp) (by simp) ?_
    simp [z2]
    repeat (refine And.intro (by omega) ?_)
    apply hK4;clear hK4 K4
    refine AW.ret ?_
    simp only [parseR,if_neg hbf,if_neg hl,reduceIte,madeA,if_neg hz]
    refine FinC.cell2 (κ:=0) (T:=224) (t:=2) (u:=3) (k:=0) (off:=0) (own:=true) (fz:=false) (U:=224) (cs:=[.d (.bool neg),nC (mP (rdO top) (some (dig 4294967296 1))),nC (mQ (rdO top) (some (dig 4294967296 1)))]) rfl ?_ ?_ ?_ ?_ rfl rfl
    ·simp [z2]
    ·simp [setSeg]
    ·rw [List.drop_zero,loadNum]
    ·simp
  | true=>
   rw [hk] at hbf
   have g3:=g2 hk
   have rd2:=read_row (GG m) g3 hb2
   have c3:can 4294967296 (dO (rdO bot)):=dig_can (by decide) _
   have l3:=dlen bot (rowB_d g3).1 hb2
   have hgcd:=exact_gcd_ok (GG m) (rdO top) (rdO bot) c1 c3 l1 l3
   have his:=exact_is1_ok (GG m) (gO (rdO top) (rdO bot)) (by unfold gO;rw [gcdO_d c1 c3];exact dig_can (by decide) _)
   change CallsP _ _ 229 _ (nK .u32 (gO (rdO top) (rdO bot))) at hgcd
   simp only [nK_nC] at hgcd his
   refine AW.cond (b:=false) (by first|(simp [];done)|(simp [];omega)) ?_
   refine AW.skip ?_
   simp
   repeat (refine And.intro (by omega) ?_)
   apply hK3
   refine AW.seqK fun K4 hK4=>?_
   refine AW.regionP rfl ?_
   simp [z6,z7]
   refine CallDo.pure κ 9 rd1 (by simp) (by simp) (by simp) ?_
   simp [z7]
   refine CallDo.pure κ 9 rd2 (by simp) (by simp) (by simp) ?_
   simp
   repeat (refine And.intro (by omega) ?_)
   apply hK4;clear hK4 K4
   refine AW.seqK fun K4 hK4=>?_
   refine AW.seqK fun K5 hK5=>?_
   refine AW.regionP rfl ?_
   simp
   refine CallDo.pure κ 9 hgcd (by simp) (by simp) (by simp) ?_
   simp
   refine CallDo.pure κ 9 his (by simp) (by simp) (by simp) ?_
   simp
   repeat (refine And.intro (by omega) ?_)
   apply hK5;clear hK5 K5
   by_cases h1:val 4294967296 (dO (gO (rdO top) (rdO bot)))=1
   ·refine AW.cond (b:=false) (by first|(simp [h1];done)|(simp [h1];omega)) ?_
    refine AW.skip ?_
    simp
    repeat (refine And.intro (by omega) ?_)
    apply hK4;clear hK4 K4
    refine AW.seqK fun K4 hK4=>?_
    refine AW.regionP rfl ?_
    simp [z2,z5,bNum]
    repeat (refine And.intro (by omega) ?_)
    apply hK4;clear hK4 K4
    refine AW.ret ?_
    have hp:parseR neg top bot brk=.tup [nmA neg (rdO top) (rdO bot),.c (.d (.int .i64 0))]:=by rw [hk];unfold parseR;rw [if_neg hbf,if_neg hl,if_neg (by decide),if_pos h1]
    rw [hp]
    refine FinC.cell2 (κ:=0) (T:=224) (t:=2) (u:=3) (k:=0) (off:=0) (own:=true) (fz:=false) (U:=224) (cs:=[.d (.bool neg),nC (rdO top),nC (rdO bot)]) rfl ?_ ?_ ?_ ?_ rfl rfl
    ·simp [z2]
    ·simp [setSeg]
    ·rw [List.drop_zero,loadNum]
    ·simp
   ·refine AW.cond (b:=true) (by first|(simp [h1];done)|(simp [h1];omega)) ?_
    refine AW.seqK fun K5 hK5=>?_
    refine AW.regionP rfl ?_
    simp [z2,bNum0]
    repeat (refine And.intro (by omega) ?_)
    apply hK5;clear hK5 K5
    refine AW.ret ?_
    have hp:parseR neg top bot brk=.tup [nm0,.c (.d (.int .i64 6))]:=by rw [hk];unfold parseR;rw [if_neg hbf,if_neg hl,if_neg (by decide),if_neg h1]
    rw [hp]
    refine FinC.cell2 (κ:=0) (T:=224) (t:=2) (u:=3) (k:=0) (off:=0) (own:=true) (fz:=false) (U:=224) (cs:=[.d (.bool false),.d .nilsl,.d .nilsl]) rfl ?_ ?_ ?_ ?_ rfl rfl
    ·simp [z2]
    ·simp [setSeg]
    ·rw [List.drop_zero,loadNum];rfl
    ·simp
 refine AW.regionP rfl ?_
 simp
 refine CallDo.pure 1 9 row1 (by simp) (by simp) (by simp) ?_
 cases g1:rowB top with
 | false=>
  simp [g1]
  exact hbad _ _ (by simp) (by simp) (by simp [badB,g1])
 | true=>
  cases hn:neg with
  | true=>
   by_cases h48:top=[48]
   ·have e48:decide (top=[48])=true:=decide_eq_true h48
    simp [eqStr,g1,hn,e48]
    exact hbad _ _ (by simp) (by simp) (by simp [badB,hn,h48])
   ·cases hk:brk with
    | false=>
     simp [eqStr,g1,hn,h48,hk]
     exact hgood _ _ (by simp) (by simp [hn]) (by simp) (by simp) (by simp [hk]) (by simp) g1 (fun h=>by rw [hk] at h;cases h) (by simp [badB,g1,hn,h48,hk])
    | true=>
     simp [eqStr,g1,hn,h48,hk]
     refine CallDo.pure 1 9 row2 (by simp) (by simp) (by simp) ?_
     cases g2:rowB bot with
     | false=>
      simp [g2]
      exact hbad _ _ (by simp) (by simp) (by simp [badB,g2,hk])
     | true=>
      by_cases b48:bot=[48]
      ·have e:decide (bot=[48])=true:=decide_eq_true b48
       simp [eqStr,g2,e]
       exact hbad _ _ (by simp) (by simp) (by simp [badB,e,hk])
      ·by_cases b49:bot=[49]
       ·have e:decide (bot=[49])=true:=decide_eq_true b49
        simp [eqStr,g2,b48,e]
        exact hbad _ _ (by simp) (by simp) (by simp [badB,e,hk])
       ·simp [eqStr,g2,b48,b49]
        exact hgood _ _ (by simp) (by simp [hn]) (by simp) (by simp) (by simp [hk]) (by simp) g1 (fun _=>g2) (by simp [badB,g1,hn,h48,hk,g2,b48,b49])
  | false=>
   cases hk:brk with
   | false=>
    simp [eqStr,g1,hn,hk]
    exact hgood _ _ (by simp) (by simp [hn]) (by simp) (by simp) (by simp [hk]) (by simp) g1 (fun h=>by rw [hk] at h;cases h) (by simp [badB,g1,hn,hk])
   | true=>
    simp [eqStr,g1,hn,hk]
    refine CallDo.pure 1 9 row2 (by simp) (by simp) (by simp) ?_
    cases g2:rowB bot with
    | false=>
     simp [g2]
     exact hbad _ _ (by simp) (by simp) (by simp [badB,g2,hk])
    | true=>
     by_cases b48:bot=[48]
     ·have e:decide (bot=[48])=true:=decide_eq_true b48
      simp [eqStr,g2,e]
      exact hbad _ _ (by simp) (by simp) (by simp [badB,e,hk])
     ·by_cases b49:bot=[49]
      ·have e:decide (bot=[49])=true:=decide_eq_true b49
       simp [eqStr,g2,b48,e]
       exact hbad _ _ (by simp) (by simp) (by simp [badB,e,hk])
      ·simp [eqStr,g2,b48,b49]
       exact hgood _ _ (by simp) (by simp [hn]) (by simp) (by simp) (by simp [hk]) (by simp) g1 (fun _=>g2) (by simp [badB,g1,hn,hk,g2,b48,b49])
end Go.Am

namespace Go.Am
open Go.Am.Ty Go.Proofs N
def parseE (neg:Bool)(top bot:List UInt8)(brk:Bool):Int:=
 if badB neg top bot brk=true then 6
 else if 2000<max top.length bot.length then 3
 else if brk=false then 0
 else if val 4294967296 (dO (gO (rdO top) (rdO bot)))=1 then 0 else 6
theorem parseR_form (neg:Bool)(top bot:List UInt8)(brk:Bool):∃ b p q,parseR neg top bot brk=.tup [nmA b p q,.c (.d (.int .i64 (parseE neg top bot brk)))]:=by
 unfold parseR parseE madeA
 (repeat' split) <;> exact⟨_,_,_,rfl⟩
theorem exactCheck_ok (m:Int)(r:List UInt8) :
 CallsP Tryz.prog (GG m) 163 [.c (.d (.str r))] (.c (.d (.int .i64 (parseE (hpB r [45]) (ctA (cpS r [45]) [47]) (ctB (cpS r [45]) [47]) (decide (0≤ctI (cpS r [45]) [47])))))):=by
 have hp:=parse_ok m r
 obtain⟨b,p,q,e⟩:=parseR_form (hpB r [45]) (ctA (cpS r [45]) [47]) (ctB (cpS r [45]) [47]) (decide (0≤ctI (cpS r [45]) [47]))
 rw [e] at hp
 generalize parseE (hpB r [45]) (ctA (cpS r [45]) [47]) (ctB (cpS r [45]) [47]) (decide (0≤ctI (cpS r [45]) [47]))=n at *
 have hpu:(AV.tup [nmA b p q,.c (.d (.int .i64 n))]).pure=true:=by cases p <;> cases q <;> rfl
 refine CallsP.of_AW Go.Proofs.Tryz.func163 rfl (by rw [Tryz.ntmps163];simp) ?_
 rintro⟨_,_,w0,F0,W0,_,lv0,β0⟩ rfl rfl rfl
 refine AW.seqK fun K hK=>?_
 refine AW.regionP rfl ?_
 simp
 repeat (refine And.intro (by omega) ?_)
 apply hK;clear hK K
 refine AW.seqK fun K hK=>?_
 refine AW.regionP rfl ?_
 simp
 refine CallDo.pure 0 9 hp hpu (by simp) rfl ?_
 simp
 repeat (refine And.intro (by omega) ?_)
 apply hK;clear hK K
 refine AW.seqK fun K hK=>?_
 refine AW.regionP rfl ?_
 simp
 repeat (refine And.intro (by omega) ?_)
 apply hK;clear hK K
 exact AW.ret (κ:=0) (FinP.tmp (κ:=0) rfl 9 (by simp) rfl (by simp) rfl)
def fmtE (e p:Int):Int:=if e<2∨11<e∨p<2∨113<p∨e+p<5 then 2 else 0
theorem floatsCheck_ok (G:List (List DV))(e p:Int):CallsP Tryz.prog G 158 [.agg [.d (.int .i64 e),.d (.int .i64 p)]] (.c (.d (.int .i64 (fmtE e p)))):=by
 refine CallsP.of_AW Go.Proofs.Tryz.func158 rfl (by rw [Tryz.ntmps158];simp) ?_
 rintro⟨_,_,w0,F0,W0,_,lv0,β0⟩ rfl rfl rfl
 refine AW.seqK fun K hK=>?_
 refine AW.regionP rfl ?_
 simp
 repeat (refine And.intro (by omega) ?_)
 apply hK;clear hK K
 refine AW.seqK fun K hK=>?_
 refine AW.seqK fun K1 hK1=>?_
 have bad:∀ (fr:Nat→AV) (κ:Nat) (lv:Key→LB),lv 9=.hole→fr 28=.c (.d (.bool true))→fmtE e p=2→K1 ⟨fr,lv⟩ κ:=by
  intro fr κ lv h9 z hf
  repeat (refine And.intro (by omega) ?_)
  apply hK1
  refine AW.cond (b:=true) (by first|(simp [z];done)|(simp [z];omega)) ?_
  refine AW.seqK fun K2 hK2=>?_
  refine AW.regionP rfl ?_
  simp
  repeat (refine And.intro (by omega) ?_)
  apply hK2;clear hK2 K2
  exact AW.ret (κ:=0) (FinP.tmp (κ:=0) rfl 9 (by simp [hf]) rfl (by simp [h9]) rfl)
 by_cases h1:e<2
 ·refine AW.regionP rfl ?_
  simp [h1]
  exact bad _ _ _ (by simp) (by simp) (by unfold fmtE;rw [if_pos (by omega)])
 by_cases h2:11<e
 ·refine AW.regionP rfl ?_
  simp [h1,h2]
  exact bad _ _ _ (by simp) (by simp) (by unfold fmtE;rw [if_pos (by omega)])
 by_cases h3:p<2
 ·refine AW.regionP rfl ?_
  simp [h1,h2,h3]
  exact bad _ _ _ (by simp) (by simp) (by unfold fmtE;rw [if_pos (by omega)])
 by_cases h4:113<p
 ·refine AW.regionP rfl ?_
  simp [h1,h2,h3,h4]
  exact bad _ _ _ (by simp) (by simp) (by unfold fmtE;rw [if_pos (by omega)])
 have hw:IntKind.i64.wrap (e+p)=e+p:=w64 (by omega) (by omega)
 by_cases h5:e+p<5
 ·refine AW.regionP rfl ?_
  simp [h1,h2,h3,h4,hw,h5]
  exact bad _ _ _ (by simp) (by simp) (by unfold fmtE;rw [if_pos (by omega)])
 refine AW.regionP rfl ?_
 simp [h1,h2,h3,h4,hw,h5]
 repeat (refine And.intro (by omega) ?_)
 apply hK1
 refine AW.cond (b:=false) (by first|(simp [];done)|(simp [];omega)) ?_
 refine AW.skip ?_
 simp
 repeat (refine And.intro (by omega) ?_)
 apply hK
 refine AW.seqK fun K3 hK3=>?_
 refine AW.regionP rfl ?_
 simp
 repeat (refine And.intro (by omega) ?_)
 apply hK3;clear hK3 K3
 have hf:fmtE e p=0:=by unfold fmtE;rw [if_neg (by omega)]
 exact AW.ret (κ:=0) (FinP.tmp (κ:=0) rfl 9 (by simp [hf]) rfl (by simp) rfl)
end Go.Am

namespace Go.Am
open Go.Am.Ty Go.Proofs N
@[simp] theorem pure_agg (cs:List CV):(AV.agg cs).pure=cs.all CV.pure:=rfl
@[simp] theorem cpure_d (x:DV):(CV.d x).pure=true:=rfl
@[simp] theorem scC_cpure (o:Option (List (List DV))):(scC o).pure=true:=by cases o <;> rfl
@[simp] theorem pure_tup (l:List AV):(AV.tup l).pure=l.all AV.pure0:=rfl
@[simp] theorem pure0_c (x:CV):(AV.c x).pure0=x.pure:=rfl
@[simp] theorem pure0_agg (cs:List CV):(AV.agg cs).pure0=cs.all CV.pure:=rfl
def biasI (e:Int):Int:=(2:Int) ^ (e - 1).toNat - 1
theorem biasI_rng {e:Int}(h1:2≤e) (h2:e≤11):1≤biasI e∧biasI e≤1023∧stepBin Tryz.prog .shl 3 (.c (.d (.int .i64 1))) (.c (.d (.int .i64 (e - 1))))=some (.c (.d (.int .i64 (biasI e+1))),[],[],True):=by
 have h:e=2∨e=3∨e=4∨e=5∨e=6∨e=7∨e=8∨e=9∨e=10∨e=11:=by omega
 rcases h with rfl|rfl|rfl|rfl|rfl|rfl|rfl|rfl|rfl|rfl <;> refine⟨by decide,by decide,?_⟩ <;> rw [sb_shl] <;> congr 1 <;> congr 1 <;> first|rfl|decide|(congr 1;congr 1;decide)
abbrev fA (e p:Int):AV:=.agg [.d (.int .i64 e),.d (.int .i64 p)]
abbrev mcA (e p m b:Int):AV:=.agg [.d (.int .i64 e),.d (.int .i64 p),.d (.int .i64 m),.d (.int .i64 b)]
theorem bMac0:buildA Tryz.prog 282 [] []=some (mcA 0 0 0 0,[],[],True):=by kernel_rfl
theorem bMac (a b c d:CV):buildA Tryz.prog 282 [0,1,2] [.agg [a,b],.c c,.c d]=some (.agg [a,b,c,d],[],[],True):=by kernel_rfl
theorem loadMac (a b c d:CV):loadA Tryz.prog 282 [a,b,c,d]=some (.agg [a,b,c,d]):=by kernel_rfl
theorem fmtE_ok {e p:Int}(h:fmtE e p=0):2≤e∧e≤11∧2≤p∧p≤113∧5≤e+p:=by
 unfold fmtE at h;split at h
 ·cases h
 ·omega
theorem lpN (T:TypeId)(h:(slT Tryz.prog T).isSome=true)(lv:Key→LB):lenP Tryz.prog T lv (.c (.d .nilsl))=some (.c (.d (.int .i64 0)),[],[],True):=lenP_slA (o:=none) h
set_option maxHeartbeats 1000000 in
theorem with_ok (G:List (List DV))(e p:Int)(hf:fmtE e p=0):CallsP Tryz.prog G 230 [fA e p,.c (.d (.int .i64 0)),.c (.d .nilsl)] (.tup [mcA e p 0 (biasI e),.c (.d (.int .i64 0))]):=by
 obtain⟨f1,f2,f3,f4,f5⟩:=fmtE_ok hf
 obtain⟨g1,g2,hsh⟩:=biasI_rng f1 f2
 have hc:=floatsCheck_ok G e p
 rw [hf] at hc
 have w1:IntKind.i64.wrap (e - 1)=e - 1:=w64 (by omega) (by omega)
 have w2:IntKind.i64.wrap (biasI e+1 - 1)=biasI e:=by rw [w64 (by omega) (by omega)];omega
 have w2':IntKind.i64.wrap (biasI e)=biasI e:=w64 (by omega) (by omega)
 have lpn:=lpN 325 (by simp)
 generalize biasI e=b at *
 refine CallsP.of_AWc Go.Proofs.Tryz.func230 rfl (by rw [Tryz.ntmps230];simp) (fun lv=>rfl) ?_
 rintro⟨_,_,w0,F0,W0,_,lv0,β0⟩ rfl rfl rfl
 refine AW.seqK fun K hK=>?_
 refine AW.regionP rfl ?_
 simp
 repeat (refine And.intro (by omega) ?_)
 apply hK;clear hK K
 refine AW.seqK fun K hK=>?_
 refine AW.seqK fun K1 hK1=>?_
 refine AW.regionP rfl ?_
 simp
 refine CallDo.pure 2 9 (hc) (by first|(simp;done)|rfl) (by simp) (by first|rfl|simp) ?_
 simp
 repeat (refine And.intro (by omega) ?_)
 apply hK1;clear hK1 K1
 refine AW.cond (b:=false) (by first|(simp [];done)|(simp [];omega)) ?_
 refine AW.skip ?_
 simp
 repeat (refine And.intro (by omega) ?_)
 apply hK;clear hK K
 refine AW.seqK fun K hK=>?_
 refine AW.drawP mixed (by kernel_rfl) rfl ?_
 simp [w1,hsh,w2,w2',bMac,-sb_shl]
 refine⟨by kernel_rfl,?_⟩
 repeat (refine And.intro (by omega) ?_)
 apply hK;clear hK K
 refine AW.seqK fun K hK=>?_
 refine AW.seqK fun K1 hK1=>?_
 refine AW.regionP rfl ?_
 simp [lpn]
 repeat (refine And.intro (by omega) ?_)
 apply hK1;clear hK1 K1
 refine AW.block ?_
 refine AW.loopV (fun (_:Unit)=>⟨frOf [(6,.c (.ptr 1 0)),(8,.c (.ptr 2 0)),(32,.c (.d .nilsl)),(33,.c (.d (.int .i64 0))),(34,.c (.d (.int .i64 0)))],
  upd (upd (upd (fun _=>.hole) 0 (.cells true false 81 [.d (.int .i64 e),.d (.int .i64 p)])) 1 (.cells true false 282 [.d (.int .i64 0),.d (.int .i64 0),.d (.int .i64 0),.d (.int .i64 0)])) 2 (.cells true false 282 [.d (.int .i64 e),.d (.int .i64 p),.d (.int .i64 0),.d (.int .i64 b)])⟩) 3
  (fun _=>True) (fun _=>0) () (Le.mk' _ rfl (by repeat (first|exact noMap_hole|refine noMap_upd ?_ _ _ _ _ _|(refine noMap_upd_dead ?_ _)|simp)) (by simp)) trivial ?_
 rintro⟨⟩ _
 refine AW.seqK fun K3 hK3=>?_
 refine AW.regionP rfl ?_
 simp
 repeat (refine And.intro (by omega) ?_)
 apply hK3;clear hK3 K3
 refine AW.seqK fun K3 hK3=>?_
 refine AW.cond (b:=false) (by first|(simp [];done)|(simp [];omega)) ?_
 refine AW.exit ?_
 simp
 repeat (refine And.intro (by omega) ?_)
 apply hK
 refine AW.seqK fun K3 hK3=>?_
 refine AW.regionP rfl ?_
 simp [loadMac,setSeg]
 repeat (refine And.intro (by omega) ?_)
 apply hK3;clear hK3 K3
 refine AW.ret ?_
 refine FinC.cell2 (κ:=0) (T:=282) (t:=6) (u:=7) (k:=1) (off:=0) (own:=true) (fz:=false) (U:=282) (cs:=[.d (.int .i64 e),.d (.int .i64 p),.d (.int .i64 0),.d (.int .i64 b)]) rfl ?_ ?_ ?_ ?_ rfl rfl
 ·simp
 ·simp [setSeg]
 ·rw [List.drop_zero,loadMac]
 ·simp
theorem with_bad (G:List (List DV))(e p:Int)(hf:fmtE e p≠0):CallsP Tryz.prog G 230 [fA e p,.c (.d (.int .i64 0)),.c (.d .nilsl)] (.tup [mcA 0 0 0 0,.c (.d (.int .i64 2))]):=by
 have hc:=floatsCheck_ok G e p
 refine CallsP.of_AWc Go.Proofs.Tryz.func230 rfl (by rw [Tryz.ntmps230];simp) (fun lv=>rfl) ?_
 rintro⟨_,_,w0,F0,W0,_,lv0,β0⟩ rfl rfl rfl
 refine AW.seqK fun K hK=>?_
 refine AW.regionP rfl ?_
 simp
 repeat (refine And.intro (by omega) ?_)
 apply hK;clear hK K
 refine AW.seqK fun K hK=>?_
 refine AW.seqK fun K1 hK1=>?_
 refine AW.regionP rfl ?_
 simp
 refine CallDo.pure 2 9 (hc) (by first|(simp;done)|rfl) (by simp) (by first|rfl|simp) ?_
 simp [hf]
 repeat (refine And.intro (by omega) ?_)
 apply hK1;clear hK1 K1
 refine AW.cond (b:=true) (by first|(simp [hf];done)|(simp [hf];omega)) ?_
 refine AW.seqK fun K1 hK1=>?_
 refine AW.regionP rfl ?_
 simp [bMac0]
 repeat (refine And.intro (by omega) ?_)
 apply hK1;clear hK1 K1
 refine AW.ret ?_
 refine FinC.cell2 (κ:=0) (T:=282) (t:=6) (u:=7) (k:=1) (off:=0) (own:=true) (fz:=false) (U:=282) (cs:=[.d (.int .i64 0),.d (.int .i64 0),.d (.int .i64 0),.d (.int .i64 0)]) rfl ?_ ?_ ?_ ?_ rfl rfl
 ·simp
 ·simp [setSeg]
 ·rw [List.drop_zero,loadMac]
 ·simp
theorem fl_two_ok (G:List (List DV))(k:Int)(h1:-20000≤k)(h2:k≤20000):CallsP Tryz.prog G 286 [.c (.d (.int .i64 k))] (ratV (shiftR 1 k)):=by
 have h:=rat_Two G k h1 h2
 generalize shiftR 1 k=r at *
 refine CallsP.of_AWc Go.Proofs.Tryz.func286 rfl (by rw [Tryz.ntmps286];simp) (fun lv=>nC_dArg lv _ _ _) ?_
 rintro⟨_,_,w0,F0,W0,_,lv0,β0⟩ rfl rfl rfl
 refine AW.seqK fun K hK=>?_
 refine AW.regionP rfl ?_
 simp
 repeat (refine And.intro (by omega) ?_)
 apply hK;clear hK K
 refine AW.seqK fun K hK=>?_
 refine AW.regionP rfl ?_
 simp
 refine CallDo.pure 1 9 (h) (by first|(simp;done)|rfl) (by simp) (by first|rfl|simp) ?_
 simp
 repeat (refine And.intro (by omega) ?_)
 apply hK;clear hK K
 refine AW.seqK fun K hK=>?_
 refine AW.regionP rfl ?_
 simp [loadNum,setSeg]
 repeat (refine And.intro (by omega) ?_)
 apply hK;clear hK K
 refine AW.ret ?_
 refine FinC.cell (κ:=0) (T:=224) (t:=2) (k:=0) (off:=0) (own:=true) (fz:=false) (U:=224) (cs:=[.d (.bool (decide (r.num<0))),nC (natO r.num.natAbs),nC (denO r.den)]) rfl ?_ ?_ ?_
 ·simp
 ·simp [setSeg]
 ·rw [List.drop_zero,loadNum]
theorem fl_shift_ok (G:List (List DV))(x:Rat)(k:Int)(hx:szR x 10000000000)(h1:-20000≤k)(h2:k≤20000):CallsP Tryz.prog G 232 [ratV x,.c (.d (.int .i64 k))] (ratV (shiftR x k)):=by
 have h:=rat_Shift G x k hx h1 h2
 generalize shiftR x k=r at *
 refine CallsP.of_AWc Go.Proofs.Tryz.func232 rfl (by rw [Tryz.ntmps232];simp) (fun lv=>nC_dArg lv _ _ _) ?_
 rintro⟨_,_,w0,F0,W0,_,lv0,β0⟩ rfl rfl rfl
 refine AW.seqK fun K hK=>?_
 refine AW.regionP rfl ?_
 simp
 repeat (refine And.intro (by omega) ?_)
 apply hK;clear hK K
 refine AW.seqK fun K hK=>?_
 refine AW.regionP rfl ?_
 simp
 refine CallDo.pure 2 9 (h) (by first|(simp;done)|rfl) (by simp) (by first|rfl|simp) ?_
 simp
 repeat (refine And.intro (by omega) ?_)
 apply hK;clear hK K
 refine AW.seqK fun K hK=>?_
 refine AW.regionP rfl ?_
 simp [loadNum,setSeg]
 repeat (refine And.intro (by omega) ?_)
 apply hK;clear hK K
 refine AW.ret ?_
 refine FinC.cell (κ:=0) (T:=224) (t:=4) (k:=1) (off:=0) (own:=true) (fz:=false) (U:=224) (cs:=[.d (.bool (decide (r.num<0))),nC (natO r.num.natAbs),nC (denO r.den)]) rfl ?_ ?_ ?_
 ·simp
 ·simp [setSeg]
 ·rw [List.drop_zero,loadNum]
theorem fl_log_ok (G:List (List DV))(x:Rat)(hx:x≠0)(hs:szR x 10000000):CallsP Tryz.prog G 234 [ratV x] (.c (.d (.int .i64 (logR x)))):=by
 have h:=rat_Log G x hx hs
 refine CallsP.of_AW Go.Proofs.Tryz.func234 rfl (by rw [Tryz.ntmps234];simp) ?_
 rintro⟨_,_,w0,F0,W0,_,lv0,β0⟩ rfl rfl rfl
 refine AW.seqK fun K hK=>?_
 refine AW.regionP rfl ?_
 simp
 repeat (refine And.intro (by omega) ?_)
 apply hK;clear hK K
 refine AW.seqK fun K hK=>?_
 refine AW.regionP rfl ?_
 simp
 refine CallDo.pure 1 9 (h) (by first|(simp;done)|rfl) (by simp) (by first|rfl|simp) ?_
 simp
 repeat (refine And.intro (by omega) ?_)
 apply hK;clear hK K
 refine AW.seqK fun K hK=>?_
 refine AW.regionP rfl ?_
 simp
 repeat (refine And.intro (by omega) ?_)
 apply hK;clear hK K
 exact AW.ret (κ:=0) (FinP.tmp (κ:=0) rfl 2 (by simp []) (by first|rfl|simp) (by first|rfl|simp) (by first|rfl|simp))
theorem fl_normal_ok (G:List (List DV))(e p m b:Int)(h1:0≤b)(h2:b≤100000):CallsP Tryz.prog G 284 [mcA e p m b] (.c (.d (.int .i64 (1 - b)))):=by
 have w:IntKind.i64.wrap (1 - b)=1 - b:=w64 (by omega) (by omega)
 refine CallsP.of_AW Go.Proofs.Tryz.func284 rfl (by rw [Tryz.ntmps284];simp) ?_
 rintro⟨_,_,w0,F0,W0,_,lv0,β0⟩ rfl rfl rfl
 refine AW.seqK fun K hK=>?_
 refine AW.regionP rfl ?_
 simp
 repeat (refine And.intro (by omega) ?_)
 apply hK;clear hK K
 refine AW.seqK fun K hK=>?_
 refine AW.regionP rfl ?_
 simp [w]
 repeat (refine And.intro (by omega) ?_)
 apply hK;clear hK K
 exact AW.ret (κ:=0) (FinP.tmp (κ:=0) rfl 2 (by simp []) (by first|rfl|simp) (by first|rfl|simp) (by first|rfl|simp))
def stepI (p b l:Int):Int:=max l (1 - b) - p+1
theorem fl_step_ok (G:List (List DV))(e p m b l:Int)(h1:0≤b)(h2:b≤100000)(h3:0≤p)(h4:p≤100000)(h5:-1000000≤l)(h6:l≤1000000):CallsP Tryz.prog G 233 [mcA e p m b,.c (.d (.int .i64 l))] (.c (.d (.int .i64 (stepI p b l)))):=by
 have h:=fl_normal_ok G e p m b h1 h2
 have mx:(List.foldl (fun a b:Int=>if a<b then b else a) l [1 - b])=max l (1 - b):=by simp only [List.foldl];split <;> omega
 have w1:IntKind.i64.wrap (max l (1 - b) - p)=max l (1 - b) - p:=w64 (by omega) (by omega)
 have w2:IntKind.i64.wrap (max l (1 - b) - p+1)=stepI p b l:=by unfold stepI;exact w64 (by omega) (by omega)
 refine CallsP.of_AW Go.Proofs.Tryz.func233 rfl (by rw [Tryz.ntmps233];simp) ?_
 rintro⟨_,_,w0,F0,W0,_,lv0,β0⟩ rfl rfl rfl
 refine AW.seqK fun K hK=>?_
 refine AW.regionP rfl ?_
 simp
 repeat (refine And.intro (by omega) ?_)
 apply hK;clear hK K
 refine AW.seqK fun K hK=>?_
 refine AW.drawP mixed (by kernel_rfl) rfl ?_
 simp
 refine CallDo.pure 1 9 (h) (by first|(simp;done)|rfl) (by simp) (by first|rfl|simp) ?_
 simp [intsOf,mx,w1,w2,-List.foldl_cons,-List.foldl_nil]
 refine⟨by kernel_rfl,?_⟩
 repeat (refine And.intro (by omega) ?_)
 apply hK;clear hK K
 exact AW.ret (κ:=0) (FinP.tmp (κ:=0) rfl 4 (by simp []) (by first|rfl|simp) (by first|rfl|simp) (by first|rfl|simp))
def greatR (p b:Int):Rat:=shiftR (shiftR 1 p - 1) (b - p+1)
theorem szR_one (L:Nat)(h:1≤L):szR 1 L:=⟨by show nl 1≤_;rw [nl_one];exact h,by show nl 1≤_;rw [nl_one];exact h⟩
theorem szR_great1 (p:Int)(h1:0≤p)(h2:p≤10000):szR (shiftR 1 p - 1) 1000:=by
 rw [Rat.sub_eq_add_neg]
 have h:=szR_shift (szR_one 1 (Nat.le_refl _)) p
 have:=szR_add (szR_mono h (show 1+p.natAbs / 32+1≤400 by omega)) (szR_neg (szR_one 400 (by omega)))
 exact szR_mono this (by omega)
theorem szR_great (p b:Int)(h1:0≤p)(h2:p≤10000)(h3:0≤b)(h4:b≤5000):szR (greatR p b) 2000:=by
 refine szR_mono (szR_shift (szR_great1 p h1 h2) _) (by omega)
theorem fl_greatest_ok (G:List (List DV))(e p m b:Int)(h1:0≤b)(h2:b≤5000)(h3:0≤p)(h4:p≤10000):CallsP Tryz.prog G 237 [mcA e p m b] (ratV (greatR p b)):=by
 have k1:=fl_two_ok G p (by omega) (by omega)
 have k2:CallsP Tryz.prog G 263 [.c (.d (.int .i64 1))] (ratV (1:Rat)):=rat_Int G 1 (by decide) (by decide)
 have k3:=rat_Sub G (shiftR 1 p) 1 (szR_mono (szR_shift (szR_one 1 (Nat.le_refl _)) p) (by omega)) (szR_one _ (by omega))
 have k4:=fl_shift_ok G (shiftR 1 p - 1) (b - p+1) (szR_mono (szR_great1 p h3 h4) (by omega)) (by omega) (by omega)
 rw [show shiftR (shiftR 1 p - 1) (b - p+1)=greatR p b from rfl] at k4
 have w1:IntKind.i64.wrap (b - p)=b - p:=w64 (by omega) (by omega)
 have w2:IntKind.i64.wrap (b - p+1)=b - p+1:=w64 (by omega) (by omega)
 generalize greatR p b=r at *
 generalize shiftR 1 p - 1=r2 at *
 generalize shiftR 1 p=r1 at *
 generalize (1:Rat)=r0 at *
 refine CallsP.of_AWc Go.Proofs.Tryz.func237 rfl (by rw [Tryz.ntmps237];simp) (fun lv=>nC_dArg lv _ _ _) ?_
 rintro⟨_,_,w0,F0,W0,_,lv0,β0⟩ rfl rfl rfl
 refine AW.seqK fun K hK=>?_
 refine AW.regionP rfl ?_
 simp
 repeat (refine And.intro (by omega) ?_)
 apply hK;clear hK K
 refine AW.seqK fun K hK=>?_
 refine AW.drawP mixed (by kernel_rfl) rfl ?_
 simp
 refine CallDo.pure 2 9 (k1) (by first|(simp;done)|rfl) (by simp) (by first|rfl|simp) ?_
 simp
 refine CallDo.pure 2 9 (k2) (by first|(simp;done)|rfl) (by simp) (by first|rfl|simp) ?_
 simp
 refine CallDo.pure 2 9 (k3) (by first|(simp;done)|rfl) (by simp) (by first|rfl|simp) ?_
 simp [w1,w2]
 refine CallDo.pure 2 9 (k4) (by first|(simp;done)|rfl) (by simp) (by first|rfl|simp) ?_
 simp
 refine⟨by kernel_rfl,?_⟩
 repeat (refine And.intro (by omega) ?_)
 apply hK;clear hK K
 refine AW.ret ?_
 refine FinC.cell (κ:=0) (T:=224) (t:=2) (k:=1) (off:=0) (own:=true) (fz:=false) (U:=224) (cs:=[.d (.bool (decide (r.num<0))),nC (natO r.num.natAbs),nC (denO r.den)]) rfl ?_ ?_ ?_
 ·simp
 ·simp [setSeg]
 ·rw [List.drop_zero,loadNum]
def absR (x:Rat):Rat:=if x<0 then -x else x
theorem absR_V (x:Rat):ratV (absR x)=nmA false (natO x.num.natAbs) (denO x.den):=by
 unfold absR
 split
 ·rename_i h
  have:x.num<0:=by
   have:=(Rat.lt_iff x 0).1 h
   simpa using this
  show nmA (decide ((-x).num<0)) (natO (-x).num.natAbs) (denO (-x).den)=_
  rw [Rat.neg_num,Rat.neg_den,Int.natAbs_neg,decide_eq_false (by omega)]
 ·rename_i h
  have:¬ x.num<0:=fun hn=>h ((Rat.lt_iff x 0).2 (by simpa using hn))
  show nmA (decide (x.num<0)) _ _=_
  rw [decide_eq_false this]
theorem rat_Abs (G:List (List DV))(x:Rat):CallsP Tryz.prog G 236 [ratV x] (ratV (absR x)):=by
 rw [absR_V];exact num_Abs_ok _ _ _ _
theorem szR_abs {x:Rat}{L:Nat}(h:szR x L):szR (absR x) L:=by
 unfold absR;split
 ·exact szR_neg h
 ·exact h
theorem rat_IsInt (G:List (List DV))(x:Rat):CallsP Tryz.prog G 235 [ratV x] (.c (.d (.bool (decide (x.den=1))))):=by
 have h:=num_IsInt_ok G (decide (x.num<0)) (natO x.num.natAbs) (denO x.den)
 have e:(denO x.den).isNone=decide (x.den=1):=by unfold denO;split <;> simp_all
 rw [e] at h;exact h
def hasB (e p:Int)(x:Rat):Bool:=
 decide (fmtE e p=0) && (decide (x=0) || (decide ((shiftR x (-(stepI p (biasI e) (logR x)))).den=1) && decide (cmpR (absR x) (greatR p (biasI e))≤0)))
set_option maxHeartbeats 2000000 in
theorem floatsHas_ok (G:List (List DV))(e p:Int)(x:Rat)(hs:szR x 300):CallsP Tryz.prog G 160 [fA e p,ratV x] (.c (.d (.bool (hasB e p x)))):=by
 by_cases hf:fmtE e p=0
 rotate_left
 ·have hw:=with_bad G e p hf
  have hb:hasB e p x=false:=by unfold hasB;rw [decide_eq_false hf];rfl
  refine CallsP.of_AW Go.Proofs.Tryz.func160 rfl (by rw [Tryz.ntmps160];simp) ?_
  rintro⟨_,_,w0,F0,W0,_,lv0,β0⟩ rfl rfl rfl
  refine AW.seqK fun K hK=>?_
  refine AW.regionP rfl ?_
  simp
  repeat (refine And.intro (by omega) ?_)
  apply hK;clear hK K
  refine AW.seqK fun K hK=>?_
  refine AW.regionP rfl ?_
  simp
  refine CallDo.pure 2 9 (hw) (by first|(simp;done)|rfl) (by simp) (by first|rfl|simp) ?_
  simp
  repeat (refine And.intro (by omega) ?_)
  apply hK;clear hK K
  refine AW.seqK fun K hK=>?_
  refine AW.block ?_
  refine AW.seqK fun K1 hK1=>?_
  refine AW.regionP rfl ?_
  simp
  repeat (refine And.intro (by omega) ?_)
  apply hK1;clear hK1 K1
  refine AW.cond (b:=true) (by first|(simp [];done)|(simp [];omega)) ?_
  refine AW.seqK fun K1 hK1=>?_
  refine AW.regionP rfl ?_
  simp
  repeat (refine And.intro (by omega) ?_)
  apply hK1;clear hK1 K1
  exact AW.ret (κ:=0) (FinP.tmp (κ:=0) rfl 4 (by simp [hb]) (by first|rfl|simp) (by first|rfl|simp) (by first|rfl|simp))
 obtain⟨f1,f2,f3,f4,f5⟩:=fmtE_ok hf
 obtain⟨g1,g2,_⟩:=biasI_rng f1 f2
 have hw:=with_ok G e p hf
 have hg:=num_Sign_ok G (decide (x.num<0)) (natO x.num.natAbs) (denO x.den)
 by_cases hx:x=0
 ·have hb:hasB e p x=true:=by unfold hasB;rw [decide_eq_true hf,decide_eq_true hx];rfl
  have hz:=sgA_zero hx
  refine CallsP.of_AW Go.Proofs.Tryz.func160 rfl (by rw [Tryz.ntmps160];simp) ?_
  rintro⟨_,_,w0,F0,W0,_,lv0,β0⟩ rfl rfl rfl
  refine AW.seqK fun K hK=>?_
  refine AW.regionP rfl ?_
  simp
  repeat (refine And.intro (by omega) ?_)
  apply hK;clear hK K
  refine AW.seqK fun K hK=>?_
  refine AW.regionP rfl ?_
  simp
  refine CallDo.pure 2 9 (hw) (by first|(simp;done)|rfl) (by simp) (by first|rfl|simp) ?_
  simp
  repeat (refine And.intro (by omega) ?_)
  apply hK;clear hK K
  refine AW.seqK fun K hK=>?_
  refine AW.block ?_
  refine AW.seqK fun K1 hK1=>?_
  refine AW.regionP rfl ?_
  simp
  repeat (refine And.intro (by omega) ?_)
  apply hK1;clear hK1 K1
  refine AW.cond (b:=false) (by first|(simp [];done)|(simp [];omega)) ?_
  refine AW.seqK fun K1 hK1=>?_
  refine AW.regionP rfl ?_
  simp
  refine CallDo.pure 3 9 (hg) (by first|(simp;done)|rfl) (by simp) (by first|rfl|simp) ?_
  simp [hz]
  repeat (refine And.intro (by omega) ?_)
  apply hK1;clear hK1 K1
  refine AW.cond (b:=true) (by first|(simp [hz];done)|(simp [hz];omega)) ?_
  refine AW.seqK fun K1 hK1=>?_
  refine AW.regionP rfl ?_
  simp
  repeat (refine And.intro (by omega) ?_)
  apply hK1;clear hK1 K1
  exact AW.ret (κ:=0) (FinP.tmp (κ:=0) rfl 4 (by simp [hb]) (by first|rfl|simp) (by first|rfl|simp) (by first|rfl|simp))
 have hne:=sgA_ne hx
 have hl:=fl_log_ok G x hx (szR_mono hs (by omega))
 obtain⟨l1,l2⟩:=logR_rng hx hs
 have hst:=fl_step_ok G e p 0 (biasI e) (logR x) (by omega) (by omega) (by omega) (by omega) (by omega) (by omega)
 have s1:-20000≤-(stepI p (biasI e) (logR x)):=by unfold stepI;omega
 have s2:-(stepI p (biasI e) (logR x))≤20000:=by unfold stepI;omega
 have hsh:=fl_shift_ok G x (-(stepI p (biasI e) (logR x))) (szR_mono hs (by omega)) s1 s2
 have hin:=rat_IsInt G (shiftR x (-(stepI p (biasI e) (logR x))))
 have hab:=rat_Abs G x
 have hgr:=fl_greatest_ok G e p 0 (biasI e) (by omega) (by omega) (by omega) (by omega)
 have hcm:=rat_Cmp G (absR x) (greatR p (biasI e)) (szR_mono (szR_abs hs) (by omega)) (szR_mono (szR_great p (biasI e) (by omega) (by omega) (by omega) (by omega)) (by omega))
 have hb:hasB e p x=(decide ((shiftR x (-(stepI p (biasI e) (logR x)))).den=1) && decide (cmpR (absR x) (greatR p (biasI e))≤0)):=by
  unfold hasB;rw [decide_eq_true hf,decide_eq_false hx];rfl
 have w:IntKind.i64.wrap (-(stepI p (biasI e) (logR x))) = -(stepI p (biasI e) (logR x)):=w64 (by omega) (by omega)
 generalize cmpR (absR x) (greatR p (biasI e))=cm at *
 generalize greatR p (biasI e)=gr at *
 generalize absR x=ab at *
 generalize shiftR x (-(stepI p (biasI e) (logR x)))=sh at *
 generalize stepI p (biasI e) (logR x)=st at *
 generalize logR x=lo at *
 generalize biasI e=b at *
 by_cases hi:sh.den=1
 ·have hb2:hasB e p x=decide (cm≤0):=by rw [hb,decide_eq_true hi];rfl
  refine CallsP.of_AW Go.Proofs.Tryz.func160 rfl (by rw [Tryz.ntmps160];simp) ?_
  rintro⟨_,_,w0,F0,W0,_,lv0,β0⟩ rfl rfl rfl
  refine AW.seqK fun K hK=>?_
  refine AW.regionP rfl ?_
  simp
  repeat (refine And.intro (by omega) ?_)
  apply hK;clear hK K
  refine AW.seqK fun K hK=>?_
  refine AW.regionP rfl ?_
  simp
  refine CallDo.pure 2 9 (hw) (by first|(simp;done)|rfl) (by simp) (by first|rfl|simp) ?_
  simp
  repeat (refine And.intro (by omega) ?_)
  apply hK;clear hK K
  refine AW.seqK fun K hK=>?_
  refine AW.block ?_
  refine AW.seqK fun K1 hK1=>?_
  refine AW.regionP rfl ?_
  simp
  repeat (refine And.intro (by omega) ?_)
  apply hK1;clear hK1 K1
  refine AW.cond (b:=false) (by first|(simp [];done)|(simp [];omega)) ?_
  refine AW.seqK fun K1 hK1=>?_
  refine AW.regionP rfl ?_
  simp
  refine CallDo.pure 3 9 (hg) (by first|(simp;done)|rfl) (by simp) (by first|rfl|simp) ?_
  simp [hne]
  repeat (refine And.intro (by omega) ?_)
  apply hK1;clear hK1 K1
  refine AW.cond (b:=false) (by first|(simp [hne];done)|(simp [hne];omega)) ?_
  refine AW.skip ?_
  simp
  repeat (refine And.intro (by omega) ?_)
  apply hK;clear hK K
  refine AW.seqK fun K hK=>?_
  refine AW.drawP mixed (by kernel_rfl) rfl ?_
  simp [setSeg]
  refine CallDo.pure 3 9 (hl) (by first|(simp;done)|rfl) (by simp) (by first|rfl|simp) ?_
  simp
  refine CallDo.pure 3 9 (hst) (by first|(simp;done)|rfl) (by simp) (by first|rfl|simp) ?_
  simp [w]
  refine CallDo.pure 3 9 (hsh) (by first|(simp;done)|rfl) (by simp) (by first|rfl|simp) ?_
  simp
  refine CallDo.pure 3 9 (hin) (by first|(simp;done)|rfl) (by simp) (by first|rfl|simp) ?_
  simp [hi]
  refine CallDo.pure 3 9 (hab) (by first|(simp;done)|rfl) (by simp) (by first|rfl|simp) ?_
  simp
  refine CallDo.pure 3 9 (hgr) (by first|(simp;done)|rfl) (by simp) (by first|rfl|simp) ?_
  simp
  refine CallDo.pure 3 9 (hcm) (by first|(simp;done)|rfl) (by simp) (by first|rfl|simp) ?_
  simp
  refine⟨by kernel_rfl,?_⟩
  repeat (refine And.intro (by omega) ?_)
  apply hK;clear hK K
  exact AW.ret (κ:=0) (FinP.tmp (κ:=0) rfl 4 (by simp [hb2]) (by first|rfl|simp) (by first|rfl|simp) (by first|rfl|simp))
 ·have hb2:hasB e p x=false:=by rw [hb,decide_eq_false hi];rfl
  refine CallsP.of_AW Go.Proofs.Tryz.func160 rfl (by rw [Tryz.ntmps160];simp) ?_
  rintro⟨_,_,w0,F0,W0,_,lv0,β0⟩ rfl rfl rfl
  refine AW.seqK fun K hK=>?_
  refine AW.regionP rfl ?_
  simp
  repeat (refine And.intro (by omega) ?_)
  apply hK;clear hK K
  refine AW.seqK fun K hK=>?_
  refine AW.regionP rfl ?_
  simp
  refine CallDo.pure 2 9 (hw) (by first|(simp;done)|rfl) (by simp) (by first|rfl|simp) ?_
  simp
  repeat (refine And.intro (by omega) ?_)
  apply hK;clear hK K
  refine AW.seqK fun K hK=>?_
  refine AW.block ?_
  refine AW.seqK fun K1 hK1=>?_
  refine AW.regionP rfl ?_
  simp
  repeat (refine And.intro (by omega) ?_)
  apply hK1;clear hK1 K1
  refine AW.cond (b:=false) (by first|(simp [];done)|(simp [];omega)) ?_
  refine AW.seqK fun K1 hK1=>?_
  refine AW.regionP rfl ?_
  simp
  refine CallDo.pure 3 9 (hg) (by first|(simp;done)|rfl) (by simp) (by first|rfl|simp) ?_
  simp [hne]
  repeat (refine And.intro (by omega) ?_)
  apply hK1;clear hK1 K1
  refine AW.cond (b:=false) (by first|(simp [hne];done)|(simp [hne];omega)) ?_
  refine AW.skip ?_
  simp
  repeat (refine And.intro (by omega) ?_)
  apply hK;clear hK K
  refine AW.seqK fun K hK=>?_
  refine AW.drawP mixed (by kernel_rfl) rfl ?_
  simp [setSeg]
  refine CallDo.pure 3 9 (hl) (by first|(simp;done)|rfl) (by simp) (by first|rfl|simp) ?_
  simp
  refine CallDo.pure 3 9 (hst) (by first|(simp;done)|rfl) (by simp) (by first|rfl|simp) ?_
  simp [w]
  refine CallDo.pure 3 9 (hsh) (by first|(simp;done)|rfl) (by simp) (by first|rfl|simp) ?_
  simp
  refine CallDo.pure 3 9 (hin) (by first|(simp;done)|rfl) (by simp) (by first|rfl|simp) ?_
  simp [hi]
  refine⟨by kernel_rfl,?_⟩
  repeat (refine And.intro (by omega) ?_)
  apply hK;clear hK K
  exact AW.ret (κ:=0) (FinP.tmp (κ:=0) rfl 4 (by simp [hb2]) (by first|rfl|simp) (by first|rfl|simp) (by first|rfl|simp))
end Go.Am

namespace Go.Am
open Go.Am.Ty Go.Proofs N
theorem row_ge2 {s:List UInt8}(h:rowB s=true) (h0:s≠[48]) (h1:s≠[49]):2≤decN s 0:=by
 obtain⟨hD,hne⟩:=rowB_d h
 unfold rowB at h
 simp only [Bool.and_eq_true,Bool.or_eq_true,Bool.not_eq_true',decide_eq_true_eq,decide_eq_false_iff_not] at h
 have h4:s.getD 0 0≠48:=by
  rcases h.2 with h3|h3
  ·exact absurd h3 h0
  ·exact h3
 cases s with
 | nil=>exact absurd rfl hne
 | cons c l=>
  have hc:=hD c (by simp)
  have hc48:c≠48:=h4
  have hcn:c.toNat≠48:=fun e=>hc48 (UInt8.toNat_inj.1 (by rw [e];rfl))
  have e:decN (c::l) 0=(c.toNat - 48)*10 ^ l.length+decN l 0:=by
   show decN l (10*0+(c.toNat - 48))=_
   rw [decN_shift,Nat.mul_zero,Nat.zero_add]
  rw [e]
  cases l with
  | nil=>
   have hc49:c.toNat≠49:=fun e=>h1 (by rw [UInt8.toNat_inj.1 (show c.toNat=(49:UInt8).toNat by rw [e];rfl)])
   show 2≤(c.toNat - 48)*10 ^ 0+0
   omega
  | cons d l=>
   have h10:10≤10 ^ (d::l).length:=by
    rw [List.length_cons,Nat.pow_succ]
    have:=Nat.pow_pos (a:=10) (n:=l.length) (by decide)
    omega
   have:1*10≤(c.toNat - 48)*10 ^ (d::l).length:=Nat.mul_le_mul (by omega) h10
   omega
def ratQ (neg:Bool)(top bot:List UInt8)(brk:Bool):Rat:=if parseE neg top bot brk=0 then mkRat (sgI neg (decN top 0)) (if brk=true then decN bot 0 else 1) else 0
theorem rdO_v (s:List UInt8):(val 4294967296 (dO (rdO s)))=decN s 0:=by show val 4294967296 (dig 4294967296 (decN s 0))=_;rw [val_dig]
theorem rdO_can (s:List UInt8):can 4294967296 (dO (rdO s)):=can_dig _
theorem gO_v (s t:List UInt8):(val 4294967296 (dO (gO (rdO s) (rdO t))))=Nat.gcd (decN s 0) (decN t 0):=by
 unfold gO;rw [gcdO_d (rdO_can s) (rdO_can t),val_dig,rdO_v,rdO_v]
theorem bad_no {neg:Bool}{top bot:List UInt8}{brk:Bool}(h:badB neg top bot brk=false):rowB top=true∧(brk=true→rowB bot=true∧bot≠[48]∧bot≠[49]):=by
 unfold badB at h
 simp only [Bool.or_eq_false_iff,Bool.not_eq_false',Bool.and_eq_false_iff,decide_eq_false_iff_not] at h
 obtain⟨⟨h1,_⟩,h3⟩:=h
 refine⟨h1,fun hb=>?_⟩
 rcases h3 with h3|h3
 ·rw [hb] at h3;cases h3
 ·exact⟨h3.1.1,h3.1.2,h3.2⟩
theorem parseR_rat (neg:Bool)(top bot:List UInt8)(brk:Bool):parseR neg top bot brk=.tup [ratV (ratQ neg top bot brk),.c (.d (.int .i64 (parseE neg top bot brk)))]:=by
 by_cases h1:badB neg top bot brk=true
 ·have e:parseE neg top bot brk=6:=by unfold parseE;rw [if_pos h1]
  have e2:ratQ neg top bot brk=0:=by unfold ratQ;rw [e,if_neg (by decide)]
  rw [e,e2];unfold parseR;rw [if_pos h1];rfl
 by_cases h2:2000<max top.length bot.length
 ·have e:parseE neg top bot brk=3:=by unfold parseE;rw [if_neg h1,if_pos h2]
  have e2:ratQ neg top bot brk=0:=by unfold ratQ;rw [e,if_neg (by decide)]
  rw [e,e2];unfold parseR;rw [if_neg h1,if_pos h2];rfl
 obtain⟨g1,g2⟩:=bad_no (by simpa using h1)
 by_cases h3:brk=false
 ·have e:parseE neg top bot brk=0:=by unfold parseE;rw [if_neg h1,if_neg h2,if_pos h3]
  have e2:ratQ neg top bot brk=mkRat (sgI neg (decN top 0)) 1:=by unfold ratQ;rw [e,if_pos rfl,h3];rfl
  rw [e,e2];unfold parseR;rw [if_neg h1,if_neg h2,if_pos h3]
  rw [madeA_rat neg (rdO_can top) (q:=some (dig 4294967296 1)) (can_dig 1) (dig_ne (by decide)),rdO_v,dO_some,val_dig]
 have hb:brk=true:=by simpa using h3
 obtain⟨r1,r2,r3⟩:=g2 hb
 have hge:=row_ge2 r1 r2 r3
 by_cases h4:(val 4294967296 (dO (gO (rdO top) (rdO bot))))=1
 ·have e:parseE neg top bot brk=0:=by unfold parseE;rw [if_neg h1,if_neg h2,if_neg h3,if_pos h4]
  have e2:ratQ neg top bot brk=mkRat (sgI neg (decN top 0)) (decN bot 0):=by unfold ratQ;rw [e,if_pos rfl,hb];rfl
  rw [e,e2];unfold parseR;rw [if_neg h1,if_neg h2,if_neg h3,if_pos h4]
  rw [gO_v] at h4
  have ha:decN top 0≠0:=by intro h0;rw [h0,Nat.gcd_zero_left] at h4;omega
  obtain⟨n1,n2⟩:=mkRat_sg neg (a:=decN top 0) (b:=decN bot 0) (by omega)
  rw [h4,Nat.div_one] at n1 n2
  show AV.tup [nmA neg (some (dig 4294967296 (decN top 0))) (some (dig 4294967296 (decN bot 0))),_]=AV.tup [nmA (decide ((mkRat (sgI neg (decN top 0)) (decN bot 0)).num<0)) (natO (mkRat (sgI neg (decN top 0)) (decN bot 0)).num.natAbs) (denO (mkRat (sgI neg (decN top 0)) (decN bot 0)).den),_]
  rw [n1,n2,sgI_abs,sgI_neg neg ha]
  unfold natO denO
  rw [if_neg ha,if_neg (by omega)]
 ·have e:parseE neg top bot brk=6:=by unfold parseE;rw [if_neg h1,if_neg h2,if_neg h3,if_neg h4]
  have e2:ratQ neg top bot brk=0:=by unfold ratQ;rw [e,if_neg (by decide)]
  rw [e,e2];unfold parseR;rw [if_neg h1,if_neg h2,if_neg h3,if_neg h4];rfl
theorem szR_zero (L:Nat)(h:1≤L):szR 0 L:=⟨by show nl 0≤_;exact Nat.zero_le _,by show nl 1≤_;rw [nl_one];exact h⟩
theorem decN_nl {s:List UInt8}(h:isD s) (hl:s.length≤2000):nl (decN s 0)≤300:=by
 have:=nl_ten (decN_lt h)
 omega
theorem ratQ_sz (neg:Bool)(top bot:List UInt8)(brk:Bool):szR (ratQ neg top bot brk) 300:=by
 unfold ratQ
 split
 ·rename_i h
  have h1:¬ badB neg top bot brk=true:=by
   intro hb;unfold parseE at h;rw [if_pos hb] at h;cases h
  have h2:¬ 2000<max top.length bot.length:=by
   intro hb;unfold parseE at h;rw [if_neg h1,if_pos hb] at h;cases h
  obtain⟨g1,g2⟩:=bad_no (by simpa using h1)
  split
  ·rename_i hb
   obtain⟨r1,r2,r3⟩:=g2 hb
   have hge:=row_ge2 r1 r2 r3
   exact szR_mk _ (by omega) (decN_nl (rowB_d g1).1 (by omega)) (decN_nl (rowB_d r1).1 (by omega))
  ·exact szR_mk _ (by decide) (decN_nl (rowB_d g1).1 (by omega)) (by rw [nl_one];decide)
 ·exact szR_zero _ (by decide)
def ratE (r:List UInt8):Int:=parseE (hpB r [45]) (ctA (cpS r [45]) [47]) (ctB (cpS r [45]) [47]) (decide (0≤ctI (cpS r [45]) [47]))
def ratP (r:List UInt8):Rat:=ratQ (hpB r [45]) (ctA (cpS r [45]) [47]) (ctB (cpS r [45]) [47]) (decide (0≤ctI (cpS r [45]) [47]))
theorem ratP_sz (r:List UInt8):szR (ratP r) 300:=ratQ_sz ..
theorem rat_Parse (m:Int)(r:List UInt8):CallsP Tryz.prog (GG m) 159 [.c (.d (.str r))] (.tup [ratV (ratP r),.c (.d (.int .i64 (ratE r)))]):=by
 have h:=parse_ok m r
 rw [parseR_rat] at h
 exact h
theorem rat_Check (m:Int)(r:List UInt8):CallsP Tryz.prog (GG m) 163 [.c (.d (.str r))] (.c (.d (.int .i64 (ratE r)))):=exactCheck_ok m r
end Go.Am

namespace Go.Am
open Go.Am.Ty Go.Proofs N
theorem within_ok (G:List (List DV))(n m:Int):CallsP Tryz.prog G 87 [.c (.d (.int .i64 n)),.c (.d (.int .i64 m))] (.c (.d (.bool (decide (0≤n∧n<m))))):=by
 refine CallsP.of_AW Go.Proofs.Tryz.func87 rfl (by rw [Tryz.ntmps87];simp) ?_
 rintro⟨_,_,w0,F0,W0,_,lv0,β0⟩ rfl rfl rfl
 refine AW.seqK fun K hK=>?_
 refine AW.regionP rfl ?_
 simp
 repeat (refine And.intro (by omega) ?_)
 apply hK;clear hK K
 refine AW.seqK fun K hK=>?_
 by_cases h:0≤n
 ·refine AW.regionP rfl ?_
  simp [h]
  repeat (refine And.intro (by omega) ?_)
  apply hK;clear hK K
  exact AW.ret (κ:=0) (FinP.tmp (κ:=0) rfl 4 (by simp [h]) (by first|rfl|simp) (by first|rfl|simp) (by first|rfl|simp))
 ·refine AW.regionP rfl ?_
  simp [h]
  repeat (refine And.intro (by omega) ?_)
  apply hK;clear hK K
  exact AW.ret (κ:=0) (FinP.tmp (κ:=0) rfl 4 (by simp [h]) (by first|rfl|simp) (by first|rfl|simp) (by first|rfl|simp))
theorem known_ok (G:List (List DV))(n:Int):CallsP Tryz.prog G 96 [.c (.d (.int .i64 n))] (.c (.d (.bool (decide (1≤n∧n≤15))))):=by
 refine CallsP.of_AW Go.Proofs.Tryz.func96 rfl (by rw [Tryz.ntmps96];simp) ?_
 rintro⟨_,_,w0,F0,W0,_,lv0,β0⟩ rfl rfl rfl
 refine AW.seqK fun K hK=>?_
 refine AW.regionP rfl ?_
 simp
 repeat (refine And.intro (by omega) ?_)
 apply hK;clear hK K
 refine AW.seqK fun K hK=>?_
 by_cases h:1≤n
 ·refine AW.regionP rfl ?_
  simp [h]
  repeat (refine And.intro (by omega) ?_)
  apply hK;clear hK K
  exact AW.ret (κ:=0) (FinP.tmp (κ:=0) rfl 2 (by simp [h]) (by first|rfl|simp) (by first|rfl|simp) (by first|rfl|simp))
 ·refine AW.regionP rfl ?_
  simp [h]
  repeat (refine And.intro (by omega) ?_)
  apply hK;clear hK K
  exact AW.ret (κ:=0) (FinP.tmp (κ:=0) rfl 2 (by simp [h]) (by first|rfl|simp) (by first|rfl|simp) (by first|rfl|simp))
def secI (p:PD)(i:Int):Int:=if i<p.head then 0 else if i<p.tail then 1 else 2
theorem section_ok (G:List (List DV))(p:PD)(i:Int):CallsP Tryz.prog G 88 [p.A,.c (.d (.int .i64 i))] (.c (.d (.int .i64 (secI p i)))):=by
 refine CallsP.of_AW Go.Proofs.Tryz.func88 rfl (by rw [Tryz.ntmps88];simp) ?_
 rintro⟨_,_,w0,F0,W0,_,lv0,β0⟩ rfl rfl rfl
 refine AW.seqK fun K hK=>?_
 refine AW.regionP rfl ?_
 simp
 repeat (refine And.intro (by omega) ?_)
 apply hK;clear hK K
 refine AW.seqK fun K hK=>?_
 refine AW.block ?_
 refine AW.seqK fun K1 hK1=>?_
 refine AW.regionP rfl ?_
 simp
 repeat (refine And.intro (by omega) ?_)
 apply hK1;clear hK1 K1
 by_cases h:i<p.head
 ·refine AW.cond (b:=true) (by first|(simp [h];done)|(simp [h];omega)) ?_
  refine AW.seqK fun K1 hK1=>?_
  refine AW.regionP rfl ?_
  simp
  repeat (refine And.intro (by omega) ?_)
  apply hK1;clear hK1 K1
  exact AW.ret (κ:=0) (FinP.tmp (κ:=0) rfl 4 (by simp [secI,h]) (by first|rfl|simp) (by first|rfl|simp) (by first|rfl|simp))
 ·refine AW.cond (b:=false) (by first|(simp [h];done)|(simp [h];omega)) ?_
  refine AW.seqK fun K1 hK1=>?_
  refine AW.regionP rfl ?_
  simp
  repeat (refine And.intro (by omega) ?_)
  apply hK1;clear hK1 K1
  by_cases h2:i<p.tail
  ·refine AW.cond (b:=true) (by first|(simp [h2];done)|(simp [h2];omega)) ?_
   refine AW.seqK fun K1 hK1=>?_
   refine AW.regionP rfl ?_
   simp
   repeat (refine And.intro (by omega) ?_)
   apply hK1;clear hK1 K1
   exact AW.ret (κ:=0) (FinP.tmp (κ:=0) rfl 4 (by simp [secI,h,h2]) (by first|rfl|simp) (by first|rfl|simp) (by first|rfl|simp))
  ·refine AW.cond (b:=false) (by first|(simp [h2];done)|(simp [h2];omega)) ?_
   refine AW.skip ?_
   simp
   repeat (refine And.intro (by omega) ?_)
   apply hK;clear hK K
   refine AW.seqK fun K hK=>?_
   refine AW.regionP rfl ?_
   simp
   repeat (refine And.intro (by omega) ?_)
   apply hK;clear hK K
   exact AW.ret (κ:=0) (FinP.tmp (κ:=0) rfl 4 (by simp [secI,h,h2]) (by first|rfl|simp) (by first|rfl|simp) (by first|rfl|simp))
end Go.Am

namespace Go.Am
open Go.Am.Ty Go.Proofs N
@[simp] theorem PD.pureS (p:PD):(AV.agg [scC p.f,.d (.int .i64 p.mode),scC p.ins,scC p.nodes,.d (.int .i64 p.head),.d (.int .i64 p.tail),scC p.states,.d (.int .i64 p.res)]).pure=true:=by
 obtain⟨f,a,i,n,b,c,s,d⟩:=p
 cases f <;> cases i <;> cases n <;> cases s <;> rfl
def seesB (p:PD)(i k:Int):Bool:=decide (0≤k∧k<i) && (decide (secI p k=0) || decide (secI p k=secI p i))
theorem sees_ok (G:List (List DV))(p:PD)(i k:Int):CallsP Tryz.prog G 164 [p.A,.c (.d (.int .i64 i)),.c (.d (.int .i64 k))] (.c (.d (.bool (seesB p i k)))):=by
 refine CallsP.of_AW Go.Proofs.Tryz.func164 rfl (by rw [Tryz.ntmps164];simp) ?_
 rintro⟨_,_,w0,F0,W0,_,lv0,β0⟩ rfl rfl rfl
 refine AW.seqK fun K hK=>?_
 refine AW.regionP rfl ?_
 simp
 repeat (refine And.intro (by omega) ?_)
 apply hK;clear hK K
 refine AW.seqK fun K hK=>?_
 refine AW.seqK fun K1 hK1=>?_
 by_cases h1:k<0
 ·have h1':¬ 0≤k:=by omega
  refine AW.regionP rfl ?_
  simp [h1]
  repeat (refine And.intro (by omega) ?_)
  apply hK1;clear hK1 K1
  refine AW.cond (b:=true) (by first|(simp [];done)|(simp [];omega)) ?_
  refine AW.seqK fun K1 hK1=>?_
  refine AW.regionP rfl ?_
  simp
  repeat (refine And.intro (by omega) ?_)
  apply hK1;clear hK1 K1
  exact AW.ret (κ:=0) (FinP.tmp (κ:=0) rfl 6 (by simp [seesB,h1']) (by first|rfl|simp) (by first|rfl|simp) (by first|rfl|simp))
 have h0:0≤k:=by omega
 by_cases h2:i≤k
 ·have h2':¬ k<i:=by omega
  refine AW.regionP rfl ?_
  simp [h1,h2]
  repeat (refine And.intro (by omega) ?_)
  apply hK1;clear hK1 K1
  refine AW.cond (b:=true) (by first|(simp [];done)|(simp [];omega)) ?_
  refine AW.seqK fun K1 hK1=>?_
  refine AW.regionP rfl ?_
  simp
  repeat (refine And.intro (by omega) ?_)
  apply hK1;clear hK1 K1
  exact AW.ret (κ:=0) (FinP.tmp (κ:=0) rfl 6 (by simp [seesB,h2']) (by first|rfl|simp) (by first|rfl|simp) (by first|rfl|simp))
 have h2':k<i:=by omega
 refine AW.regionP rfl ?_
 simp [h1,h2]
 repeat (refine And.intro (by omega) ?_)
 apply hK1;clear hK1 K1
 refine AW.cond (b:=false) (by first|(simp [];done)|(simp [];omega)) ?_
 refine AW.skip ?_
 simp
 repeat (refine And.intro (by omega) ?_)
 apply hK;clear hK K
 refine AW.seqK fun K hK=>?_
 refine AW.regionP rfl ?_
 simp
 refine CallDo.pure 1 9 (section_ok _ p k) (by simp) (by simp) rfl ?_
 simp
 repeat (refine And.intro (by omega) ?_)
 apply hK;clear hK K
 refine AW.seqK fun K hK=>?_
 by_cases h3:secI p k=0
 ·refine AW.regionP rfl ?_
  simp [h3]
  repeat (refine And.intro (by omega) ?_)
  apply hK;clear hK K
  exact AW.ret (κ:=0) (FinP.tmp (κ:=0) rfl 6 (by simp [seesB,h0,h2',h3]) (by first|rfl|simp) (by first|rfl|simp) (by first|rfl|simp))
 ·refine AW.regionP rfl ?_
  simp [h3]
  refine CallDo.pure 1 9 (section_ok _ p i) (by simp) (by simp) rfl ?_
  simp
  repeat (refine And.intro (by omega) ?_)
  apply hK;clear hK K
  exact AW.ret (κ:=0) (FinP.tmp (κ:=0) rfl 6 (by simp [seesB,h0,h2',h3]) (by first|rfl|simp) (by first|rfl|simp) (by first|rfl|simp))
end Go.Am

namespace Go.Am
open Go.Am.Ty Go.Proofs N
def genE (p:PD):Int:=
 if 6<(sO p.f).length∨6<(sO p.ins).length∨64<(sO p.nodes).length∨4<(sO p.states).length then 3
 else if (sO p.f).length=0∨(sO p.nodes).length=0∨p.mode<0∨4<p.mode then 2
 else if p.head<0∨p.tail<p.head∨((sO p.nodes).length:Int)<p.tail then 2
 else if (sO p.states).length=0∧p.head≠(sO p.nodes).length then 2 else 0
set_option maxHeartbeats 2000000 in
theorem general_ok (G:List (List DV))(p:PD):CallsP Tryz.prog G 82 [p.A] (.c (.d (.int .i64 (genE p)))):=by
 have lp0:∀ (lv:Key→LB) (o:Option (List (List DV))),lenP Tryz.prog 22 lv (slA o)=some (.c (.d (.int .i64 (sO o).length)),[],[],True):=fun lv o=>lenP_slA (by simp)
 have lp2:∀ (lv:Key→LB) (o:Option (List (List DV))),lenP Tryz.prog 23 lv (slA o)=some (.c (.d (.int .i64 (sO o).length)),[],[],True):=fun lv o=>lenP_slA (by simp)
 have lp3:∀ (lv:Key→LB) (o:Option (List (List DV))),lenP Tryz.prog 24 lv (slA o)=some (.c (.d (.int .i64 (sO o).length)),[],[],True):=fun lv o=>lenP_slA (by simp)
 have lp6:∀ (lv:Key→LB) (o:Option (List (List DV))),lenP Tryz.prog 25 lv (slA o)=some (.c (.d (.int .i64 (sO o).length)),[],[],True):=fun lv o=>lenP_slA (by simp)
 refine CallsP.of_AW Go.Proofs.Tryz.func82 rfl (by rw [Tryz.ntmps82];simp) ?_
 rintro⟨_,_,w0,F0,W0,_,lv0,β0⟩ rfl rfl rfl
 refine AW.seqK fun K hK=>?_
 refine AW.regionP rfl ?_
 simp
 repeat (refine And.intro (by omega) ?_)
 apply hK;clear hK K
 refine AW.seqK fun K hK=>?_
 refine AW.regionP rfl ?_
 simp [lp3]
 repeat (refine And.intro (by omega) ?_)
 apply hK;clear hK K
 refine AW.seqK fun K hK=>?_
 refine AW.block ?_
 refine AW.seqK fun K1 hK1=>?_
 have toK1:∀ (fr:Nat→AV) (κ:Nat) (b:Bool),fr 1=.c (.ptr 0 0)→fr 3=.c (.d (.int .i64 (sO p.nodes).length))→fr 8=.c (.d (.bool b)) →
  (b=decide (6<(sO p.f).length∨6<(sO p.ins).length∨64<(sO p.nodes).length∨4<(sO p.states).length)) →
  K1 ⟨fr,upd (fun _=>.hole) 0 (.cells true false 154 p.cs)⟩ κ:=by
  intro fr κ b z1 z3 z8 hb
  repeat (refine And.intro (by omega) ?_)
  apply hK1
  cases b with
  | true=>
   have h:=of_decide_eq_true hb.symm
   refine AW.cond (b:=true) (by first|(simp [z8];done)|(simp [z8];omega)) ?_
   refine AW.seqK fun K2 hK2=>?_
   refine AW.regionP rfl ?_
   simp
   repeat (refine And.intro (by omega) ?_)
   apply hK2;clear hK2 K2
   exact AW.ret (κ:=0) (FinP.tmp (κ:=0) rfl 9 (by simp [genE,if_pos h]) rfl (by simp) rfl)
  | false=>
   have h:=of_decide_eq_false hb.symm
   refine AW.cond (b:=false) (by first|(simp [z8];done)|(simp [z8];omega)) ?_
   refine AW.seqK fun K2 hK2=>?_
   have toK2:∀ (fr:Nat→AV) (κ:Nat) (b:Bool),fr 1=.c (.ptr 0 0)→fr 3=.c (.d (.int .i64 (sO p.nodes).length))→fr 26=.c (.d (.bool b)) →
    (b=decide ((sO p.f).length=0∨(sO p.nodes).length=0∨p.mode<0∨4<p.mode)) →
    K2 ⟨fr,upd (fun _=>.hole) 0 (.cells true false 154 p.cs)⟩ κ:=by
    intro fr κ b y1 y3 y26 hb2
    repeat (refine And.intro (by omega) ?_)
    apply hK2
    cases b with
    | true=>
     have h2:=of_decide_eq_true hb2.symm
     refine AW.cond (b:=true) (by first|(simp [y26];done)|(simp [y26];omega)) ?_
     refine AW.seqK fun K3 hK3=>?_
     refine AW.regionP rfl ?_
     simp
     repeat (refine And.intro (by omega) ?_)
     apply hK3;clear hK3 K3
     have hg:genE p=2:=by unfold genE;rw [if_neg h,if_pos h2]
     exact AW.ret (κ:=0) (FinP.tmp (κ:=0) rfl 9 (by simp [hg]) rfl (by simp) rfl)
    | false=>
     have h2:=of_decide_eq_false hb2.symm
     refine AW.cond (b:=false) (by first|(simp [y26];done)|(simp [y26];omega)) ?_
     refine AW.seqK fun K3 hK3=>?_
     have toK3:∀ (fr:Nat→AV) (κ:Nat) (b:Bool),fr 1=.c (.ptr 0 0)→fr 3=.c (.d (.int .i64 (sO p.nodes).length))→fr 42=.c (.d (.bool b)) →
      (b=decide (p.head<0∨p.tail<p.head∨((sO p.nodes).length:Int)<p.tail)) →
      K3 ⟨fr,upd (fun _=>.hole) 0 (.cells true false 154 p.cs)⟩ κ:=by
      intro fr κ b x1 x3 x42 hb3
      repeat (refine And.intro (by omega) ?_)
      apply hK3
      cases b with
      | true=>
       have h3:=of_decide_eq_true hb3.symm
       refine AW.cond (b:=true) (by first|(simp [x42];done)|(simp [x42];omega)) ?_
       refine AW.seqK fun K4 hK4=>?_
       refine AW.regionP rfl ?_
       simp
       repeat (refine And.intro (by omega) ?_)
       apply hK4;clear hK4 K4
       have hg:genE p=2:=by unfold genE;rw [if_neg h,if_neg h2,if_pos h3]
       exact AW.ret (κ:=0) (FinP.tmp (κ:=0) rfl 9 (by simp [hg]) rfl (by simp) rfl)
      | false=>
       have h3:=of_decide_eq_false hb3.symm
       refine AW.cond (b:=false) (by first|(simp [x42];done)|(simp [x42];omega)) ?_
       refine AW.seqK fun K4 hK4=>?_
       have fin0:genE p=0→∀ (fr:Nat→AV) (κ:Nat) (lv:Key→LB),lv 9=.hole→K ⟨fr,lv⟩ κ:=by
        intro hg fr κ lv h9
        repeat (refine And.intro (by omega) ?_)
        apply hK
        refine AW.seqK fun K5 hK5=>?_
        refine AW.regionP rfl ?_
        simp
        repeat (refine And.intro (by omega) ?_)
        apply hK5;clear hK5 K5
        exact AW.ret (κ:=0) (FinP.tmp (κ:=0) rfl 9 (by simp [hg]) rfl (by simp [h9]) rfl)
       by_cases e1:sO p.states=[]
       ·by_cases e2:p.head=((sO p.nodes).length:Int)
        ·have hg:genE p=0:=by unfold genE;rw [if_neg h,if_neg h2,if_neg h3,if_neg (fun hh=>hh.2 e2)]
         refine AW.regionP rfl ?_
         simp [x1,x3,lp6,e1,e2]
         repeat (refine And.intro (by omega) ?_)
         apply hK4;clear hK4 K4
         refine AW.cond (b:=false) (by first|(simp [];done)|(simp [];omega)) ?_
         refine AW.skip ?_
         simp
         exact fin0 hg _ _ _ (by simp)
        ·have hg:genE p=2:=by unfold genE;rw [if_neg h,if_neg h2,if_neg h3,if_pos ⟨by rw [e1];rfl,e2⟩]
         refine AW.regionP rfl ?_
         simp [x1,x3,lp6,e1,e2]
         repeat (refine And.intro (by omega) ?_)
         apply hK4;clear hK4 K4
         refine AW.cond (b:=true) (by first|(simp [];done)|(simp [];omega)) ?_
         refine AW.seqK fun K5 hK5=>?_
         refine AW.regionP rfl ?_
         simp
         repeat (refine And.intro (by omega) ?_)
         apply hK5;clear hK5 K5
         exact AW.ret (κ:=0) (FinP.tmp (κ:=0) rfl 9 (by simp [hg]) rfl (by simp) rfl)
       ·have hg:genE p=0:=by unfold genE;rw [if_neg h,if_neg h2,if_neg h3,if_neg (fun hh=>e1 (List.length_eq_zero_iff.1 hh.1))]
        refine AW.regionP rfl ?_
        simp [x1,x3,lp6,e1]
        repeat (refine And.intro (by omega) ?_)
        apply hK4;clear hK4 K4
        refine AW.cond (b:=false) (by first|(simp [];done)|(simp [];omega)) ?_
        refine AW.skip ?_
        simp
        exact fin0 hg _ _ _ (by simp)
     refine AW.seqK fun K4 hK4=>?_
     refine AW.regionP rfl ?_
     simp [y1]
     repeat (refine And.intro (by omega) ?_)
     apply hK4;clear hK4 K4
     by_cases f1:p.head<0
     ·refine AW.cond (b:=true) (by first|(simp [f1];done)|(simp [f1];omega)) ?_
      refine AW.skip ?_
      simp
      exact toK3 _ _ true (by simp [y1]) (by simp [y3]) (by simp [f1]) (by simp [f1])
     refine AW.cond (b:=false) (by first|(simp [f1];done)|(simp [f1];omega)) ?_
     refine AW.seqK fun K4 hK4=>?_
     refine AW.regionP rfl ?_
     simp [y1]
     repeat (refine And.intro (by omega) ?_)
     apply hK4;clear hK4 K4
     by_cases f2:p.tail<p.head
     ·refine AW.cond (b:=true) (by first|(simp [f2];done)|(simp [f2];omega)) ?_
      refine AW.skip ?_
      simp
      exact toK3 _ _ true (by simp [y1]) (by simp [y3]) (by simp [f2]) (by simp [f2])
     refine AW.cond (b:=false) (by first|(simp [f2];done)|(simp [f2];omega)) ?_
     refine AW.regionP rfl ?_
     simp [y1,y3]
     exact toK3 _ _ (decide (((sO p.nodes).length:Int)<p.tail)) (by simp [y1]) (by simp [y3]) (by simp) (by simp [f1,f2])
   refine AW.seqK fun K3 hK3=>?_
   refine AW.regionP rfl ?_
   simp [z1,lp0]
   repeat (refine And.intro (by omega) ?_)
   apply hK3;clear hK3 K3
   by_cases c1:(sO p.f).length=0
   ·have c1l:sO p.f=[]:=List.length_eq_zero_iff.1 c1
    refine AW.cond (b:=true) (by first|(simp [c1l];done)|(simp [c1l];omega)) ?_
    refine AW.skip ?_
    simp
    exact toK2 _ _ true (by simp [z1]) (by simp [z3]) (by simp [c1l]) (by simp [c1l])
   have c1l:¬ sO p.f=[]:=fun e=>c1 (by rw [e];rfl)
   refine AW.cond (b:=false) (by first|(simp [c1l];done)|(simp [c1l];omega)) ?_
   refine AW.seqK fun K3 hK3=>?_
   refine AW.regionP rfl ?_
   simp [z3]
   repeat (refine And.intro (by omega) ?_)
   apply hK3;clear hK3 K3
   by_cases c2:(sO p.nodes).length=0
   ·have c2l:sO p.nodes=[]:=List.length_eq_zero_iff.1 c2
    refine AW.cond (b:=true) (by first|(simp [c2l];done)|(simp [c2l];omega)) ?_
    refine AW.skip ?_
    simp
    exact toK2 _ _ true (by simp [z1]) (by simp [z3]) (by simp [c2l]) (by simp [c2l])
   have c2l:¬ sO p.nodes=[]:=fun e=>c2 (by rw [e];rfl)
   refine AW.cond (b:=false) (by first|(simp [c2l];done)|(simp [c2l];omega)) ?_
   refine AW.seqK fun K3 hK3=>?_
   refine AW.regionP rfl ?_
   simp [z1]
   repeat (refine And.intro (by omega) ?_)
   apply hK3;clear hK3 K3
   by_cases c3:p.mode<0
   ·refine AW.cond (b:=true) (by first|(simp [c3];done)|(simp [c3];omega)) ?_
    refine AW.skip ?_
    simp
    exact toK2 _ _ true (by simp [z1]) (by simp [z3]) (by simp [c3]) (by simp [c3])
   refine AW.cond (b:=false) (by first|(simp [c3];done)|(simp [c3];omega)) ?_
   refine AW.regionP rfl ?_
   simp [z1]
   exact toK2 _ _ (decide (4<p.mode)) (by simp [z1]) (by simp [z3]) (by simp) (by simp [c1l,c2l,c3])
 refine AW.seqK fun K2 hK2=>?_
 refine AW.regionP rfl ?_
 simp [lp0]
 repeat (refine And.intro (by omega) ?_)
 apply hK2;clear hK2 K2
 by_cases d1:6<(sO p.f).length
 ·have d1':(6:Int)<((sO p.f).length:Int):=by omega
  refine AW.cond (b:=true) (by first|(simp [d1'];done)|(simp [d1'];omega)) ?_
  refine AW.skip ?_
  simp
  exact toK1 _ _ true (by simp) (by simp) (by simp [d1']) (by simp [d1])
 have d1':¬ (6:Int)<((sO p.f).length:Int):=by omega
 refine AW.cond (b:=false) (by first|(simp [d1'];done)|(simp [d1'];omega)) ?_
 refine AW.seqK fun K2 hK2=>?_
 refine AW.regionP rfl ?_
 simp [lp2]
 repeat (refine And.intro (by omega) ?_)
 apply hK2;clear hK2 K2
 by_cases d2:6<(sO p.ins).length
 ·have d2':(6:Int)<((sO p.ins).length:Int):=by omega
  refine AW.cond (b:=true) (by first|(simp [d2'];done)|(simp [d2'];omega)) ?_
  refine AW.skip ?_
  simp
  exact toK1 _ _ true (by simp) (by simp) (by simp [d2']) (by simp [d2])
 have d2':¬ (6:Int)<((sO p.ins).length:Int):=by omega
 refine AW.cond (b:=false) (by first|(simp [d2'];done)|(simp [d2'];omega)) ?_
 refine AW.seqK fun K2 hK2=>?_
 refine AW.regionP rfl ?_
 simp
 repeat (refine And.intro (by omega) ?_)
 apply hK2;clear hK2 K2
 by_cases d3:64<(sO p.nodes).length
 ·have d3':(64:Int)<((sO p.nodes).length:Int):=by omega
  refine AW.cond (b:=true) (by first|(simp [d3'];done)|(simp [d3'];omega)) ?_
  refine AW.skip ?_
  simp
  exact toK1 _ _ true (by simp) (by simp) (by simp [d3']) (by simp [d3])
 have d3':¬ (64:Int)<((sO p.nodes).length:Int):=by omega
 refine AW.cond (b:=false) (by first|(simp [d3'];done)|(simp [d3'];omega)) ?_
 refine AW.regionP rfl ?_
 simp [lp6]
 have d4:((4:Int)<((sO p.states).length:Int))↔4<(sO p.states).length:=by omega
 exact toK1 _ _ (decide (4<(sO p.states).length)) (by simp) (by simp) (by simp [d4]) (by simp [d1,d2,d3])
end Go.Am

namespace Go.Am
def FinD (c:Ctx)(fn:Func)(x:AV):Ex→LSt→Nat→Prop
 | .normal,s,_|.ret,s,_=>∃ X ks,resA c.P s fn.results.toList=some X∧dRes s.lv X=some (x,ks)
 | _,_,_=>False
theorem CallsP.of_AWd {P:Program}{G:List (List DV)}{f:FuncId}{fn:Func}{code:Code}{args:List AV}{x:AV}(hf:P.funcs[f]?=some fn) (hb:fn.body=some code) (hl:args.length≤fn.ntmps)
 (h:∀ c:Ctx,c.P=P→c.G=G→c.n=fn.ntmps→c.lv0=(fun _=>.hole)→AW c none code ⟨fun t=>args.getD t .undef,fun _=>.hole⟩ 0 (FinD c fn x)):CallsP P G f args x:=by
 intro F β w vs hS hvl hv
 have hlv:lvOf [] []=fun _=>LB.hole:=lvOf_nil'
 rw [hlv] at hS hv
 refine calls_of_wp hf hb ?_
 let c:Ctx:={ CtxE P G w F β (fun _=>.hole) with n:=fn.ntmps }
 have hS':Sits c F β (fun _=>.hole) w:=hS
 let a:Act:={ tmps:=vs++Array.replicate (fn.ntmps - vs.size) undef,defers:=[] }
 have hst:StOK c F β ⟨fun t=>args.getD t .undef,fun _=>.hole⟩ a w:=by
  refine hS'.with ?_ rfl (fun t=>?_)
  ·show (vs++Array.replicate (fn.ntmps - vs.size) undef).size=fn.ntmps
   simp;omega
  ·show (Vw.mk F β (fun _=>.hole) w).av ((vs++Array.replicate (fn.ntmps - vs.size) undef).getD t undef) (args.getD t .undef)
   by_cases ht:t<args.length
   ·have h1:args.getD t .undef=args[t]:=getD_lt ht
    have h2:(vs++Array.replicate (fn.ntmps - vs.size) undef).getD t undef=vs[t]'(by omega):=by
     rw [Array.getD_eq_getD_getElem?,Array.getElem?_append_left (by omega),Array.getElem?_eq_getElem (by omega)];rfl
    rw [h1,h2];exact hv t ht (by omega)
   ·have h1:args.getD t .undef=.undef:=getD_ge ht
    have h2:(vs++Array.replicate (fn.ntmps - vs.size) undef).getD t undef=undef:=by
     rw [Array.getD_eq_getD_getElem?,Array.getElem?_append_right (by omega),Array.getElem?_replicate];split <;> rfl
    rw [h1,h2];rfl
 have hw:=(wpIn_wide (n:=0)).1 (h c rfl rfl rfl rfl F β a w hst)
 refine wp_mono hw fun e a' w' hp=>?_
 obtain⟨e',s',κ',F',β',hq,hX0,he⟩:=hp
 have fin:(∃ X ks,resA c.P s' fn.results.toList=some X∧dRes s'.lv X=some (x,ks))→a'.defers=[]∧∃ v,(results fn a'.tmps).run P w'=.ok v w'∧outR P G [] F β w (.ret x [] []) (.returned v) w':=by
  rintro⟨X,ks,h0,hd⟩
  obtain⟨v,h4,hav⟩:=resA_run hX0 h0
  have hX:Sits (CtxE P G w F β (fun _=>.hole)) F' β' s'.lv w':=hX0.sits
  have hFz:∀ b,F' b→(F' b∨∃ k∈ks,b=β' k):=fun b hb=>.inl hb
  refine⟨hX0.defers,v,h4,v,fun b=>F' b∨∃ k∈ks,b=β' k,β',rfl,?_,?_⟩
  ·rw [hlv]
   refine⟨fun k=>trivial,fun k k' h=>(by cases h),fun _=>trivial,rfl,rfl,fun b hb=>?_,fun b hb=>.inl (hX.F0 b hb),fun b hb hW=>hX.old b hb (by rintro⟨k,hk,_⟩;cases hk),hX.ge,fun g cs hg=>Rd.mono (memF_le hFz (fun _ _=>rfl)) (hX.glob g cs hg),fun k hk=>absurd rfl hk,hX.asz,hX.oso⟩
   rcases hb with hb|⟨k,hk,rfl⟩
   ·exact hX.Flt b hb
   ·obtain⟨own,fz,T,cs',e⟩:=dRes_keys hd k hk
    have hlt:β' k<w'.heap.size:=StOK.cells_lt hX e
    cases fz with
    | false=>
     refine⟨hlt,?_⟩
     rcases hX.live_own (k:=k) (by show (s'.lv k).live=true;rw [e];rfl) with h1|⟨j,hj,_⟩
     ·exact .inr h1
     ·cases hj
    | true=>
     have hb:=hX.blk k
     unfold Vw.blk at hb
     simp only [e] at hb
     obtain⟨arr,b1,b2,b3,b4,b5⟩:=hb
     simp only [if_true] at b4
     exact hX.Flt _ b4
  ·rw [hlv]
   exact Sits.dRes (s:=⟨fun _=>.junk,s'.lv⟩) hX hFz hd (fun k hk=>.inr ⟨k,hk,rfl⟩) hav
 cases e' with
 | normal=>cases he;exact fin hq
 | ret=>cases he;exact fin hq
 | exit id=>exact hq.elim
 | goto l=>exact hq.elim
 | panic d=>exact hq.elim
theorem toDVs_d {lv:Key→LB}{n:Nat}:∀ (l:List DV),toDVs (toDV lv n) (l.map CV.d)=some (l,[])
 | []=>rfl
 | x::l=>by
  have ih:=toDVs_d (lv:=lv) (n:=n) l
  simp only [List.map_cons,toDVs] at ih ⊢
  rw [ih]
  cases n <;> rfl
theorem chunk_flat {α:Type}{sz:Nat}:∀ (es:List (List α)),(∀ e∈es,e.length=sz)→chunk sz es.length es.flatten=es
 | [],_=>rfl
 | e::es,h=>by
  have he:e.length=sz:=h e (by simp)
  have ih:=chunk_flat es fun x hx=>h x (by simp [hx])
  have hlen:es.flatten.length=es.length*sz:=by
   rw [List.length_flatten]
   have:∀ l:List (List α),(∀ e∈l,e.length=sz)→(l.map List.length).sum=l.length*sz:=by
    intro l
    induction l with
    | nil=>intro _;simp
    | cons a l ih=>intro h;simp [ih fun x hx=>h x (by simp [hx]),h a (by simp),Nat.succ_mul];omega
   exact this es fun x hx=>h x (by simp [hx])
  unfold chunk at ih ⊢
  rw [List.length_cons,List.range_succ_eq_map,List.map_cons,List.map_map]
  congr 1
  ·simp [List.take_left' he]
  ·conv=>rhs;rw [← ih]
   apply List.map_congr_left
   intro i _
   simp only [Function.comp,List.flatten_cons]
   have:(i+1)*sz=e.length+i*sz:=by rw [he,Nat.succ_mul];omega
   rw [Nat.succ_eq_add_one,this,List.drop_append,List.drop_eq_nil_of_le (by omega),Nat.add_sub_cancel_left,List.nil_append]
theorem FinD.tmp {c:Ctx}{fn:Func}{x X:AV}{t:Nat}{s:LSt}{κ:Nat}{ks:List Key}(hr:fn.results=#[.tmp t]) (hx:s.fr t=X) (hd:dRes s.lv X=some (x,ks)):FinD c fn x .ret s κ:=
 ⟨X,ks,by rw [hr];simp [resA,resL,resV,hx],hd⟩
theorem FinD.cell {c:Ctx}{fn:Func}{x X:AV}{t k off:Nat}{T U:TypeId}{own fz:Bool}{cs:List CV}{s:LSt}{κ:Nat}{ks:List Key}(hr:fn.results=#[.cell t T]) (ht:s.fr t=.c (.ptr k off)) (hk:s.lv k=.cells own fz U cs)
 (hx:loadA c.P T (cs.drop off)=some X) (hd:dRes s.lv X=some (x,ks)):FinD c fn x .ret s κ:=
 ⟨X,ks,by rw [hr];simp [resA,resL,resV,ht,hk,hx],hd⟩
theorem FinD.cell2 {c:Ctx}{fn:Func}{x X y:AV}{t u k off:Nat}{T U:TypeId}{own fz:Bool}{cs:List CV}{s:LSt}{κ:Nat}{ks:List Key}(hr:fn.results=#[.cell t T,.tmp u]) (ht:s.fr t=.c (.ptr k off)) (hk:s.lv k=.cells own fz U cs)
 (hx:loadA c.P T (cs.drop off)=some X) (hy:s.fr u=y) (hn:X.noTup=true) (hm:y.noTup=true) (hd:dRes s.lv (.tup [X,y])=some (x,ks)):FinD c fn x .ret s κ:=
 ⟨.tup [X,y],ks,by rw [hr];simp [resA,resL,resV,ht,hk,hx,hy,hn,hm],hd⟩
theorem dRes_sl {lv:Key→LB}{k:Key}{own fz:Bool}{T:TypeId}{es:List (List DV)}{sz:Nat}(h:lv k=.cells own fz T (es.flatten.map CV.d)) (hs:∀ e∈es,e.length=sz) (hl:es.length≤9223372036854775807) :
 dRes lv (.c (.lsl k 0 es.length sz))=some (.c (.d (.sl es)),[k]):=by
 have hlen:es.flatten.length=es.length*sz:=by
  rw [List.length_flatten]
  have:∀ l:List (List DV),(∀ e∈l,e.length=sz)→(l.map List.length).sum=l.length*sz:=by
   intro l
   induction l with
   | nil=>intro _;simp
   | cons a l ih=>intro h;simp [ih fun x hx=>h x (by simp [hx]),h a (by simp),Nat.succ_mul];omega
  exact this es hs
 have ht:(es.flatten.map CV.d).take (es.length*sz)=es.flatten.map CV.d:=List.take_of_length_le (by rw [List.length_map,hlen];exact Nat.le_refl _)
 simp only [dRes,dArg,toDV,h,List.length_map,hlen,Nat.zero_add,Nat.le_refl,hl,and_self,if_true,List.drop_zero,ht,toDVs_d,Option.map_some,chunk_flat es hs]
theorem srcA_sl {lv:Key→LB}{es:List (List DV)}{sz:Nat}(h:∀ e∈es,e.length=sz):srcA lv sz (.c (.d (.sl es)))=some (es.length,es.flatten.map CV.d):=by
 have h1:es.all (fun e=>e.length == sz)=true:=by rw [List.all_eq_true];intro e he;simp [h e he]
 simp [srcA,h1]
end Go.Am

namespace Go.Am
open Go.Am.Ty Go.Proofs N
structure Nd where
 op:Int
 a:Int
 b:Int
 c:Int
 d:Int
 f:Int
 v:List UInt8
 deriving DecidableEq,Inhabited
structure In where
 f:Int
 lo:List UInt8
 hi:List UInt8
 deriving DecidableEq,Inhabited
@[simp] def Nd.e (n:Nd):List DV:=[.int .i64 n.op,.int .i64 n.a,.int .i64 n.b,.int .i64 n.c,.int .i64 n.d,.int .i64 n.f,.str n.v]
@[simp] def In.e (n:In):List DV:=[.int .i64 n.f,.str n.lo,.str n.hi]
@[simp] def prE (n:Int × Int):List DV:=[.int .i64 n.1,.int .i64 n.2]
abbrev Nd.A (n:Nd):AV:=.agg [.d (.int .i64 n.op),.d (.int .i64 n.a),.d (.int .i64 n.b),.d (.int .i64 n.c),.d (.int .i64 n.d),.d (.int .i64 n.f),.d (.str n.v)]
def ndOf:List DV→Nd
 | [.int _ o,.int _ a,.int _ b,.int _ c,.int _ d,.int _ f,.str v]=>⟨o,a,b,c,d,f,v⟩
 | _=>default
def inOf:List DV→In
 | [.int _ f,.str a,.str b]=>⟨f,a,b⟩
 | _=>default
def prOf:List DV→Int × Int
 | [.int _ a,.int _ b]=>(a,b)
 | _=>(0,0)
theorem ndOf_e {e:List DV}(h:is7 e):e=(ndOf e).e:=by obtain⟨a1,a2,a3,a4,a5,a6,s,rfl⟩:=h;rfl
theorem inOf_e {e:List DV}(h:is3 e):e=(inOf e).e:=by obtain⟨a,s,t,rfl⟩:=h;rfl
theorem prOf_e {e:List DV}(h:is2 e):e=prE (prOf e):=by obtain⟨a,b,rfl⟩:=h;rfl
theorem is7_e (n:Nd):is7 n.e:=⟨_,_,_,_,_,_,_,rfl⟩
theorem is3_e (n:In):is3 n.e:=⟨_,_,_,rfl⟩
def PD.nf (p:PD):Nat:=(sO p.f).length
def PD.ni (p:PD):Nat:=(sO p.ins).length
def PD.nn (p:PD):Nat:=(sO p.nodes).length
def PD.ns (p:PD):Nat:=(sO p.states).length
def PD.fm (p:PD)(i:Nat):Int × Int:=prOf ((sO p.f).getD i [])
def PD.inp (p:PD)(i:Nat):In:=inOf ((sO p.ins).getD i [])
def PD.nd (p:PD)(i:Nat):Nd:=ndOf ((sO p.nodes).getD i [])
def PD.st (p:PD)(i:Nat):Int × Int:=prOf ((sO p.states).getD i [])
section
variable {p:PD}(hp:p.ok) (lv:Key→LB) (k:Int) (h0:0≤k)
theorem ixA {P:Program}{T:TypeId}{lv:Key→LB}{o:Option (List (List DV))}{k:Int}{sz:Nat}{e:List DV}(h:(slT P T).map (·.2)=some sz) (h0:0≤k) (hi:k<(sO o).length) (he:(sO o).getD k.toNat []=e) (hs:e.length=sz) :
 stepIndexAddr P T lv (slA o) (.c (.d (.int .i64 k)))=some (.c (.d (.ptr e)),[],[],True):=by
 obtain⟨i,rfl⟩:∃ i:Nat,k=i:=⟨k.toNat,by omega⟩
 have hi':i<(sO o).length:=by omega
 have e1:(sO o)[i]=e:=by rw [← he,Int.toNat_natCast,List.getD_eq_getElem?_getD,List.getElem?_eq_getElem hi'];rfl
 rw [ix_slA h hi' (by rw [e1];exact hs),e1]
theorem gD {l:List (List DV)}{q:List DV→Prop}(h:∀ e∈l,q e) {i:Nat}(hi:i<l.length):q (l.getD i []):=by
 rw [List.getD_eq_getElem?_getD,List.getElem?_eq_getElem hi];exact h _ (List.getElem_mem hi)
include hp h0
theorem ixF (hi:k<p.nf):stepIndexAddr Tryz.prog 22 lv (.c (scC p.f)) (.c (.d (.int .i64 k)))=some (.c (.d (.ptr (prE (p.fm k.toNat)))),[],[],True):=
 ixA (by simp) h0 hi (prOf_e (gD hp.f (by unfold PD.nf at hi;omega))) rfl
theorem ixI (hi:k<p.ni):stepIndexAddr Tryz.prog 23 lv (.c (scC p.ins)) (.c (.d (.int .i64 k)))=some (.c (.d (.ptr (p.inp k.toNat).e)),[],[],True):=
 ixA (by simp) h0 hi (inOf_e (gD hp.ins (by unfold PD.ni at hi;omega))) rfl
theorem ixN (hi:k<p.nn):stepIndexAddr Tryz.prog 24 lv (.c (scC p.nodes)) (.c (.d (.int .i64 k)))=some (.c (.d (.ptr (p.nd k.toNat).e)),[],[],True):=
 ixA (by simp) h0 hi (ndOf_e (gD hp.nodes (by unfold PD.nn at hi;omega))) rfl
theorem ixS (hi:k<p.ns):stepIndexAddr Tryz.prog 25 lv (.c (scC p.states)) (.c (.d (.int .i64 k)))=some (.c (.d (.ptr (prE (p.st k.toNat)))),[],[],True):=
 ixA (by simp) h0 hi (prOf_e (gD hp.states (by unfold PD.ns at hi;omega))) rfl
end
theorem lpF (p:PD)(lv:Key→LB):lenP Tryz.prog 22 lv (.c (scC p.f))=some (.c (.d (.int .i64 p.nf)),[],[],True):=lenP_slA (by simp)
theorem lpI (p:PD)(lv:Key→LB):lenP Tryz.prog 23 lv (.c (scC p.ins))=some (.c (.d (.int .i64 p.ni)),[],[],True):=lenP_slA (by simp)
theorem lpNn (p:PD)(lv:Key→LB):lenP Tryz.prog 24 lv (.c (scC p.nodes))=some (.c (.d (.int .i64 p.nn)),[],[],True):=lenP_slA (by simp)
theorem lpS (p:PD)(lv:Key→LB):lenP Tryz.prog 25 lv (.c (scC p.states))=some (.c (.d (.int .i64 p.ns)),[],[],True):=lenP_slA (by simp)
def kidsN (op:Int):Nat:=if op≤3 then 0 else if op≤7 then 1 else if op≤13 then 2 else if op=14 then 3 else 4
def usedN (op:Int):Nat:=if op=1∨op=2 then 1 else kidsN op
def tblU:List DV:=[.int .i64 0,.int .i64 0,.int .i64 0,.int .i64 1,.int .i64 0,.int .i64 1,.int .i64 0,.int .i64 0,.int .i64 1,.int .i64 1,.int .i64 1,.int .i64 1,.int .i64 1,.int .i64 1,.int .i64 1,.int .i64 1,.int .i64 2,.int .i64 2,.int .i64 2,.int .i64 2,.int .i64 2,.int .i64 2,.int .i64 2,.int .i64 2,.int .i64 2,.int .i64 2,.int .i64 2,.int .i64 2,.int .i64 3,.int .i64 3,.int .i64 4,.int .i64 4]
theorem GG1 (m:Int):(GG m)[1]?=some tblU:=rfl
theorem op15 {op:Int}(h1:1≤op) (h2:op≤15):op=1∨op=2∨op=3∨op=4∨op=5∨op=6∨op=7∨op=8∨op=9∨op=10∨op=11∨op=12∨op=13∨op=14∨op=15:=by omega
theorem ixU {op:Int}(h1:1≤op) (h2:op≤15):∃ rest,∀ lv:Key→LB,stepIndexAddr Tryz.prog 169 lv (.c (.d (.ptr tblU))) (.c (.d (.int .i64 op)))=some (.c (.d (.ptr (.int .i64 (kidsN op)::.int .i64 (usedN op)::rest))),[],[],True):=by
 have ha:arT Tryz.prog 169=some (16,168,2):=by kernel_rfl
 have key:∀ (op:Int) (rest:List DV),0≤op→op<16→tblU.drop (op.toNat*2)=.int .i64 (kidsN op)::.int .i64 (usedN op)::rest→op.toNat*2≤tblU.length→∃ rest,∀ lv:Key→LB,stepIndexAddr Tryz.prog 169 lv (.c (.d (.ptr tblU))) (.c (.d (.int .i64 op)))=some (.c (.d (.ptr (.int .i64 (kidsN op)::.int .i64 (usedN op)::rest))),[],[],True):=by
  intro op rest g1 g2 g3 g4
  refine⟨rest,fun lv=>?_⟩
  unfold stepIndexAddr
  rw [ha]
  show some (AV.c (.d (.ptr (tblU.drop (op.toNat*2)))),([]:List (Key × LB)),([]:List Key),(0≤op∧op<((16:Nat):Int)∧op.toNat*2≤tblU.length))=_
  rw [g3,eq_true (show 0≤op∧op<((16:Nat):Int)∧op.toNat*2≤tblU.length from ⟨g1,by omega,g4⟩)]
 rcases op15 h1 h2 with rfl|rfl|rfl|rfl|rfl|rfl|rfl|rfl|rfl|rfl|rfl|rfl|rfl|rfl|rfl <;> exact key _ _ (by decide) (by decide) rfl (by decide)
def Nd.l4 (n:Nd):List Int:=[n.a,n.b,n.c,n.d]
def kidsL (n:Nd):List Int:=if 1≤n.op∧n.op≤15 then n.l4.take (kidsN n.op) else []
def kidsO (n:Nd):Option (List Int):=if 1≤n.op∧n.op≤15 then some (n.l4.take (kidsN n.op)) else none
def idleB (n:Nd):Bool:=(n.l4.drop (usedN n.op)).all (fun x=>decide (x=0)) && (decide (n.v=[]) || decide (n.op=3))
def zD (l:List Int):List (List DV):=l.map fun x=>[DV.int .i64 x]
def zC:Option (List Int)→CV
 | none=>.d .nilsl
 | some l=>.d (.sl (zD l))
def zL (o:Option (List Int)):List Int:=o.getD []
theorem zC_scC (o:Option (List Int)):zC o=scC (o.map zD):=by cases o <;> rfl
@[simp] theorem zC_pure (o:Option (List Int)):(AV.c (zC o)).pure=true:=by cases o <;> rfl
@[simp] theorem zC_flat1 (o:Option (List Int)):(AV.c (zC o)).flat1=true:=by cases o <;> rfl
@[simp] theorem zC_ren (o:Option (List Int))(g:Key→Key):(zC o).ren g=zC o:=by cases o <;> rfl
@[simp] theorem scC_ren (o:Option (List (List DV)))(g:Key→Key):(scC o).ren g=scC o:=by cases o <;> rfl
@[simp] theorem nC_ren (o:Option (List Nat))(g:Key→Key):(nC o).ren g=nC o:=by cases o <;> rfl
def zK (l:List Int):List CV:=l.map fun x=>CV.d (.int .i64 x)
@[simp] theorem zK_len (l:List Int):(zK l).length=l.length:=by simp [zK]
theorem zK_load {P:Program}{T:TypeId}(ha:aggT P T=some false) {l:List Int}{i:Nat}(h:i<l.length):loadA P T ((zK l).drop i)=some (.c (.d (.int .i64 l[i]))):=by
 have:(zK l).drop i=CV.d (.int .i64 l[i])::(zK l).drop (i+1):=by
  rw [List.drop_eq_getElem_cons (by simpa using h)]
  simp [zK]
 rw [this];simp [ha]
theorem zK_map (l:List Int):zK l=(l.map fun x=>DV.int .i64 x).map CV.d:=by simp [zK]
theorem toDVs_zK {lv:Key→LB}{n:Nat}(l:List Int):toDVs (toDV lv n) (zK l)=some (l.map fun x=>DV.int .i64 x,[]):=by rw [zK_map];exact toDVs_d _
theorem lpZ {T:TypeId}(h:(slT Tryz.prog T).isSome=true) (lv:Key→LB) (o:Option (List Int)):lenP Tryz.prog T lv (.c (zC o))=some (.c (.d (.int .i64 (zL o).length)),[],[],True):=by
 rw [zC_scC]
 rw [lenP_slA h]
 cases o <;> simp [sO,zL,zD]
theorem ixZ {T:TypeId}(h:(slT Tryz.prog T).map (·.2)=some 1) (lv:Key→LB) (o:Option (List Int)) {i:Nat}(hi:i<(zL o).length):stepIndexAddr Tryz.prog T lv (.c (zC o)) (.c (.d (.int .i64 (i:Int))))=some (.c (.d (.ptr [.int .i64 (zL o)[i]])),[],[],True):=by
 cases o with
 | none=>cases hi
 | some l=>
  rw [zC_scC]
  have hi0:i<l.length:=hi
  have hi':i<(sO (Option.map zD (some l))).length:=by show i<(zD l).length;unfold zD;rw [List.length_map];exact hi0
  have e:(sO (Option.map zD (some l)))[i]=[.int .i64 (zL (some l))[i]]:=by simp [sO,zD,zL]
  rw [ix_slA h hi' (by rw [e];rfl),e]
  rfl
def inE (p:PD)(x:In):Int:=
 if ¬ (0≤x.f∧x.f<p.nf) then 7
 else if ratE x.lo≠0 then ratE x.lo
 else if ratE x.hi≠0 then ratE x.hi
 else if hasB (p.fm x.f.toNat).1 (p.fm x.f.toNat).2 (ratP x.lo)=false then 7
 else if hasB (p.fm x.f.toNat).1 (p.fm x.f.toNat).2 (ratP x.hi)=false then 7
 else if 0<cmpR (ratP x.lo) (ratP x.hi) then 7 else 0
def ndE (p:PD)(i:Int)(n:Nd):Int:=
 if ¬ (1≤n.op∧n.op≤15) then 2
 else if idleB n=false then 2
 else if ¬ (0≤n.f∧n.f<p.nf) then 7
 else if n.op=1∧¬ (0≤n.a∧n.a<p.ni) then 7
 else if n.op=1∧(p.inp n.a.toNat).f≠n.f then 143
 else if n.op=2∧(i<p.head∨¬ (0≤n.a∧n.a<p.ns)) then 7
 else if n.op=3 then ratE n.v
 else if (kidsL n).all (seesB p i) then 0 else 7
def othB (i f:Int)(n:Nd):Bool:=decide (n.op=2) && decide (n.a=i) && !decide (n.f=f)
def stE (p:PD)(i:Int)(s:Int × Int):Int:=
 if ¬ (0≤s.1∧s.1<p.head) then 7
 else if ¬ (0≤s.2∧s.2<p.tail) then 7
 else if (p.nd s.2.toNat).f≠(p.nd s.1.toNat).f then 143
 else if (List.range p.nn).any (fun j=>othB i (p.nd s.1.toNat).f (p.nd j)) then 143 else 0
def firstE (e:Nat→Int)(n:Nat):Option Nat:=(List.range n).find? fun i=>decide (e i≠0)
theorem firstE_none {e:Nat→Int}{n:Nat}(h:∀ j,j<n→e j=0):firstE e n=none:=by
 unfold firstE
 rw [List.find?_eq_none]
 intro x hx
 simp [h x (List.mem_range.1 hx)]
theorem firstE_some {e:Nat→Int}{n i:Nat}(hi:i<n) (h:e i≠0) (h0:∀ j,j<i→e j=0):firstE e n=some i:=by
 unfold firstE
 rw [List.find?_range_eq_some]
 exact⟨by simpa using h,List.mem_range.2 hi,fun j hj=>by simp [h0 j hj]⟩
def partN (p:PD):Nat→Nat
 | 0=>p.nf
 | 1=>p.ni
 | 2=>p.nn
 | _=>p.ns
def partE (p:PD):Nat→Nat→Int
 | 0,i=>fmtE (p.fm i).1 (p.fm i).2
 | 1,i=>inE p (p.inp i)
 | 2,i=>ndE p i (p.nd i)
 | _,i=>stE p i (p.st i)
def partsV (p:PD):Nat→Nat→Int × Int × Int
 | 0,_=>if 0≤p.res∧p.res<p.nn∧secI p p.res≠1 then (0,0,0) else (5,0,7)
 | n+1,k=>match firstE (partE p k) (partN p k) with
  | some i=>(k+1,i,partE p k i)
  | none=>partsV p n (k+1)
def chkV (p:PD):Int × Int × Int:=if genE p≠0 then (0,0,genE p) else partsV p 4 0
end Go.Am

namespace Go.Am
open Go.Am.Ty Go.Proofs N
set_option maxHeartbeats 1000000 in
theorem clone47_ok (G:List (List DV))(o:Option (List (List DV)))(h:∀ e∈sO o,e.length=2)(hl:(sO o).length≤1000000):CallsP Tryz.prog G 47 [.c (scC o)] (.c (scC o)):=by
 have e1:stepBin Tryz.prog .eql 22 (.c (.d .nilsl)) (.c (.d .nilsl))=some (.c (.d (.bool true)),[],[],True):=by kernel_rfl
 have e2:∀ es,stepBin Tryz.prog .eql 22 (.c (.d (.sl es))) (.c (.d .nilsl))=some (.c (.d (.bool false)),[],[],True):=fun es=>by kernel_rfl
 cases o with
 | none=>
  show CallsP Tryz.prog G 47 [.c (.d .nilsl)] (.c (.d .nilsl))
  refine CallsP.of_AWd Go.Proofs.Tryz.func47 rfl (by rw [Tryz.ntmps47];simp)  ?_
  rintro⟨_,_,w0,F0,W0,_,lv0,β0⟩ rfl rfl rfl rfl
  refine AW.seqK fun K hK=>?_
  refine AW.regionP rfl ?_
  simp
  repeat (refine And.intro (by omega) ?_)
  apply hK;clear hK K
  refine AW.seqK fun K hK=>?_
  refine AW.seqK fun K1 hK1=>?_
  refine AW.regionP rfl ?_
  simp [e1]
  repeat (refine And.intro (by omega) ?_)
  apply hK1;clear hK1 K1
  refine AW.cond (b:=true) (by first|(simp [];done)|(simp [];omega)) ?_
  refine AW.seqK fun K1 hK1=>?_
  refine AW.regionP rfl ?_
  simp
  repeat (refine And.intro (by omega) ?_)
  apply hK1;clear hK1 K1
  exact AW.ret (κ:=0) (FinD.tmp (κ:=0) (X:=.c (.d .nilsl)) (ks:=[]) rfl (by simp) rfl)
 | some es=>
  have h:∀ e∈es,e.length=2:=h
  have hl:es.length≤1000000:=hl
  show CallsP Tryz.prog G 47 [.c (.d (.sl es))] (.c (.d (.sl es)))
  have hsrc:∀ lv,srcA lv 2 (.c (.d (.sl es)))=some (es.length,es.flatten.map CV.d):=fun lv=>srcA_sl h
  refine CallsP.of_AWd Go.Proofs.Tryz.func47 rfl (by rw [Tryz.ntmps47];simp)  ?_
  rintro⟨_,_,w0,F0,W0,_,lv0,β0⟩ rfl rfl rfl rfl
  refine AW.seqK fun K hK=>?_
  refine AW.regionP rfl ?_
  simp
  repeat (refine And.intro (by omega) ?_)
  apply hK;clear hK K
  refine AW.seqK fun K hK=>?_
  refine AW.seqK fun K1 hK1=>?_
  refine AW.regionP rfl ?_
  simp [e2]
  repeat (refine And.intro (by omega) ?_)
  apply hK1;clear hK1 K1
  refine AW.cond (b:=false) (by first|(simp [];done)|(simp [];omega)) ?_
  refine AW.skip ?_
  simp
  repeat (refine And.intro (by omega) ?_)
  apply hK;clear hK K
  refine AW.seqK fun K hK=>?_
  refine AW.regionP rfl ?_
  simp [hsrc,repl,fillA,keyOf]
  repeat (refine And.intro (by omega) ?_)
  apply hK;clear hK K
  refine AW.ret (κ:=0) (FinD.tmp (κ:=0) (X:=.c (.lsl 1 0 es.length 2)) (ks:=[1]) rfl (by simp) ?_)
  exact dRes_sl (own:=true) (fz:=false) (T:=81) (by simp) h (by omega)
set_option maxHeartbeats 1000000 in
theorem clone48_ok (G:List (List DV))(o:Option (List (List DV)))(h:∀ e∈sO o,e.length=3)(hl:(sO o).length≤1000000):CallsP Tryz.prog G 48 [.c (scC o)] (.c (scC o)):=by
 have e1:stepBin Tryz.prog .eql 23 (.c (.d .nilsl)) (.c (.d .nilsl))=some (.c (.d (.bool true)),[],[],True):=by kernel_rfl
 have e2:∀ es,stepBin Tryz.prog .eql 23 (.c (.d (.sl es))) (.c (.d .nilsl))=some (.c (.d (.bool false)),[],[],True):=fun es=>by kernel_rfl
 cases o with
 | none=>
  show CallsP Tryz.prog G 48 [.c (.d .nilsl)] (.c (.d .nilsl))
  refine CallsP.of_AWd Go.Proofs.Tryz.func48 rfl (by rw [Tryz.ntmps48];simp)  ?_
  rintro⟨_,_,w0,F0,W0,_,lv0,β0⟩ rfl rfl rfl rfl
  refine AW.seqK fun K hK=>?_
  refine AW.regionP rfl ?_
  simp
  repeat (refine And.intro (by omega) ?_)
  apply hK;clear hK K
  refine AW.seqK fun K hK=>?_
  refine AW.seqK fun K1 hK1=>?_
  refine AW.regionP rfl ?_
  simp [e1]
  repeat (refine And.intro (by omega) ?_)
  apply hK1;clear hK1 K1
  refine AW.cond (b:=true) (by first|(simp [];done)|(simp [];omega)) ?_
  refine AW.seqK fun K1 hK1=>?_
  refine AW.regionP rfl ?_
  simp
  repeat (refine And.intro (by omega) ?_)
  apply hK1;clear hK1 K1
  exact AW.ret (κ:=0) (FinD.tmp (κ:=0) (X:=.c (.d .nilsl)) (ks:=[]) rfl (by simp) rfl)
 | some es=>
  have h:∀ e∈es,e.length=3:=h
  have hl:es.length≤1000000:=hl
  show CallsP Tryz.prog G 48 [.c (.d (.sl es))] (.c (.d (.sl es)))
  have hsrc:∀ lv,srcA lv 3 (.c (.d (.sl es)))=some (es.length,es.flatten.map CV.d):=fun lv=>srcA_sl h
  refine CallsP.of_AWd Go.Proofs.Tryz.func48 rfl (by rw [Tryz.ntmps48];simp)  ?_
  rintro⟨_,_,w0,F0,W0,_,lv0,β0⟩ rfl rfl rfl rfl
  refine AW.seqK fun K hK=>?_
  refine AW.regionP rfl ?_
  simp
  repeat (refine And.intro (by omega) ?_)
  apply hK;clear hK K
  refine AW.seqK fun K hK=>?_
  refine AW.seqK fun K1 hK1=>?_
  refine AW.regionP rfl ?_
  simp [e2]
  repeat (refine And.intro (by omega) ?_)
  apply hK1;clear hK1 K1
  refine AW.cond (b:=false) (by first|(simp [];done)|(simp [];omega)) ?_
  refine AW.skip ?_
  simp
  repeat (refine And.intro (by omega) ?_)
  apply hK;clear hK K
  refine AW.seqK fun K hK=>?_
  refine AW.regionP rfl ?_
  simp [hsrc,repl,fillA,keyOf]
  repeat (refine And.intro (by omega) ?_)
  apply hK;clear hK K
  refine AW.ret (κ:=0) (FinD.tmp (κ:=0) (X:=.c (.lsl 1 0 es.length 3)) (ks:=[1]) rfl (by simp) ?_)
  exact dRes_sl (own:=true) (fz:=false) (T:=67) (by simp) h (by omega)
set_option maxHeartbeats 1000000 in
theorem clone156_ok (G:List (List DV))(o:Option (List (List DV)))(h:∀ e∈sO o,e.length=7)(hl:(sO o).length≤1000000):CallsP Tryz.prog G 156 [.c (scC o)] (.c (scC o)):=by
 have e1:stepBin Tryz.prog .eql 24 (.c (.d .nilsl)) (.c (.d .nilsl))=some (.c (.d (.bool true)),[],[],True):=by kernel_rfl
 have e2:∀ es,stepBin Tryz.prog .eql 24 (.c (.d (.sl es))) (.c (.d .nilsl))=some (.c (.d (.bool false)),[],[],True):=fun es=>by kernel_rfl
 cases o with
 | none=>
  show CallsP Tryz.prog G 156 [.c (.d .nilsl)] (.c (.d .nilsl))
  refine CallsP.of_AWd Go.Proofs.Tryz.func156 rfl (by rw [Tryz.ntmps156];simp)  ?_
  rintro⟨_,_,w0,F0,W0,_,lv0,β0⟩ rfl rfl rfl rfl
  refine AW.seqK fun K hK=>?_
  refine AW.regionP rfl ?_
  simp
  repeat (refine And.intro (by omega) ?_)
  apply hK;clear hK K
  refine AW.seqK fun K hK=>?_
  refine AW.seqK fun K1 hK1=>?_
  refine AW.regionP rfl ?_
  simp [e1]
  repeat (refine And.intro (by omega) ?_)
  apply hK1;clear hK1 K1
  refine AW.cond (b:=true) (by first|(simp [];done)|(simp [];omega)) ?_
  refine AW.seqK fun K1 hK1=>?_
  refine AW.regionP rfl ?_
  simp
  repeat (refine And.intro (by omega) ?_)
  apply hK1;clear hK1 K1
  exact AW.ret (κ:=0) (FinD.tmp (κ:=0) (X:=.c (.d .nilsl)) (ks:=[]) rfl (by simp) rfl)
 | some es=>
  have h:∀ e∈es,e.length=7:=h
  have hl:es.length≤1000000:=hl
  show CallsP Tryz.prog G 156 [.c (.d (.sl es))] (.c (.d (.sl es)))
  have hsrc:∀ lv,srcA lv 7 (.c (.d (.sl es)))=some (es.length,es.flatten.map CV.d):=fun lv=>srcA_sl h
  refine CallsP.of_AWd Go.Proofs.Tryz.func156 rfl (by rw [Tryz.ntmps156];simp)  ?_
  rintro⟨_,_,w0,F0,W0,_,lv0,β0⟩ rfl rfl rfl rfl
  refine AW.seqK fun K hK=>?_
  refine AW.regionP rfl ?_
  simp
  repeat (refine And.intro (by omega) ?_)
  apply hK;clear hK K
  refine AW.seqK fun K hK=>?_
  refine AW.seqK fun K1 hK1=>?_
  refine AW.regionP rfl ?_
  simp [e2]
  repeat (refine And.intro (by omega) ?_)
  apply hK1;clear hK1 K1
  refine AW.cond (b:=false) (by first|(simp [];done)|(simp [];omega)) ?_
  refine AW.skip ?_
  simp
  repeat (refine And.intro (by omega) ?_)
  apply hK;clear hK K
  refine AW.seqK fun K hK=>?_
  refine AW.regionP rfl ?_
  simp [hsrc,repl,fillA,keyOf]
  repeat (refine And.intro (by omega) ?_)
  apply hK;clear hK K
  refine AW.ret (κ:=0) (FinD.tmp (κ:=0) (X:=.c (.lsl 1 0 es.length 7)) (ks:=[1]) rfl (by simp) ?_)
  exact dRes_sl (own:=true) (fz:=false) (T:=55) (by simp) h (by omega)
set_option maxHeartbeats 1000000 in
theorem clone157_ok (G:List (List DV))(o:Option (List (List DV)))(h:∀ e∈sO o,e.length=2)(hl:(sO o).length≤1000000):CallsP Tryz.prog G 157 [.c (scC o)] (.c (scC o)):=by
 have e1:stepBin Tryz.prog .eql 25 (.c (.d .nilsl)) (.c (.d .nilsl))=some (.c (.d (.bool true)),[],[],True):=by kernel_rfl
 have e2:∀ es,stepBin Tryz.prog .eql 25 (.c (.d (.sl es))) (.c (.d .nilsl))=some (.c (.d (.bool false)),[],[],True):=fun es=>by kernel_rfl
 cases o with
 | none=>
  show CallsP Tryz.prog G 157 [.c (.d .nilsl)] (.c (.d .nilsl))
  refine CallsP.of_AWd Go.Proofs.Tryz.func157 rfl (by rw [Tryz.ntmps157];simp)  ?_
  rintro⟨_,_,w0,F0,W0,_,lv0,β0⟩ rfl rfl rfl rfl
  refine AW.seqK fun K hK=>?_
  refine AW.regionP rfl ?_
  simp
  repeat (refine And.intro (by omega) ?_)
  apply hK;clear hK K
  refine AW.seqK fun K hK=>?_
  refine AW.seqK fun K1 hK1=>?_
  refine AW.regionP rfl ?_
  simp [e1]
  repeat (refine And.intro (by omega) ?_)
  apply hK1;clear hK1 K1
  refine AW.cond (b:=true) (by first|(simp [];done)|(simp [];omega)) ?_
  refine AW.seqK fun K1 hK1=>?_
  refine AW.regionP rfl ?_
  simp
  repeat (refine And.intro (by omega) ?_)
  apply hK1;clear hK1 K1
  exact AW.ret (κ:=0) (FinD.tmp (κ:=0) (X:=.c (.d .nilsl)) (ks:=[]) rfl (by simp) rfl)
 | some es=>
  have h:∀ e∈es,e.length=2:=h
  have hl:es.length≤1000000:=hl
  show CallsP Tryz.prog G 157 [.c (.d (.sl es))] (.c (.d (.sl es)))
  have hsrc:∀ lv,srcA lv 2 (.c (.d (.sl es)))=some (es.length,es.flatten.map CV.d):=fun lv=>srcA_sl h
  refine CallsP.of_AWd Go.Proofs.Tryz.func157 rfl (by rw [Tryz.ntmps157];simp)  ?_
  rintro⟨_,_,w0,F0,W0,_,lv0,β0⟩ rfl rfl rfl rfl
  refine AW.seqK fun K hK=>?_
  refine AW.regionP rfl ?_
  simp
  repeat (refine And.intro (by omega) ?_)
  apply hK;clear hK K
  refine AW.seqK fun K hK=>?_
  refine AW.seqK fun K1 hK1=>?_
  refine AW.regionP rfl ?_
  simp [e2]
  repeat (refine And.intro (by omega) ?_)
  apply hK1;clear hK1 K1
  refine AW.cond (b:=false) (by first|(simp [];done)|(simp [];omega)) ?_
  refine AW.skip ?_
  simp
  repeat (refine And.intro (by omega) ?_)
  apply hK;clear hK K
  refine AW.seqK fun K hK=>?_
  refine AW.regionP rfl ?_
  simp [hsrc,repl,fillA,keyOf]
  repeat (refine And.intro (by omega) ?_)
  apply hK;clear hK K
  refine AW.ret (κ:=0) (FinD.tmp (κ:=0) (X:=.c (.lsl 1 0 es.length 2)) (ks:=[1]) rfl (by simp) ?_)
  exact dRes_sl (own:=true) (fz:=false) (T:=69) (by simp) h (by omega)
set_option maxHeartbeats 1000000 in
theorem clone97_ok (G:List (List DV))(o:Option (List (List DV)))(h:∀ e∈sO o,e.length=1)(hl:(sO o).length≤1000000):CallsP Tryz.prog G 97 [.c (scC o)] (.c (scC o)):=by
 have e1:stepBin Tryz.prog .eql 30 (.c (.d .nilsl)) (.c (.d .nilsl))=some (.c (.d (.bool true)),[],[],True):=by kernel_rfl
 have e2:∀ es,stepBin Tryz.prog .eql 30 (.c (.d (.sl es))) (.c (.d .nilsl))=some (.c (.d (.bool false)),[],[],True):=fun es=>by kernel_rfl
 cases o with
 | none=>
  show CallsP Tryz.prog G 97 [.c (.d .nilsl)] (.c (.d .nilsl))
  refine CallsP.of_AWd Go.Proofs.Tryz.func97 rfl (by rw [Tryz.ntmps97];simp)  ?_
  rintro⟨_,_,w0,F0,W0,_,lv0,β0⟩ rfl rfl rfl rfl
  refine AW.seqK fun K hK=>?_
  refine AW.regionP rfl ?_
  simp
  repeat (refine And.intro (by omega) ?_)
  apply hK;clear hK K
  refine AW.seqK fun K hK=>?_
  refine AW.seqK fun K1 hK1=>?_
  refine AW.regionP rfl ?_
  simp [e1]
  repeat (refine And.intro (by omega) ?_)
  apply hK1;clear hK1 K1
  refine AW.cond (b:=true) (by first|(simp [];done)|(simp [];omega)) ?_
  refine AW.seqK fun K1 hK1=>?_
  refine AW.regionP rfl ?_
  simp
  repeat (refine And.intro (by omega) ?_)
  apply hK1;clear hK1 K1
  exact AW.ret (κ:=0) (FinD.tmp (κ:=0) (X:=.c (.d .nilsl)) (ks:=[]) rfl (by simp) rfl)
 | some es=>
  have h:∀ e∈es,e.length=1:=h
  have hl:es.length≤1000000:=hl
  show CallsP Tryz.prog G 97 [.c (.d (.sl es))] (.c (.d (.sl es)))
  have hsrc:∀ lv,srcA lv 1 (.c (.d (.sl es)))=some (es.length,es.flatten.map CV.d):=fun lv=>srcA_sl h
  refine CallsP.of_AWd Go.Proofs.Tryz.func97 rfl (by rw [Tryz.ntmps97];simp)  ?_
  rintro⟨_,_,w0,F0,W0,_,lv0,β0⟩ rfl rfl rfl rfl
  refine AW.seqK fun K hK=>?_
  refine AW.regionP rfl ?_
  simp
  repeat (refine And.intro (by omega) ?_)
  apply hK;clear hK K
  refine AW.seqK fun K hK=>?_
  refine AW.seqK fun K1 hK1=>?_
  refine AW.regionP rfl ?_
  simp [e2]
  repeat (refine And.intro (by omega) ?_)
  apply hK1;clear hK1 K1
  refine AW.cond (b:=false) (by first|(simp [];done)|(simp [];omega)) ?_
  refine AW.skip ?_
  simp
  repeat (refine And.intro (by omega) ?_)
  apply hK;clear hK K
  refine AW.seqK fun K hK=>?_
  refine AW.regionP rfl ?_
  simp [hsrc,repl,fillA,keyOf]
  repeat (refine And.intro (by omega) ?_)
  apply hK;clear hK K
  refine AW.ret (κ:=0) (FinD.tmp (κ:=0) (X:=.c (.lsl 1 0 es.length 1)) (ks:=[1]) rfl (by simp) ?_)
  exact dRes_sl (own:=true) (fz:=false) (T:=3) (by simp) h (by omega)
end Go.Am

namespace Go.Am
open Go.Am.Ty Go.Proofs N
def blS (E:TypeId):Option (List (List DV))→LB
 | none=>.nils
 | some es=>.cells true false E (es.flatten.map CV.d)
theorem flat_ren (es:List (List DV))(g:Key→Key):(es.flatten.map CV.d).map (CV.ren g)=es.flatten.map CV.d:=by
 rw [List.map_map];rfl
theorem flat_like (E:TypeId)(es:List (List DV))(g:Key→Key):(LB.cells true false E (es.flatten.map CV.d)).like (.cells true false E (es.flatten.map CV.d)) g:=LB.like_cells.2 ⟨rfl,rfl,(flat_ren es g).symm,id⟩
set_option maxHeartbeats 1000000 in
theorem cloneN47_ok (G:List (List DV))(o:Option (List (List DV)))(h:∀ e∈sO o,e.length=2)(hl:(sO o).length≤1000000):CallsS Tryz.prog G 47 [.c (scC o)] [] (.ret (.c (.lsl 1000 0 (sO o).length 2)) [] [blS 81 o]):=by
 cases o with
 | none=>exact CallsS.nil_blk (clone47_ok G none h hl)
 | some es=>
  have e2:∀ es,stepBin Tryz.prog .eql 22 (.c (.d (.sl es))) (.c (.d .nilsl))=some (.c (.d (.bool false)),[],[],True):=fun es=>by kernel_rfl
  have h:∀ e∈es,e.length=2:=h
  have hl:es.length≤1000000:=hl
  show CallsS Tryz.prog G 47 [.c (.d (.sl es))] [] (.ret (.c (.lsl 1000 0 es.length 2)) [] [.cells true false 81 (es.flatten.map CV.d)])
  have hsrc:∀ lv,srcA lv 2 (.c (.d (.sl es)))=some (es.length,es.flatten.map CV.d):=fun lv=>srcA_sl h
  refine CallsS.of_AWn Go.Proofs.Tryz.func47 rfl (by rw [Tryz.ntmps47];simp)  ?_
  rintro⟨_,_,w0,F0,W0,_,lv0,β0⟩ rfl rfl rfl rfl
  refine AW.seqK fun K hK=>?_
  refine AW.regionP rfl ?_
  simp
  repeat (refine And.intro (by omega) ?_)
  apply hK;clear hK K
  refine AW.seqK fun K hK=>?_
  refine AW.seqK fun K1 hK1=>?_
  refine AW.regionP rfl ?_
  simp [e2]
  repeat (refine And.intro (by omega) ?_)
  apply hK1;clear hK1 K1
  refine AW.cond (b:=false) (by first|(simp [];done)|(simp [];omega)) ?_
  refine AW.skip ?_
  simp
  repeat (refine And.intro (by omega) ?_)
  apply hK;clear hK K
  refine AW.seqK fun K hK=>?_
  refine AW.regionP rfl ?_
  simp [hsrc,repl,fillA,keyOf,-List.map_flatten]
  repeat (refine And.intro (by omega) ?_)
  apply hK;clear hK K
  refine AW.ret (κ:=0) ⟨[(1000,1,.cells true false 81 (es.flatten.map CV.d))],9,lvOf_n1 _,by simp,by simp,by simp,?_,rfl,?_⟩
  ·intro e he
   rw [List.mem_singleton.1 he]
   exact flat_like 81 es _
  ·show resA _ _ [.tmp 2]=_
   simp [resA,resL,resV,kmap]
set_option maxHeartbeats 1000000 in
theorem cloneN48_ok (G:List (List DV))(o:Option (List (List DV)))(h:∀ e∈sO o,e.length=3)(hl:(sO o).length≤1000000):CallsS Tryz.prog G 48 [.c (scC o)] [] (.ret (.c (.lsl 1000 0 (sO o).length 3)) [] [blS 67 o]):=by
 cases o with
 | none=>exact CallsS.nil_blk (clone48_ok G none h hl)
 | some es=>
  have e2:∀ es,stepBin Tryz.prog .eql 23 (.c (.d (.sl es))) (.c (.d .nilsl))=some (.c (.d (.bool false)),[],[],True):=fun es=>by kernel_rfl
  have h:∀ e∈es,e.length=3:=h
  have hl:es.length≤1000000:=hl
  show CallsS Tryz.prog G 48 [.c (.d (.sl es))] [] (.ret (.c (.lsl 1000 0 es.length 3)) [] [.cells true false 67 (es.flatten.map CV.d)])
  have hsrc:∀ lv,srcA lv 3 (.c (.d (.sl es)))=some (es.length,es.flatten.map CV.d):=fun lv=>srcA_sl h
  refine CallsS.of_AWn Go.Proofs.Tryz.func48 rfl (by rw [Tryz.ntmps48];simp)  ?_
  rintro⟨_,_,w0,F0,W0,_,lv0,β0⟩ rfl rfl rfl rfl
  refine AW.seqK fun K hK=>?_
  refine AW.regionP rfl ?_
  simp
  repeat (refine And.intro (by omega) ?_)
  apply hK;clear hK K
  refine AW.seqK fun K hK=>?_
  refine AW.seqK fun K1 hK1=>?_
  refine AW.regionP rfl ?_
  simp [e2]
  repeat (refine And.intro (by omega) ?_)
  apply hK1;clear hK1 K1
  refine AW.cond (b:=false) (by first|(simp [];done)|(simp [];omega)) ?_
  refine AW.skip ?_
  simp
  repeat (refine And.intro (by omega) ?_)
  apply hK;clear hK K
  refine AW.seqK fun K hK=>?_
  refine AW.regionP rfl ?_
  simp [hsrc,repl,fillA,keyOf,-List.map_flatten]
  repeat (refine And.intro (by omega) ?_)
  apply hK;clear hK K
  refine AW.ret (κ:=0) ⟨[(1000,1,.cells true false 67 (es.flatten.map CV.d))],9,lvOf_n1 _,by simp,by simp,by simp,?_,rfl,?_⟩
  ·intro e he
   rw [List.mem_singleton.1 he]
   exact flat_like 67 es _
  ·show resA _ _ [.tmp 2]=_
   simp [resA,resL,resV,kmap]
set_option maxHeartbeats 1000000 in
theorem cloneN156_ok (G:List (List DV))(o:Option (List (List DV)))(h:∀ e∈sO o,e.length=7)(hl:(sO o).length≤1000000):CallsS Tryz.prog G 156 [.c (scC o)] [] (.ret (.c (.lsl 1000 0 (sO o).length 7)) [] [blS 55 o]):=by
 cases o with
 | none=>exact CallsS.nil_blk (clone156_ok G none h hl)
 | some es=>
  have e2:∀ es,stepBin Tryz.prog .eql 24 (.c (.d (.sl es))) (.c (.d .nilsl))=some (.c (.d (.bool false)),[],[],True):=fun es=>by kernel_rfl
  have h:∀ e∈es,e.length=7:=h
  have hl:es.length≤1000000:=hl
  show CallsS Tryz.prog G 156 [.c (.d (.sl es))] [] (.ret (.c (.lsl 1000 0 es.length 7)) [] [.cells true false 55 (es.flatten.map CV.d)])
  have hsrc:∀ lv,srcA lv 7 (.c (.d (.sl es)))=some (es.length,es.flatten.map CV.d):=fun lv=>srcA_sl h
  refine CallsS.of_AWn Go.Proofs.Tryz.func156 rfl (by rw [Tryz.ntmps156];simp)  ?_
  rintro⟨_,_,w0,F0,W0,_,lv0,β0⟩ rfl rfl rfl rfl
  refine AW.seqK fun K hK=>?_
  refine AW.regionP rfl ?_
  simp
  repeat (refine And.intro (by omega) ?_)
  apply hK;clear hK K
  refine AW.seqK fun K hK=>?_
  refine AW.seqK fun K1 hK1=>?_
  refine AW.regionP rfl ?_
  simp [e2]
  repeat (refine And.intro (by omega) ?_)
  apply hK1;clear hK1 K1
  refine AW.cond (b:=false) (by first|(simp [];done)|(simp [];omega)) ?_
  refine AW.skip ?_
  simp
  repeat (refine And.intro (by omega) ?_)
  apply hK;clear hK K
  refine AW.seqK fun K hK=>?_
  refine AW.regionP rfl ?_
  simp [hsrc,repl,fillA,keyOf,-List.map_flatten]
  repeat (refine And.intro (by omega) ?_)
  apply hK;clear hK K
  refine AW.ret (κ:=0) ⟨[(1000,1,.cells true false 55 (es.flatten.map CV.d))],9,lvOf_n1 _,by simp,by simp,by simp,?_,rfl,?_⟩
  ·intro e he
   rw [List.mem_singleton.1 he]
   exact flat_like 55 es _
  ·show resA _ _ [.tmp 2]=_
   simp [resA,resL,resV,kmap]
set_option maxHeartbeats 1000000 in
theorem cloneN157_ok (G:List (List DV))(o:Option (List (List DV)))(h:∀ e∈sO o,e.length=2)(hl:(sO o).length≤1000000):CallsS Tryz.prog G 157 [.c (scC o)] [] (.ret (.c (.lsl 1000 0 (sO o).length 2)) [] [blS 69 o]):=by
 cases o with
 | none=>exact CallsS.nil_blk (clone157_ok G none h hl)
 | some es=>
  have e2:∀ es,stepBin Tryz.prog .eql 25 (.c (.d (.sl es))) (.c (.d .nilsl))=some (.c (.d (.bool false)),[],[],True):=fun es=>by kernel_rfl
  have h:∀ e∈es,e.length=2:=h
  have hl:es.length≤1000000:=hl
  show CallsS Tryz.prog G 157 [.c (.d (.sl es))] [] (.ret (.c (.lsl 1000 0 es.length 2)) [] [.cells true false 69 (es.flatten.map CV.d)])
  have hsrc:∀ lv,srcA lv 2 (.c (.d (.sl es)))=some (es.length,es.flatten.map CV.d):=fun lv=>srcA_sl h
  refine CallsS.of_AWn Go.Proofs.Tryz.func157 rfl (by rw [Tryz.ntmps157];simp)  ?_
  rintro⟨_,_,w0,F0,W0,_,lv0,β0⟩ rfl rfl rfl rfl
  refine AW.seqK fun K hK=>?_
  refine AW.regionP rfl ?_
  simp
  repeat (refine And.intro (by omega) ?_)
  apply hK;clear hK K
  refine AW.seqK fun K hK=>?_
  refine AW.seqK fun K1 hK1=>?_
  refine AW.regionP rfl ?_
  simp [e2]
  repeat (refine And.intro (by omega) ?_)
  apply hK1;clear hK1 K1
  refine AW.cond (b:=false) (by first|(simp [];done)|(simp [];omega)) ?_
  refine AW.skip ?_
  simp
  repeat (refine And.intro (by omega) ?_)
  apply hK;clear hK K
  refine AW.seqK fun K hK=>?_
  refine AW.regionP rfl ?_
  simp [hsrc,repl,fillA,keyOf,-List.map_flatten]
  repeat (refine And.intro (by omega) ?_)
  apply hK;clear hK K
  refine AW.ret (κ:=0) ⟨[(1000,1,.cells true false 69 (es.flatten.map CV.d))],9,lvOf_n1 _,by simp,by simp,by simp,?_,rfl,?_⟩
  ·intro e he
   rw [List.mem_singleton.1 he]
   exact flat_like 69 es _
  ·show resA _ _ [.tmp 2]=_
   simp [resA,resL,resV,kmap]
end Go.Am

namespace Go.Am
open Go.Am.Ty Go.Proofs N
theorem eqStrT (T:TypeId)(s t:List UInt8):stepBin Tryz.prog .eql T (.c (.d (.str s))) (.c (.d (.str t)))=some (.c (.d (.bool (decide (s=t)))),[],[],True):=by
 rw [← beqD];rfl
theorem b85 (a b c d:CV):buildA Tryz.prog 85 [0,1,2,3] [.c a,.c b,.c c,.c d]=some (.agg [a,b,c,d],[],[],True):=by kernel_rfl
theorem ar85:arT Tryz.prog 85=some (4,3,1):=by kernel_rfl
theorem CallDo.frzZ {c:Ctx}{f:FuncId}{lv:Key→LB}{K:AV→List (Key × LB)→List Key→Nat→Prop}(κ' kh κb:Key) {T:TypeId}{l:List Int}{x:AV}(n:Nat) (hn:n≤l.length) (hl:l.length≤100) (hk:lv κb=.cells true false T (zK l))
 (hc:CallsP c.P c.G f [.c (zC (some (l.take n)))] x) (hx:x.pure=true) (hh:lv kh=.hole) (hkh:kh≠κb) (hK:K x [(κb,.cells true true T (zK l))] [kh] κ'):CallDo c f [.c (.lsl κb 0 n 1)] lv K:=by
 refine CallDo.frz κ' kh κb T (zK l) [kh] hc hx hk hh hkh rfl (fun i p q=>?_) (fun a ha j hj=>?_) (by simp) hK
 ·have hi:i=0:=by simp at p;omega
  subst hi
  right
  have h1:(zK l).take n=zK (l.take n):=by simp [zK,List.map_take]
  have hln:(l.take n).length=n:=by rw [List.length_take];omega
  simp only [List.getElem_cons_zero,dArg,toDV,upd_same,zK_len,Nat.mul_one,Nat.zero_add,List.drop_zero,h1,toDVs_zK,Option.map_some]
  rw [if_pos ⟨hn,by omega⟩]
  have h2:=chunk_one ((l.take n).map fun (x:Int)=>DV.int .i64 x)
  rw [List.length_map,hln] at h2
  simp only [Option.map_some,h2]
  simp [zC,zD]
  rfl
 ·simp only [List.mem_singleton] at ha;subst ha
  simp only [rdA,rdK,List.mem_cons,upd_same] at hj
  rcases hj with rfl|hj
  ·exact .inr rfl
  ·simp only [List.mem_flatMap] at hj
   obtain⟨y,hy,hj⟩:=hj
   simp only [zK,List.mem_map] at hy
   obtain⟨z,_,rfl⟩:=hy
   cases hj
theorem cloneZ_ok (G:List (List DV))(o:Option (List Int))(hl:(zL o).length≤1000000):CallsP Tryz.prog G 97 [.c (zC o)] (.c (zC o)):=by
 rw [zC_scC]
 refine clone97_ok G _ ?_ ?_
 ·cases o with
  | none=>intro e he;cases he
  | some l=>intro e he;simp only [sO,Option.map_some,Option.getD_some,zD,List.mem_map] at he;obtain⟨x,_,rfl⟩:=he;rfl
 ·cases o with
  | none=>simp [sO]
  | some l=>simpa [sO,zD,zL] using hl
theorem kidsN_le (op:Int):kidsN op≤4:=by unfold kidsN;(repeat' split) <;> omega
theorem usedN_le (op:Int):usedN op≤4:=by have:=kidsN_le op;unfold usedN;split <;> omega
theorem Nd.l4_len (n:Nd):n.l4.length=4:=rfl
theorem kidsO_L (n:Nd):zL (kidsO n)=kidsL n:=by unfold kidsO kidsL;split <;> rfl
set_option maxHeartbeats 1000000 in
theorem Kids_ok (m:Int)(n:Nd):CallsP Tryz.prog (GG m) 35 [n.A] (.c (zC (kidsO n))):=by
 have hkn:=known_ok (GG m) n.op
 by_cases hk:1≤n.op∧n.op≤15
 ·obtain⟨rest,hix⟩:=ixU hk.1 hk.2
  have hcl:=cloneZ_ok (GG m) (some (n.l4.take (kidsN n.op))) (by simp only [zL,Option.getD_some,List.length_take,Nd.l4_len];omega)
  have hko:kidsO n=some (n.l4.take (kidsN n.op)):=by unfold kidsO;rw [if_pos hk]
  have hle:=kidsN_le n.op
  rw [hko]
  have hd:decide (1≤n.op∧n.op≤15)=true:=decide_eq_true hk
  rw [hd] at hkn
  generalize kidsN n.op=kk at *
  refine CallsP.of_AW Go.Proofs.Tryz.func35 rfl (by rw [Tryz.ntmps35];simp) ?_
  rintro⟨_,_,w0,F0,W0,_,lv0,β0⟩ rfl rfl rfl
  refine AW.seqK fun K hK=>?_
  refine AW.regionP rfl ?_
  simp
  repeat (refine And.intro (by omega) ?_)
  apply hK;clear hK K
  refine AW.seqK fun K hK=>?_
  refine AW.seqK fun K1 hK1=>?_
  refine AW.regionP rfl ?_
  simp
  refine CallDo.pure 1 9 (hkn) (by first|(simp;done)|rfl) (by simp) (by first|rfl|simp) ?_
  simp
  repeat (refine And.intro (by omega) ?_)
  apply hK1;clear hK1 K1
  refine AW.cond (b:=false) (by first|(simp [];done)|(simp [];omega)) ?_
  refine AW.skip ?_
  simp
  repeat (refine And.intro (by omega) ?_)
  apply hK;clear hK K
  refine AW.seqK fun K hK=>?_
  refine AW.regionP rfl ?_
  simp [b85,setSeg]
  repeat (refine And.intro (by omega) ?_)
  apply hK;clear hK K
  refine AW.seqK fun K hK=>?_
  refine AW.regionX ?_
  refine ChX.run 5 rfl ?_
  simp [GG1,hix]
  refine ChX.stepN (x:=.c (.lsl 1 0 kk 1)) (us:=[]) (rds:=[1]) 2 rfl rfl ?_ ?_
  ·simp [Am.stepN,Op.operands,bnds,nSlice,ar85]
   omega
  refine ChX.run 2 rfl ?_
  simp []
  refine CallDo.frzZ (l:=n.l4) (T:=85) 2 9 1 kk hle (by simp [Nd.l4_len]) rfl hcl (by simp) (by simp) (by decide) ?_
  simp
  refine ChX.done ?_
  repeat (refine And.intro (by omega) ?_)
  apply hK;clear hK K
  exact AW.ret (κ:=0) (FinP.tmp (κ:=0) rfl 2 (by simp []) (by first|rfl|simp) (by first|rfl|simp) (by first|rfl|simp))
 ·have hko:kidsO n=none:=by unfold kidsO;rw [if_neg hk]
  have hd:decide (1≤n.op∧n.op≤15)=false:=decide_eq_false hk
  rw [hd] at hkn
  rw [hko]
  refine CallsP.of_AW Go.Proofs.Tryz.func35 rfl (by rw [Tryz.ntmps35];simp) ?_
  rintro⟨_,_,w0,F0,W0,_,lv0,β0⟩ rfl rfl rfl
  refine AW.seqK fun K hK=>?_
  refine AW.regionP rfl ?_
  simp
  repeat (refine And.intro (by omega) ?_)
  apply hK;clear hK K
  refine AW.seqK fun K hK=>?_
  refine AW.seqK fun K1 hK1=>?_
  refine AW.regionP rfl ?_
  simp
  refine CallDo.pure 1 9 (hkn) (by first|(simp;done)|rfl) (by simp) (by first|rfl|simp) ?_
  simp
  repeat (refine And.intro (by omega) ?_)
  apply hK1;clear hK1 K1
  refine AW.cond (b:=true) (by first|(simp [];done)|(simp [];omega)) ?_
  refine AW.seqK fun K1 hK1=>?_
  refine AW.regionP rfl ?_
  simp
  repeat (refine And.intro (by omega) ?_)
  apply hK1;clear hK1 K1
  exact AW.ret (κ:=0) (FinP.tmp (κ:=0) rfl 2 (by simp [zC]) (by first|rfl|simp) (by first|rfl|simp) (by first|rfl|simp))
set_option maxHeartbeats 2000000 in
theorem idle_ok (m:Int)(n:Nd)(h1:1≤n.op)(h2:n.op≤15):CallsP Tryz.prog (GG m) 162 [n.A] (.c (.d (.bool (idleB n)))):=by
 obtain⟨rest,hix⟩:=ixU h1 h2
 have hle:=usedN_le n.op
 have hib:idleB n=((n.l4.drop (usedN n.op)).all (fun x=>decide (x=0)) && (decide (n.v=[]) || decide (n.op=3))):=rfl
 have hzk:[CV.d (.int .i64 n.a),.d (.int .i64 n.b),.d (.int .i64 n.c),.d (.int .i64 n.d)]=zK n.l4:=rfl
 have fin:(n.l4.drop (usedN n.op)).all (fun x=>decide (x=0))=true→idleB n=(decide (n.v=[]) || decide (n.op=3)):=by intro h;rw [hib,h];rfl
 have lp0:∀ lv,lenP Tryz.prog 30 lv (.c (.d (.sl [])))=some (.c (.d (.int .i64 0)),[],[],True):=fun lv=>lpZ (T:=30) (by simp) lv (some [])
 refine CallsP.of_AW Go.Proofs.Tryz.func162 rfl (by rw [Tryz.ntmps162];simp) ?_
 rintro⟨_,_,w0,F0,W0,_,lv0,β0⟩ rfl rfl rfl
 refine AW.seqK fun K hK=>?_
 refine AW.regionP rfl ?_
 simp
 repeat (refine And.intro (by omega) ?_)
 apply hK;clear hK K
 refine AW.seqK fun K hK=>?_
 refine AW.regionP rfl ?_
 simp [b85,setSeg]
 repeat (refine And.intro (by omega) ?_)
 apply hK;clear hK K
 refine AW.seqK fun K hK=>?_
 have tail:∀ (fr:Nat→AV) (κ:Nat) (lv:Key→LB),fr 1=.c (.ptr 0 0)→lv 0=.cells true false 55 [.d (.int .i64 n.op),.d (.int .i64 n.a),.d (.int .i64 n.b),.d (.int .i64 n.c),.d (.int .i64 n.d),.d (.int .i64 n.f),.d (.str n.v)]→lv 9=.hole →
  (n.l4.drop (usedN n.op)).all (fun x=>decide (x=0))=true→K ⟨fr,lv⟩ κ:=by
  intro fr κ lv z1 hl0 h9 hall
  have hf:=fin hall
  repeat (refine And.intro (by omega) ?_)
  apply hK
  by_cases hv:n.v=[]
  ·refine AW.seqK fun K3 hK3=>?_
   refine AW.regionP rfl ?_
   simp [z1,hl0,eqStrT,hv]
   repeat (refine And.intro (by omega) ?_)
   apply hK3;clear hK3 K3
   exact AW.ret (κ:=0) (FinP.tmp (κ:=0) rfl 9 (by simp [hf,hv]) rfl (by simp [h9]) rfl)
  ·refine AW.seqK fun K3 hK3=>?_
   refine AW.regionP rfl ?_
   simp [z1,hl0,eqStrT,hv]
   repeat (refine And.intro (by omega) ?_)
   apply hK3;clear hK3 K3
   exact AW.ret (κ:=0) (FinP.tmp (κ:=0) rfl 9 (by simp [hf,hv]) rfl (by simp [h9]) rfl)
 refine AW.seqK fun K1 hK1=>?_
 by_cases hu:usedN n.op=4
 ·refine AW.regionX ?_
  refine ChX.run 5 rfl ?_
  simp [GG1,hix]
  refine ChX.sliceE (κ:=1) (off:=0) (n:=4) (e:=3) (sz:=1) (l:=4) (own:=true) (fz:=false) (T':=85) 2 rfl rfl rfl (by simp) (by simp;rfl) ar85 (by simp [hu]) (by simp) (by decide) (by decide) ?_
  refine ChX.run 2 rfl ?_
  simp [lp0]
  refine ChX.done ?_
  repeat (refine And.intro (by omega) ?_)
  apply hK1;clear hK1 K1
  refine AW.block ?_
  refine AW.loopV (fun (_:Unit)=>⟨frOf [(1,.c (.ptr 0 0)),(20,.c (.d (.sl []))),(21,.c (.d (.int .i64 0))),(22,.c (.d (.int .i64 0)))],
   upd (upd (fun _=>.hole) 0 (.cells true false 55 [.d (.int .i64 n.op),.d (.int .i64 n.a),.d (.int .i64 n.b),.d (.int .i64 n.c),.d (.int .i64 n.d),.d (.int .i64 n.f),.d (.str n.v)])) 1 (.cells true false 85 (zK n.l4))⟩) 2
   (fun _=>True) (fun _=>0) () (Le.mk' _ rfl (by repeat (first|exact noMap_hole|refine noMap_upd ?_ _ _ _ _ _|(refine noMap_upd_dead ?_ _)|simp)) (by simp)) trivial ?_
  rintro⟨⟩ _
  refine AW.seqK fun K3 hK3=>?_
  refine AW.regionP rfl ?_
  simp
  repeat (refine And.intro (by omega) ?_)
  apply hK3;clear hK3 K3
  refine AW.seqK fun K3 hK3=>?_
  refine AW.cond (b:=false) (by first|(simp [];done)|(simp [];omega)) ?_
  refine AW.exit ?_
  simp
  exact tail _ _ _ (by simp) (by simp) (by simp) (by rw [hu];rfl)
 have hu4:usedN n.op<4:=by omega
 have hdrop:∀ i,i<4 - usedN n.op→usedN n.op+i<n.l4.length:=by intro i hi;rw [Nd.l4_len];omega
 generalize hue:usedN n.op=u at *
 refine AW.regionX ?_
 refine ChX.run 5 rfl ?_
 simp [GG1,hix]
 refine ChX.stepN (x:=.c (.lsl 1 u (4 - u) 1)) (us:=[]) (rds:=[1]) 2 rfl rfl ?_ ?_
 ·simp [Am.stepN,Op.operands,bnds,nSlice,ar85]
  omega
 have e4:((4 - u:Nat):Int)≤9223372036854775807:=by omega
 refine ChX.run 2 rfl ?_
 simp [e4]
 refine ChX.done ?_
 repeat (refine And.intro (by omega) ?_)
 apply hK1;clear hK1 K1
 refine AW.block ?_
 refine AW.loopV (fun (i:Nat)=>⟨frOf [(1,.c (.ptr 0 0)),(20,.c (.lsl 1 u (4 - u) 1)),(21,.c (.d (.int .i64 (4 - u:Nat)))),(22,.c (.d (.int .i64 i)))],
  upd (upd (fun _=>.hole) 0 (.cells true false 55 [.d (.int .i64 n.op),.d (.int .i64 n.a),.d (.int .i64 n.b),.d (.int .i64 n.c),.d (.int .i64 n.d),.d (.int .i64 n.f),.d (.str n.v)])) 1 (.cells true false 85 (zK n.l4))⟩) 2
  (fun i=>i≤4 - u∧∀ j (hj:j<i) (h:u+j<n.l4.length),n.l4[u+j]=0) (fun i=>4 - u - i) 0 (Le.mk' _ rfl (by repeat (first|exact noMap_hole|refine noMap_upd ?_ _ _ _ _ _|(refine noMap_upd_dead ?_ _)|simp)) (by simp)) ⟨by omega,fun j hj=>absurd hj (Nat.not_lt_zero j)⟩ ?_
 rintro i ⟨hi,hall⟩
 try simp only at hi hall
 refine AW.seqK fun K3 hK3=>?_
 refine AW.regionP rfl ?_
 simp
 repeat (refine And.intro (by omega) ?_)
 apply hK3;clear hK3 K3
 refine AW.seqK fun K2 hK2=>?_
 by_cases hlt:i<4 - u
 ·have hlt':(i:Int)<((4 - u:Nat):Int):=by omega
  refine AW.cond (b:=true) (by first|(simp [hlt'];done)|(simp [hlt'];omega)) ?_
  refine AW.skip ?_
  simp
  repeat (refine And.intro (by omega) ?_)
  apply hK2
  refine AW.seqK fun K3 hK3=>?_
  refine AW.block ?_
  refine AW.seqK fun K4 hK4=>?_
  have hx:=zK_load (P:=Tryz.prog) (T:=3) (by simp) (hdrop i hlt)
  refine AW.regionP rfl ?_
  simp [hlt',hx]
  repeat (refine And.intro (by omega) ?_)
  apply hK4;clear hK4 K4
  refine AW.seqK fun K4 hK4=>?_
  refine AW.regionP rfl ?_
  simp
  repeat (refine And.intro (by omega) ?_)
  apply hK4;clear hK4 K4
  by_cases h0:n.l4[u+i]'(hdrop i hlt)=0
  ·refine AW.cond (b:=false) (by first|(simp [h0];done)|(simp [h0];omega)) ?_
   refine AW.skip ?_
   simp
   repeat (refine And.intro (by omega) ?_)
   apply hK3
   have f12:=w64 (n:=(i:Int)+1) (by omega) (by omega)
   refine AW.regionP rfl ?_
   simp [f12]
   refine⟨i+1,Le.mk' _ (by simp) (by repeat (first|exact noMap_hole|refine noMap_upd ?_ _ _ _ _ _|(refine noMap_upd_dead ?_ _)|simp)) (by simp),⟨by omega,fun j hj h=>?_⟩,by omega⟩
   by_cases hji:j=i
   ·subst hji;exact h0
   ·exact hall j (by omega) h
  ·refine AW.cond (b:=true) (by first|(simp [h0];done)|(simp [h0];omega)) ?_
   refine AW.seqK fun K4 hK4=>?_
   refine AW.regionP rfl ?_
   simp
   repeat (refine And.intro (by omega) ?_)
   apply hK4;clear hK4 K4
   have hb:idleB n=false:=by
    rw [hib]
    have:(n.l4.drop u).all (fun x=>decide (x=0))=false:=by
     rw [List.all_eq_false]
     refine⟨n.l4[u+i]'(hdrop i hlt),?_,by simpa using h0⟩
     rw [List.mem_iff_getElem]
     exact⟨i,by rw [List.length_drop,Nd.l4_len];omega,by simp⟩
    rw [this];rfl
   exact AW.ret (κ:=0) (FinP.tmp (κ:=0) rfl 2 (by simp [hb]) (by first|rfl|simp) (by first|rfl|simp) (by first|rfl|simp))
 ·have hlt':¬ (i:Int)<((4 - u:Nat):Int):=by omega
  refine AW.cond (b:=false) (by first|(simp [hlt'];done)|(simp [hlt'];omega)) ?_
  refine AW.exit ?_
  simp
  refine tail _ _ _ (by simp) (by simp) (by simp) ?_
  rw [List.all_eq_true]
  intro x hx
  obtain⟨j,hj,rfl⟩:=List.mem_iff_getElem.1 hx
  rw [List.length_drop,Nd.l4_len] at hj
  have:=hall j (by omega) (by rw [Nd.l4_len];omega)
  simpa using this
end Go.Am

namespace Go.Am
open Go.Am.Ty Go.Proofs N
theorem format_ok (G:List (List DV))(p:PD)(hp:p.ok)(i:Nat)(hi:i<p.nf):CallsP Tryz.prog G 83 [p.A,.c (.d (.int .i64 i))] (.c (.d (.int .i64 (partE p 0 i)))):=by
 have hx:=fun lv=>ixF hp lv (i:Int) (by omega) (by omega)
 have hc:=floatsCheck_ok G (p.fm i).1 (p.fm i).2
 simp only [Int.toNat_natCast] at hx
 refine CallsP.of_AW Go.Proofs.Tryz.func83 rfl (by rw [Tryz.ntmps83];simp) ?_
 rintro⟨_,_,w0,F0,W0,_,lv0,β0⟩ rfl rfl rfl
 refine AW.seqK fun K hK=>?_
 refine AW.regionP rfl ?_
 simp
 repeat (refine And.intro (by omega) ?_)
 apply hK;clear hK K
 refine AW.seqK fun K hK=>?_
 refine AW.regionP rfl ?_
 simp [hx]
 refine CallDo.pure 1 9 (hc) (by first|(simp;done)|rfl) (by simp) (by first|rfl|simp) ?_
 simp
 repeat (refine And.intro (by omega) ?_)
 apply hK;clear hK K
 exact AW.ret (κ:=0) (FinP.tmp (κ:=0) rfl 4 (by simp [partE]) (by first|rfl|simp) (by first|rfl|simp) (by first|rfl|simp))
theorem kidsL_len (n:Nd):(kidsL n).length≤4:=by
 have:=kidsN_le n.op
 unfold kidsL
 split
 ·rw [List.length_take,Nd.l4_len];omega
 ·exact Nat.zero_le _
theorem ndAt (p:PD)(lv:Key→LB)(hp:p.ok)(i:Nat)(hi:i<p.nn):stepIndexAddr Tryz.prog 24 lv (.c (scC p.nodes)) (.c (.d (.int .i64 (i:Int))))=some (.c (.d (.ptr (p.nd i).e)),[],[],True):=by
 have:=ixN hp lv (i:Int) (by omega) (by omega)
 rwa [Int.toNat_natCast] at this
set_option maxHeartbeats 8000000 in
set_option maxRecDepth 20000 in
theorem node_ok (m:Int)(p:PD)(hp:p.ok)(i:Nat)(hi:i<p.nn)(hn2:p.nn≤1000):CallsP Tryz.prog (GG m) 85 [p.A,.c (.d (.int .i64 i))] (.c (.d (.int .i64 (partE p 2 i)))):=by
 have hx:=fun lv=>ndAt p lv hp i hi
 have hE:partE p 2 i=ndE p i (p.nd i):=rfl
 rw [hE]
 obtain⟨n,hn⟩:∃ n,p.nd i=n:=⟨_,rfl⟩
 simp only [hn] at hx ⊢
 have hkn:=known_ok (GG m) n.op
 have hwf:=within_ok (GG m) n.f p.nf
 have hwa:=within_ok (GG m) n.a p.ni
 have hws:=within_ok (GG m) n.a p.ns
 have lvN:List CV:=[.d (.int .i64 n.op),.d (.int .i64 n.a),.d (.int .i64 n.b),.d (.int .i64 n.c),.d (.int .i64 n.d),.d (.int .i64 n.f),.d (.str n.v)]
 refine CallsP.of_AW Go.Proofs.Tryz.func85 rfl (by rw [Tryz.ntmps85];simp) ?_
 rintro⟨_,_,w0,F0,W0,_,lv0,β0⟩ rfl rfl rfl
 refine AW.seqK fun K hK=>?_
 refine AW.regionP rfl ?_
 simp
 repeat (refine And.intro (by omega) ?_)
 apply hK;clear hK K
 refine AW.seqK fun K hK=>?_
 refine AW.regionP rfl ?_
 simp [hx,setSeg]
 repeat (refine And.intro (by omega) ?_)
 apply hK;clear hK K
 refine AW.seqK fun K hK=>?_
 refine AW.block ?_
 refine AW.seqK fun K1 hK1=>?_
 by_cases h1:1≤n.op∧n.op≤15
 rotate_left
 ·have hd:decide (1≤n.op∧n.op≤15)=false:=decide_eq_false h1
  have hr:ndE p i n=2:=by unfold ndE;rw [if_pos h1]
  rw [hd] at hkn
  refine AW.regionP rfl ?_
  simp
  refine CallDo.pure 2 9 (hkn) (by first|(simp;done)|rfl) (by simp) (by first|rfl|simp) ?_
  simp
  repeat (refine And.intro (by omega) ?_)
  apply hK1;clear hK1 K1
  refine AW.cond (b:=true) (by first|(simp [];done)|(simp [];omega)) ?_
  refine AW.seqK fun K1 hK1=>?_
  refine AW.regionP rfl ?_
  simp
  repeat (refine And.intro (by omega) ?_)
  apply hK1;clear hK1 K1
  exact AW.ret (κ:=0) (FinP.tmp (κ:=0) rfl 4 (by simp [hr]) (by first|rfl|simp) (by first|rfl|simp) (by first|rfl|simp))
 have hid:=idle_ok m n h1.1 h1.2
 have hd:decide (1≤n.op∧n.op≤15)=true:=decide_eq_true h1
 rw [hd] at hkn
 cases hib:idleB n with
 | false=>
  have hr:ndE p i n=2:=by unfold ndE;rw [if_neg (not_not_intro h1),if_pos hib]
  rw [hib] at hid
  refine AW.regionP rfl ?_
  simp
  refine CallDo.pure 2 9 (hkn) (by first|(simp;done)|rfl) (by simp) (by first|rfl|simp) ?_
  simp
  refine CallDo.pure 2 9 (hid) (by first|(simp;done)|rfl) (by simp) (by first|rfl|simp) ?_
  simp
  repeat (refine And.intro (by omega) ?_)
  apply hK1;clear hK1 K1
  refine AW.cond (b:=true) (by first|(simp [];done)|(simp [];omega)) ?_
  refine AW.seqK fun K1 hK1=>?_
  refine AW.regionP rfl ?_
  simp
  repeat (refine And.intro (by omega) ?_)
  apply hK1;clear hK1 K1
  exact AW.ret (κ:=0) (FinP.tmp (κ:=0) rfl 4 (by simp [hr]) (by first|rfl|simp) (by first|rfl|simp) (by first|rfl|simp))
 | true=>
 rw [hib] at hid
 have ib:¬ idleB n=false:=by rw [hib];decide
 refine AW.regionP rfl ?_
 simp
 refine CallDo.pure 2 9 (hkn) (by first|(simp;done)|rfl) (by simp) (by first|rfl|simp) ?_
 simp
 refine CallDo.pure 2 9 (hid) (by first|(simp;done)|rfl) (by simp) (by first|rfl|simp) ?_
 simp
 repeat (refine And.intro (by omega) ?_)
 apply hK1;clear hK1 K1
 refine AW.cond (b:=false) (by first|(simp [];done)|(simp [];omega)) ?_
 refine AW.seqK fun K1 hK1=>?_
 by_cases h2:0≤n.f∧n.f<p.nf
 rotate_left
 ·have hd2:decide (0≤n.f∧n.f<(p.nf:Int))=false:=decide_eq_false h2
  have hr:ndE p i n=7:=by unfold ndE;rw [if_neg (not_not_intro h1),if_neg ib,if_pos h2]
  rw [hd2] at hwf
  refine AW.regionP rfl ?_
  simp [lpF]
  refine CallDo.pure 2 9 (hwf) (by first|(simp;done)|rfl) (by simp) (by first|rfl|simp) ?_
  simp
  repeat (refine And.intro (by omega) ?_)
  apply hK1;clear hK1 K1
  refine AW.cond (b:=true) (by first|(simp [];done)|(simp [];omega)) ?_
  refine AW.seqK fun K1 hK1=>?_
  refine AW.regionP rfl ?_
  simp
  repeat (refine And.intro (by omega) ?_)
  apply hK1;clear hK1 K1
  exact AW.ret (κ:=0) (FinP.tmp (κ:=0) rfl 4 (by simp [hr]) (by first|rfl|simp) (by first|rfl|simp) (by first|rfl|simp))
 have hd2:decide (0≤n.f∧n.f<(p.nf:Int))=true:=decide_eq_true h2
 rw [hd2] at hwf
 refine AW.regionP rfl ?_
 simp [lpF]
 refine CallDo.pure 2 9 (hwf) (by first|(simp;done)|rfl) (by simp) (by first|rfl|simp) ?_
 simp
 repeat (refine And.intro (by omega) ?_)
 apply hK1;clear hK1 K1
 refine AW.cond (b:=false) (by first|(simp [];done)|(simp [];omega)) ?_
 have r2:ndE p i n=if n.op=1∧¬ (0≤n.a∧n.a<p.ni) then 7 else if n.op=1∧(p.inp n.a.toNat).f≠n.f then 143 else if n.op=2∧((i:Int)<p.head∨¬ (0≤n.a∧n.a<p.ns)) then 7 else if n.op=3 then ratE n.v else if (kidsL n).all (seesB p i) then 0 else 7:=by
  unfold ndE;rw [if_neg (not_not_intro h1),if_neg ib,if_neg (not_not_intro h2)]
 have tail:∀ (fr:Nat→AV) (κ:Nat),fr 1=.c (.d (.int .i64 i))→fr 2=.c (.ptr 0 0)→fr 5=.c (.ptr 1 0)→(ndE p i n=if (kidsL n).all (seesB p i) then 0 else 7) →
  K ⟨fr,upd (upd (fun _=>.hole) 0 (.cells true false 154 p.cs)) 1 (.cells true false 55 [.d (.int .i64 n.op),.d (.int .i64 n.a),.d (.int .i64 n.b),.d (.int .i64 n.c),.d (.int .i64 n.d),.d (.int .i64 n.f),.d (.str n.v)])⟩ κ:=by
  intro fr κ z1 z2 z5 hr
  have hks:=Kids_ok m n
  have hkl:=kidsL_len n
  have lpk:∀ lv,lenP Tryz.prog 30 lv (.c (zC (kidsO n)))=some (.c (.d (.int .i64 (kidsL n).length)),[],[],True):=fun lv=>by rw [lpZ (by simp),kidsO_L]
  have ixk:∀ lv (j:Nat) (hj:j<(kidsL n).length),stepIndexAddr Tryz.prog 30 lv (.c (zC (kidsO n))) (.c (.d (.int .i64 (j:Int))))=some (.c (.d (.ptr [.int .i64 (kidsL n)[j]])),[],[],True):=fun lv j hj=>by
   rw [ixZ (by simp) lv _ (by rw [kidsO_L];exact hj)]
   simp only [kidsO_L]
  generalize kidsO n=ko at *
  generalize kidsL n=kl at *
  repeat (refine And.intro (by omega) ?_)
  apply hK
  refine AW.seqK fun K3 hK3=>?_
  refine AW.seqK fun K4 hK4=>?_
  refine AW.regionP rfl ?_
  simp [z5]
  refine CallDo.pure 2 9 (hks) (by first|(simp;done)|rfl) (by simp) (by first|rfl|simp) ?_
  simp [lpk]
  repeat (refine And.intro (by omega) ?_)
  apply hK4;clear hK4 K4
  refine AW.block ?_
  refine AW.loopV (fun (j:Nat)=>⟨frOf [(1,.c (.d (.int .i64 i))),(2,.c (.ptr 0 0)),(93,.c (zC ko)),(94,.c (.d (.int .i64 kl.length))),(95,.c (.d (.int .i64 j)))],
   upd (upd (fun _=>.hole) 0 (.cells true false 154 p.cs)) 1 (.cells true false 55 [.d (.int .i64 n.op),.d (.int .i64 n.a),.d (.int .i64 n.b),.d (.int .i64 n.c),.d (.int .i64 n.d),.d (.int .i64 n.f),.d (.str n.v)])⟩) 2
   (fun j=>j≤kl.length∧∀ q (hq:q<j) (h:q<kl.length),seesB p i kl[q]=true) (fun j=>kl.length - j) 0 (Le.mk' _ (by simp) (by repeat (first|exact noMap_hole|refine noMap_upd ?_ _ _ _ _ _|(refine noMap_upd_dead ?_ _)|(refine noMap_blS ?_ _ _ _)|(refine noMap_upd_nils ?_ _)|simp)) (by simp [z1,z2])) ⟨Nat.zero_le _,fun q hq=>absurd hq (Nat.not_lt_zero q)⟩ ?_
  rintro j ⟨hj,hall⟩
  try simp only at hj hall
  refine AW.seqK fun K5 hK5=>?_
  refine AW.regionP rfl ?_
  simp
  repeat (refine And.intro (by omega) ?_)
  apply hK5;clear hK5 K5
  refine AW.seqK fun K6 hK6=>?_
  by_cases hlt:j<kl.length
  ·have hlt':(j:Int)<(kl.length:Int):=by omega
   refine AW.cond (b:=true) (by first|(simp [hlt'];done)|(simp [hlt'];omega)) ?_
   refine AW.skip ?_
   simp
   repeat (refine And.intro (by omega) ?_)
   apply hK6
   refine AW.seqK fun K7 hK7=>?_
   refine AW.block ?_
   refine AW.seqK fun K8 hK8=>?_
   have hxk:=fun lv=>ixk lv j hlt
   refine AW.regionP rfl ?_
   simp [hxk]
   repeat (refine And.intro (by omega) ?_)
   apply hK8;clear hK8 K8
   refine AW.seqK fun K8 hK8=>?_
   have hse:=sees_ok (GG m) p i kl[j]
   refine AW.regionP rfl ?_
   simp
   refine CallDo.pure 2 9 (hse) (by first|(simp;done)|rfl) (by simp) (by first|rfl|simp) ?_
   simp
   repeat (refine And.intro (by omega) ?_)
   apply hK8;clear hK8 K8
   cases hs:seesB p i kl[j] with
   | true=>
    refine AW.cond (b:=false) (by first|(simp [];done)|(simp [];omega)) ?_
    refine AW.skip ?_
    simp
    repeat (refine And.intro (by omega) ?_)
    apply hK7
    have f12:=w64 (n:=(j:Int)+1) (by omega) (by omega)
    refine AW.regionP rfl ?_
    simp [f12]
    refine⟨j+1,Le.mk' _ (by simp) (by repeat (first|exact noMap_hole|refine noMap_upd ?_ _ _ _ _ _|(refine noMap_upd_dead ?_ _)|(refine noMap_blS ?_ _ _ _)|(refine noMap_upd_nils ?_ _)|simp)) (by simp),⟨by omega,fun q hq h=>?_⟩,by omega⟩
    by_cases hji:q=j
    ·subst hji;exact hs
    ·exact hall q (by omega) h
   | false=>
    refine AW.cond (b:=true) (by first|(simp [];done)|(simp [];omega)) ?_
    refine AW.seqK fun K8 hK8=>?_
    refine AW.regionP rfl ?_
    simp
    repeat (refine And.intro (by omega) ?_)
    apply hK8;clear hK8 K8
    have hb:ndE p i n=7:=by
     rw [hr,if_neg]
     rw [Bool.not_eq_true,List.all_eq_false]
     exact⟨kl[j],List.getElem_mem hlt,by rw [hs];decide⟩
    exact AW.ret (κ:=0) (FinP.tmp (κ:=0) rfl 4 (by simp [hb]) (by first|rfl|simp) (by first|rfl|simp) (by first|rfl|simp))
  ·have hlt':¬ (j:Int)<(kl.length:Int):=by omega
   refine AW.cond (b:=false) (by first|(simp [hlt'];done)|(simp [hlt'];omega)) ?_
   refine AW.exit ?_
   simp
   repeat (refine And.intro (by omega) ?_)
   apply hK3
   have hb:ndE p i n=0:=by
    rw [hr,if_pos]
    rw [List.all_eq_true]
    intro x hx
    obtain⟨q,hq,rfl⟩:=List.mem_iff_getElem.1 hx
    exact hall q (by omega) hq
   refine AW.seqK fun K5 hK5=>?_
   refine AW.regionP rfl ?_
   simp
   repeat (refine And.intro (by omega) ?_)
   apply hK5;clear hK5 K5
   exact AW.ret (κ:=0) (FinP.tmp (κ:=0) rfl 4 (by simp [hb]) (by first|rfl|simp) (by first|rfl|simp) (by first|rfl|simp))
 by_cases h3:n.op=1
 ·have n2:¬ n.op=2:=by omega
  have n3:¬ n.op=3:=by omega
  have t3:(n.op=1)=True:=eq_true h3
  by_cases h4:0≤n.a∧n.a<p.ni
  rotate_left
  ·have hd4:decide (0≤n.a∧n.a<(p.ni:Int))=false:=decide_eq_false h4
   have hr:ndE p i n=7:=by rw [r2,if_pos ⟨h3,h4⟩]
   rw [hd4] at hwa
   refine AW.seqK fun K1 hK1=>?_
   refine AW.regionP rfl ?_
   simp [t3,lpI]
   refine CallDo.pure 2 9 (hwa) (by first|(simp;done)|rfl) (by simp) (by first|rfl|simp) ?_
   simp [t3]
   repeat (refine And.intro (by omega) ?_)
   apply hK1;clear hK1 K1
   refine AW.cond (b:=true) (by first|(simp [];done)|(simp [];omega)) ?_
   refine AW.seqK fun K1 hK1=>?_
   refine AW.regionP rfl ?_
   simp
   repeat (refine And.intro (by omega) ?_)
   apply hK1;clear hK1 K1
   exact AW.ret (κ:=0) (FinP.tmp (κ:=0) rfl 4 (by simp [hr]) (by first|rfl|simp) (by first|rfl|simp) (by first|rfl|simp))
  have hd4:decide (0≤n.a∧n.a<(p.ni:Int))=true:=decide_eq_true h4
  rw [hd4] at hwa
  have hxi:=fun lv=>ixI hp lv n.a h4.1 h4.2
  refine AW.seqK fun K1 hK1=>?_
  refine AW.regionP rfl ?_
  simp [t3,lpI]
  refine CallDo.pure 2 9 (hwa) (by first|(simp;done)|rfl) (by simp) (by first|rfl|simp) ?_
  simp [t3]
  repeat (refine And.intro (by omega) ?_)
  apply hK1;clear hK1 K1
  refine AW.cond (b:=false) (by first|(simp [];done)|(simp [];omega)) ?_
  refine AW.seqK fun K1 hK1=>?_
  by_cases h5:(p.inp n.a.toNat).f=n.f
  ·have hr:ndE p i n=if (kidsL n).all (seesB p i) then 0 else 7:=by
    rw [r2,if_neg (fun h=>h.2 h4),if_neg (fun h=>h.2 h5),if_neg (fun h=>n2 h.1),if_neg n3]
   refine AW.drawQ mixed (by kernel_rfl) rfl rfl ?_
   simp [t3,hxi,h5]
   repeat (refine And.intro (by omega) ?_)
   apply hK1;clear hK1 K1
   refine AW.cond (b:=false) (by first|(simp [];done)|(simp [];omega)) ?_
   refine AW.seqK fun K1 hK1=>?_
   refine AW.regionP rfl ?_
   simp [n2]
   repeat (refine And.intro (by omega) ?_)
   apply hK1;clear hK1 K1
   refine AW.cond (b:=false) (by first|(simp [];done)|(simp [];omega)) ?_
   refine AW.seqK fun K1 hK1=>?_
   refine AW.regionP rfl ?_
   simp [n3]
   repeat (refine And.intro (by omega) ?_)
   apply hK1;clear hK1 K1
   refine AW.cond (b:=false) (by first|(simp [];done)|(simp [];omega)) ?_
   refine AW.skip ?_
   simp
   exact tail _ _ (by simp) (by simp) (by simp) hr
  ·have hr:ndE p i n=143:=by rw [r2,if_neg (fun h=>h.2 h4),if_pos ⟨h3,h5⟩]
   refine AW.drawQ mixed (by kernel_rfl) rfl rfl ?_
   simp [t3,hxi,h5]
   repeat (refine And.intro (by omega) ?_)
   apply hK1;clear hK1 K1
   refine AW.cond (b:=true) (by first|(simp [];done)|(simp [];omega)) ?_
   refine AW.seqK fun K1 hK1=>?_
   refine AW.regionP rfl ?_
   simp
   repeat (refine And.intro (by omega) ?_)
   apply hK1;clear hK1 K1
   exact AW.ret (κ:=0) (FinP.tmp (κ:=0) rfl 4 (by simp [hr]) (by first|rfl|simp) (by first|rfl|simp) (by first|rfl|simp))
 refine AW.seqK fun K1 hK1=>?_
 refine AW.regionP rfl ?_
 simp [h3]
 repeat (refine And.intro (by omega) ?_)
 apply hK1;clear hK1 K1
 refine AW.cond (b:=false) (by first|(simp [];done)|(simp [];omega)) ?_
 refine AW.seqK fun K1 hK1=>?_
 refine AW.drawQ mixed (by kernel_rfl) rfl rfl ?_
 simp [h3]
 repeat (refine And.intro (by omega) ?_)
 apply hK1;clear hK1 K1
 refine AW.cond (b:=false) (by first|(simp [];done)|(simp [];omega)) ?_
 have r3:ndE p i n=if n.op=2∧((i:Int)<p.head∨¬ (0≤n.a∧n.a<p.ns)) then 7 else if n.op=3 then ratE n.v else if (kidsL n).all (seesB p i) then 0 else 7:=by
  rw [r2,if_neg (fun h=>h3 h.1),if_neg (fun h=>h3 h.1)]
 refine AW.seqK fun K1 hK1=>?_
 by_cases h6:n.op=2
 ·have n3:¬ n.op=3:=by omega
  have t6:(n.op=2)=True:=eq_true h6
  by_cases h7:(i:Int)<p.head
  ·have hr:ndE p i n=7:=by rw [r3,if_pos ⟨h6,.inl h7⟩]
   refine AW.regionP rfl ?_
   simp [t6,h7]
   repeat (refine And.intro (by omega) ?_)
   apply hK1;clear hK1 K1
   refine AW.cond (b:=true) (by first|(simp [];done)|(simp [];omega)) ?_
   refine AW.seqK fun K1 hK1=>?_
   refine AW.regionP rfl ?_
   simp
   repeat (refine And.intro (by omega) ?_)
   apply hK1;clear hK1 K1
   exact AW.ret (κ:=0) (FinP.tmp (κ:=0) rfl 4 (by simp [hr]) (by first|rfl|simp) (by first|rfl|simp) (by first|rfl|simp))
  by_cases h8:0≤n.a∧n.a<p.ns
  ·have hd8:decide (0≤n.a∧n.a<(p.ns:Int))=true:=decide_eq_true h8
   rw [hd8] at hws
   have hr:ndE p i n=if (kidsL n).all (seesB p i) then 0 else 7:=by
    rw [r3,if_neg (fun h=>h.2.elim h7 (fun h=>h h8)),if_neg n3]
   refine AW.regionP rfl ?_
   simp [t6,h7,lpS]
   refine CallDo.pure 2 9 (hws) (by first|(simp;done)|rfl) (by simp) (by first|rfl|simp) ?_
   simp [t6,h7]
   repeat (refine And.intro (by omega) ?_)
   apply hK1;clear hK1 K1
   refine AW.cond (b:=false) (by first|(simp [];done)|(simp [];omega)) ?_
   refine AW.seqK fun K1 hK1=>?_
   refine AW.regionP rfl ?_
   simp [n3]
   repeat (refine And.intro (by omega) ?_)
   apply hK1;clear hK1 K1
   refine AW.cond (b:=false) (by first|(simp [];done)|(simp [];omega)) ?_
   refine AW.skip ?_
   simp
   exact tail _ _ (by simp) (by simp) (by simp) hr
  ·have hd8:decide (0≤n.a∧n.a<(p.ns:Int))=false:=decide_eq_false h8
   rw [hd8] at hws
   have hr:ndE p i n=7:=by rw [r3,if_pos ⟨h6,.inr h8⟩]
   refine AW.regionP rfl ?_
   simp [t6,h7,lpS]
   refine CallDo.pure 2 9 (hws) (by first|(simp;done)|rfl) (by simp) (by first|rfl|simp) ?_
   simp [t6,h7]
   repeat (refine And.intro (by omega) ?_)
   apply hK1;clear hK1 K1
   refine AW.cond (b:=true) (by first|(simp [];done)|(simp [];omega)) ?_
   refine AW.seqK fun K1 hK1=>?_
   refine AW.regionP rfl ?_
   simp
   repeat (refine And.intro (by omega) ?_)
   apply hK1;clear hK1 K1
   exact AW.ret (κ:=0) (FinP.tmp (κ:=0) rfl 4 (by simp [hr]) (by first|rfl|simp) (by first|rfl|simp) (by first|rfl|simp))
 refine AW.regionP rfl ?_
 simp [h6]
 repeat (refine And.intro (by omega) ?_)
 apply hK1;clear hK1 K1
 refine AW.cond (b:=false) (by first|(simp [];done)|(simp [];omega)) ?_
 refine AW.seqK fun K1 hK1=>?_
 have r4:ndE p i n=if n.op=3 then ratE n.v else if (kidsL n).all (seesB p i) then 0 else 7:=by
  rw [r3,if_neg (fun h=>h6 h.1)]
 by_cases h9:n.op=3
 ·have hr:ndE p i n=ratE n.v:=by rw [r4,if_pos h9]
  have hck:=rat_Check m n.v
  rw [← hr] at hck
  refine AW.regionP rfl ?_
  simp [h9]
  repeat (refine And.intro (by omega) ?_)
  apply hK1;clear hK1 K1
  refine AW.cond (b:=true) (by first|(simp [];done)|(simp [];omega)) ?_
  refine AW.seqK fun K1 hK1=>?_
  refine AW.regionP rfl ?_
  simp
  refine CallDo.pure 2 9 (hck) (by first|(simp;done)|rfl) (by simp) (by first|rfl|simp) ?_
  simp
  repeat (refine And.intro (by omega) ?_)
  apply hK1;clear hK1 K1
  exact AW.ret (κ:=0) (FinP.tmp (κ:=0) rfl 4 (by simp []) (by first|rfl|simp) (by first|rfl|simp) (by first|rfl|simp))
 ·have hr:ndE p i n=if (kidsL n).all (seesB p i) then 0 else 7:=by rw [r4,if_neg h9]
  refine AW.regionP rfl ?_
  simp [h9]
  repeat (refine And.intro (by omega) ?_)
  apply hK1;clear hK1 K1
  refine AW.cond (b:=false) (by first|(simp [];done)|(simp [];omega)) ?_
  refine AW.skip ?_
  simp
  exact tail _ _ (by simp) (by simp) (by simp) hr
end Go.Am
