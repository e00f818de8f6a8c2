/- Helpers: an abstract machine for Go functions, and walks of functions of the program. -/
import Derived.Test.YtanjfmmjpnjkbaaGreatDoorRn11

set_option linter.all false
set_option maxHeartbeats 8000000
set_option maxRecDepth 100000
namespace Go.Am
open Go.Am.Ty Go.Proofs N
theorem bxE_of:∀ {l:List Sp}{w:Int},bxE l w=0→w=0∧∀ s∈l,ofE s.1 s.2=0
 | [],w,h=>⟨h,fun s hs=>by cases hs⟩
 | s::l,w,h=>by
  rw [bxE] at h
  by_cases h7:ofE s.1 s.2=7
  ·rw [if_pos h7] at h
   exact absurd (bxE_of h).1 (by decide)
  ·rw [if_neg h7] at h
   by_cases h0:ofE s.1 s.2=0
   ·rw [if_neg (not_not_intro h0)] at h
    obtain⟨h1,h2⟩:=bxE_of h
    refine⟨h1,fun u hu=>?_⟩
    rcases List.mem_cons.1 hu with rfl|hu
    ·exact h0
    ·exact h2 u hu
   ·rw [if_pos h0] at h;exact absurd h h0
theorem minL_sz {L:Nat}:∀ {l:List Rat}{m:Rat},(∀ x∈l,szR x L)→szR m L→szR (minL l m) L
 | [],_,_,h=>h
 | x::l,m,hl,h=>minL_sz (l:=l) (m:=minR x m) (fun y hy=>hl y (List.mem_cons_of_mem _ hy)) (szR_min (hl x (List.mem_cons_self ..)) h)
theorem maxL_sz {L:Nat}:∀ {l:List Rat}{m:Rat},(∀ x∈l,szR x L)→szR m L→szR (maxL l m) L
 | [],_,_,h=>h
 | x::l,m,hl,h=>maxL_sz (l:=l) (m:=maxR m x) (fun y hy=>hl y (List.mem_cons_of_mem _ hy)) (szR_max h (hl x (List.mem_cons_self ..)))
def decU (n:Nat):List UInt8:=if n=0 then [48] else (dig 10 n).reverse.map fun d=>UInt8.ofNat (48+d)
def eqB:List UInt8→List UInt8→Bool
 | [],[]=>true
 | a::l,b::m=>Nat.beq a.toNat b.toNat && eqB l m
 | _,_=>false
theorem eqB_eq:∀ {l m:List UInt8},eqB l m=true→l=m
 | [],[],_=>rfl
 | a::l,b::m,h=>by
  simp only [eqB,Bool.and_eq_true] at h
  rw [UInt8.toNat_inj.1 (Nat.eq_of_beq_eq_true h.1),eqB_eq h.2]
 | [],_::_,h=>by cases h
 | _::_,[],h=>by cases h
noncomputable def smT (G:List (List DV)):Bool:=(List.range 100).all fun i=>match finK (evK Tryz.prog G spX 0 40 179 [.c (.d (.int .i64 (.ofNat i)))] .leaf 0 [] kDone .pan) with
 | some (.c (.d (.str s)))=>eqB s (decU i)
 | _=>false
theorem smT_ok (m:Int):smT (GG m)=true:=by kernel_rfl
theorem small_ok (m:Int)(i:Nat)(hi:i<100):CallsP Tryz.prog (GG m) 179 [.c (.d (.int .i64 i))] (.c (.d (.str (decU i)))):=by
 have h:=List.all_eq_true.1 (smT_ok m) i (List.mem_range.2 hi)
 split at h
 ·rename_i s hs
  have:=CallsP.of_ev (evX_ok m 40) hs
  rw [eqB_eq h] at this
  exact this
 ·cases h
theorem bool2_ok (G:List (List DV))(b:Bool):CallsP Tryz.prog G 218 [.c (.d (.bool b))] (.c (.d (.int .i64 (if b then 1 else 0)))):=by
 cases b with
 | true=>
  refine CallsP.en Go.Proofs.Tryz.func218 rfl fun _=>AW.q ?_
  refine AW.seqK fun K hK=>AW.q ?_
  refine AW.cy (AW.q ?_)
  exact AW.r0 (FinP.rt rfl 2 (by simp))
 | false=>
  refine CallsP.en Go.Proofs.Tryz.func218 rfl fun _=>AW.q ?_
  refine AW.seqK fun K hK=>AW.q ?_
  refine AW.cn (AW.skip (hK _ _ (AW.q ?_)))
  exact AW.r0 (FinP.rt rfl 2 (by simp))
theorem log10Pow2_ok (G:List (List DV))(x:Nat)(hx:x≤64):CallsP Tryz.prog G 216 [.c (.d (.int .i64 x))] (.c (.d (.int .i64 ((x*78913 / 262144:Nat):Int)))):=by
 have w1:=w64 (n:=(x:Int)*78913) (by omega) (by omega)
 have e1:Int.fdiv ((x:Int)*78913) 262144=((x*78913 / 262144:Nat):Int):=by rw [Int.fdiv_eq_ediv_of_nonneg _ (by omega)];omega
 refine CallsP.en Go.Proofs.Tryz.func216 rfl fun _=>AW.q ?_
 refine AW.sr fun K hK=>?_
 simp [w1,IntKind.bits,e1,-Int.natCast_ediv]
 repeat refine and_o ?_
 apply hK
 exact AW.r0 (FinP.rt rfl 2 (by simp))
theorem bits_Len64_ok (G:List (List DV))(n:Nat)(hn:n<4294967296):CallsP Tryz.prog G 217 [.c (.d (.int .u64 n))] (.c (.d (.int .i64 (blen n)))):=by
 have h0:¬ (4294967296:Int)≤n:=by omega
 have w16:IntKind.i64.wrap 16=16:=w64 (by omega) (by omega)
 refine CallsP.en Go.Proofs.Tryz.func217 rfl fun _=>AW.q ?_
 refine AW.seqK fun K hK=>AW.f1 h0 ?_
 refine AW.fn (by simp [h0] <;> omega) (AW.skip (hK _ _ (AW.seqK fun K hK=>AW.q ?_)))
 have step2:∀ (x m:Nat) (fr:Nat→AV) (κ:Nat),x<65536→m≤16→blen n=m+blen x→fr 0=.c (.d (.int .u64 x))→fr 2=.c (.d (.int .i64 m))→K ⟨fr,fun _=>.hole⟩ κ:=by
  intro x m fr κ hx hm hb f0 f2
  repeat refine and_o ?_
  apply hK
  refine AW.seqK fun K hK=>AW.f1 f0 ?_
  have step3:∀ (x m:Nat) (fr:Nat→AV) (κ:Nat),x<256→m≤24→blen n=m+blen x→fr 0=.c (.d (.int .u64 x))→fr 2=.c (.d (.int .i64 m))→K ⟨fr,fun _=>.hole⟩ κ:=by
   intro x m fr κ hx hm hb f0 f2
   repeat refine and_o ?_
   apply hK
   refine AW.seqK fun K hK=>?_
   have e1:IntKind.u8.wrap (x:Int)=x:=wrap_in ⟨by simp only [loK];omega,by simp only [hiK];omega⟩
   have hbl:blen x≤8:=by
    by_cases h0:x=0
    ·subst h0;decide
    ·have:=blen_le h0
     apply Classical.byContradiction
     intro hc
     have h9:2 ^ 8≤2 ^ (blen x - 1):=Nat.pow_le_pow_right (by decide) (by omega)
     omega
   refine AW.rP ?_
   simp [f0,f2,e1]
   rw [len8 (x:=x) (hx:=hx)]
   ·have e2:=w64 (n:=(blen x:Int)) (by omega) (by omega)
    have e3:=w64 (n:=(m:Int)+blen x) (by omega) (by omega)
    rw [e2,e3]
    repeat refine and_o ?_
    apply hK
    exact AW.r0 (FinP.rt rfl 0 (by simp [hb]))
   ·kernel_rfl
  by_cases h:256≤x
  ·refine AW.fy (by simp [h] <;> omega) ?_
   have e1:Int.fdiv (x:Int) 256=((x / 256:Nat):Int):=by rw [Int.fdiv_eq_ediv_of_nonneg _ (by omega)];omega
   have e2:=w64 (n:=(m:Int)+8) (by omega) (by omega)
   refine AW.sr fun K1 hK1=>?_
   simp [f0,IntKind.bits,e1,-Int.natCast_ediv]
   repeat refine and_o ?_
   apply hK1
   refine AW.rP ?_
   simp [f2,e2]
   refine step3 (x / 256) (m+8) _ _ (by omega) (by omega) ?_ (by simp) (by simp)
   have:=blen_shift (n:=x) (k:=8) (by omega)
   rw [hb,this];simp;omega
  ·refine AW.fn (by simp [h] <;> omega) (AW.skip ?_)
   simp
   exact step3 x m _ _ (by omega) (by omega) hb (by simp [f0]) (by simp [f2])
 by_cases h:65536≤n
 ·refine AW.fy (by simp [h] <;> omega) ?_
  have e1:Int.fdiv (n:Int) 65536=((n / 65536:Nat):Int):=by rw [Int.fdiv_eq_ediv_of_nonneg _ (by omega)];omega
  refine AW.sr fun K1 hK1=>?_
  simp [IntKind.bits,e1,-Int.natCast_ediv]
  repeat refine and_o ?_
  apply hK1
  refine AW.rP ?_
  simp [w16]
  refine step2 (n / 65536) 16 _ _ (by omega) (by omega) ?_ (by simp) (by simp)
  have:=blen_shift (n:=n) (k:=16) (by omega)
  rw [this];simp;omega
 ·refine AW.fn (by simp [h] <;> omega) (AW.skip ?_)
  simp
  exact step2 n 0 _ _ (by omega) (by omega) (by simp) (by simp) (by simp)
def tblP:List DV:=[.int .u64 1,.int .u64 10,.int .u64 100,.int .u64 1000,.int .u64 10000,.int .u64 100000,.int .u64 1000000,.int .u64 10000000,.int .u64 100000000,.int .u64 1000000000,.int .u64 10000000000,.int .u64 100000000000,.int .u64 1000000000000,.int .u64 10000000000000,.int .u64 100000000000000,.int .u64 1000000000000000,.int .u64 10000000000000000,.int .u64 100000000000000000,.int .u64 1000000000000000000,.int .u64 10000000000000000000]
theorem GGp (m:Int):(GG m)[2]?=some tblP:=rfl
theorem ixP {l:Nat}(h:l≤9):∃ rest,∀ lv:Key→LB,stepIndexAddr Tryz.prog 274 lv (.c (.d (.ptr tblP))) (.c (.d (.int .i64 (l:Int))))=some (.c (.d (.ptr (.int .u64 ((10 ^ l:Nat):Int)::rest))),[],[],True):=by
 have ha:arT Tryz.prog 274=some (20,135,1):=by kernel_rfl
 have key:∀ (l:Nat) (rest:List DV),l<20→tblP.drop l=.int .u64 ((10 ^ l:Nat):Int)::rest→∃ rest,∀ lv:Key→LB,stepIndexAddr Tryz.prog 274 lv (.c (.d (.ptr tblP))) (.c (.d (.int .i64 (l:Int))))=some (.c (.d (.ptr (.int .u64 ((10 ^ l:Nat):Int)::rest))),[],[],True):=by
  intro l rest g2 g3
  refine⟨rest,fun lv=>?_⟩
  unfold stepIndexAddr
  rw [ha]
  show some (AV.c (.d (.ptr (tblP.drop ((l:Int).toNat*1)))),([]:List (Key × LB)),([]:List Key),(0≤(l:Int)∧(l:Int)<((20:Nat):Int)∧(l:Int).toNat*1≤tblP.length))=_
  rw [Int.toNat_natCast,Nat.mul_one,g3,eq_true (show 0≤(l:Int)∧(l:Int)<((20:Nat):Int)∧l≤tblP.length from ⟨by omega,by omega,by show l≤20;omega⟩)]
 have h:l=0∨l=1∨l=2∨l=3∨l=4∨l=5∨l=6∨l=7∨l=8∨l=9:=by omega
 rcases h with rfl|rfl|rfl|rfl|rfl|rfl|rfl|rfl|rfl|rfl <;> exact key _ _ (by decide) rfl
def ndig (n:Nat):Nat:=(dig 10 n).length
theorem ndig_of {n k:Nat}(h1:10 ^ k≤n) (h2:n<10 ^ (k+1)):ndig n=k+1:=by
 have g1:=dig_len_le (B:=10) (by decide) h2
 have g2:=dig_lt (B:=10) (n:=n) (by decide)
 have g3:k<(dig 10 n).length:=(Nat.pow_lt_pow_iff_right (a:=10) (by decide)).1 (Nat.lt_of_le_of_lt h1 g2)
 unfold ndig;omega
theorem ndig_lt (n:Nat):n<10 ^ ndig n:=dig_lt (by decide)
theorem l10:∀ b,b≤30→1≤b→2 ^ b≤10 ^ (b*78913 / 262144+1)∧b*78913 / 262144≤9∧(b*78913 / 262144=0∨10 ^ (b*78913 / 262144 - 1)≤2 ^ (b - 1)):=by decide
theorem numDigits_n {n:Nat}(h0:n≠0) (hn:n<1000000000):blen n*78913 / 262144≤9∧ndig n=blen n*78913 / 262144+if 10 ^ (blen n*78913 / 262144)≤n then 1 else 0:=by
 have b1:1≤blen n:=by unfold blen;rw [if_neg h0];omega
 have b2:blen n≤30:=by
  have:=blen_le h0
  apply Classical.byContradiction
  intro hc
  have h9:2 ^ 30≤2 ^ (blen n - 1):=Nat.pow_le_pow_right (by decide) (by omega)
  omega
 obtain⟨g1,g2,g3⟩:=l10 (blen n) b2 b1
 have g4:=blen_lt n
 have g5:=blen_le h0
 generalize blen n*78913 / 262144=l at *
 refine⟨g2,?_⟩
 split
 ·rename_i h;exact ndig_of h (by omega)
 ·rename_i h
  have h:n<10 ^ l:=Nat.not_le.1 h
  cases l with
  | zero=>exact absurd h (by simpa using h0)
  | succ l=>
   rcases g3 with g3|g3
   ·omega
   ·rw [Nat.add_zero];exact ndig_of (by simp only [Nat.add_sub_cancel] at g3;omega) h
theorem numDigits_ok (m:Int)(n:Nat)(h0:n≠0)(hn:n<1000000000):CallsP Tryz.prog (GG m) 180 [.c (.d (.int .u64 n))] (.c (.d (.int .i64 (ndig n)))):=by
 have c1:=bits_Len64_ok (GG m) n (by omega)
 have hb:blen n≤64:=by
  have:=blen_le h0
  apply Classical.byContradiction
  intro hc
  have h9:2 ^ 64≤2 ^ (blen n - 1):=Nat.pow_le_pow_right (by decide) (by omega)
  omega
 have c2:=log10Pow2_ok (GG m) (blen n) hb
 obtain⟨hl,hd⟩:=numDigits_n h0 hn
 rw [hd]
 generalize blen n*78913 / 262144=l at *
 generalize blen n=b at *
 obtain⟨rest,hx⟩:=ixP hl
 have hg:=GGp m
 have c3:=bool2_ok (GG m) (decide (((10 ^ l:Nat):Int)≤n))
 have hc:decide (((10 ^ l:Nat):Int)≤(n:Int))=decide (10 ^ l≤n):=decide_eq_decide.2 (by omega)
 rw [hc] at c3
 have hv:(if decide (10 ^ l≤n)=true then (1:Int) else 0)=((if 10 ^ l≤n then 1 else 0:Nat):Int):=by by_cases h:10 ^ l≤n <;> simp [h]
 rw [hv] at c3
 have hu:(if 10 ^ l≤n then 1 else 0:Nat)≤1:=by split <;> omega
 generalize (if 10 ^ l≤n then 1 else 0:Nat)=u at *
 have w:=w64 (n:=(l:Int)+u) (by omega) (by omega)
 rw [← hc] at c3
 generalize ((10 ^ l:Nat):Int)=t at *
 refine CallsP.en Go.Proofs.Tryz.func180 rfl fun _=>AW.q ?_
 refine AW.sr fun K hK=>?_
 simp
 refine CallDo.p 0 9 c1 ?_
 simp
 refine CallDo.p 0 9 c2 ?_
 simp
 repeat refine and_o ?_
 apply hK
 refine AW.c3 0 c3 hg hx w ?_
 exact AW.r0 (FinP.rt rfl 2 (by simp))
def dB (d:Nat):CV:=.d (.int .u8 ((48+d:Nat):Int))
@[simp] theorem dB_pure (d:Nat):(dB d).pure=true:=rfl
def dL:Nat→Nat→List Nat
 | 0,_=>[]
 | k+1,n=>dL k (n / 10)++[n % 10]
theorem tb0 (f:List UInt8){x a:Nat}(hx:x<100) (ha:a=2*x) (hf:(List.range 100).all (fun i=>(f[2*i]?.getD 0).toNat == 48+i / 10)=true):CV.d (.int .u8 ((f[a]?.getD 0).toNat:Int))=dB (x / 10):=by
 subst ha
 have:=List.all_eq_true.1 hf x (List.mem_range.2 hx)
 unfold dB
 rw [show (f[2*x]?.getD 0).toNat=48+x / 10 by simpa using this]
theorem tb1 (f:List UInt8){x a:Nat}(hx:x<100) (ha:a=2*x+1) (hf:(List.range 100).all (fun i=>(f[2*i+1]?.getD 0).toNat == 48+i % 10)=true):CV.d (.int .u8 ((f[a]?.getD 0).toNat:Int))=dB (x % 10):=by
 subst ha
 have:=List.all_eq_true.1 hf x (List.mem_range.2 hx)
 unfold dB
 rw [show (f[2*x+1]?.getD 0).toNat=48+x % 10 by simpa using this]
theorem fb3 (G:List (List DV))(n:Nat)(hn:n<1000)(c0 c1 c2:CV)(r:List CV) :
 CallsS Tryz.prog G 181 [.c (.lsl 0 0 3 1),.c (.d (.int .u64 n))] [.cells false false 234 (c0::c1::c2::r)]
  (.ret (.tup []) [.cells false false 234 ((dL 3 n).map dB++r)] []):=by
 have wl:∀ k:Nat,k<1000→IntKind.i64.wrap (k:Int)=k:=fun k h=>w64 (by omega) (by omega)
 have wl0:IntKind.i64.wrap 0=0:=wl 0 (by decide)
 have wl1:IntKind.i64.wrap 1=1:=wl 1 (by decide)
 have wl2:IntKind.i64.wrap 2=2:=wl 2 (by decide)
 have wl3:IntKind.i64.wrap 3=3:=wl 3 (by decide)
 have wl4:IntKind.i64.wrap 4=4:=wl 4 (by decide)
 have wl5:IntKind.i64.wrap 5=5:=wl 5 (by decide)
 have wl6:IntKind.i64.wrap 6=6:=wl 6 (by decide)
 have wl7:IntKind.i64.wrap 7=7:=wl 7 (by decide)
 have wl8:IntKind.i64.wrap 8=8:=wl 8 (by decide)
 have w12:IntKind.u32.wrap (n:Int)=n:=wu32 (by omega) (by omega)
 obtain⟨v,hv⟩:∃ q,n / 100=q:=⟨_,rfl⟩
 obtain⟨p5,hp5⟩:∃ q,n % 100=q:=⟨_,rfl⟩
 have dv:(n:Int).tdiv 100=(v:Int):=by rw [Int.tdiv_eq_ediv_of_nonneg (by omega)];omega
 have dp5:(n:Int).tmod 100=(p5:Int):=by rw [Int.tmod_eq_emod_of_nonneg (by omega)];omega
 have ev:IntKind.u32.wrap (v:Int)=v:=wu32 (by omega) (by omega)
 obtain⟨p5a,hp5a⟩:∃ a,p5*2=a:=⟨_,rfl⟩
 obtain⟨p5b,hp5b⟩:∃ a,p5a+1=a:=⟨_,rfl⟩
 have p51:IntKind.u32.wrap ((p5:Int)*2)=(p5a:Int):=by rw [wu32 (by omega) (by omega)];omega
 have p52:IntKind.u32.wrap ((p5a:Int)+1)=(p5b:Int):=by rw [wu32 (by omega) (by omega)];omega
 have p53:(p5a:Int)<200:=by omega
 have p54:(p5b:Int)<200:=by omega
 have w48:IntKind.u32.wrap (48+(v:Int))=((48+v:Nat):Int):=by rw [wu32 (by omega) (by omega)];omega
 have w49:IntKind.u8.wrap ((48+v:Nat):Int)=((48+v:Nat):Int):=wrap_in ⟨by simp only [loK];omega,by simp only [hiK];omega⟩
 refine CallsS.en1 Go.Proofs.Tryz.func181 rfl fun _=>AW.q ?_
 refine AW.seqK fun K hK=>AW.block ?_
 refine AW.loopV (fun (_:Unit)=>⟨frOf [(0,.c (.lsl 0 0 3 1)),(1,.c (.d (.int .u64 n))),(4,.c (.d (.int .i64 3)))],upd (fun _=>.hole) 0 (.cells false false 234 (c0::c1::c2::r))⟩) 1000 (fun _=>True) (fun _=>0) () (Le.mk2 _) trivial ?_
 rintro _ -
 refine AW.seqK fun K2 hK2=>AW.q ?_
 refine AW.cn (AW.exit (hK _ _ (AW.f1 w12 ?_)))
 refine AW.seqK fun K hK=>AW.q ?_
 refine AW.cn (AW.skip (hK _ _ (AW.seqK fun K hK=>AW.q ?_)))
 refine AW.cy (AW.f2 dp5 p51 ?_)
 refine AW.sr fun K1 hK1=>?_
 simp [dv,ev]
 repeat refine and_o ?_
 apply hK1
 refine AW.seqK fun K1 hK1=>?_
 refine AW.drawP mixed (by kernel_rfl) rfl ?_
 simp [p52,p53,p54,wl0,wl1,wl2,wl3,wl4,wl5,wl6,wl7,wl8,setSeg]
 rw [tb0 _ (x:=p5) (a:=p5a) (by omega) (by omega),tb1 _ (x:=p5) (a:=p5b) (by omega) (by omega)]
 rotate_left
 ·kernel_rfl
 ·kernel_rfl
 repeat refine and_o ?_
 refine⟨by kernel_rfl,?_⟩
 repeat refine and_o ?_
 apply hK1
 refine AW.rP ?_
 simp [wl0,wl1,wl2,wl3,wl4,wl5,wl6,wl7,wl8]
 repeat refine and_o ?_
 apply hK
 refine AW.q ?_
 refine AW.cy (AW.rP ?_)
 simp [w48,w49,setSeg]
 repeat refine and_o ?_
 have ed:dL 3 n=[v,p5 / 10,p5 % 10]:=by
  show [n / 10 / 10 % 10,n / 10 % 10,n % 10]=_
  simp only [List.cons.injEq,and_true]
  refine⟨?_,?_,?_⟩ <;> omega
 refine FinS.none (.inl rfl) rfl (by simp) ?_
 rw [ed]
 have e48:CV.d (.int .u8 (IntKind.u8.wrap (48+(v:Int))))=dB v:=by unfold dB;rw [← w49];rfl
 simp [e48]
theorem fb4 (G:List (List DV))(n:Nat)(hn:n<10000)(c0 c1 c2 c3:CV)(r:List CV) :
 CallsS Tryz.prog G 181 [.c (.lsl 0 0 4 1),.c (.d (.int .u64 n))] [.cells false false 234 (c0::c1::c2::c3::r)]
  (.ret (.tup []) [.cells false false 234 ((dL 4 n).map dB++r)] []):=by
 have wl:∀ k:Nat,k<1000→IntKind.i64.wrap (k:Int)=k:=fun k h=>w64 (by omega) (by omega)
 have wl0:IntKind.i64.wrap 0=0:=wl 0 (by decide)
 have wl1:IntKind.i64.wrap 1=1:=wl 1 (by decide)
 have wl2:IntKind.i64.wrap 2=2:=wl 2 (by decide)
 have wl3:IntKind.i64.wrap 3=3:=wl 3 (by decide)
 have wl4:IntKind.i64.wrap 4=4:=wl 4 (by decide)
 have wl5:IntKind.i64.wrap 5=5:=wl 5 (by decide)
 have wl6:IntKind.i64.wrap 6=6:=wl 6 (by decide)
 have wl7:IntKind.i64.wrap 7=7:=wl 7 (by decide)
 have wl8:IntKind.i64.wrap 8=8:=wl 8 (by decide)
 have w12:IntKind.u32.wrap (n:Int)=n:=wu32 (by omega) (by omega)
 obtain⟨t,ht⟩:∃ q,n / 10000=q:=⟨_,rfl⟩
 obtain⟨s,hs⟩:∃ q,n % 10000=q:=⟨_,rfl⟩
 have dt:(n:Int).tdiv 10000=(t:Int):=by rw [Int.tdiv_eq_ediv_of_nonneg (by omega)];omega
 have ds:(n:Int).tmod 10000=(s:Int):=by rw [Int.tmod_eq_emod_of_nonneg (by omega)];omega
 have et:IntKind.u32.wrap (t:Int)=t:=wu32 (by omega) (by omega)
 obtain⟨p1,hp1⟩:∃ q,s / 100=q:=⟨_,rfl⟩
 obtain⟨p0,hp0⟩:∃ q,s % 100=q:=⟨_,rfl⟩
 have dp1:(s:Int).tdiv 100=(p1:Int):=by rw [Int.tdiv_eq_ediv_of_nonneg (by omega)];omega
 have dp0:(s:Int).tmod 100=(p0:Int):=by rw [Int.tmod_eq_emod_of_nonneg (by omega)];omega
 have ep1:IntKind.u32.wrap (p1:Int)=p1:=wu32 (by omega) (by omega)
 obtain⟨p0a,hp0a⟩:∃ a,p0*2=a:=⟨_,rfl⟩
 obtain⟨p0b,hp0b⟩:∃ a,p0a+1=a:=⟨_,rfl⟩
 have p01:IntKind.u32.wrap ((p0:Int)*2)=(p0a:Int):=by rw [wu32 (by omega) (by omega)];omega
 have p02:IntKind.u32.wrap ((p0a:Int)+1)=(p0b:Int):=by rw [wu32 (by omega) (by omega)];omega
 have p03:(p0a:Int)<200:=by omega
 have p04:(p0b:Int)<200:=by omega
 obtain⟨p1a,hp1a⟩:∃ a,p1*2=a:=⟨_,rfl⟩
 obtain⟨p1b,hp1b⟩:∃ a,p1a+1=a:=⟨_,rfl⟩
 have p11:IntKind.u32.wrap ((p1:Int)*2)=(p1a:Int):=by rw [wu32 (by omega) (by omega)];omega
 have p12:IntKind.u32.wrap ((p1a:Int)+1)=(p1b:Int):=by rw [wu32 (by omega) (by omega)];omega
 have p13:(p1a:Int)<200:=by omega
 have p14:(p1b:Int)<200:=by omega
 refine CallsS.en1 Go.Proofs.Tryz.func181 rfl fun _=>AW.q ?_
 refine AW.seqK fun K hK=>AW.block ?_
 refine AW.loopV (fun (_:Unit)=>⟨frOf [(0,.c (.lsl 0 0 4 1)),(1,.c (.d (.int .u64 n))),(4,.c (.d (.int .i64 4)))],upd (fun _=>.hole) 0 (.cells false false 234 (c0::c1::c2::c3::r))⟩) 1000 (fun _=>True) (fun _=>0) () (Le.mk2 _) trivial ?_
 rintro _ -
 refine AW.seqK fun K2 hK2=>AW.q ?_
 refine AW.cn (AW.exit (hK _ _ (AW.f1 w12 ?_)))
 refine AW.seqK fun K hK=>AW.q ?_
 refine AW.cy (AW.f1 ds ?_)
 refine AW.f2 dt et ?_
 refine AW.f5 dp1 dp0 ep1 p11 p01 ?_
 refine AW.seqK fun K1 hK1=>?_
 refine AW.drawP mixed (by kernel_rfl) rfl ?_
 simp [p02,p03,p04,wl0,wl1,wl2,wl3,wl4,wl5,wl6,wl7,wl8,setSeg]
 rw [tb0 _ (x:=p0) (a:=p0a) (by omega) (by omega),tb1 _ (x:=p0) (a:=p0b) (by omega) (by omega)]
 rotate_left
 ·kernel_rfl
 ·kernel_rfl
 repeat refine and_o ?_
 refine⟨by kernel_rfl,?_⟩
 repeat refine and_o ?_
 apply hK1
 refine AW.seqK fun K1 hK1=>?_
 refine AW.drawP mixed (by kernel_rfl) rfl ?_
 simp [p12,p13,p14,wl0,wl1,wl2,wl3,wl4,wl5,wl6,wl7,wl8,setSeg]
 rw [tb0 _ (x:=p1) (a:=p1a) (by omega) (by omega),tb1 _ (x:=p1) (a:=p1b) (by omega) (by omega)]
 rotate_left
 ·kernel_rfl
 ·kernel_rfl
 repeat refine and_o ?_
 refine⟨by kernel_rfl,?_⟩
 repeat refine and_o ?_
 apply hK1
 refine AW.rP ?_
 simp [wl0,wl1,wl2,wl3,wl4,wl5,wl6,wl7,wl8]
 repeat refine and_o ?_
 apply hK
 refine AW.seqK fun K hK=>AW.q ?_
 refine AW.cn (AW.skip (hK _ _ (AW.q ?_)))
 refine AW.cn (AW.skip ?_)
 have ed:dL 4 n=[p1 / 10,p1 % 10,p0 / 10,p0 % 10]:=by
  show [n / 10 / 10 / 10 % 10,n / 10 / 10 % 10,n / 10 % 10,n % 10]=_
  simp only [List.cons.injEq,and_true]
  refine⟨?_,?_,?_,?_⟩ <;> omega
 refine FinS.none (.inl rfl) rfl (by simp) ?_
 rw [ed]
 simp
theorem fb5 (G:List (List DV))(n:Nat)(hn:n<100000)(c0 c1 c2 c3 c4:CV)(r:List CV) :
 CallsS Tryz.prog G 181 [.c (.lsl 0 0 5 1),.c (.d (.int .u64 n))] [.cells false false 234 (c0::c1::c2::c3::c4::r)]
  (.ret (.tup []) [.cells false false 234 ((dL 5 n).map dB++r)] []):=by
 have wl:∀ k:Nat,k<1000→IntKind.i64.wrap (k:Int)=k:=fun k h=>w64 (by omega) (by omega)
 have wl0:IntKind.i64.wrap 0=0:=wl 0 (by decide)
 have wl1:IntKind.i64.wrap 1=1:=wl 1 (by decide)
 have wl2:IntKind.i64.wrap 2=2:=wl 2 (by decide)
 have wl3:IntKind.i64.wrap 3=3:=wl 3 (by decide)
 have wl4:IntKind.i64.wrap 4=4:=wl 4 (by decide)
 have wl5:IntKind.i64.wrap 5=5:=wl 5 (by decide)
 have wl6:IntKind.i64.wrap 6=6:=wl 6 (by decide)
 have wl7:IntKind.i64.wrap 7=7:=wl 7 (by decide)
 have wl8:IntKind.i64.wrap 8=8:=wl 8 (by decide)
 have w12:IntKind.u32.wrap (n:Int)=n:=wu32 (by omega) (by omega)
 obtain⟨t,ht⟩:∃ q,n / 10000=q:=⟨_,rfl⟩
 obtain⟨s,hs⟩:∃ q,n % 10000=q:=⟨_,rfl⟩
 have dt:(n:Int).tdiv 10000=(t:Int):=by rw [Int.tdiv_eq_ediv_of_nonneg (by omega)];omega
 have ds:(n:Int).tmod 10000=(s:Int):=by rw [Int.tmod_eq_emod_of_nonneg (by omega)];omega
 have et:IntKind.u32.wrap (t:Int)=t:=wu32 (by omega) (by omega)
 obtain⟨p1,hp1⟩:∃ q,s / 100=q:=⟨_,rfl⟩
 obtain⟨p0,hp0⟩:∃ q,s % 100=q:=⟨_,rfl⟩
 have dp1:(s:Int).tdiv 100=(p1:Int):=by rw [Int.tdiv_eq_ediv_of_nonneg (by omega)];omega
 have dp0:(s:Int).tmod 100=(p0:Int):=by rw [Int.tmod_eq_emod_of_nonneg (by omega)];omega
 have ep1:IntKind.u32.wrap (p1:Int)=p1:=wu32 (by omega) (by omega)
 obtain⟨p0a,hp0a⟩:∃ a,p0*2=a:=⟨_,rfl⟩
 obtain⟨p0b,hp0b⟩:∃ a,p0a+1=a:=⟨_,rfl⟩
 have p01:IntKind.u32.wrap ((p0:Int)*2)=(p0a:Int):=by rw [wu32 (by omega) (by omega)];omega
 have p02:IntKind.u32.wrap ((p0a:Int)+1)=(p0b:Int):=by rw [wu32 (by omega) (by omega)];omega
 have p03:(p0a:Int)<200:=by omega
 have p04:(p0b:Int)<200:=by omega
 obtain⟨p1a,hp1a⟩:∃ a,p1*2=a:=⟨_,rfl⟩
 obtain⟨p1b,hp1b⟩:∃ a,p1a+1=a:=⟨_,rfl⟩
 have p11:IntKind.u32.wrap ((p1:Int)*2)=(p1a:Int):=by rw [wu32 (by omega) (by omega)];omega
 have p12:IntKind.u32.wrap ((p1a:Int)+1)=(p1b:Int):=by rw [wu32 (by omega) (by omega)];omega
 have p13:(p1a:Int)<200:=by omega
 have p14:(p1b:Int)<200:=by omega
 have w48:IntKind.u32.wrap (48+(t:Int))=((48+t:Nat):Int):=by rw [wu32 (by omega) (by omega)];omega
 have w49:IntKind.u8.wrap ((48+t:Nat):Int)=((48+t:Nat):Int):=wrap_in ⟨by simp only [loK];omega,by simp only [hiK];omega⟩
 refine CallsS.en1 Go.Proofs.Tryz.func181 rfl fun _=>AW.q ?_
 refine AW.seqK fun K hK=>AW.block ?_
 refine AW.loopV (fun (_:Unit)=>⟨frOf [(0,.c (.lsl 0 0 5 1)),(1,.c (.d (.int .u64 n))),(4,.c (.d (.int .i64 5)))],upd (fun _=>.hole) 0 (.cells false false 234 (c0::c1::c2::c3::c4::r))⟩) 1000 (fun _=>True) (fun _=>0) () (Le.mk2 _) trivial ?_
 rintro _ -
 refine AW.seqK fun K2 hK2=>AW.q ?_
 refine AW.cn (AW.exit (hK _ _ (AW.f1 w12 ?_)))
 refine AW.seqK fun K hK=>AW.q ?_
 refine AW.cy (AW.f1 ds ?_)
 refine AW.f2 dt et ?_
 refine AW.f5 dp1 dp0 ep1 p11 p01 ?_
 refine AW.seqK fun K1 hK1=>?_
 refine AW.drawP mixed (by kernel_rfl) rfl ?_
 simp [p02,p03,p04,wl0,wl1,wl2,wl3,wl4,wl5,wl6,wl7,wl8,setSeg]
 rw [tb0 _ (x:=p0) (a:=p0a) (by omega) (by omega),tb1 _ (x:=p0) (a:=p0b) (by omega) (by omega)]
 rotate_left
 ·kernel_rfl
 ·kernel_rfl
 repeat refine and_o ?_
 refine⟨by kernel_rfl,?_⟩
 repeat refine and_o ?_
 apply hK1
 refine AW.seqK fun K1 hK1=>?_
 refine AW.drawP mixed (by kernel_rfl) rfl ?_
 simp [p12,p13,p14,wl0,wl1,wl2,wl3,wl4,wl5,wl6,wl7,wl8,setSeg]
 rw [tb0 _ (x:=p1) (a:=p1a) (by omega) (by omega),tb1 _ (x:=p1) (a:=p1b) (by omega) (by omega)]
 rotate_left
 ·kernel_rfl
 ·kernel_rfl
 repeat refine and_o ?_
 refine⟨by kernel_rfl,?_⟩
 repeat refine and_o ?_
 apply hK1
 refine AW.rP ?_
 simp [wl0,wl1,wl2,wl3,wl4,wl5,wl6,wl7,wl8]
 repeat refine and_o ?_
 apply hK
 refine AW.seqK fun K hK=>AW.q ?_
 refine AW.cn (AW.skip (hK _ _ (AW.q ?_)))
 refine AW.cy (AW.rP ?_)
 simp [w48,w49,setSeg]
 repeat refine and_o ?_
 have ed:dL 5 n=[t,p1 / 10,p1 % 10,p0 / 10,p0 % 10]:=by
  show [n / 10 / 10 / 10 / 10 % 10,n / 10 / 10 / 10 % 10,n / 10 / 10 % 10,n / 10 % 10,n % 10]=_
  simp only [List.cons.injEq,and_true]
  refine⟨?_,?_,?_,?_,?_⟩ <;> omega
 refine FinS.none (.inl rfl) rfl (by simp) ?_
 rw [ed]
 have e48:CV.d (.int .u8 (IntKind.u8.wrap (48+(t:Int))))=dB t:=by unfold dB;rw [← w49];rfl
 simp [e48]
theorem fb6 (G:List (List DV))(n:Nat)(hn:n<1000000)(c0 c1 c2 c3 c4 c5:CV)(r:List CV) :
 CallsS Tryz.prog G 181 [.c (.lsl 0 0 6 1),.c (.d (.int .u64 n))] [.cells false false 234 (c0::c1::c2::c3::c4::c5::r)]
  (.ret (.tup []) [.cells false false 234 ((dL 6 n).map dB++r)] []):=by
 have wl:∀ k:Nat,k<1000→IntKind.i64.wrap (k:Int)=k:=fun k h=>w64 (by omega) (by omega)
 have wl0:IntKind.i64.wrap 0=0:=wl 0 (by decide)
 have wl1:IntKind.i64.wrap 1=1:=wl 1 (by decide)
 have wl2:IntKind.i64.wrap 2=2:=wl 2 (by decide)
 have wl3:IntKind.i64.wrap 3=3:=wl 3 (by decide)
 have wl4:IntKind.i64.wrap 4=4:=wl 4 (by decide)
 have wl5:IntKind.i64.wrap 5=5:=wl 5 (by decide)
 have wl6:IntKind.i64.wrap 6=6:=wl 6 (by decide)
 have wl7:IntKind.i64.wrap 7=7:=wl 7 (by decide)
 have wl8:IntKind.i64.wrap 8=8:=wl 8 (by decide)
 have w12:IntKind.u32.wrap (n:Int)=n:=wu32 (by omega) (by omega)
 obtain⟨t,ht⟩:∃ q,n / 10000=q:=⟨_,rfl⟩
 obtain⟨s,hs⟩:∃ q,n % 10000=q:=⟨_,rfl⟩
 have dt:(n:Int).tdiv 10000=(t:Int):=by rw [Int.tdiv_eq_ediv_of_nonneg (by omega)];omega
 have ds:(n:Int).tmod 10000=(s:Int):=by rw [Int.tmod_eq_emod_of_nonneg (by omega)];omega
 have et:IntKind.u32.wrap (t:Int)=t:=wu32 (by omega) (by omega)
 obtain⟨p1,hp1⟩:∃ q,s / 100=q:=⟨_,rfl⟩
 obtain⟨p0,hp0⟩:∃ q,s % 100=q:=⟨_,rfl⟩
 have dp1:(s:Int).tdiv 100=(p1:Int):=by rw [Int.tdiv_eq_ediv_of_nonneg (by omega)];omega
 have dp0:(s:Int).tmod 100=(p0:Int):=by rw [Int.tmod_eq_emod_of_nonneg (by omega)];omega
 have ep1:IntKind.u32.wrap (p1:Int)=p1:=wu32 (by omega) (by omega)
 obtain⟨p0a,hp0a⟩:∃ a,p0*2=a:=⟨_,rfl⟩
 obtain⟨p0b,hp0b⟩:∃ a,p0a+1=a:=⟨_,rfl⟩
 have p01:IntKind.u32.wrap ((p0:Int)*2)=(p0a:Int):=by rw [wu32 (by omega) (by omega)];omega
 have p02:IntKind.u32.wrap ((p0a:Int)+1)=(p0b:Int):=by rw [wu32 (by omega) (by omega)];omega
 have p03:(p0a:Int)<200:=by omega
 have p04:(p0b:Int)<200:=by omega
 obtain⟨p1a,hp1a⟩:∃ a,p1*2=a:=⟨_,rfl⟩
 obtain⟨p1b,hp1b⟩:∃ a,p1a+1=a:=⟨_,rfl⟩
 have p11:IntKind.u32.wrap ((p1:Int)*2)=(p1a:Int):=by rw [wu32 (by omega) (by omega)];omega
 have p12:IntKind.u32.wrap ((p1a:Int)+1)=(p1b:Int):=by rw [wu32 (by omega) (by omega)];omega
 have p13:(p1a:Int)<200:=by omega
 have p14:(p1b:Int)<200:=by omega
 obtain⟨v,hv⟩:∃ q,t / 100=q:=⟨_,rfl⟩
 obtain⟨p5,hp5⟩:∃ q,t % 100=q:=⟨_,rfl⟩
 have dv:(t:Int).tdiv 100=(v:Int):=by rw [Int.tdiv_eq_ediv_of_nonneg (by omega)];omega
 have dp5:(t:Int).tmod 100=(p5:Int):=by rw [Int.tmod_eq_emod_of_nonneg (by omega)];omega
 have ev:IntKind.u32.wrap (v:Int)=v:=wu32 (by omega) (by omega)
 obtain⟨p5a,hp5a⟩:∃ a,p5*2=a:=⟨_,rfl⟩
 obtain⟨p5b,hp5b⟩:∃ a,p5a+1=a:=⟨_,rfl⟩
 have p51:IntKind.u32.wrap ((p5:Int)*2)=(p5a:Int):=by rw [wu32 (by omega) (by omega)];omega
 have p52:IntKind.u32.wrap ((p5a:Int)+1)=(p5b:Int):=by rw [wu32 (by omega) (by omega)];omega
 have p53:(p5a:Int)<200:=by omega
 have p54:(p5b:Int)<200:=by omega
 refine CallsS.en1 Go.Proofs.Tryz.func181 rfl fun _=>AW.q ?_
 refine AW.seqK fun K hK=>AW.block ?_
 refine AW.loopV (fun (_:Unit)=>⟨frOf [(0,.c (.lsl 0 0 6 1)),(1,.c (.d (.int .u64 n))),(4,.c (.d (.int .i64 6)))],upd (fun _=>.hole) 0 (.cells false false 234 (c0::c1::c2::c3::c4::c5::r))⟩) 1000 (fun _=>True) (fun _=>0) () (Le.mk2 _) trivial ?_
 rintro _ -
 refine AW.seqK fun K2 hK2=>AW.q ?_
 refine AW.cn (AW.exit (hK _ _ (AW.f1 w12 ?_)))
 refine AW.seqK fun K hK=>AW.q ?_
 refine AW.cy (AW.f1 ds ?_)
 refine AW.f2 dt et ?_
 refine AW.f5 dp1 dp0 ep1 p11 p01 ?_
 refine AW.seqK fun K1 hK1=>?_
 refine AW.drawP mixed (by kernel_rfl) rfl ?_
 simp [p02,p03,p04,wl0,wl1,wl2,wl3,wl4,wl5,wl6,wl7,wl8,setSeg]
 rw [tb0 _ (x:=p0) (a:=p0a) (by omega) (by omega),tb1 _ (x:=p0) (a:=p0b) (by omega) (by omega)]
 rotate_left
 ·kernel_rfl
 ·kernel_rfl
 repeat refine and_o ?_
 refine⟨by kernel_rfl,?_⟩
 repeat refine and_o ?_
 apply hK1
 refine AW.seqK fun K1 hK1=>?_
 refine AW.drawP mixed (by kernel_rfl) rfl ?_
 simp [p12,p13,p14,wl0,wl1,wl2,wl3,wl4,wl5,wl6,wl7,wl8,setSeg]
 rw [tb0 _ (x:=p1) (a:=p1a) (by omega) (by omega),tb1 _ (x:=p1) (a:=p1b) (by omega) (by omega)]
 rotate_left
 ·kernel_rfl
 ·kernel_rfl
 repeat refine and_o ?_
 refine⟨by kernel_rfl,?_⟩
 repeat refine and_o ?_
 apply hK1
 refine AW.rP ?_
 simp [wl0,wl1,wl2,wl3,wl4,wl5,wl6,wl7,wl8]
 repeat refine and_o ?_
 apply hK
 refine AW.seqK fun K hK=>AW.q ?_
 refine AW.cy (AW.f2 dp5 p51 ?_)
 refine AW.sr fun K1 hK1=>?_
 simp [dv,ev]
 repeat refine and_o ?_
 apply hK1
 refine AW.seqK fun K1 hK1=>?_
 refine AW.drawP mixed (by kernel_rfl) rfl ?_
 simp [p52,p53,p54,wl0,wl1,wl2,wl3,wl4,wl5,wl6,wl7,wl8,setSeg]
 rw [tb0 _ (x:=p5) (a:=p5a) (by omega) (by omega),tb1 _ (x:=p5) (a:=p5b) (by omega) (by omega)]
 rotate_left
 ·kernel_rfl
 ·kernel_rfl
 repeat refine and_o ?_
 refine⟨by kernel_rfl,?_⟩
 repeat refine and_o ?_
 apply hK1
 refine AW.rP ?_
 simp [wl0,wl1,wl2,wl3,wl4,wl5,wl6,wl7,wl8]
 repeat refine and_o ?_
 apply hK
 refine AW.q ?_
 refine AW.cn (AW.skip ?_)
 have ed:dL 6 n=[p5 / 10,p5 % 10,p1 / 10,p1 % 10,p0 / 10,p0 % 10]:=by
  show [n / 10 / 10 / 10 / 10 / 10 % 10,n / 10 / 10 / 10 / 10 % 10,n / 10 / 10 / 10 % 10,n / 10 / 10 % 10,n / 10 % 10,n % 10]=_
  simp only [List.cons.injEq,and_true]
  refine⟨?_,?_,?_,?_,?_,?_⟩ <;> omega
 refine FinS.none (.inl rfl) rfl (by simp) ?_
 rw [ed]
 simp
theorem fb7 (G:List (List DV))(n:Nat)(hn:n<10000000)(c0 c1 c2 c3 c4 c5 c6:CV)(r:List CV) :
 CallsS Tryz.prog G 181 [.c (.lsl 0 0 7 1),.c (.d (.int .u64 n))] [.cells false false 234 (c0::c1::c2::c3::c4::c5::c6::r)]
  (.ret (.tup []) [.cells false false 234 ((dL 7 n).map dB++r)] []):=by
 have wl:∀ k:Nat,k<1000→IntKind.i64.wrap (k:Int)=k:=fun k h=>w64 (by omega) (by omega)
 have wl0:IntKind.i64.wrap 0=0:=wl 0 (by decide)
 have wl1:IntKind.i64.wrap 1=1:=wl 1 (by decide)
 have wl2:IntKind.i64.wrap 2=2:=wl 2 (by decide)
 have wl3:IntKind.i64.wrap 3=3:=wl 3 (by decide)
 have wl4:IntKind.i64.wrap 4=4:=wl 4 (by decide)
 have wl5:IntKind.i64.wrap 5=5:=wl 5 (by decide)
 have wl6:IntKind.i64.wrap 6=6:=wl 6 (by decide)
 have wl7:IntKind.i64.wrap 7=7:=wl 7 (by decide)
 have wl8:IntKind.i64.wrap 8=8:=wl 8 (by decide)
 have w12:IntKind.u32.wrap (n:Int)=n:=wu32 (by omega) (by omega)
 obtain⟨t,ht⟩:∃ q,n / 10000=q:=⟨_,rfl⟩
 obtain⟨s,hs⟩:∃ q,n % 10000=q:=⟨_,rfl⟩
 have dt:(n:Int).tdiv 10000=(t:Int):=by rw [Int.tdiv_eq_ediv_of_nonneg (by omega)];omega
 have ds:(n:Int).tmod 10000=(s:Int):=by rw [Int.tmod_eq_emod_of_nonneg (by omega)];omega
 have et:IntKind.u32.wrap (t:Int)=t:=wu32 (by omega) (by omega)
 obtain⟨p1,hp1⟩:∃ q,s / 100=q:=⟨_,rfl⟩
 obtain⟨p0,hp0⟩:∃ q,s % 100=q:=⟨_,rfl⟩
 have dp1:(s:Int).tdiv 100=(p1:Int):=by rw [Int.tdiv_eq_ediv_of_nonneg (by omega)];omega
 have dp0:(s:Int).tmod 100=(p0:Int):=by rw [Int.tmod_eq_emod_of_nonneg (by omega)];omega
 have ep1:IntKind.u32.wrap (p1:Int)=p1:=wu32 (by omega) (by omega)
 obtain⟨p0a,hp0a⟩:∃ a,p0*2=a:=⟨_,rfl⟩
 obtain⟨p0b,hp0b⟩:∃ a,p0a+1=a:=⟨_,rfl⟩
 have p01:IntKind.u32.wrap ((p0:Int)*2)=(p0a:Int):=by rw [wu32 (by omega) (by omega)];omega
 have p02:IntKind.u32.wrap ((p0a:Int)+1)=(p0b:Int):=by rw [wu32 (by omega) (by omega)];omega
 have p03:(p0a:Int)<200:=by omega
 have p04:(p0b:Int)<200:=by omega
 obtain⟨p1a,hp1a⟩:∃ a,p1*2=a:=⟨_,rfl⟩
 obtain⟨p1b,hp1b⟩:∃ a,p1a+1=a:=⟨_,rfl⟩
 have p11:IntKind.u32.wrap ((p1:Int)*2)=(p1a:Int):=by rw [wu32 (by omega) (by omega)];omega
 have p12:IntKind.u32.wrap ((p1a:Int)+1)=(p1b:Int):=by rw [wu32 (by omega) (by omega)];omega
 have p13:(p1a:Int)<200:=by omega
 have p14:(p1b:Int)<200:=by omega
 obtain⟨v,hv⟩:∃ q,t / 100=q:=⟨_,rfl⟩
 obtain⟨p5,hp5⟩:∃ q,t % 100=q:=⟨_,rfl⟩
 have dv:(t:Int).tdiv 100=(v:Int):=by rw [Int.tdiv_eq_ediv_of_nonneg (by omega)];omega
 have dp5:(t:Int).tmod 100=(p5:Int):=by rw [Int.tmod_eq_emod_of_nonneg (by omega)];omega
 have ev:IntKind.u32.wrap (v:Int)=v:=wu32 (by omega) (by omega)
 obtain⟨p5a,hp5a⟩:∃ a,p5*2=a:=⟨_,rfl⟩
 obtain⟨p5b,hp5b⟩:∃ a,p5a+1=a:=⟨_,rfl⟩
 have p51:IntKind.u32.wrap ((p5:Int)*2)=(p5a:Int):=by rw [wu32 (by omega) (by omega)];omega
 have p52:IntKind.u32.wrap ((p5a:Int)+1)=(p5b:Int):=by rw [wu32 (by omega) (by omega)];omega
 have p53:(p5a:Int)<200:=by omega
 have p54:(p5b:Int)<200:=by omega
 have w48:IntKind.u32.wrap (48+(v:Int))=((48+v:Nat):Int):=by rw [wu32 (by omega) (by omega)];omega
 have w49:IntKind.u8.wrap ((48+v:Nat):Int)=((48+v:Nat):Int):=wrap_in ⟨by simp only [loK];omega,by simp only [hiK];omega⟩
 refine CallsS.en1 Go.Proofs.Tryz.func181 rfl fun _=>AW.q ?_
 refine AW.seqK fun K hK=>AW.block ?_
 refine AW.loopV (fun (_:Unit)=>⟨frOf [(0,.c (.lsl 0 0 7 1)),(1,.c (.d (.int .u64 n))),(4,.c (.d (.int .i64 7)))],upd (fun _=>.hole) 0 (.cells false false 234 (c0::c1::c2::c3::c4::c5::c6::r))⟩) 1000 (fun _=>True) (fun _=>0) () (Le.mk2 _) trivial ?_
 rintro _ -
 refine AW.seqK fun K2 hK2=>AW.q ?_
 refine AW.cn (AW.exit (hK _ _ (AW.f1 w12 ?_)))
 refine AW.seqK fun K hK=>AW.q ?_
 refine AW.cy (AW.f1 ds ?_)
 refine AW.f2 dt et ?_
 refine AW.f5 dp1 dp0 ep1 p11 p01 ?_
 refine AW.seqK fun K1 hK1=>?_
 refine AW.drawP mixed (by kernel_rfl) rfl ?_
 simp [p02,p03,p04,wl0,wl1,wl2,wl3,wl4,wl5,wl6,wl7,wl8,setSeg]
 rw [tb0 _ (x:=p0) (a:=p0a) (by omega) (by omega),tb1 _ (x:=p0) (a:=p0b) (by omega) (by omega)]
 rotate_left
 ·kernel_rfl
 ·kernel_rfl
 repeat refine and_o ?_
 refine⟨by kernel_rfl,?_⟩
 repeat refine and_o ?_
 apply hK1
 refine AW.seqK fun K1 hK1=>?_
 refine AW.drawP mixed (by kernel_rfl) rfl ?_
 simp [p12,p13,p14,wl0,wl1,wl2,wl3,wl4,wl5,wl6,wl7,wl8,setSeg]
 rw [tb0 _ (x:=p1) (a:=p1a) (by omega) (by omega),tb1 _ (x:=p1) (a:=p1b) (by omega) (by omega)]
 rotate_left
 ·kernel_rfl
 ·kernel_rfl
 repeat refine and_o ?_
 refine⟨by kernel_rfl,?_⟩
 repeat refine and_o ?_
 apply hK1
 refine AW.rP ?_
 simp [wl0,wl1,wl2,wl3,wl4,wl5,wl6,wl7,wl8]
 repeat refine and_o ?_
 apply hK
 refine AW.seqK fun K hK=>AW.q ?_
 refine AW.cy (AW.f2 dp5 p51 ?_)
 refine AW.sr fun K1 hK1=>?_
 simp [dv,ev]
 repeat refine and_o ?_
 apply hK1
 refine AW.seqK fun K1 hK1=>?_
 refine AW.drawP mixed (by kernel_rfl) rfl ?_
 simp [p52,p53,p54,wl0,wl1,wl2,wl3,wl4,wl5,wl6,wl7,wl8,setSeg]
 rw [tb0 _ (x:=p5) (a:=p5a) (by omega) (by omega),tb1 _ (x:=p5) (a:=p5b) (by omega) (by omega)]
 rotate_left
 ·kernel_rfl
 ·kernel_rfl
 repeat refine and_o ?_
 refine⟨by kernel_rfl,?_⟩
 repeat refine and_o ?_
 apply hK1
 refine AW.rP ?_
 simp [wl0,wl1,wl2,wl3,wl4,wl5,wl6,wl7,wl8]
 repeat refine and_o ?_
 apply hK
 refine AW.q ?_
 refine AW.cy (AW.rP ?_)
 simp [w48,w49,setSeg]
 repeat refine and_o ?_
 have ed:dL 7 n=[v,p5 / 10,p5 % 10,p1 / 10,p1 % 10,p0 / 10,p0 % 10]:=by
  show [n / 10 / 10 / 10 / 10 / 10 / 10 % 10,n / 10 / 10 / 10 / 10 / 10 % 10,n / 10 / 10 / 10 / 10 % 10,n / 10 / 10 / 10 % 10,n / 10 / 10 % 10,n / 10 % 10,n % 10]=_
  simp only [List.cons.injEq,and_true]
  refine⟨?_,?_,?_,?_,?_,?_,?_⟩ <;> omega
 refine FinS.none (.inl rfl) rfl (by simp) ?_
 rw [ed]
 have e48:CV.d (.int .u8 (IntKind.u8.wrap (48+(v:Int))))=dB v:=by unfold dB;rw [← w49];rfl
 simp [e48]
theorem fb8 (G:List (List DV))(n:Nat)(hn:n<100000000)(c0 c1 c2 c3 c4 c5 c6 c7:CV)(r:List CV) :
 CallsS Tryz.prog G 181 [.c (.lsl 0 0 8 1),.c (.d (.int .u64 n))] [.cells false false 234 (c0::c1::c2::c3::c4::c5::c6::c7::r)]
  (.ret (.tup []) [.cells false false 234 ((dL 8 n).map dB++r)] []):=by
 have wl:∀ k:Nat,k<1000→IntKind.i64.wrap (k:Int)=k:=fun k h=>w64 (by omega) (by omega)
 have wl0:IntKind.i64.wrap 0=0:=wl 0 (by decide)
 have wl1:IntKind.i64.wrap 1=1:=wl 1 (by decide)
 have wl2:IntKind.i64.wrap 2=2:=wl 2 (by decide)
 have wl3:IntKind.i64.wrap 3=3:=wl 3 (by decide)
 have wl4:IntKind.i64.wrap 4=4:=wl 4 (by decide)
 have wl5:IntKind.i64.wrap 5=5:=wl 5 (by decide)
 have wl6:IntKind.i64.wrap 6=6:=wl 6 (by decide)
 have wl7:IntKind.i64.wrap 7=7:=wl 7 (by decide)
 have wl8:IntKind.i64.wrap 8=8:=wl 8 (by decide)
 obtain⟨u,hu⟩:∃ q,n / 100000000=q:=⟨_,rfl⟩
 obtain⟨z,hz⟩:∃ q,n % 100000000=q:=⟨_,rfl⟩
 have du:(n:Int).tdiv 100000000=(u:Int):=by rw [Int.tdiv_eq_ediv_of_nonneg (by omega)];omega
 have dz:(n:Int).tmod 100000000=(z:Int):=by rw [Int.tmod_eq_emod_of_nonneg (by omega)];omega
 have eu:IntKind.u64.wrap (u:Int)=u:=wu64 (by omega) (by omega)
 obtain⟨y,hy⟩:∃ q,z / 10000=q:=⟨_,rfl⟩
 obtain⟨x,hx⟩:∃ q,z % 10000=q:=⟨_,rfl⟩
 have dy:(z:Int).tdiv 10000=(y:Int):=by rw [Int.tdiv_eq_ediv_of_nonneg (by omega)];omega
 have dx:(z:Int).tmod 10000=(x:Int):=by rw [Int.tmod_eq_emod_of_nonneg (by omega)];omega
 have ey:IntKind.u32.wrap (y:Int)=y:=wu32 (by omega) (by omega)
 obtain⟨p1,hp1⟩:∃ q,x / 100=q:=⟨_,rfl⟩
 obtain⟨p0,hp0⟩:∃ q,x % 100=q:=⟨_,rfl⟩
 have dp1:(x:Int).tdiv 100=(p1:Int):=by rw [Int.tdiv_eq_ediv_of_nonneg (by omega)];omega
 have dp0:(x:Int).tmod 100=(p0:Int):=by rw [Int.tmod_eq_emod_of_nonneg (by omega)];omega
 have ep1:IntKind.u32.wrap (p1:Int)=p1:=wu32 (by omega) (by omega)
 obtain⟨p3,hp3⟩:∃ q,y / 100=q:=⟨_,rfl⟩
 obtain⟨p2,hp2⟩:∃ q,y % 100=q:=⟨_,rfl⟩
 have dp3:(y:Int).tdiv 100=(p3:Int):=by rw [Int.tdiv_eq_ediv_of_nonneg (by omega)];omega
 have dp2:(y:Int).tmod 100=(p2:Int):=by rw [Int.tmod_eq_emod_of_nonneg (by omega)];omega
 have ep3:IntKind.u32.wrap (p3:Int)=p3:=wu32 (by omega) (by omega)
 obtain⟨p0a,hp0a⟩:∃ a,p0*2=a:=⟨_,rfl⟩
 obtain⟨p0b,hp0b⟩:∃ a,p0a+1=a:=⟨_,rfl⟩
 have p01:IntKind.u32.wrap ((p0:Int)*2)=(p0a:Int):=by rw [wu32 (by omega) (by omega)];omega
 have p02:IntKind.u32.wrap ((p0a:Int)+1)=(p0b:Int):=by rw [wu32 (by omega) (by omega)];omega
 have p03:(p0a:Int)<200:=by omega
 have p04:(p0b:Int)<200:=by omega
 obtain⟨p1a,hp1a⟩:∃ a,p1*2=a:=⟨_,rfl⟩
 obtain⟨p1b,hp1b⟩:∃ a,p1a+1=a:=⟨_,rfl⟩
 have p11:IntKind.u32.wrap ((p1:Int)*2)=(p1a:Int):=by rw [wu32 (by omega) (by omega)];omega
 have p12:IntKind.u32.wrap ((p1a:Int)+1)=(p1b:Int):=by rw [wu32 (by omega) (by omega)];omega
 have p13:(p1a:Int)<200:=by omega
 have p14:(p1b:Int)<200:=by omega
 obtain⟨p2a,hp2a⟩:∃ a,p2*2=a:=⟨_,rfl⟩
 obtain⟨p2b,hp2b⟩:∃ a,p2a+1=a:=⟨_,rfl⟩
 have p21:IntKind.u32.wrap ((p2:Int)*2)=(p2a:Int):=by rw [wu32 (by omega) (by omega)];omega
 have p22:IntKind.u32.wrap ((p2a:Int)+1)=(p2b:Int):=by rw [wu32 (by omega) (by omega)];omega
 have p23:(p2a:Int)<200:=by omega
 have p24:(p2b:Int)<200:=by omega
 obtain⟨p3a,hp3a⟩:∃ a,p3*2=a:=⟨_,rfl⟩
 obtain⟨p3b,hp3b⟩:∃ a,p3a+1=a:=⟨_,rfl⟩
 have p31:IntKind.u32.wrap ((p3:Int)*2)=(p3a:Int):=by rw [wu32 (by omega) (by omega)];omega
 have p32:IntKind.u32.wrap ((p3a:Int)+1)=(p3b:Int):=by rw [wu32 (by omega) (by omega)];omega
 have p33:(p3a:Int)<200:=by omega
 have p34:(p3b:Int)<200:=by omega
 have wz:IntKind.u32.wrap (z:Int)=z:=wu32 (by omega) (by omega)
 have w12:IntKind.u32.wrap (u:Int)=u:=wu32 (by omega) (by omega)
 refine CallsS.en1 Go.Proofs.Tryz.func181 rfl fun _=>AW.q ?_
 refine AW.seqK fun K hK=>AW.block ?_
 refine AW.loopV (fun (b:Int × Int × List CV)=>⟨frOf [(0,.c (.lsl 0 0 8 1)),(1,.c (.d (.int .u64 b.1))),(4,.c (.d (.int .i64 b.2.1)))],upd (fun _=>.hole) 0 (.cells false false 234 b.2.2)⟩) 1000 (fun b=>b=((n:Int),8,(c0::c1::c2::c3::c4::c5::c6::c7::r))∨b=((u:Int),0,(dB (p3 / 10)::dB (p3 % 10)::dB (p2 / 10)::dB (p2 % 10)::dB (p1 / 10)::dB (p1 % 10)::dB (p0 / 10)::dB (p0 % 10)::r))) (fun b=>b.2.1.toNat) ((n:Int),8,(c0::c1::c2::c3::c4::c5::c6::c7::r)) (Le.mk2 _) (.inl rfl) ?_
 rintro b (rfl|rfl)
 ·refine AW.seqK fun K2 hK2=>AW.q ?_
  refine AW.cy (AW.skip (hK2 _ _ (AW.block (AW.f2 dz wz ?_))))
  refine AW.f2 du eu ?_
  refine AW.f3 dy dx ey ?_
  refine AW.f5 dp1 dp0 ep1 p11 p01 ?_
  refine AW.f5 dp3 dp2 ep3 p31 p21 ?_
  refine AW.seqK fun K5 hK5=>?_
  refine AW.drawP mixed (by kernel_rfl) rfl ?_
  simp [p02,p03,p04,wl0,wl1,wl2,wl3,wl4,wl5,wl6,wl7,wl8,setSeg]
  rw [tb0 _ (x:=p0) (a:=p0a) (by omega) (by omega),tb1 _ (x:=p0) (a:=p0b) (by omega) (by omega)]
  rotate_left
  ·kernel_rfl
  ·kernel_rfl
  repeat refine and_o ?_
  refine⟨by kernel_rfl,?_⟩
  repeat refine and_o ?_
  apply hK5
  refine AW.seqK fun K5 hK5=>?_
  refine AW.drawP mixed (by kernel_rfl) rfl ?_
  simp [p12,p13,p14,wl0,wl1,wl2,wl3,wl4,wl5,wl6,wl7,wl8,setSeg]
  rw [tb0 _ (x:=p1) (a:=p1a) (by omega) (by omega),tb1 _ (x:=p1) (a:=p1b) (by omega) (by omega)]
  rotate_left
  ·kernel_rfl
  ·kernel_rfl
  repeat refine and_o ?_
  refine⟨by kernel_rfl,?_⟩
  repeat refine and_o ?_
  apply hK5
  refine AW.seqK fun K5 hK5=>?_
  refine AW.drawP mixed (by kernel_rfl) rfl ?_
  simp [p22,p23,p24,wl0,wl1,wl2,wl3,wl4,wl5,wl6,wl7,wl8,setSeg]
  rw [tb0 _ (x:=p2) (a:=p2a) (by omega) (by omega),tb1 _ (x:=p2) (a:=p2b) (by omega) (by omega)]
  rotate_left
  ·kernel_rfl
  ·kernel_rfl
  repeat refine and_o ?_
  refine⟨by kernel_rfl,?_⟩
  repeat refine and_o ?_
  apply hK5
  refine AW.seqK fun K5 hK5=>?_
  refine AW.drawP mixed (by kernel_rfl) rfl ?_
  simp [p32,p33,p34,wl0,wl1,wl2,wl3,wl4,wl5,wl6,wl7,wl8,setSeg]
  rw [tb0 _ (x:=p3) (a:=p3a) (by omega) (by omega),tb1 _ (x:=p3) (a:=p3b) (by omega) (by omega)]
  rotate_left
  ·kernel_rfl
  ·kernel_rfl
  repeat refine and_o ?_
  refine⟨by kernel_rfl,?_⟩
  repeat refine and_o ?_
  apply hK5
  refine AW.rP ?_
  simp [wl0,wl1,wl2,wl3,wl4,wl5,wl6,wl7,wl8]
  refine⟨(u:Int),0,(dB (p3 / 10)::dB (p3 % 10)::dB (p2 / 10)::dB (p2 % 10)::dB (p1 / 10)::dB (p1 % 10)::dB (p0 / 10)::dB (p0 % 10)::r),Le.mk2 _,.inr ⟨rfl,rfl,rfl⟩,by decide⟩
 refine AW.seqK fun K2 hK2=>AW.q ?_
 refine AW.cn (AW.exit (hK _ _ (AW.f1 w12 ?_)))
 refine AW.seqK fun K hK=>AW.q ?_
 refine AW.cn (AW.skip (hK _ _ (AW.seqK fun K hK=>AW.q ?_)))
 refine AW.cn (AW.skip (hK _ _ (AW.q ?_)))
 refine AW.cn (AW.skip ?_)
 have ed:dL 8 n=[p3 / 10,p3 % 10,p2 / 10,p2 % 10,p1 / 10,p1 % 10,p0 / 10,p0 % 10]:=by
  show [n / 10 / 10 / 10 / 10 / 10 / 10 / 10 % 10,n / 10 / 10 / 10 / 10 / 10 / 10 % 10,n / 10 / 10 / 10 / 10 / 10 % 10,n / 10 / 10 / 10 / 10 % 10,n / 10 / 10 / 10 % 10,n / 10 / 10 % 10,n / 10 % 10,n % 10]=_
  simp only [List.cons.injEq,and_true]
  refine⟨?_,?_,?_,?_,?_,?_,?_,?_⟩ <;> omega
 refine FinS.none (.inl rfl) rfl (by simp) ?_
 rw [ed]
 simp
theorem fb9 (G:List (List DV))(n:Nat)(hn:n<1000000000)(c0 c1 c2 c3 c4 c5 c6 c7 c8:CV)(r:List CV) :
 CallsS Tryz.prog G 181 [.c (.lsl 0 0 9 1),.c (.d (.int .u64 n))] [.cells false false 234 (c0::c1::c2::c3::c4::c5::c6::c7::c8::r)]
  (.ret (.tup []) [.cells false false 234 ((dL 9 n).map dB++r)] []):=by
 have wl:∀ k:Nat,k<1000→IntKind.i64.wrap (k:Int)=k:=fun k h=>w64 (by omega) (by omega)
 have wl0:IntKind.i64.wrap 0=0:=wl 0 (by decide)
 have wl1:IntKind.i64.wrap 1=1:=wl 1 (by decide)
 have wl2:IntKind.i64.wrap 2=2:=wl 2 (by decide)
 have wl3:IntKind.i64.wrap 3=3:=wl 3 (by decide)
 have wl4:IntKind.i64.wrap 4=4:=wl 4 (by decide)
 have wl5:IntKind.i64.wrap 5=5:=wl 5 (by decide)
 have wl6:IntKind.i64.wrap 6=6:=wl 6 (by decide)
 have wl7:IntKind.i64.wrap 7=7:=wl 7 (by decide)
 have wl8:IntKind.i64.wrap 8=8:=wl 8 (by decide)
 obtain⟨u,hu⟩:∃ q,n / 100000000=q:=⟨_,rfl⟩
 obtain⟨z,hz⟩:∃ q,n % 100000000=q:=⟨_,rfl⟩
 have du:(n:Int).tdiv 100000000=(u:Int):=by rw [Int.tdiv_eq_ediv_of_nonneg (by omega)];omega
 have dz:(n:Int).tmod 100000000=(z:Int):=by rw [Int.tmod_eq_emod_of_nonneg (by omega)];omega
 have eu:IntKind.u64.wrap (u:Int)=u:=wu64 (by omega) (by omega)
 obtain⟨y,hy⟩:∃ q,z / 10000=q:=⟨_,rfl⟩
 obtain⟨x,hx⟩:∃ q,z % 10000=q:=⟨_,rfl⟩
 have dy:(z:Int).tdiv 10000=(y:Int):=by rw [Int.tdiv_eq_ediv_of_nonneg (by omega)];omega
 have dx:(z:Int).tmod 10000=(x:Int):=by rw [Int.tmod_eq_emod_of_nonneg (by omega)];omega
 have ey:IntKind.u32.wrap (y:Int)=y:=wu32 (by omega) (by omega)
 obtain⟨p1,hp1⟩:∃ q,x / 100=q:=⟨_,rfl⟩
 obtain⟨p0,hp0⟩:∃ q,x % 100=q:=⟨_,rfl⟩
 have dp1:(x:Int).tdiv 100=(p1:Int):=by rw [Int.tdiv_eq_ediv_of_nonneg (by omega)];omega
 have dp0:(x:Int).tmod 100=(p0:Int):=by rw [Int.tmod_eq_emod_of_nonneg (by omega)];omega
 have ep1:IntKind.u32.wrap (p1:Int)=p1:=wu32 (by omega) (by omega)
 obtain⟨p3,hp3⟩:∃ q,y / 100=q:=⟨_,rfl⟩
 obtain⟨p2,hp2⟩:∃ q,y % 100=q:=⟨_,rfl⟩
 have dp3:(y:Int).tdiv 100=(p3:Int):=by rw [Int.tdiv_eq_ediv_of_nonneg (by omega)];omega
 have dp2:(y:Int).tmod 100=(p2:Int):=by rw [Int.tmod_eq_emod_of_nonneg (by omega)];omega
 have ep3:IntKind.u32.wrap (p3:Int)=p3:=wu32 (by omega) (by omega)
 obtain⟨p0a,hp0a⟩:∃ a,p0*2=a:=⟨_,rfl⟩
 obtain⟨p0b,hp0b⟩:∃ a,p0a+1=a:=⟨_,rfl⟩
 have p01:IntKind.u32.wrap ((p0:Int)*2)=(p0a:Int):=by rw [wu32 (by omega) (by omega)];omega
 have p02:IntKind.u32.wrap ((p0a:Int)+1)=(p0b:Int):=by rw [wu32 (by omega) (by omega)];omega
 have p03:(p0a:Int)<200:=by omega
 have p04:(p0b:Int)<200:=by omega
 obtain⟨p1a,hp1a⟩:∃ a,p1*2=a:=⟨_,rfl⟩
 obtain⟨p1b,hp1b⟩:∃ a,p1a+1=a:=⟨_,rfl⟩
 have p11:IntKind.u32.wrap ((p1:Int)*2)=(p1a:Int):=by rw [wu32 (by omega) (by omega)];omega
 have p12:IntKind.u32.wrap ((p1a:Int)+1)=(p1b:Int):=by rw [wu32 (by omega) (by omega)];omega
 have p13:(p1a:Int)<200:=by omega
 have p14:(p1b:Int)<200:=by omega
 obtain⟨p2a,hp2a⟩:∃ a,p2*2=a:=⟨_,rfl⟩
 obtain⟨p2b,hp2b⟩:∃ a,p2a+1=a:=⟨_,rfl⟩
 have p21:IntKind.u32.wrap ((p2:Int)*2)=(p2a:Int):=by rw [wu32 (by omega) (by omega)];omega
 have p22:IntKind.u32.wrap ((p2a:Int)+1)=(p2b:Int):=by rw [wu32 (by omega) (by omega)];omega
 have p23:(p2a:Int)<200:=by omega
 have p24:(p2b:Int)<200:=by omega
 obtain⟨p3a,hp3a⟩:∃ a,p3*2=a:=⟨_,rfl⟩
 obtain⟨p3b,hp3b⟩:∃ a,p3a+1=a:=⟨_,rfl⟩
 have p31:IntKind.u32.wrap ((p3:Int)*2)=(p3a:Int):=by rw [wu32 (by omega) (by omega)];omega
 have p32:IntKind.u32.wrap ((p3a:Int)+1)=(p3b:Int):=by rw [wu32 (by omega) (by omega)];omega
 have p33:(p3a:Int)<200:=by omega
 have p34:(p3b:Int)<200:=by omega
 have wz:IntKind.u32.wrap (z:Int)=z:=wu32 (by omega) (by omega)
 have w12:IntKind.u32.wrap (u:Int)=u:=wu32 (by omega) (by omega)
 have w48:IntKind.u32.wrap (48+(u:Int))=((48+u:Nat):Int):=by rw [wu32 (by omega) (by omega)];omega
 have w49:IntKind.u8.wrap ((48+u:Nat):Int)=((48+u:Nat):Int):=wrap_in ⟨by simp only [loK];omega,by simp only [hiK];omega⟩
 refine CallsS.en1 Go.Proofs.Tryz.func181 rfl fun _=>AW.q ?_
 refine AW.seqK fun K hK=>AW.block ?_
 refine AW.loopV (fun (b:Int × Int × List CV)=>⟨frOf [(0,.c (.lsl 0 0 9 1)),(1,.c (.d (.int .u64 b.1))),(4,.c (.d (.int .i64 b.2.1)))],upd (fun _=>.hole) 0 (.cells false false 234 b.2.2)⟩) 1000 (fun b=>b=((n:Int),9,(c0::c1::c2::c3::c4::c5::c6::c7::c8::r))∨b=((u:Int),1,(c0::dB (p3 / 10)::dB (p3 % 10)::dB (p2 / 10)::dB (p2 % 10)::dB (p1 / 10)::dB (p1 % 10)::dB (p0 / 10)::dB (p0 % 10)::r))) (fun b=>b.2.1.toNat) ((n:Int),9,(c0::c1::c2::c3::c4::c5::c6::c7::c8::r)) (Le.mk2 _) (.inl rfl) ?_
 rintro b (rfl|rfl)
 ·refine AW.seqK fun K2 hK2=>AW.q ?_
  refine AW.cy (AW.skip (hK2 _ _ (AW.block (AW.f2 dz wz ?_))))
  refine AW.f2 du eu ?_
  refine AW.f3 dy dx ey ?_
  refine AW.f5 dp1 dp0 ep1 p11 p01 ?_
  refine AW.f5 dp3 dp2 ep3 p31 p21 ?_
  refine AW.seqK fun K5 hK5=>?_
  refine AW.drawP mixed (by kernel_rfl) rfl ?_
  simp [p02,p03,p04,wl0,wl1,wl2,wl3,wl4,wl5,wl6,wl7,wl8,setSeg]
  rw [tb0 _ (x:=p0) (a:=p0a) (by omega) (by omega),tb1 _ (x:=p0) (a:=p0b) (by omega) (by omega)]
  rotate_left
  ·kernel_rfl
  ·kernel_rfl
  repeat refine and_o ?_
  refine⟨by kernel_rfl,?_⟩
  repeat refine and_o ?_
  apply hK5
  refine AW.seqK fun K5 hK5=>?_
  refine AW.drawP mixed (by kernel_rfl) rfl ?_
  simp [p12,p13,p14,wl0,wl1,wl2,wl3,wl4,wl5,wl6,wl7,wl8,setSeg]
  rw [tb0 _ (x:=p1) (a:=p1a) (by omega) (by omega),tb1 _ (x:=p1) (a:=p1b) (by omega) (by omega)]
  rotate_left
  ·kernel_rfl
  ·kernel_rfl
  repeat refine and_o ?_
  refine⟨by kernel_rfl,?_⟩
  repeat refine and_o ?_
  apply hK5
  refine AW.seqK fun K5 hK5=>?_
  refine AW.drawP mixed (by kernel_rfl) rfl ?_
  simp [p22,p23,p24,wl0,wl1,wl2,wl3,wl4,wl5,wl6,wl7,wl8,setSeg]
  rw [tb0 _ (x:=p2) (a:=p2a) (by omega) (by omega),tb1 _ (x:=p2) (a:=p2b) (by omega) (by omega)]
  rotate_left
  ·kernel_rfl
  ·kernel_rfl
  repeat refine and_o ?_
  refine⟨by kernel_rfl,?_⟩
  repeat refine and_o ?_
  apply hK5
  refine AW.seqK fun K5 hK5=>?_
  refine AW.drawP mixed (by kernel_rfl) rfl ?_
  simp [p32,p33,p34,wl0,wl1,wl2,wl3,wl4,wl5,wl6,wl7,wl8,setSeg]
  rw [tb0 _ (x:=p3) (a:=p3a) (by omega) (by omega),tb1 _ (x:=p3) (a:=p3b) (by omega) (by omega)]
  rotate_left
  ·kernel_rfl
  ·kernel_rfl
  repeat refine and_o ?_
  refine⟨by kernel_rfl,?_⟩
  repeat refine and_o ?_
  apply hK5
  refine AW.rP ?_
  simp [wl0,wl1,wl2,wl3,wl4,wl5,wl6,wl7,wl8]
  refine⟨(u:Int),1,(c0::dB (p3 / 10)::dB (p3 % 10)::dB (p2 / 10)::dB (p2 % 10)::dB (p1 / 10)::dB (p1 % 10)::dB (p0 / 10)::dB (p0 % 10)::r),Le.mk2 _,.inr ⟨rfl,rfl,rfl⟩,by decide⟩
 refine AW.seqK fun K2 hK2=>AW.q ?_
 refine AW.cn (AW.exit (hK _ _ (AW.f1 w12 ?_)))
 refine AW.seqK fun K hK=>AW.q ?_
 refine AW.cn (AW.skip (hK _ _ (AW.seqK fun K hK=>AW.q ?_)))
 refine AW.cn (AW.skip (hK _ _ (AW.q ?_)))
 refine AW.cy (AW.rP ?_)
 simp [w48,w49,setSeg]
 repeat refine and_o ?_
 have ed:dL 9 n=[u,p3 / 10,p3 % 10,p2 / 10,p2 % 10,p1 / 10,p1 % 10,p0 / 10,p0 % 10]:=by
  show [n / 10 / 10 / 10 / 10 / 10 / 10 / 10 / 10 % 10,n / 10 / 10 / 10 / 10 / 10 / 10 / 10 % 10,n / 10 / 10 / 10 / 10 / 10 / 10 % 10,n / 10 / 10 / 10 / 10 / 10 % 10,n / 10 / 10 / 10 / 10 % 10,n / 10 / 10 / 10 % 10,n / 10 / 10 % 10,n / 10 % 10,n % 10]=_
  simp only [List.cons.injEq,and_true]
  refine⟨?_,?_,?_,?_,?_,?_,?_,?_,?_⟩ <;> omega
 refine FinS.none (.inl rfl) rfl (by simp) ?_
 rw [ed]
 have e48:CV.d (.int .u8 (IntKind.u8.wrap (48+(u:Int))))=dB u:=by unfold dB;rw [← w49];rfl
 simp [e48]
def dgT (k n:Nat):List UInt8:=(dL k n).map fun d=>UInt8.ofNat (48+d)
theorem dL_len:∀ (k n:Nat),(dL k n).length=k
 | 0,_=>rfl
 | k+1,n=>by simp [dL,dL_len k]
theorem dL_lt:∀ (k n:Nat),∀ d∈dL k n,d<10
 | 0,_,d,h=>by cases h
 | k+1,n,d,h=>by
  simp only [dL,List.mem_append,List.mem_singleton] at h
  rcases h with h|rfl
  ·exact dL_lt k _ d h
  ·omega
theorem dgT_len (k n:Nat):(dgT k n).length=k:=by simp [dgT,dL_len]
theorem dB_bytes (k n:Nat):(dL k n).map dB=bytesA (dgT k n):=by
 unfold dgT bytesA
 rw [List.map_map]
 refine List.map_congr_left fun d hd=>?_
 have:=dL_lt k n d hd
 simp only [Function.comp,dB]
 rw [UInt8.toNat_ofNat',Nat.mod_eq_of_lt (by omega)]
theorem dig_step {n:Nat}(h:n≠0):dig 10 n=n % 10::dig 10 (n / 10):=by
 refine (dig_of (by decide) ?_ ?_).symm
 ·have hc:=dig_can (B:=10) (by decide) (n / 10)
  refine⟨ok_cons.2 ⟨Nat.mod_lt _ (by decide),hc.1⟩,fun x hx=>?_⟩
  cases hd:dig 10 (n / 10) with
  | nil=>
   rw [hd] at hx
   have h0:=(dig_nil (by decide)).1 hd
   simp at hx
   omega
  | cons a l=>
   rw [hd] at hx
   exact hc.2 x (by rw [hd];simpa using hx)
 ·show n % 10+10*val 10 (dig 10 (n / 10))=n
  rw [dig_val (by decide)];omega
theorem dL_dig:∀ (k n:Nat),ndig n=k→dL k n=(dig 10 n).reverse
 | 0,n,h=>by
  have:dig 10 n=[]:=List.length_eq_zero_iff.1 h
  rw [this];rfl
 | k+1,n,h=>by
  have h0:n≠0:=by
   intro e;subst e;cases h
  have hs:=dig_step h0
  have h1:ndig (n / 10)=k:=by
   unfold ndig at h ⊢
   rw [hs,List.length_cons] at h;omega
  rw [hs,List.reverse_cons,← dL_dig k _ h1];rfl
theorem decU_dgT {n:Nat}(h:n≠0):decU n=dgT (ndig n) n:=by
 unfold decU dgT;rw [if_neg h,dL_dig _ _ rfl]
theorem fb_ok (G:List (List DV))(k n:Nat)(h1:3≤k)(h2:k≤9)(hn:n<10 ^ k) :
 CallsS Tryz.prog G 181 [.c (.lsl 0 0 k 1),.c (.d (.int .u64 n))] [.cells false false 234 [.d (.int .u8 0),.d (.int .u8 0),.d (.int .u8 0),.d (.int .u8 0),.d (.int .u8 0),.d (.int .u8 0),.d (.int .u8 0),.d (.int .u8 0),.d (.int .u8 0),.d (.int .u8 0),.d (.int .u8 0),.d (.int .u8 0),.d (.int .u8 0),.d (.int .u8 0),.d (.int .u8 0),.d (.int .u8 0),.d (.int .u8 0),.d (.int .u8 0),.d (.int .u8 0),.d (.int .u8 0),.d (.int .u8 0),.d (.int .u8 0),.d (.int .u8 0),.d (.int .u8 0)]]
  (.ret (.tup []) [.cells false false 234 (bytesA (dgT k n)++List.replicate (24 - k) (.d (.int .u8 0)))] []):=by
 rw [← dB_bytes]
 have h:k=3∨k=4∨k=5∨k=6∨k=7∨k=8∨k=9:=by omega
 rcases h with rfl|rfl|rfl|rfl|rfl|rfl|rfl
 ·exact fb3 G n hn _ _ _ (List.replicate 21 _)
 ·exact fb4 G n hn _ _ _ _ (List.replicate 20 _)
 ·exact fb5 G n hn _ _ _ _ _ (List.replicate 19 _)
 ·exact fb6 G n hn _ _ _ _ _ _ (List.replicate 18 _)
 ·exact fb7 G n hn _ _ _ _ _ _ _ (List.replicate 17 _)
 ·exact fb8 G n hn _ _ _ _ _ _ _ _ (List.replicate 16 _)
 ·exact fb9 G n hn _ _ _ _ _ _ _ _ _ (List.replicate 15 _)
theorem bytesA_pure (l:List UInt8):∀ x∈bytesA l,x.pure=true:=by
 intro x hx
 simp only [bytesA,List.mem_map] at hx
 obtain⟨b,_,rfl⟩:=hx
 rfl
theorem fmtUint_ok (m:Int)(n:Nat)(hn:n<1000000000):CallsP Tryz.prog (GG m) 136 [.c (.d (.int .u64 n)),.c (.d (.int .i64 10))] (.c (.d (.str (decU n)))):=by
 by_cases hs:n<100
 ·have hs':(n:Int)<100:=by omega
  have h1:=small_ok m n hs
  have w1:=w64 (n:=(n:Int)) (by omega) (by omega)
  refine CallsP.en Go.Proofs.Tryz.func136 rfl fun _=>AW.q ?_
  refine AW.seqK fun K hK=>AW.q ?_
  refine AW.cy (AW.seqK fun K1 hK1=>AW.f1 hs' ?_)
  refine AW.fy (by simp [hs'] <;> omega) (AW.c1 0 h1 w1 ?_)
  exact AW.r0 (FinP.rt rfl 4 (by simp))
 have hs':¬ (n:Int)<100:=by omega
 have h0:n≠0:=by omega
 have h1:=numDigits_ok m n h0 hn
 have hd:=decU_dgT h0
 have k1:3≤ndig n:=by
  have:=ndig_lt n
  apply Classical.byContradiction
  intro hc
  have h9:10 ^ ndig n≤10 ^ 2:=Nat.pow_le_pow_right (by decide) (by omega)
  omega
 have k2:ndig n≤9:=dig_len_le (by decide) hn
 have hnd:=ndig_lt n
 rw [hd]
 refine CallsP.en Go.Proofs.Tryz.func136 rfl fun _=>AW.q ?_
 refine AW.seqK fun K hK=>AW.q ?_
 refine AW.cy (AW.seqK fun K1 hK1=>AW.f1 hs' ?_)
 refine AW.fn (by simp [hs'] <;> omega) (AW.skip (hK1 _ _ (AW.q ?_)))
 refine AW.c0 1 h1 ?_
 have hfb:=fun G=>fb_ok G (ndig n) n k1 k2 hnd
 have hlt:dgT (ndig n) n=dgT (ndig n) n:=rfl
 have hln:=dgT_len (ndig n) n
 generalize ndig n=k at *
 generalize dgT k n=t at *
 subst hln
 have hk1:(0:Int)≤(t.length:Int):=by omega
 have hk2:(t.length:Int)≤24:=by omega
 refine AW.seqK fun K1 hK1=>?_
 refine AW.regionX ?_
 refine ChX.run 1 rfl ?_
 simp []
 refine ChX.stepN (x:=.c (.lsl 0 0 t.length 1)) (us:=[]) (rds:=[0]) 1 rfl rfl ?_ ?_
 ·simp [Am.stepN,Op.operands,bnds,nSlice]
  omega
 refine ChX.run 2 rfl ?_
 simp []
 have hz:∀ x∈([.d (.int .u8 0),.d (.int .u8 0),.d (.int .u8 0),.d (.int .u8 0),.d (.int .u8 0),.d (.int .u8 0),.d (.int .u8 0),.d (.int .u8 0),.d (.int .u8 0),.d (.int .u8 0),.d (.int .u8 0),.d (.int .u8 0),.d (.int .u8 0),.d (.int .u8 0),.d (.int .u8 0),.d (.int .u8 0),.d (.int .u8 0),.d (.int .u8 0),.d (.int .u8 0),.d (.int .u8 0),.d (.int .u8 0),.d (.int .u8 0),.d (.int .u8 0),.d (.int .u8 0)]:List CV),x.pure=true:=by decide
 have hz':∀ x∈bytesA t++List.replicate (24 - t.length) (CV.d (.int .u8 0)),x.pure=true:=by
  intro x hx
  rcases List.mem_append.1 hx with h|h
  ·exact bytesA_pure t x h
  ·rw [List.eq_of_mem_replicate h];rfl
 refine CallP.pass1 1 9 0 (own:=true) (T:=234) (cs:=[.d (.int .u8 0),.d (.int .u8 0),.d (.int .u8 0),.d (.int .u8 0),.d (.int .u8 0),.d (.int .u8 0),.d (.int .u8 0),.d (.int .u8 0),.d (.int .u8 0),.d (.int .u8 0),.d (.int .u8 0),.d (.int .u8 0),.d (.int .u8 0),.d (.int .u8 0),.d (.int .u8 0),.d (.int .u8 0),.d (.int .u8 0),.d (.int .u8 0),.d (.int .u8 0),.d (.int .u8 0),.d (.int .u8 0),.d (.int .u8 0),.d (.int .u8 0),.d (.int .u8 0)]) (by simp) hz hz' (hfb _) rfl rfl (by
  intro i h h'
  match i,h with
  | 0,_=>exact .inr (.inl ⟨_,_,_,rfl,rfl⟩)
  | 1,_=>exact .inl ⟨rfl,rfl⟩) (by simp) (by decide) ?_
 simp
 refine ChX.done ?_
 repeat refine and_o ?_
 apply hK1
 refine AW.seqK fun K1 hK1=>?_
 refine AW.regionX ?_
 refine ChX.run 1 rfl ?_
 simp []
 refine ChX.stepN (x:=.c (.lsl 0 0 t.length 1)) (us:=[]) (rds:=[0]) 1 rfl rfl ?_ ?_
 ·simp [Am.stepN,Op.operands,bnds,nSlice,bytesA_length]
  omega
 refine ChX.convBs (κ:=0) (off:=0) (own:=true) (fz:=false) (T':=234) (e:=5) (cs:=bytesA t++List.replicate (24 - t.length) (CV.d (.int .u8 0))) (l:=t) 1 rfl rfl rfl (by simp) (by simp) (by rw [List.drop_zero,List.take_append_of_le_length (by rw [bytesA_length];exact Nat.le_refl _),List.take_of_length_le (by rw [bytesA_length];exact Nat.le_refl _)]) (by omega) (by simp) Tryz.underlying5 (by simp) ?_
 refine ChX.run 1 rfl ?_
 simp []
 refine ChX.done ?_
 repeat refine and_o ?_
 apply hK1
 exact AW.r0 (FinP.rt (t:=4) rfl 9 (by simp))
theorem SimW.of_sim {c:Ctx}{r:Option Nat}{ops:Array Oper}{o:Oper}{s s1:LSt}(hg:o.guard=none) (hdf:∀ cl,o.op≠.defer cl) (h:Sim c o s s1):SimW c r ops o s s1:=by
 intro F β a w K Q hs hK
 have hw:wantA ops o.guard s.fr=some true:=by unfold wantA;rw [hg]
 rw [wantA_sound hs hw]
 simp only [if_true]
 exact wpIn_fen hdf (h F β a w K Q hs hK)
theorem SimW.callG {c:Ctx}{r:Option Nat}{ops:Array Oper}{o:Oper}{s:LSt}{cl:Call}{f:FuncId}{fs cs:List AV}{x:AV}{lv':Key→LB}(hd:∀ d,o.dst=some d→d<c.n) (hg:o.guard=none) (ho:o.op=.call cl)
 (ht:tgtC c.P (s.val c.G) cl.callee=some (f,fs,cs)) (hf:isFn c.P f=true) (hok:AllOk s.lv) (hc:CallG c.P c.G f (fs++cl.args.toList.map (s.val c.G)++cs) s.lv (.ret x lv')):SimW c r ops o s (LSt.put ⟨s.fr,lv'⟩ o.dst x):=
 SimW.of_sim hg (fun cl' e=>by rw [ho] at e;cases e) (CallG.sim hd ho ht hf hok hc)
def bdC (k n:Nat):LB:=.cells false false 151 [.ptr 1 0,.lsl k 0 n 1]
def byC (l:List UInt8):LB:=.cells false false 5 (bytesA l)
theorem infoU8:∃ i z,Tryz.prog.info? 5=some i∧i.zero=some z∧z.cells.size=1∧i.bytes=1:=by
 have h:(Tryz.prog.info? 5).map (fun i=>(i.zero.map (·.cells.size),i.bytes))=some (some 1,1):=by kernel_rfl
 obtain⟨i,h1,h2⟩:=Option.map_eq_some_iff.1 h
 simp only [Prod.mk.injEq] at h2
 obtain⟨z,h3,h4⟩:=Option.map_eq_some_iff.1 h2.1
 exact⟨i,z,h1,h3,h4,h2.2⟩
theorem app_u8 (lv:Key→LB)(l s:List UInt8)(h2:lv 2=.cells false false 5 (bytesA l))(h3:lv 3=.hole)(hs:l.length+s.length≤100000000000) :
 nAppendS Tryz.prog 149 9 lv 3 (.c (.lsl 2 0 l.length 1)) (.c (.d (.str s)))=some (.c (.lsl 3 0 (l.length+s.length) 1),[(2,.dead),(3,.cells false false 5 (bytesA l++bytesA s))],[]):=by
 obtain⟨i,z,i1,i2,i3,i4⟩:=infoU8
 have hn:=bytesA_length l
 unfold nAppendS
 simp only [h3,h2]
 simp [i1,i2,i3,i4,hn]
 omega
theorem app_nil (lv:Key→LB)(s:List UInt8)(h3:lv 2=.hole)(hs:s.length≤100000000000) :
 nAppendS Tryz.prog 149 9 lv 2 (.c (.d .nilsl)) (.c (.d (.str s)))=some (.c (.lsl 2 0 s.length 1),[(2,if s.length=0 then .nils else .cells true false 5 (bytesA s))],[]):=by
 obtain⟨i,z,i1,i2,i3,i4⟩:=infoU8
 unfold nAppendS
 simp only [h3]
 simp [i1,i2,i3,i4]
 omega
theorem ws_used (m:Int)(lv:Key→LB)(l s:List UInt8)(hok:AllOk lv)(h1:lv 1=bdC 2 l.length)(h2:lv 2=byC l)(h3:lv 3=.hole)(hs:l.length+s.length≤100000000000) :
 CallG Tryz.prog (GG m) 87 [.c (.ptr 1 0),.c (.d (.str s))] lv
  (.ret (.tup [.c (.d (.int .i64 s.length)),.c (.d .nilIface)]) (upd (upd (upd lv 2 .dead) 3 (byC (l++s))) 1 (bdC 3 (l.length+s.length)))):=by
 refine CallG.of_AW (κ:=3) Go.Proofs.Tryz.func87 rfl (by show 2≤_;decide) ?_
 rintro⟨_,Gc,w0,F0,W0,_,lv0,β0⟩ rfl rfl rfl rfl
 refine AW.seqK fun K hK=>AW.rP ?_
 simp
 repeat refine and_o ?_
 apply hK
 refine AW.seqK fun K hK=>?_
 have h1:lv0 1=.cells false false 151 [.ptr 1 0,.lsl 2 0 l.length 1]:=h1
 have h2:lv0 2=.cells false false 5 (bytesA l):=h2
 have h3:lv0 3=.hole:=h3
 refine AW.regionS' ⟨_,⟨_,SimW.plain (x:=.c (.ptr 1 0)) (vc:=True) (κ:=9) (by intro d hd;cases hd;show (_:Nat)<19;decide) rfl rfl trivial rfl,_,SimW.callG (f:=141) (fs:=[]) (cs:=[]) (by intro d hd;cases hd;show (_:Nat)<19;decide) rfl rfl rfl (by simp) hok (self_used m lv0 1 0 151 _ _ h1 rfl),rfl⟩,?_⟩
 repeat refine and_o ?_
 apply hK
 refine AW.seqK fun K hK=>?_
 refine AW.regionX ?_
 refine ChX.run 6 rfl ?_
 simp [h1,h2,h3]
 have hn:=bytesA_length l
 have happ:bytesA l++bytesA s=bytesA (l++s):=by simp [bytesA]
 refine ChX.stepN (x:=.c (.lsl 3 0 (l.length+s.length) 1)) (us:=[(2,.dead),(3,.cells false false 5 (bytesA (l++s)))]) (rds:=[]) 4 rfl rfl ?_ ?_
 ·show nAppendS Tryz.prog 149 9 lv0 3 (.c (.lsl 2 0 l.length 1)) (.c (.d (.str s)))=_
  rw [← happ]
  exact app_u8 lv0 l s h2 h3 hs
 refine ChX.run 3 rfl ?_
 simp [updL,h1,setSeg]
 refine ChX.done ?_
 repeat refine and_o ?_
 apply hK
 refine AW.q ?_
 exact AW.ret (show FinG _ _ _ .ret _ _ from ⟨by simp [Tryz.f87,resA,resL,resV],rfl⟩)
theorem ws_first (m:Int)(lv:Key→LB)(s:List UInt8)(hok:AllOk lv)(h1:lv 1=.cells false false 151 [.d .nilp,.d .nilsl])(h2:lv 2=.hole)(hs:s.length≤100000000000)(h0:s≠[]) :
 CallG Tryz.prog (GG m) 87 [.c (.ptr 1 0),.c (.d (.str s))] lv
  (.ret (.tup [.c (.d (.int .i64 s.length)),.c (.d .nilIface)]) (upd (upd (upd lv 1 (.cells false false 151 [.ptr 1 0,.d .nilsl])) 2 (.cells true false 5 (bytesA s))) 1 (bdC 2 s.length))):=by
 refine CallG.of_AW (κ:=2) Go.Proofs.Tryz.func87 rfl (by show 2≤_;decide) ?_
 rintro⟨_,Gc,w0,F0,W0,_,lv0,β0⟩ rfl rfl rfl rfl
 have hl0:¬ s.length=0:=fun h=>h0 (List.length_eq_zero_iff.1 h)
 refine AW.q ?_
 refine AW.seqK fun K hK=>?_
 have h1:lv0 1=.cells false false 151 [.d .nilp,.d .nilsl]:=h1
 have h2:lv0 2=.hole:=h2
 refine AW.regionS' ⟨_,⟨_,SimW.plain (x:=.c (.ptr 1 0)) (vc:=True) (κ:=9) (by intro d hd;cases hd;show (_:Nat)<19;decide) rfl rfl trivial rfl,_,SimW.callG (f:=141) (fs:=[]) (cs:=[]) (by intro d hd;cases hd;show (_:Nat)<19;decide) rfl rfl rfl (by simp) hok (self_fresh m lv0 1 0 151 _ _ rfl h1 rfl),rfl⟩,?_⟩
 repeat refine and_o ?_
 apply hK
 refine AW.seqK fun K hK=>?_
 refine AW.regionX ?_
 refine ChX.run 6 rfl ?_
 simp [h1,h2,setSeg]
 refine ChX.stepN (x:=.c (.lsl 2 0 s.length 1)) (us:=[(2,.cells true false 5 (bytesA s))]) (rds:=[]) 3 rfl rfl ?_ ?_
 ·have:=app_nil (upd lv0 1 (.cells false false 151 [.ptr 1 0,.d .nilsl])) s (by simp [h2]) hs
  rw [if_neg hl0] at this
  exact this
 refine ChX.run 3 rfl ?_
 simp [updL,h1,setSeg]
 refine ChX.done ?_
 repeat refine and_o ?_
 apply hK
 refine AW.q ?_
 exact AW.ret (show FinG _ _ _ .ret _ _ from ⟨by simp [Tryz.f87,resA,resL,resV],by simp [setSeg,bdC]⟩)
theorem toBytes_A:∀ l:List UInt8,toBytes (bytesA l)=some l
 | []=>rfl
 | b::l=>by
  have hb:b.toNat<256:=b.toNat_lt
  show toBytes (.d (.int .u8 (.ofNat b.toNat))::bytesA l)=_
  unfold toBytes
  simp only [toBytes_A l,hb,if_true,UInt8.ofNat_toNat]
theorem ptrU8:Tryz.prog.underlying 196=some (.pointer 5):=Tryz.underlying196
theorem bs_ok (m:Int)(lv:Key→LB)(l:List UInt8)(h1:lv 1=bdC 2 l.length)(h2:lv 2=byC l)(hl:l.length≤100000000000)(h0:l≠[]) :
 CallG Tryz.prog (GG m) 88 [.c (.ptr 1 0)] lv (.ret (.c (.d (.str l))) (upd lv 2 .dead)):=by
 refine CallG.of_AW (κ:=9) Go.Proofs.Tryz.func88 rfl (by show 1≤_;decide) ?_
 rintro⟨_,Gc,w0,F0,W0,_,lv0,β0⟩ rfl rfl rfl rfl
 have hl0:0<l.length:=List.length_pos_iff.2 h0
 have h1:lv0 1=.cells false false 151 [.ptr 1 0,.lsl 2 0 l.length 1]:=h1
 have h2:lv0 2=.cells false false 5 (bytesA l):=h2
 have hn:=bytesA_length l
 refine AW.q ?_
 refine AW.seqK fun K hK=>?_
 refine AW.drawX mixed (by kernel_rfl) ?_
 refine ChD.run 4 rfl ?_
 simp [h1]
 refine ChD.stepN (x:=.c (.ptr 2 0)) (us:=[]) (rds:=[2]) 9 rfl rfl ?_ ?_
 ·show nData lv0 (.c (.lsl 2 0 l.length 1))=_
  simp [nData,h2,hl0]
 refine ChD.run 5 rfl ?_
 simp [h1,h2,updL]
 refine⟨by omega,?_⟩
 refine ChD.stepN (x:=.c (.d (.str l))) (us:=[(2,.dead)]) (rds:=[]) 9 rfl rfl ?_ ?_
 ·show nString Tryz.prog 196 (updL lv0 []) (.c (.ptr 2 0)) (.c (.d (.int .i64 (l.length:Int))))=_
  have hc1:Tryz.prog.cellsOf 5=1:=by kernel_rfl
  have htk:(bytesA l).take ((l.length:Int).toNat)=bytesA l:=by rw [Int.toNat_natCast];exact List.take_of_length_le (by omega)
  simp only [nString,updL,List.foldl,h2,ptrU8,hc1,htk,toBytes_A]
  rw [if_pos ⟨trivial,trivial,by omega,by omega⟩,if_pos (by omega)]
 refine ChD.run 1 rfl ?_
 simp
 refine ChD.done ?_
 refine⟨by kernel_rfl,?_⟩
 repeat refine and_o ?_
 apply hK
 exact AW.ret (show FinG _ _ _ .ret _ _ from ⟨by simp [Tryz.f88,resA,resL,resV],by simp [updL]⟩)
theorem dL_add (j:Nat):∀ (k n:Nat),dL (j+k) n=dL j (n / 10 ^ k)++dL k n
 | 0,n=>by simp [dL]
 | k+1,n=>by
  show dL (j+k) (n / 10)++[n % 10]=_
  rw [dL_add j k (n / 10),Nat.div_div_eq_div_mul,show 10*10 ^ k=10 ^ (k+1) by rw [Nat.pow_succ];omega,List.append_assoc];rfl
theorem dL_zero:∀ k:Nat,dL k 0=List.replicate k 0
 | 0=>rfl
 | k+1=>by
  show dL k (0 / 10)++[0 % 10]=_
  rw [Nat.zero_div,dL_zero k,List.replicate_succ']
theorem dL_mod:∀ (k n:Nat),dL k (n % 10 ^ k)=dL k n
 | 0,n=>rfl
 | k+1,n=>by
  show dL k (n % 10 ^ (k+1) / 10)++[n % 10 ^ (k+1) % 10]=dL k (n / 10)++[n % 10]
  rw [show 10 ^ (k+1)=10*10 ^ k by rw [Nat.pow_succ];omega,Nat.mod_mul_right_div_self,dL_mod k (n / 10),Nat.mod_mul_right_mod]
theorem dgT_add (j k n:Nat):dgT (j+k) n=dgT j (n / 10 ^ k)++dgT k n:=by
 unfold dgT;rw [dL_add,List.map_append]
theorem dgT_zero (k:Nat):dgT k 0=List.replicate k 48:=by
 unfold dgT;rw [dL_zero,List.map_replicate];rfl
theorem dgT_mod (k n:Nat):dgT k (n % 10 ^ k)=dgT k n:=by
 unfold dgT;rw [dL_mod]
theorem decU_len {n:Nat}(h:n<1000000000):1≤(decU n).length∧(decU n).length≤9:=by
 by_cases h0:n=0
 ·subst h0;exact⟨by decide,by decide⟩
 ·rw [decU_dgT h0,dgT_len]
  have h2:ndig n≤9:=dig_len_le (by decide) h
  have h1:=ndig_lt n
  refine⟨Nat.one_le_iff_ne_zero.2 fun e=>?_,h2⟩
  rw [e] at h1;omega
theorem dec_pad {n:Nat}(h:n<1000000000):List.replicate (9 - (decU n).length) 48++decU n=dgT 9 n:=by
 by_cases h0:n=0
 ·subst h0;decide
 ·have h2:ndig n≤9:=dig_len_le (by decide) h
  rw [decU_dgT h0,dgT_len]
  conv=>rhs;rw [show 9=(9 - ndig n)+ndig n by omega]
  rw [dgT_add,Nat.div_eq_of_lt (ndig_lt n),dgT_zero]
theorem ndig_step {n:Nat}(h:n≠0):ndig n=ndig (n / 10)+1:=by
 unfold ndig;rw [dig_step h,List.length_cons]
theorem ndig_add (n:Nat):∀ j:Nat,n / 10 ^ j≠0→ndig n=ndig (n / 10 ^ j)+j
 | 0,_=>by simp
 | j+1,h=>by
  have e:n / 10 ^ (j+1)=n / 10 ^ j / 10:=by rw [Nat.div_div_eq_div_mul,Nat.pow_succ]
  have h1:n / 10 ^ j≠0:=by intro e0;rw [e,e0] at h;simp at h
  rw [ndig_add n j h1,ndig_step h1,e];omega
def pts (n:Nat):List (List UInt8):=if n / 1000000000=0 then [decU n] else dgT 9 (n % 1000000000)::pts (n / 1000000000)
termination_by n
decreasing_by
 rename_i h
 exact Nat.div_lt_self (by omega) (by decide)
theorem pts_lo {n:Nat}(h:n / 1000000000=0):pts n=[decU n]:=by rw [pts,if_pos h]
theorem pts_hi {n:Nat}(h:n / 1000000000≠0):pts n=dgT 9 (n % 1000000000)::pts (n / 1000000000):=by rw [pts,if_neg h]
theorem pts_flat (n:Nat)(h:n≠0):(pts n).reverse.flatten=decU n:=by
 induction n using Nat.strongRecOn with
 | _ n ih=>
  by_cases hq:n / 1000000000=0
  ·rw [pts_lo hq];simp
  ·rw [pts_hi hq,List.reverse_cons,List.flatten_append,ih _ (Nat.div_lt_self (by omega) (by decide)) hq,decU_dgT hq,decU_dgT h,ndig_add n 9 hq,dgT_add]
   have:dgT 9 (n % 1000000000)=dgT 9 n:=dgT_mod 9 n
   rw [this];simp
theorem pts_ne (n:Nat):∀ p∈pts n,p≠[]∧p.length≤9:=by
 induction n using Nat.strongRecOn with
 | _ n ih=>
  by_cases hq:n / 1000000000=0
  ·rw [pts_lo hq]
   intro p hp
   rw [List.mem_singleton.1 hp]
   have h:=decU_len (n:=n) (by omega)
   exact⟨fun e=>by rw [e] at h;exact absurd h.1 (by decide),h.2⟩
  ·rw [pts_hi hq]
   intro p hp
   rcases List.mem_cons.1 hp with rfl|hp
   ·refine⟨fun e=>?_,?_⟩
    ·have:=dgT_len 9 (n % 1000000000);rw [e] at this;cases this
    ·rw [dgT_len];exact Nat.le_refl _
   ·exact ih _ (Nat.div_lt_self (by omega) (by decide)) p hp
theorem pts_nil (n:Nat):pts n≠[]:=by
 rw [pts];split <;> simp
theorem flat_len {l:List (List UInt8)}(h:∀ p∈l,p≠[]):l.length≤l.flatten.length:=by
 induction l with
 | nil=>simp
 | cons p l ih=>
  have h1:=List.length_pos_iff.2 (h p (List.mem_cons_self ..))
  have h2:=ih fun q hq=>h q (List.mem_cons_of_mem _ hq)
  simp only [List.flatten_cons,List.length_append,List.length_cons];omega
theorem fmtU_ok (m:Int)(n:Nat)(hn:n<1000000000):CallsP Tryz.prog (GG m) 85 [.c (.d (.int .u64 n)),.c (.d (.int .i64 10))] (.c (.d (.str (decU n)))):=by
 have h1:=fmtUint_ok m n hn
 refine CallsP.en Go.Proofs.Tryz.func85 rfl fun _=>AW.q ?_
 refine AW.c0 1 h1 ?_
 exact AW.r0 (FinP.rt rfl 4 (by simp))
noncomputable def rpT (G:List (List DV)):Bool:=(List.range 9).all fun i=>match finK (evK Tryz.prog G spX 0 60 86 [.c (.d (.str [48])),.c (.d (.int .i64 (.ofNat i)))] .leaf 0 [] kDone .pan) with
 | some (.c (.d (.str s)))=>eqB s (List.replicate i 48)
 | _=>false
theorem rpT_ok (m:Int):rpT (GG m)=true:=by kernel_rfl
theorem repeat_ok (m:Int)(i:Nat)(hi:i<9):CallsP Tryz.prog (GG m) 86 [.c (.d (.str [48])),.c (.d (.int .i64 i))] (.c (.d (.str (List.replicate i 48)))):=by
 have h:=List.all_eq_true.1 (rpT_ok m) i (List.mem_range.2 hi)
 split at h
 ·rename_i s hs
  have:=CallsP.of_ev (evX_ok m 60) hs
  rw [eqB_eq h] at this
  exact this
 ·cases h
theorem upd_hm {lv:Key→LB}{k:Key}(h:lv k=.hole):upd lv k .hole=lv:=by
 funext j
 simp_all
def sK (l:List (List UInt8)):List CV:=l.map fun s=>CV.d (.str s)
def sB (l:List (List UInt8)):LB:=if l=[] then .hole else .cells true false 9 (sK l)
def sS (l:List (List UInt8)):AV:=if l=[] then .c (.d .nilsl) else .c (.lsl 0 0 l.length 1)
theorem sK_len (l:List (List UInt8)):(sK l).length=l.length:=by simp [sK]
theorem sK_ren (l:List (List UInt8))(g:Key→Key):(sK l).map (CV.ren g)=sK l:=by
 unfold sK;rw [List.map_map];rfl
theorem sB_snoc (l:List (List UInt8))(x:List UInt8):sB (l++[x])=.cells true false 9 (sK l++[.d (.str x)]):=by
 unfold sB;rw [if_neg (by simp)];simp [sK]
theorem sS_snoc (l:List (List UInt8))(x:List UInt8):sS (l++[x])=.c (.lsl 0 0 (l.length+1) 1):=by
 unfold sS;rw [if_neg (by simp)];simp
theorem bsS1 (lv:Key→LB)(κ:Key)(h:lv κ=.hole)(a:CV):stepBuildSlice Tryz.prog 47 1 [0] lv κ [.c a]=some (.c (.lsl κ 0 1 1),[(κ,.cells true false 9 [a])],[],True):=by
 unfold stepBuildSlice;rw [h];kernel_rfl
theorem concatT (s t:List UInt8):stepBin Tryz.prog .add 9 (.c (.d (.str s))) (.c (.d (.str t)))=some (.c (.d (.str (s++t))),[],[],s.length+t.length≤9223372036854775807):=by
 simp [stepBin,binS,binSok]
theorem ixS1 (lv:Key→LB){cs:List CV}{n i:Nat}(h:lv 0=.cells false false 9 cs) (hi:i<n):stepIndexAddr Tryz.prog 47 lv (.c (.lsl 0 0 n 1)) (.c (.d (.int .i64 (i:Int))))=some (.c (.ptr 0 i),[],[0],i<n):=by
 simp [stepIndexAddr,h]
theorem ldS1 (lv:Key→LB){cs:List CV}{i:Nat}{s:List UInt8}(h:lv 0=.cells false false 9 cs) (hs:cs[i]?=some (.d (.str s))):stepLoad Tryz.prog 9 lv (.c (.ptr 0 i))=some (.c (.d (.str s)),[],[0],True):=by
 obtain⟨hi,hs⟩:=List.getElem?_eq_some_iff.1 hs
 have hd:cs.drop i=.d (.str s)::cs.drop (i+1):=by rw [List.drop_eq_getElem_cons hi,hs]
 simp [stepLoad,h,hd]
def wJ (A j:Nat):List UInt8:=((pts A).drop j).reverse.flatten
def bdJ (w:List UInt8):LB:=if w=[] then .cells false false 151 [.d .nilp,.d .nilsl] else bdC 2 w.length
def byJ (w:List UInt8):LB:=if w=[] then .hole else byC w
theorem wJ_all (A:Nat)(h:A≠0):wJ A 0=decU A:=by unfold wJ;rw [List.drop_zero,pts_flat A h]
theorem wJ_end (A:Nat):wJ A (pts A).length=[]:=by unfold wJ;rw [List.drop_length];rfl
theorem wJ_step (A j:Nat)(h:j<(pts A).length):wJ A j=wJ A (j+1)++(pts A)[j]:=by
 unfold wJ
 rw [List.drop_eq_getElem_cons h,List.reverse_cons,List.flatten_append];simp
theorem flat_le9:∀ {l:List (List UInt8)},(∀ p∈l,p.length≤9)→l.flatten.length≤9*l.length
 | [],_=>by simp
 | p::l,h=>by
  have h1:=h p (List.mem_cons_self ..)
  have h2:=flat_le9 (l:=l) fun q hq=>h q (List.mem_cons_of_mem _ hq)
  simp only [List.flatten_cons,List.length_append,List.length_cons];omega
theorem wJ_len (A j:Nat):(wJ A j).length≤9*(pts A).length:=by
 unfold wJ
 refine Nat.le_trans (flat_le9 fun p hp=>(pts_ne A p (List.mem_of_mem_drop (List.mem_reverse.1 hp))).2) ?_
 rw [List.length_reverse,List.length_drop];omega
theorem wJ_ne (A j:Nat)(h:j<(pts A).length):wJ A j≠[]:=by
 rw [wJ_step A j h]
 have:=(pts_ne A _ (List.getElem_mem h)).1
 simp [this]
theorem ndig_nl (A:Nat):ndig A≤10*(dig 4294967296 A).length:=by
 refine dig_len_le (by decide) ?_
 rw [Nat.pow_mul]
 exact Nat.lt_of_lt_of_le (dig_lt (by decide)) (Nat.pow_le_pow_left (by decide) _)
theorem pts_count {A:Nat}(h:A≠0):(pts A).length≤10*(dig 4294967296 A).length:=by
 have h1:=flat_len (l:=(pts A).reverse) fun p hp=>(pts_ne A p (List.mem_reverse.1 hp)).1
 rw [List.length_reverse,pts_flat A h,decU_dgT h,dgT_len] at h1
 exact Nat.le_trans h1 (ndig_nl A)
theorem SimW.step {c:Ctx}{r:Option Nat}{ops:Array Oper}{o:Oper}{s:LSt}{κ:Key}{x:AV}{us:List (Key × LB)}{rds:List Key}{vc:Prop}(hd:∀ d,o.dst=some d→d<c.n) (hg:o.guard=none)
 (h:stepF c.P o.op (o.op.operands.toList.map (s.val c.G)) s.lv κ=some (x,us,rds,vc)) (hvc:vc) {s1:LSt}(h1:s1=LSt.put ⟨s.fr,updL s.lv us⟩ o.dst x):SimW c r ops o s s1:=by
 subst h1
 exact SimW.of_eff (EffOK.plain hd (by unfold wantA;rw [hg]) h hvc)
theorem allOk_hole:AllOk (fun _=>.hole):=fun _=>rfl
theorem allOk_upd {lv:Key→LB}{k:Key}{b:LB}(h:AllOk lv) (hb:b.okB=true):AllOk (upd lv k b):=by
 intro j
 unfold upd;split
 ·exact hb
 ·exact h j
theorem bdJ_ok (w:List UInt8):(bdJ w).okB=true:=by unfold bdJ;split <;> rfl
theorem byJ_ok (w:List UInt8):(byJ w).okB=true:=by unfold byJ;split <;> rfl
theorem bytesA_ren (l:List UInt8)(g:Key→Key):(bytesA l).map (CV.ren g)=bytesA l:=by
 unfold bytesA;rw [List.map_map];rfl
theorem nat_text_ok (m:Int)(o:Option (List Nat))(A:Nat)(ho:dO o=(dig 4294967296 A))(hA:(dig 4294967296 A).length≤1000000000):CallsP Tryz.prog (GG m) 45 [nK .u32 o] (.c (.d (.str (decU A)))):=by
 by_cases h0:A=0
 ·subst h0
  have hl:(dO o).length=0:=by rw [ho];rfl
  have hl':((dO o).length:Int)=0:=by omega
  have hd:decU 0=[48]:=rfl
  rw [hd]
  refine CallsP.en Go.Proofs.Tryz.func45 rfl fun _=>AW.q ?_
  refine AW.seqK fun K hK=>AW.f1 hl ?_
  refine AW.cy (AW.q ?_)
  exact AW.r0 (FinP.rt rfl 2 (by simp))
 have hne:(dig 4294967296 A)≠[]:=fun e=>h0 ((dig_nil (by decide)).1 e)
 obtain rfl:o=some (dig 4294967296 A):=by
  cases o with
  | none=>exact absurd ho.symm hne
  | some l=>exact congrArg some ho
 have hl:¬ ((dig 4294967296 A).length:Int)=0:=by
  have:=List.length_pos_iff.2 hne;omega
 have hl0:¬ (dig 4294967296 A).length=0:=by omega
 refine CallsP.en0 Go.Proofs.Tryz.func45 rfl fun _=>AW.q ?_
 refine AW.seqK fun K hK=>AW.f2 hl hl0 ?_
 refine AW.fn (by simp [hl] <;> omega) (AW.skip (hK _ _ (AW.q ?_)))
 refine AW.seqK fun K hK=>AW.block ?_
 refine AW.loopV (fun (d:Nat × List (List UInt8))=>⟨frOf [(0,nK .u32 (some (dig 4294967296 d.1))),(3,sS d.2)],upd (fun _=>.hole) 0 (sB d.2)⟩) 1
  (fun d=>d.1≤A∧d.2++(if d.1=0 then [] else pts d.1)=pts A) (fun d=>d.1) (A,[]) (Le.mk2 _ (by simp only [sB,if_true];exact (upd_hm rfl).symm) (by simp [sS])) ⟨Nat.le_refl _,by rw [if_neg h0];rfl⟩ ?_
 rintro⟨n,p⟩ hi
 obtain⟨hi,hp⟩:=hi
 try simp only at hi hp ⊢
 have hnl:(dig 4294967296 n).length≤1000000000:=Nat.le_trans (dig_len_mono (by decide) hi) hA
 refine AW.seqK fun K3 hK3=>AW.q ?_
 by_cases hn0:n=0
 rotate_left
 ·have hpos:0<(dig 4294967296 n).length:=List.length_pos_iff.2 fun e=>hn0 ((dig_nil (by decide)).1 e)
  have csm:=exact_small_ok (GG m) (some (dig 4294967296 n)) 1000000000 (by decide) (by rw [dO_some];omega)
  rw [dO_some,dig_val (by decide)] at csm
  rw [if_neg hn0] at hp
  have hpl:p.length≤10000000000:=by
   have h1:p.length+(pts n).length=(pts A).length:=by rw [← hp,List.length_append]
   have h2:=pts_count h0
   omega
  have hr:n % 1000000000<1000000000:=Nat.mod_lt _ (by decide)
  have hqn:n / 1000000000<n:=Nat.div_lt_self (by omega) (by decide)
  have hlo:=@pts_lo n
  have hhi:=@pts_hi n
  have hmm:n / 1000000000=0→n % 1000000000=n:=by omega
  generalize n / 1000000000=q at *
  generalize n % 1000000000=r at *
  have cfu:=fmtU_ok m r hr
  have w1:=wu64 (n:=(r:Int)) (by omega) (by omega)
  have hdl:=decU_len hr
  have hpad:=dec_pad hr
  have crp:=repeat_ok m (9 - (decU r).length) (by omega)
  have hsub:(9:Int) - ((decU r).length:Int)=((9 - (decU r).length:Nat):Int):=by omega
  have w2:=w64 (n:=((9 - (decU r).length:Nat):Int)) (by omega) (by omega)
  refine AW.fy (by simp [hpos] <;> omega) (AW.skip (hK3 _ _ (AW.block (AW.c0 10 csm ?_))))
  refine AW.c1 10 cfu w1 ?_
  refine AW.seqK fun K5 hK5=>AW.q ?_
  by_cases hq:q=0
  ·have hps:p++[decU r]++(if q=0 then [] else pts q)=p++pts n:=by rw [if_pos hq,hlo hq,hmm hq];simp
   have hqz:¬ 0<(dig 4294967296 q).length:=by rw [hq];decide
   refine AW.fn (by simp [hqz] <;> omega) (AW.skip (hK5 _ _ (AW.seqK fun K5 hK5=>?_)))
   by_cases hl:p=[]
   ·subst hl
    refine AW.rP ?_
    simp [sB,sS,bsS1,srcA,keyOf,-stepBuildSlice]
    repeat refine and_o ?_
    apply hK5
    refine AW.rP ?_
    simp
    exact⟨q,[]++[decU r],Le.keys [(0,11,sB ([]++[decU r]))] 19 _ rfl rfl (by simp) (by simp) (by simp) (by
     intro e he
     simp only [List.mem_cons,List.not_mem_nil,or_false] at he
     subst he
     rw [sB_snoc]
     simp [sK]) (by rw [sS_snoc];simp [kmap]),⟨by omega,by rw [← hp];exact hps⟩,by omega⟩
   ·have hzb:sB p=.cells true false 9 (sK p):=if_neg hl
    have hzs:sS p=.c (.lsl 0 0 p.length 1):=if_neg hl
    have hzl:=sK_len p
    refine AW.rP ?_
    simp [hzb,hzs,bsS1,srcA,keyOf,hzl,-stepBuildSlice]
    repeat refine and_o ?_
    apply hK5
    refine AW.rP ?_
    simp
    exact⟨q,p++[decU r],Le.keys [(0,11,sB (p++[decU r]))] 19 _ rfl rfl (by simp) (by simp) (by simp) (by
     intro e he
     simp only [List.mem_cons,List.not_mem_nil,or_false] at he
     subst he
     rw [sB_snoc]
     simp [sK_ren]) (by rw [sS_snoc];simp [kmap]),⟨by omega,by rw [← hp];exact hps⟩,by omega⟩
  ·have hps:p++[dgT 9 r]++(if q=0 then [] else pts q)=p++pts n:=by rw [if_neg hq,hhi hq];simp
   have hqz:0<(dig 4294967296 q).length:=List.length_pos_iff.2 fun e=>hq ((dig_nil (by decide)).1 e)
   refine AW.fy (by simp [hqz] <;> omega) (AW.rP ?_)
   simp [hsub,w2]
   refine CallDo.p 10 9 crp ?_
   simp [concatT,hpad]
   repeat refine and_o ?_
   apply hK5
   refine AW.seqK fun K5 hK5=>?_
   by_cases hl:p=[]
   ·subst hl
    refine AW.rP ?_
    simp [sB,sS,bsS1,srcA,keyOf,-stepBuildSlice]
    repeat refine and_o ?_
    apply hK5
    refine AW.rP ?_
    simp
    exact⟨q,[]++[dgT 9 r],Le.keys [(0,11,sB ([]++[dgT 9 r]))] 19 _ rfl rfl (by simp) (by simp) (by simp) (by
     intro e he
     simp only [List.mem_cons,List.not_mem_nil,or_false] at he
     subst he
     rw [sB_snoc]
     simp [sK]) (by rw [sS_snoc];simp [kmap]),⟨by omega,by rw [← hp];exact hps⟩,by omega⟩
   ·have hzb:sB p=.cells true false 9 (sK p):=if_neg hl
    have hzs:sS p=.c (.lsl 0 0 p.length 1):=if_neg hl
    have hzl:=sK_len p
    refine AW.rP ?_
    simp [hzb,hzs,bsS1,srcA,keyOf,hzl,-stepBuildSlice]
    repeat refine and_o ?_
    apply hK5
    refine AW.rP ?_
    simp
    exact⟨q,p++[dgT 9 r],Le.keys [(0,11,sB (p++[dgT 9 r]))] 19 _ rfl rfl (by simp) (by simp) (by simp) (by
     intro e he
     simp only [List.mem_cons,List.not_mem_nil,or_false] at he
     subst he
     rw [sB_snoc]
     simp [sK_ren]) (by rw [sS_snoc];simp [kmap]),⟨by omega,by rw [← hp];exact hps⟩,by omega⟩
 subst hn0
 have hpe:p=pts A:=by rw [← hp];simp
 have hpn:p≠[]:=by rw [hpe];exact pts_nil A
 have hzb:sB p=.cells true false 9 (sK p):=if_neg hpn
 have hzs:sS p=.c (.lsl 0 0 p.length 1):=if_neg hpn
 rw [hzb,hzs,hpe]
 have hplen:(pts A).length≤10000000000:=Nat.le_trans (pts_count h0) (by omega)
 have w1:=w64 (n:=((pts A).length:Int) - 1) (by omega) (by omega)
 refine AW.cn (AW.exit (hK _ _ (AW.q ?_)))
 refine AW.seqK fun K hK=>AW.f1 w1 ?_
 refine AW.block ?_
 refine AW.loopV (fun (j:Nat)=>⟨frOf [(3,.c (.lsl 0 0 (pts A).length 1)),(7,.c (.ptr 1 0)),(8,.c (.d (.int .i64 ((j:Int) - 1))))],upd (upd (upd (fun _=>.hole) 0 (.cells false false 9 (sK (pts A)))) 1 (bdJ (wJ A j))) 2 (byJ (wJ A j))⟩) 3
  (fun j=>j≤(pts A).length) (fun j=>j) (pts A).length ?_ (Nat.le_refl _) ?_
 ·rw [wJ_end]
  simp only [bdJ,byJ,if_true]
  exact Le.keys [(0,0,.cells false false 9 (sK (pts A))),(1,1,.cells false false 151 [.d .nilp,.d .nilsl])] 19 _ (upd_hm rfl) rfl (by simp) (by simp) (by simp) (by
   intro e he
   simp only [List.mem_cons,List.not_mem_nil,or_false] at he
   rcases he with rfl|rfl
   ·simp [sK_ren]
   ·simp [CV.ren]) (by simp [kmap])
 rintro j hj
 try simp only at hj
 refine AW.seqK fun K4 hK4=>AW.q ?_
 cases j with
 | zero=>
  refine AW.cn (AW.exit (hK _ _ (AW.seqK fun K hK=>?_)))
  have hne:wJ A 0≠[]:=wJ_ne A 0 (List.length_pos_iff.2 (pts_nil A))
  have hlim:(wJ A 0).length≤100000000000:=Nat.le_trans (wJ_len A 0) (by omega)
  have hb:bdJ (wJ A 0)=bdC 2 (wJ A 0).length:=if_neg hne
  have hy:byJ (wJ A 0)=byC (wJ A 0):=if_neg hne
  have hd:=wJ_all A h0
  obtain⟨L,hL⟩:∃ L,L=upd (upd (upd (fun _=>LB.hole) 0 (.cells false false 9 (sK (pts A)))) 1 (bdJ (wJ A 0))) 2 (byJ (wJ A 0)):=⟨_,rfl⟩
  have hL1:L 1=bdC 2 (wJ A 0).length:=by rw [hL,← hb];rfl
  have hL2:L 2=byC (wJ A 0):=by rw [hL,← hy];rfl
  have hLk:AllOk L:=by rw [hL];exact allOk_upd (allOk_upd (allOk_upd allOk_hole rfl) (bdJ_ok _)) (byJ_ok _)
  rw [← hL]
  have hcall:=bs_ok m L (wJ A 0) hL1 hL2 hlim hne
  refine AW.regionS' ⟨_,⟨_,SimW.callG (f:=88) (fs:=[]) (cs:=[]) (by intro d hd;cases hd;show (_:Nat)<50;decide) rfl rfl rfl (by simp) (by exact hLk) (by exact hcall),_,SimW.step (x:=.c (.d (.str (wJ A 0)))) (us:=[]) (rds:=[]) (vc:=True) (κ:=19) (by intro d hd;cases hd;show (_:Nat)<50;decide) rfl rfl trivial rfl,rfl⟩,?_⟩
  refine hK _ _ ?_
  rw [← hd]
  exact AW.ret (κ:=0) (FinP.tmp rfl 19 (by simp) rfl (by simp [hL]) rfl)
 | succ i=>
  have e1:((i+1:Nat):Int) - 1=(i:Int):=by omega
  have hi:i<(pts A).length:=hj
  have hi0:(0:Int)≤(i:Int):=by omega
  have hw:=wJ_step A i hi
  have hpn:=pts_ne A _ (List.getElem_mem hi)
  have hsk:(sK (pts A))[i]?=some (.d (.str (pts A)[i])):=by unfold sK;rw [List.getElem?_map,List.getElem?_eq_getElem hi];rfl
  rw [e1]
  refine AW.fy (by simp [hi0] <;> omega) (AW.skip (hK4 _ _ (AW.seqK fun K6 hK6=>AW.block ?_)))
  have hlim:(wJ A (i+1)).length+(pts A)[i].length≤100000000000:=by
   have h1:=wJ_len A i
   rw [hw,List.length_append] at h1
   omega
  have w3:=w64 (n:=(i:Int) - 1) (by omega) (by omega)
  obtain⟨L,hL⟩:∃ L,L=upd (upd (upd (fun _=>LB.hole) 0 (.cells false false 9 (sK (pts A)))) 1 (bdJ (wJ A (i+1)))) 2 (byJ (wJ A (i+1))):=⟨_,rfl⟩
  have hL0:L 0=.cells false false 9 (sK (pts A)):=by rw [hL];rfl
  have hL1:L 1=bdJ (wJ A (i+1)):=by rw [hL];rfl
  have hL2:L 2=byJ (wJ A (i+1)):=by rw [hL];rfl
  have hLk:AllOk L:=by rw [hL];exact allOk_upd (allOk_upd (allOk_upd allOk_hole rfl) (bdJ_ok _)) (byJ_ok _)
  rw [← hL]
  by_cases hwe:wJ A (i+1)=[]
  ·have hb:bdJ (wJ A (i+1))=.cells false false 151 [.d .nilp,.d .nilsl]:=if_pos hwe
   have hy:byJ (wJ A (i+1))=.hole:=if_pos hwe
   rw [hb] at hL1
   rw [hy] at hL2
   have hcall:=ws_first m L (pts A)[i] hLk hL1 hL2 (by omega) hpn.1
   rw [hwe,List.nil_append] at hw
   refine AW.regionS' ⟨_,⟨_,SimW.step (κ:=19) (x:=.c (.lsl 0 0 (pts A).length 1)) (us:=[]) (rds:=[]) (vc:=True) (by intro d hd;cases hd;show (_:Nat)<50;decide) rfl rfl trivial rfl,_,SimW.step (κ:=19) (x:=.c (.d (.int .i64 (i:Int)))) (us:=[]) (rds:=[]) (vc:=True) (by intro d hd;cases hd;show (_:Nat)<50;decide) rfl rfl trivial rfl,
    _,SimW.step (κ:=19) (x:=.c (.ptr 0 i)) (us:=[]) (rds:=[0]) (vc:=i<(pts A).length) (by intro d hd;cases hd;show (_:Nat)<50;decide) rfl (by exact ixS1 L hL0 hi) hi rfl,_,SimW.step (κ:=19) (x:=.c (.d (.str (pts A)[i]))) (us:=[]) (rds:=[0]) (vc:=True) (by intro d hd;cases hd;show (_:Nat)<50;decide) rfl (by exact ldS1 L hL0 hsk) trivial rfl,
    _,SimW.callG (f:=87) (fs:=[]) (cs:=[]) (by intro d hd;cases hd;show (_:Nat)<50;decide) rfl rfl rfl (by simp) (by exact hLk) (by exact hcall),rfl⟩,?_⟩
   refine hK6 _ _ ?_
   refine AW.rP ?_
   simp [w3]
   have hb':bdJ (wJ A i)=bdC 2 (pts A)[i].length:=by unfold bdJ;rw [hw,if_neg hpn.1]
   have hy':byJ (wJ A i)=byC (pts A)[i]:=by unfold byJ;rw [hw,if_neg hpn.1]
   exact⟨i,Le.keys [(0,0,.cells false false 9 (sK (pts A))),(1,1,bdC 2 (pts A)[i].length),(2,2,byC (pts A)[i])] 19 _ (by rw [hb',hy'];rfl) rfl (by simp) (by simp) (by simp [hL]) (by
    intro e he
    simp only [List.mem_cons,List.not_mem_nil,or_false] at he
    rcases he with rfl|rfl|rfl
    ·simp [hL0,sK_ren]
    ·simp [bdC,kmap,CV.ren]
    ·simp [byC,bytesA_ren]) (by simp [kmap]),by omega,by omega⟩
  ·have hb:bdJ (wJ A (i+1))=bdC 2 (wJ A (i+1)).length:=if_neg hwe
   have hy:byJ (wJ A (i+1))=byC (wJ A (i+1)):=if_neg hwe
   rw [hb] at hL1
   rw [hy] at hL2
   have hL3:L 3=.hole:=by rw [hL];rfl
   have hcall:=ws_used m L (wJ A (i+1)) (pts A)[i] hLk hL1 hL2 hL3 hlim
   refine AW.regionS' ⟨_,⟨_,SimW.step (κ:=19) (x:=.c (.lsl 0 0 (pts A).length 1)) (us:=[]) (rds:=[]) (vc:=True) (by intro d hd;cases hd;show (_:Nat)<50;decide) rfl rfl trivial rfl,_,SimW.step (κ:=19) (x:=.c (.d (.int .i64 (i:Int)))) (us:=[]) (rds:=[]) (vc:=True) (by intro d hd;cases hd;show (_:Nat)<50;decide) rfl rfl trivial rfl,
    _,SimW.step (κ:=19) (x:=.c (.ptr 0 i)) (us:=[]) (rds:=[0]) (vc:=i<(pts A).length) (by intro d hd;cases hd;show (_:Nat)<50;decide) rfl (by exact ixS1 L hL0 hi) hi rfl,_,SimW.step (κ:=19) (x:=.c (.d (.str (pts A)[i]))) (us:=[]) (rds:=[0]) (vc:=True) (by intro d hd;cases hd;show (_:Nat)<50;decide) rfl (by exact ldS1 L hL0 hsk) trivial rfl,
    _,SimW.callG (f:=87) (fs:=[]) (cs:=[]) (by intro d hd;cases hd;show (_:Nat)<50;decide) rfl rfl rfl (by simp) (by exact hLk) (by exact hcall),rfl⟩,?_⟩
   refine hK6 _ _ ?_
   refine AW.rP ?_
   simp [w3]
   have hne:¬ wJ A i=[]:=wJ_ne A i hi
   have hb':bdJ (wJ A i)=bdC 2 ((wJ A (i+1)).length+(pts A)[i].length):=by unfold bdJ;rw [if_neg hne,hw,List.length_append]
   have hy':byJ (wJ A i)=byC (wJ A (i+1)++(pts A)[i]):=by unfold byJ;rw [if_neg hne,hw]
   exact⟨i,Le.keys [(0,0,.cells false false 9 (sK (pts A))),(1,1,bdC 2 ((wJ A (i+1)).length+(pts A)[i].length)),(2,3,byC (wJ A (i+1)++(pts A)[i]))] 19 _ (by rw [hb',hy'];rfl) rfl (by simp) (by simp) (by simp [hL]) (by
    intro e he
    simp only [List.mem_cons,List.not_mem_nil,or_false] at he
    rcases he with rfl|rfl|rfl
    ·simp [hL0,sK_ren]
    ·simp [bdC,kmap,CV.ren]
    ·simp [byC,bytesA_ren]) (by simp [kmap]),by omega,by omega⟩
theorem neqNilQ (q:Option (List Nat)):stepBin Tryz.prog .neq 25 (.c (nC q)) (.c (.d .nilsl))=some (.c (.d (.bool q.isSome)),[],[],True):=by
 cases q with
 | none=>kernel_rfl
 | some l=>exact (show ∀ es,stepBin Tryz.prog .neq 25 (.c (.d (.sl es))) (.c (.d .nilsl))=some (.c (.d (.bool true)),[],[],True) from fun es=>by kernel_rfl) _
theorem natT (m:Int)(A:Nat)(h:(dig 4294967296 A).length≤1000000000):CallsP Tryz.prog (GG m) 45 [.c (nC (natO A))] (.c (.d (.str (decU A)))):=by
 rw [← nK_nC];exact nat_text_ok m _ A (natO_d A) h
theorem denT (m:Int)(A:Nat)(h:(dig 4294967296 A).length≤1000000000)(h1:A≠1):CallsP Tryz.prog (GG m) 45 [.c (nC (denO A))] (.c (.d (.str (decU A)))):=by
 rw [← nK_nC];exact nat_text_ok m _ A (by unfold denO;rw [if_neg h1];rfl) h
def ratU (x:Rat):List UInt8:=(if x.num<0 then [45] else [])++decU x.num.natAbs++(if x.den=1 then [] else [47]++decU x.den)
theorem decU_len2 (A:Nat):(decU A).length≤10*(dig 4294967296 A).length+1:=by
 by_cases h:A=0
 ·subst h;decide
 ·rw [decU_dgT h,dgT_len];have:=ndig_nl A;omega
theorem num_Text (m:Int)(x:Rat)(hx:szR x 1000000000):CallsP Tryz.prog (GG m) 14 [ratV x] (.c (.d (.str (ratU x)))):=by
 have c1:=natT m x.num.natAbs hx.1
 have l1:=decU_len2 x.num.natAbs
 have l2:=decU_len2 x.den
 have hx1:(dig 4294967296 x.num.natAbs).length≤1000000000:=hx.1
 have hx2:(dig 4294967296 x.den).length≤1000000000:=hx.2
 have cat:=concatT
 by_cases hd:x.den=1
 ·have e:ratU x=(if x.num<0 then [45] else [])++decU x.num.natAbs:=by unfold ratU;rw [if_pos hd,List.append_nil]
  have hdn:denO x.den=none:=by unfold denO;rw [if_pos hd]
  rw [e]
  show CallsP Tryz.prog (GG m) 14 [.agg [.d (.bool (decide (x.num<0))),nC (natO x.num.natAbs),nC (denO x.den)]] _
  rw [hdn]
  by_cases hn:x.num<0
  ·rw [if_pos hn]
   generalize decU x.num.natAbs=s at *
   refine CallsP.en Go.Proofs.Tryz.func14 rfl fun _=>AW.q ?_
   refine AW.c0 2 c1 ?_
   refine AW.seqK fun K hK=>AW.q ?_
   refine AW.fy (by simp [hn] <;> omega) (AW.l1 cat (hK _ _ ?_))
   refine AW.seqK fun K hK=>AW.f1 @neqNilQ ?_
   refine AW.cn (AW.skip (hK _ _ (AW.q ?_)))
   exact AW.r0 (FinP.rt (t:=2) rfl 9 (by simp))
  ·rw [if_neg hn]
   generalize decU x.num.natAbs=s at *
   refine CallsP.en Go.Proofs.Tryz.func14 rfl fun _=>AW.q ?_
   refine AW.c0 2 c1 ?_
   refine AW.seqK fun K hK=>AW.q ?_
   refine AW.fn (by simp [hn] <;> omega) (AW.skip (hK _ _ (AW.seqK fun K hK=>AW.f1 @neqNilQ ?_)))
   refine AW.cn (AW.skip (hK _ _ (AW.q ?_)))
   exact AW.r0 (FinP.rt (t:=2) rfl 9 (by simp))
 ·have e:ratU x=(if x.num<0 then [45] else [])++decU x.num.natAbs++([47]++decU x.den):=by unfold ratU;rw [if_neg hd]
  have c2:=denT m x.den hx.2 hd
  have hdn:(denO x.den).isSome=true:=by unfold denO;rw [if_neg hd];rfl
  rw [e]
  show CallsP Tryz.prog (GG m) 14 [.agg [.d (.bool (decide (x.num<0))),nC (natO x.num.natAbs),nC (denO x.den)]] _
  generalize denO x.den=q at *
  by_cases hn:x.num<0
  ·rw [if_pos hn]
   generalize decU x.num.natAbs=s at *
   generalize decU x.den=t at *
   refine CallsP.en Go.Proofs.Tryz.func14 rfl fun _=>AW.q ?_
   refine AW.c0 2 c1 ?_
   refine AW.seqK fun K hK=>AW.q ?_
   refine AW.fy (by simp [hn] <;> omega) (AW.l1 cat (hK _ _ ?_))
   refine AW.seqK fun K hK=>AW.f2 @neqNilQ hdn ?_
   refine AW.cy (AW.m1 3 c2 cat (hK _ _ ?_))
   refine AW.q ?_
   exact AW.r0 (FinP.rt (t:=2) rfl 9 (by simp))
  ·rw [if_neg hn]
   generalize decU x.num.natAbs=s at *
   generalize decU x.den=t at *
   refine CallsP.en Go.Proofs.Tryz.func14 rfl fun _=>AW.q ?_
   refine AW.c0 2 c1 ?_
   refine AW.seqK fun K hK=>AW.q ?_
   refine AW.fn (by simp [hn] <;> omega) (AW.skip (hK _ _ (AW.seqK fun K hK=>AW.f2 @neqNilQ hdn ?_)))
   refine AW.cy (AW.m1 3 c2 cat (hK _ _ ?_))
   refine AW.q ?_
   exact AW.r0 (FinP.rt (t:=2) rfl 9 (by simp))
theorem dgT_one (n:Nat)(h:n<10):dgT 1 n=[dgU n]:=by
 show [UInt8.ofNat (48+n % 10)]=_
 rw [Nat.mod_eq_of_lt h];rfl
theorem decU_S (n:Nat):decU n=decS n:=by
 induction n using Nat.strongRecOn with
 | _ n ih=>
  by_cases h0:n=0
  ·subst h0;decide
  by_cases h10:n<10
  ·rw [decS_lt h10,decU_dgT h0,ndig_step h0,Nat.div_eq_of_lt h10]
   exact dgT_one n h10
  ·have hq:n / 10≠0:=by omega
   rw [decS_ge h10,← ih (n / 10) (by omega),decU_dgT h0,decU_dgT hq,ndig_step h0]
   have:=dgT_add (ndig (n / 10)) 1 n
   rw [Nat.pow_one] at this
   rw [this]
   rfl
theorem decS_dig (n:Nat):isD (decS n):=by
 induction n using Nat.strongRecOn with
 | _ n ih=>
  intro c hc
  by_cases h:n<10
  ·rw [decS_lt h] at hc
   rw [List.mem_singleton.1 hc,dgU_nat h];omega
  ·rw [decS_ge h] at hc
   rcases List.mem_append.1 hc with hc|hc
   ·exact ih (n / 10) (by omega) c hc
   ·rw [List.mem_singleton.1 hc,dgU_nat (by omega)];omega
theorem decS_ne (n:Nat):decS n≠[]:=by
 by_cases h:n<10
 ·rw [decS_lt h];simp
 ·rw [decS_ge h];simp
theorem decU_v (n:Nat):decN (decU n) 0=n:=by rw [decU_S,decS_v]
theorem decU_dig (n:Nat):isD (decU n):=by rw [decU_S];exact decS_dig n
theorem ratP_U {x:Rat}(h:ratE (ratU x)=0):ratP (ratU x)=x:=by
 obtain⟨s0,hs0⟩:∃ s0,decU x.num.natAbs++(if x.den=1 then [] else [47]++decU x.den)=s0:=⟨_,rfl⟩
 have hU:ratU x=(if x.num<0 then [45] else [])++s0:=by unfold ratU;rw [List.append_assoc,hs0]
 have hne:decU x.num.natAbs≠[]:=by rw [decU_S];exact decS_ne _
 have h1:hpB (ratU x) [45]=decide (x.num<0)∧cpS (ratU x) [45]=s0:=by
  by_cases hn:x.num<0
  ·rw [hU,if_pos hn]
   have e:hpB ([45]++s0) [45]=true:=by simp [hpB]
   exact⟨by rw [e,decide_eq_true hn],by unfold cpS;rw [if_pos e];rfl⟩
  ·rw [hU,if_neg hn,List.nil_append]
   have e:hpB s0 [45]=false:=by
    rw [← hs0]
    cases hd:decU x.num.natAbs with
    | nil=>exact absurd hd hne
    | cons c r=>
     have hc:=decU_dig x.num.natAbs c (by rw [hd];simp)
     have:c≠45:=fun e=>by subst e;exact absurd hc.1 (by decide)
     simp [hpB,this]
   exact⟨by rw [e,decide_eq_false hn],by unfold cpS;rw [e];rfl⟩
 unfold ratE at h
 unfold ratP
 rw [h1.1,h1.2] at h ⊢
 by_cases hd:x.den=1
 ·rw [if_pos hd,List.append_nil] at hs0
  have hk:ctI s0 [47] = -1:=idx_none (by rw [← hs0];exact isD_47 (decU_dig _))
  have ea:ctA s0 [47]=s0:=by unfold ctA;rw [hk];rfl
  rw [ea,hk] at h ⊢
  unfold ratQ
  rw [if_pos h,if_neg (by decide),← hs0,decU_v]
  have:=rat_self x
  rw [hd] at this;exact this
 ·rw [if_neg hd] at hs0
  have hs0:decU x.num.natAbs++47::decU x.den=s0:=hs0
  have hk:ctI s0 [47]=((decU x.num.natAbs).length:Int):=by rw [← hs0];exact idx_at (isD_47 (decU_dig _))
  have ea:ctA s0 [47]=decU x.num.natAbs:=by unfold ctA;rw [hk,if_pos (by omega),Int.toNat_natCast,← hs0,List.take_left' rfl]
  have eb:ctB s0 [47]=decU x.den:=by
   unfold ctB;rw [hk,if_pos (by omega),Int.toNat_natCast,← hs0]
   have:(decU x.num.natAbs).length+[47].length=(decU x.num.natAbs++[47]).length:=by simp
   rw [show decU x.num.natAbs++47::decU x.den=(decU x.num.natAbs++[47])++decU x.den by simp]
   exact List.drop_left' (by simp)
  have hb:decide (0≤ctI s0 [47])=true:=decide_eq_true (by omega)
  rw [ea,eb,hb] at h ⊢
  unfold ratQ
  rw [if_pos h,if_pos rfl,decU_v,decU_v]
  exact rat_self x
theorem Sub1.of:∀ (l l':List Ax),l.length=l'.length→(∀ j (h:j<l.length) (h':j<l'.length),l'[j]=l[j]∨l'[j]=⟨l[j].n,l[j].lo,l[j].w / 2⟩∨l'[j]=⟨l[j].n,l[j].lo+l[j].w / 2,l[j].w / 2⟩)→Sub1 l l'
 | [],[],_,_=>.nil
 | a::l,a'::l',h,hj=>by
  have ih:=Sub1.of l l' (by simpa using h) fun j h1 h2=>by
   have:=hj (j+1) (by simpa using h1) (by simpa using h2)
   simpa using this
  rcases hj 0 (by simp) (by simp) with h0|h0|h0
  ·have h0:a'=a:=h0
   subst h0;exact .same _ ih
  ·have h0:a'=⟨a.n,a.lo,a.w / 2⟩:=h0
   subst h0;exact .low _ ih
  ·have h0:a'=⟨a.n,a.lo+a.w / 2,a.w / 2⟩:=h0
   subst h0;exact .high _ ih
 | [],_::_,h,_=>by simp at h
 | _::_,[],h,_=>by simp at h
theorem bxE_all:∀ {l:List Sp},(∀ s∈l,ofE s.1 s.2=0)→bxE l 0=0
 | [],_=>rfl
 | s::l,h=>by
  have h0:=h s (List.mem_cons_self ..)
  rw [bxE,if_neg (by rw [h0];decide),if_neg (not_not_intro h0)]
  exact bxE_all fun u hu=>h u (List.mem_cons_of_mem _ hu)
theorem minL_ge' {c:Rat}:∀ {l:List Rat}{m:Rat},(∀ x∈l,c≤x)→c≤m→c≤minL l m
 | [],_,_,h=>h
 | x::l,m,hl,h=>minL_ge' (l:=l) (m:=minR x m) (fun y hy=>hl y (List.mem_cons_of_mem _ hy)) (by have:=hl x (List.mem_cons_self ..);unfold minR;split <;> assumption)
theorem maxL_le' {c:Rat}:∀ {l:List Rat}{m:Rat},(∀ x∈l,x≤c)→m≤c→maxL l m≤c
 | [],_,_,h=>h
 | x::l,m,hl,h=>maxL_le' (l:=l) (m:=maxR m x) (fun y hy=>hl y (List.mem_cons_of_mem _ hy)) (by have:=hl x (List.mem_cons_self ..);unfold maxR;split <;> assumption)
theorem half_bn {l:List Tm}{b b':List Sp}{i:Nat}{s:Sp}(hi:i<b.length) (hb':b'=b.set i s) (h:cfE l b=0) (h0:ofE s.1 s.2=0)
 (hs:ofI s.1 s.2=((ofI b[i].1 b[i].2).1,(ofI b[i].1 b[i].2).1+((ofI b[i].1 b[i].2).2 - (ofI b[i].1 b[i].2).1) / 2)∨ofI s.1 s.2=((ofI b[i].1 b[i].2).1+((ofI b[i].1 b[i].2).2 - (ofI b[i].1 b[i].2).1) / 2,(ofI b[i].1 b[i].2).2)) :
 cfE l b'=0∧(bnR l b).1≤(bnR l b').1∧(bnR l b').1≤(bnR l b').2∧(bnR l b').2≤(bnR l b).2:=by
 subst hb'
 obtain⟨h1,h2,h3⟩:=cfE_M h
 have hof:=(bxE_of h1).2
 have hlen:(b.set i s).length=b.length:=List.length_set ..
 have e1:bxE (b.set i s) 0=0:=bxE_all fun u hu=>by
  rcases List.mem_or_eq_of_mem_set hu with hu|rfl
  ·exact hof u hu
  ·exact h0
 have hE:cfE l (b.set i s)=0:=by
  unfold cfE
  rw [hlen,if_neg (not_not_intro e1),if_neg (not_not_intro h2),if_neg (by omega)]
 have hl1:=bxI_len b
 have hl2:=bxI_len (b.set i s)
 have hsub:Sub1 (axL (l.map tmT) (bxI b)) (axL (l.map tmT) (bxI (b.set i s))):=by
  refine Sub1.of _ _ (by rw [axL_len,axL_len,hl1,hl2,hlen]) fun j g1 g2=>?_
  rw [axL_get,axL_get]
  have hj:j<b.length:=by rw [axL_len,hl1] at g1;exact g1
  have q1:(bxI b)[j]'(by rw [hl1];exact hj)=ofI b[j].1 b[j].2:=by simp [bxI]
  have q2:(bxI (b.set i s))[j]'(by rw [hl2,hlen];exact hj)=if i=j then ofI s.1 s.2 else ofI b[j].1 b[j].2:=by
   simp only [bxI,List.getElem_map,List.getElem_set]
   split <;> rfl
  by_cases e:i=j
  ·subst e
   rw [q1,q2,if_pos rfl]
   rcases hs with hs|hs
   ·right;left
    rw [hs]
    simp only
    congr 1
    grind
   ·right;right
    rw [hs]
    simp only
    congr 1
    grind
  ·left
   rw [q1,q2,if_neg e]
 have hM:cfM (l.map tmT) (bxI (b.set i s)).length=cfM (l.map tmT) (bxI b).length:=by rw [hl1,hl2,hlen]
 have hP:cfP (l.map tmT) (bxI (b.set i s)).length=cfP (l.map tmT) (bxI b).length:=by rw [hl1,hl2,hlen]
 have hin:∀ k,k<cfM (l.map tmT) (bxI b).length→(bnR l b).1≤cfB (l.map tmT) (bxI (b.set i s)) k∧cfB (l.map tmT) (bxI (b.set i s)) k≤(bnR l b).2:=fun k hk=>by
  have:=half_in hsub (c:=cfP (l.map tmT) (bxI b).length) (lo:=(bnR l b).1) (hi:=(bnR l b).2) (fun q hq=>by
   rw [sizA_M] at hq
   exact bnR_all h hq) k (by rw [sizA_M,hM];exact hk)
  unfold cfB
  rw [hP];exact this
 have hpos:0<cfM (l.map tmT) (bxI b).length:=sizN_pos _
 have eb:bnR l (b.set i s)=(minL ((cfL (l.map tmT) (bxI (b.set i s))).drop 1) (cfB (l.map tmT) (bxI (b.set i s)) 0),maxL ((cfL (l.map tmT) (bxI (b.set i s))).drop 1) (cfB (l.map tmT) (bxI (b.set i s)) 0)):=if_pos hE
 have hall:∀ x∈(cfL (l.map tmT) (bxI (b.set i s))).drop 1,(bnR l b).1≤x∧x≤(bnR l b).2:=fun x hx=>by
  obtain⟨k,hk,rfl⟩:=List.getElem_of_mem (List.mem_of_mem_drop hx)
  rw [cfL_get]
  rw [cfL_len,hM] at hk
  exact hin k hk
 refine⟨hE,?_,?_,?_⟩
 ·rw [eb];exact minL_ge' (fun x hx=>(hall x hx).1) (hin 0 hpos).1
 ·rw [eb];exact Rat.le_trans (minL_le _ _).1 (maxL_ge _ _).1
 ·rw [eb];exact maxL_le' (fun x hx=>(hall x hx).2) (hin 0 hpos).2
theorem contains6_ok (G:List (List DV))(a b:Iv)(ha:a.sz 10000000000)(hb:b.sz 10000000000)(h1:a.has b.1)(h2:a.has b.2):CallsP Tryz.prog G 15 [ivV a,ivV b] (.c (.d (.bool true))):=by
 have c1:=iv_Lo G b
 have c2:=iv_Hi G b
 have c3:=iv_Has G a b.1 ha hb.1
 have c4:=iv_Has G a b.2 ha hb.2
 rw [decide_eq_true h1] at c3
 rw [decide_eq_true h2] at c4
 obtain⟨b1,b2⟩:=b
 simp only at c1 c2 c3 c4
 refine CallsP.en Go.Proofs.Tryz.func15 rfl fun _=>AW.q ?_
 refine AW.seqK fun K hK=>?_
 refine AW.drawP mixed (by kernel_rfl) rfl ?_
 simp
 refine CallDo.p 10 9 c1 ?_
 simp
 refine CallDo.p 10 9 c3 ?_
 simp
 refine CallDo.p 10 9 c2 ?_
 simp
 refine CallDo.p 10 9 c4 ?_
 simp
 refine⟨by kernel_rfl,?_⟩
 repeat refine and_o ?_
 apply hK
 exact AW.r0 (FinP.rt rfl 4 (by simp))
theorem bnR_sz {l:List Tm}{b:List Sp}(hE:cfE l b=0):(bnR l b).sz 10000000000:=by
 have hB:=cfB_sz hE
 have e:bnR l b=(minL ((cfL (l.map tmT) (bxI b)).drop 1) (cfB (l.map tmT) (bxI b) 0),maxL ((cfL (l.map tmT) (bxI b)).drop 1) (cfB (l.map tmT) (bxI b) 0)):=if_pos hE
 have hall:∀ x∈(cfL (l.map tmT) (bxI b)).drop 1,szR x 10000000000:=fun x hx=>by
  obtain⟨k,hk,rfl⟩:=List.getElem_of_mem (List.mem_of_mem_drop hx)
  rw [cfL_get];exact szR_mono (hB k) (by omega)
 rw [e]
 exact⟨minL_sz hall (szR_mono (hB 0) (by omega)),maxL_sz hall (szR_mono (hB 0) (by omega))⟩
theorem half_eq (x:Rat):shiftR x (-1)=x / 2:=by
 rw [shift_pow]
 show x*(2:Rat) ^ (-1:Int)=x / 2
 rw [Rat.zpow_neg]
 have:(2:Rat) ^ (1:Int)=2:=by decide
 rw [this,Rat.div_def]
theorem rangesHalves_ok (m:Int)(bt:Option (List Tm))(b:Option (List Sp))(i:Int)(hl:(tmL bt).length≤9223372036854775807)(hw:∀ t∈tmL bt,(pwL t.2).length≤9223372036854775807)(hb:(bxL b).length≤1048576) :
 CallsP Tryz.prog (GG m) 3 [.c (scC (tmO bt)),.c (scC (bxO b)),.c (.d (.int .i64 i))] (.c (.d (.bool true))):=by
 have ca:=awake_ok m
 have cB:=Bernstein_ok m bt b hl hw hb
 have hlb:=fun lv=>lpBx lv b
 have hib:=fun lv {i:Nat}(hi:i<(bxL b).length)=>ixBx lv b hi
 obtain⟨e,he⟩:∃ e,cfE (tmL bt) (bxL b)=e:=⟨_,rfl⟩
 obtain⟨A,hA⟩:∃ A,bnR (tmL bt) (bxL b)=A:=⟨_,rfl⟩
 rw [he,hA] at cB
 by_cases h0:e≠0∨i<0∨((bxL b).length:Int)≤i
 ·have key:∀ (x y z:Bool),x=decide (e≠0)→y=decide (i<0)→z=decide (((bxL b).length:Int)≤i)→(x || y || z)=true:=fun x y z hx hy hz=>by
   subst hx hy hz;simpa [or_assoc] using h0
  refine CallsP.en0 Go.Proofs.Tryz.func3 rfl fun _=>AW.q ?_
  refine AW.c1 60 cB @setSeg.eq_1 ?_
  refine AW.seqK fun K hK=>AW.seqK fun K1 hK1=>?_
  by_cases q1:e=0
  rotate_left
  ·refine AW.rP ?_
   simp [q1]
   repeat refine and_o ?_
   apply hK1
   refine AW.cy (AW.c0 80 ca ?_)
   exact AW.r0 (FinP.rt rfl 6 (by simp))
  by_cases q2:i<0
  ·refine AW.rP ?_
   simp [q1,q2]
   repeat refine and_o ?_
   apply hK1
   refine AW.cy (AW.c0 80 ca ?_)
   exact AW.r0 (FinP.rt rfl 6 (by simp))
  ·have q3:((bxL b).length:Int)≤i:=by
    rcases h0 with h0|h0|h0
    ·exact absurd q1 h0
    ·exact absurd h0 q2
    ·exact h0
   refine AW.rP ?_
   simp [q1,q2,q3,hlb]
   repeat refine and_o ?_
   apply hK1
   refine AW.cy (AW.c0 80 ca ?_)
   exact AW.r0 (FinP.rt rfl 6 (by simp))
 have q1:e=0:=Decidable.byContradiction fun h=>h0 (.inl h)
 have q2:¬ i<0:=fun h=>h0 (.inr (.inl h))
 have q3:¬ ((bxL b).length:Int)≤i:=fun h=>h0 (.inr (.inr h))
 subst q1
 obtain⟨k,rfl⟩:∃ k:Nat,i=k:=⟨i.toNat,by omega⟩
 have hk:k<(bxL b).length:=by omega
 have hx:=fun lv=>hib lv hk
 have co:=of_ok m (bxL b)[k].1 (bxL b)[k].2
 have hoE:=(bxE_of (cfE_M he).1).2 _ (List.getElem_mem hk)
 have hz:(ofI (bxL b)[k].1 (bxL b)[k].2).z:=ofI_sz _ _
 have hle:=ofI_le hoE
 have hhalf1:=fun (t:List UInt8)=>half_bn (l:=tmL bt) (s:=((bxL b)[k].1,t)) hk rfl he
 have hhalf2:=fun (t:List UInt8)=>half_bn (l:=tmL bt) (s:=(t,(bxL b)[k].2)) hk rfl he
 have hofE:ofI (bxL b)[k].1 (bxL b)[k].2=(ratP (bxL b)[k].1,ratP (bxL b)[k].2):=if_pos hoE
 have hpE:=ofE_zero.1 hoE
 have hgd:(bxL b).getD k ([],[])=(bxL b)[k]:=by rw [List.getD_eq_getElem?_getD,List.getElem?_eq_getElem hk];rfl
 obtain⟨s,hs⟩:∃ s,(bxL b)[k]=s:=⟨_,rfl⟩
 have hbi:(bxI (bxL b))[k]'(by rw [bxI_len];exact hk)=ofI s.1 s.2:=by rw [← hs];simp [bxI]
 simp only [hs] at hx co hoE hz hle hhalf1 hhalf2 hofE hpE hgd
 obtain⟨a,ha⟩:∃ a,ofI s.1 s.2=a:=⟨_,rfl⟩
 rw [ha] at co hz hle hhalf1 hhalf2 hofE hbi
 rw [hoE] at co
 have c1:=iv_Lo (GG m) a
 have c2:=iv_Hi (GG m) a
 have c3:=rat_Add (GG m) a.1 a.2 (szB hz.1) (szB hz.2)
 have hsa:=szR_add hz.1 hz.2
 have c4:=rat_Shift (GG m) (a.1+a.2) (-1) (szR_mono hsa (by decide)) (by decide) (by decide)
 have hsm:=szR_shift hsa (-1)
 obtain⟨x,hxe⟩:∃ x,shiftR (a.1+a.2) (-1)=x:=⟨_,rfl⟩
 rw [hxe] at c4 hsm
 have hxh:x=(a.1+a.2) / 2:=by rw [← hxe,half_eq]
 have c5:=num_Text m x (szR_mono hsm (by decide))
 have cS:=Split_ok m b k (ratU x) hb
 obtain⟨E,hE⟩:∃ E,(splR (bxL b) k (ratU x)).2.2=E:=⟨_,rfl⟩
 have cS:CallsP Tryz.prog (GG m) 13 [.c (scC (bxO b)),.c (.d (.int .i64 (k:Int))),.c (.d (.str (ratU x)))] (.tup [.c (scC (bxO (splR (bxL b) k (ratU x)).1)),.c (scC (bxO (splR (bxL b) k (ratU x)).2.1)),.c (.d (.int .i64 (splR (bxL b) k (ratU x)).2.2))]):=cS
 rw [hE] at cS
 have hkn:¬ ((k:Int)<0∨((bxL b).length:Int)≤(k:Int)):=by omega
 generalize hgs:a.1+a.2=sm at c3 c4 hsa hxe hxh
 by_cases hE0:E=0
 rotate_left
 ·generalize bxO (splR (bxL b) k (ratU x)).1=o1 at *
  generalize bxO (splR (bxL b) k (ratU x)).2.1=o2 at *
  generalize ratU x=t at *
  refine CallsP.en0 Go.Proofs.Tryz.func3 rfl fun _=>AW.q ?_
  refine AW.c1 60 cB @setSeg.eq_1 ?_
  refine AW.seqK fun K hK=>AW.sr fun K1 hK1=>?_
  simp [q2,q3,hlb]
  repeat refine and_o ?_
  apply hK1
  refine AW.cn (AW.skip (hK _ _ (AW.sr fun K hK=>?_)))
  simp [hx,spD]
  refine CallDo.p 70 9 co ?_
  simp [setSeg]
  repeat refine and_o ?_
  apply hK
  refine AW.seqK fun K hK=>?_
  refine AW.drawP mixed (by kernel_rfl) rfl ?_
  simp [setSeg]
  refine CallDo.p 80 9 c1 ?_
  simp
  refine CallDo.p 80 9 c2 ?_
  simp
  refine CallDo.p 80 9 c3 ?_
  simp
  refine CallDo.p 80 9 c4 ?_
  simp [setSeg]
  refine⟨by kernel_rfl,?_⟩
  repeat refine and_o ?_
  apply hK
  refine AW.sr fun K hK=>?_
  simp
  refine CallDo.p 90 9 c5 ?_
  simp
  refine CallDo.p 90 9 cS ?_
  simp
  repeat refine and_o ?_
  apply hK
  refine AW.seqK fun K hK=>AW.f1 hE0 ?_
  refine AW.fy (by simp [hE0] <;> omega) (AW.c0 100 ca ?_)
  exact AW.r0 (FinP.rt rfl 6 (by simp))
 subst hE0
 have hbx:bxE (bxL b) 0=0:=(cfE_M he).1
 have px:ratE (ratU x)=0:=Decidable.byContradiction fun h=>by
  rw [splR_3 hbx hkn h] at hE;exact h hE
 have pv:ratP (ratU x)=x:=ratP_U px
 have ps:¬ (ratP (ratU x)≤a.1∨a.2≤ratP (ratU x)):=fun h=>by
  rw [splR_4 hbx hk px hbi h] at hE;exact absurd hE (by decide)
 rw [splR_5 hbx hk px hbi ps,hgd] at cS
 rw [pv] at ps
 have hp1:ratP s.1=a.1:=by rw [hofE]
 have hp2:ratP s.2=a.2:=by rw [hofE]
 obtain⟨t,ht⟩:∃ t,ratU x=t:=⟨_,rfl⟩
 rw [ht] at cS px pv c5
 have hlo:a.1≤x:=by grind
 have hhi:x≤a.2:=by grind
 have o1:ofE s.1 t=0:=ofE_zero.2 ⟨hpE.1,px,by rw [hp1,pv];exact hlo⟩
 have o2:ofE t s.2=0:=ofE_zero.2 ⟨px,hpE.2.1,by rw [hp2,pv];exact hhi⟩
 have i1:ofI s.1 t=(a.1,a.1+(a.2 - a.1) / 2):=by
  rw [show ofI s.1 t=(ratP s.1,ratP t) from if_pos o1,hp1,pv,hxh];congr 1;grind
 have i2:ofI t s.2=(a.1+(a.2 - a.1) / 2,a.2):=by
  rw [show ofI t s.2=(ratP t,ratP s.2) from if_pos o2,hp2,pv,hxh];congr 1;grind
 obtain⟨e1,l1,l2,l3⟩:=hhalf1 t o1 (.inl i1)
 obtain⟨e2,r1,r2,r3⟩:=hhalf2 t o2 (.inr i2)
 have z0:=bnR_sz he
 have z1:=bnR_sz e1
 have z2:=bnR_sz e2
 have cB1:=Bernstein_ok m bt (some ((bxL b).set k (s.1,t))) hl hw (by show ((bxL b).set k (s.1,t)).length≤_;rw [List.length_set];exact hb)
 have cB2:=Bernstein_ok m bt (some ((bxL b).set k (t,s.2))) hl hw (by show ((bxL b).set k (t,s.2)).length≤_;rw [List.length_set];exact hb)
 rw [show bxL (some ((bxL b).set k (s.1,t)))=(bxL b).set k (s.1,t) from rfl,e1] at cB1
 rw [show bxL (some ((bxL b).set k (t,s.2)))=(bxL b).set k (t,s.2) from rfl,e2] at cB2
 rw [hA] at l1 l3 r1 r3 z0
 generalize bnR (tmL bt) ((bxL b).set k (s.1,t))=B1 at *
 generalize bnR (tmL bt) ((bxL b).set k (t,s.2))=B2 at *
 generalize bxO (some ((bxL b).set k (s.1,t)))=o3 at *
 generalize bxO (some ((bxL b).set k (t,s.2)))=o4 at *
 have c7:=contains6_ok (GG m) A B1 z0 z1 ⟨l1,Rat.le_trans l2 l3⟩ ⟨Rat.le_trans l1 l2,l3⟩
 have c8:=contains6_ok (GG m) A B2 z0 z2 ⟨r1,Rat.le_trans r2 r3⟩ ⟨Rat.le_trans r1 r2,r3⟩
 clear hhalf1 hhalf2 hE ht
 refine CallsP.en0 Go.Proofs.Tryz.func3 rfl fun _=>AW.q ?_
 refine AW.c1 60 cB @setSeg.eq_1 ?_
 refine AW.seqK fun K hK=>AW.sr fun K1 hK1=>?_
 simp [q2,q3,hlb]
 repeat refine and_o ?_
 apply hK1
 refine AW.cn (AW.skip (hK _ _ (AW.sr fun K hK=>?_)))
 simp [hx,spD]
 refine CallDo.p 70 9 co ?_
 simp [setSeg]
 repeat refine and_o ?_
 apply hK
 refine AW.seqK fun K hK=>?_
 refine AW.drawP mixed (by kernel_rfl) rfl ?_
 simp [setSeg]
 refine CallDo.p 80 9 c1 ?_
 simp
 refine CallDo.p 80 9 c2 ?_
 simp
 refine CallDo.p 80 9 c3 ?_
 simp
 refine CallDo.p 80 9 c4 ?_
 simp [setSeg]
 refine⟨by kernel_rfl,?_⟩
 repeat refine and_o ?_
 apply hK
 refine AW.sr fun K hK=>?_
 simp
 refine CallDo.p 90 9 c5 ?_
 simp
 refine CallDo.p 90 9 cS ?_
 simp
 repeat refine and_o ?_
 apply hK
 refine AW.seqK fun K hK=>AW.q ?_
 refine AW.cn (AW.skip (hK _ _ (AW.c1 100 cB1 @setSeg.eq_1 ?_)))
 refine AW.seqK fun K hK=>AW.rP ?_
 simp
 refine CallDo.p 110 9 cB2 ?_
 simp [setSeg]
 repeat refine and_o ?_
 apply hK
 refine AW.sr fun K hK=>?_
 simp
 refine CallDo.p 120 9 c7 ?_
 simp
 refine CallDo.p 120 9 c8 ?_
 simp
 refine CallDo.p 120 9 ca ?_
 simp
 repeat refine and_o ?_
 apply hK
 exact AW.r0 (FinP.rt rfl 4 (by simp))
end Go.Am
