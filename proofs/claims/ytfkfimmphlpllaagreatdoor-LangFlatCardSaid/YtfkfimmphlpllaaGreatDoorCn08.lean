/- Helpers: an abstract machine for Go functions, and walks of functions of the program. -/
import Derived.Test.YtfkfimmphlpllaaGreatDoorCn07
import Derived.Lib.IndexMore

set_option linter.all false

namespace Go.Am
open Go.Am.Ty Go.Proofs N
def cA (n:Nat):Option (List Nat):=if n=0 then none else some (bV 4294967296 n)
def dA (n:Nat):Option (List Nat):=if n=1 then none else some (bV 4294967296 n)
abbrev eS (x:Rat):AV:=nV (decide (x.num<0)) (cA x.num.natAbs) (dA x.den)
def fM (neg:Bool)(a:Nat):Int:=if neg then -(a:Int) else a
theorem lH (n:Nat):dO (cA n)=(bV 4294967296 n):=by
 unfold cA;split
 ·rename_i h;subst h;rfl
 ·rfl
theorem yU (n:Nat):ef (dA n)=some (bV 4294967296 n):=by
 unfold dA;split
 ·rename_i h;subst h;rfl
 ·rfl
theorem dx (n:Nat):val 4294967296 (bV 4294967296 n)=n:=dL (by decide) n
theorem fh (n:Nat):can 4294967296 (bV 4294967296 n):=dy (by decide) n
theorem rW (n:Nat):(val 4294967296 (dO (cA n)))=n:=by rw [lH,dx]
theorem yh (n:Nat):(val 4294967296 (dO (ef (dA n))))=n:=by rw [yU,cQ,dx]
theorem mT (n:Nat):can 4294967296 (dO (cA n)):=by rw [lH];exact fh n
theorem Ac (n:Nat):can 4294967296 (dO (ef (dA n))):=by rw [yU];exact fh n
theorem kf {n:Nat}(h:n≠0):(bV 4294967296 n)≠[]:=fun e=>h ((jN (by decide)).1 e)
theorem vG {o:Option (List Nat)}(hc:can 4294967296 (dO o)) (h:dO o≠[]):o=some (bV 4294967296 (val 4294967296 (dO o))):=by
 cases o with
 | none=>exact absurd rfl h
 | some l=>exact congrArg some (iM (by decide) hc rfl)
theorem uz (neg:Bool){a b:Nat}(hb:b≠0):(mkRat (fM neg a) b).num=fM neg (a / Nat.gcd a b)∧(mkRat (fM neg a) b).den=b / Nat.gcd a b:=by
 have h1:(fM neg a).natAbs=a:=by unfold fM;split <;> omega
 rw [Rat.num_mkRat,Rat.den_mkRat,if_neg hb,if_neg hb,h1,Nat.gcd_comm b a]
 refine⟨?_,rfl⟩
 cases neg with
 | false=>rfl
 | true=>
  show -(a:Int) / ((Nat.gcd a b:Nat):Int) = -((a / Nat.gcd a b:Nat):Int)
  rw [Int.neg_ediv_of_dvd (Int.ofNat_dvd.2 (Nat.gcd_dvd_left a b))];rfl
theorem xE (neg:Bool)(a:Nat):(fM neg a).natAbs=a:=by unfold fM;split <;> omega
theorem Eo (neg:Bool){a:Nat}(h:a≠0):decide (fM neg a<0)=neg:=by
 cases neg <;> simp [fM] <;> omega
theorem RV {p q:Option (List Nat)}(hp:can 4294967296 (dO p)) (hq:can 4294967296 (dO q)) (h0:dO p≠[]):mP p q=cA ((val 4294967296 (dO p)) / Nat.gcd (val 4294967296 (dO p)) (val 4294967296 (dO q))):=by
 have ha:0<(val 4294967296 (dO p)):=gJ hp h0
 have ep:=vG hp h0
 have hgv:(val 4294967296 (dO (gO p q)))=Nat.gcd (val 4294967296 (dO p)) (val 4294967296 (dO q)):=by unfold gO;rw [vD hp hq,dx]
 have hgp:0<Nat.gcd (val 4294967296 (dO p)) (val 4294967296 (dO q)):=Nat.gcd_pos_of_pos_left _ ha
 have hle:Nat.gcd (val 4294967296 (dO p)) (val 4294967296 (dO q))≤(val 4294967296 (dO p)):=Nat.le_of_dvd ha (Nat.gcd_dvd_left _ _)
 have hag:(val 4294967296 (dO p)) / Nat.gcd (val 4294967296 (dO p)) (val 4294967296 (dO q))≠0:=Nat.ne_of_gt (Nat.div_pos hle hgp)
 unfold cA;rw [if_neg hag];unfold mP
 split
 ·rename_i h;rw [h,Nat.gcd_one_right,Nat.div_one];exact ep
 ·split
  ·rename_i h;rw [hgv] at h;rw [h,Nat.div_one];exact ep
  ·unfold s9;rw [hgv,if_neg (Nat.not_lt.2 hle)]
theorem RB {p q:Option (List Nat)}(hp:can 4294967296 (dO p)) (hq:can 4294967296 (dO q)) (h0:dO q≠[]):mQ p q=dA ((val 4294967296 (dO q)) / Nat.gcd (val 4294967296 (dO p)) (val 4294967296 (dO q))):=by
 have hb:0<(val 4294967296 (dO q)):=gJ hq h0
 have eq:=vG hq h0
 have hgv:(val 4294967296 (dO (gO p q)))=Nat.gcd (val 4294967296 (dO p)) (val 4294967296 (dO q)):=by unfold gO;rw [vD hp hq,dx]
 have hle:Nat.gcd (val 4294967296 (dO p)) (val 4294967296 (dO q))≤(val 4294967296 (dO q)):=Nat.le_of_dvd hb (Nat.gcd_dvd_right _ _)
 have e:Mm p q=some (bV 4294967296 ((val 4294967296 (dO q)) / Nat.gcd (val 4294967296 (dO p)) (val 4294967296 (dO q)))):=by
  unfold Mm
  split
  ·rename_i h;rw [h,Nat.gcd_one_right,Nat.div_one,← h];exact eq
  ·split
   ·rename_i h;rw [hgv] at h;rw [h,Nat.div_one];exact eq
   ·unfold s9;rw [hgv,if_neg (Nat.not_lt.2 hle)]
 unfold mQ dA
 rw [e,cQ,dx]
theorem xw (neg:Bool){p q:Option (List Nat)}(hp:can 4294967296 (dO p)) (hq:can 4294967296 (dO q)) (hq0:dO q≠[]):iS neg p q=eS (mkRat (fM neg (val 4294967296 (dO p))) (val 4294967296 (dO q))):=by
 have hb:(val 4294967296 (dO q))≠0:=Nat.ne_of_gt (gJ hq hq0)
 unfold iS
 by_cases h0:dO p=[]
 ·have e:fM neg (val 4294967296 (dO p))=0:=by rw [h0,qc];cases neg <;> rfl
  rw [if_pos h0,e,Rat.zero_mkRat];rfl
 ·have ha:0<(val 4294967296 (dO p)):=gJ hp h0
  have hgp:0<Nat.gcd (val 4294967296 (dO p)) (val 4294967296 (dO q)):=Nat.gcd_pos_of_pos_left _ ha
  have hle:Nat.gcd (val 4294967296 (dO p)) (val 4294967296 (dO q))≤(val 4294967296 (dO p)):=Nat.le_of_dvd ha (Nat.gcd_dvd_left _ _)
  have hag:(val 4294967296 (dO p)) / Nat.gcd (val 4294967296 (dO p)) (val 4294967296 (dO q))≠0:=Nat.ne_of_gt (Nat.div_pos hle hgp)
  obtain⟨n1,n2⟩:=uz neg (a:=(val 4294967296 (dO p))) hb
  rw [if_neg h0,RV hp hq h0,RB hp hq hq0]
  show nV neg _ _=nV (decide (_<0)) (cA _) (dA _)
  rw [n1,n2,xE,Eo neg hag]
theorem rj (x:Rat):fM (decide (x.num<0)) x.num.natAbs=x.num:=by
 unfold fM
 by_cases h:x.num<0
 ·rw [decide_eq_true h,if_pos rfl];omega
 ·rw [decide_eq_false h,if_neg (by decide)];omega
def nl (n:Nat):Nat:=(bV 4294967296 n).length
theorem Au {n m:Nat}(h:n<4294967296 ^ m):nl n≤m:=cL (by decide) h
theorem AH (n:Nat):n<4294967296 ^ nl n:=uD (by decide)
theorem nM {m n:Nat}(h:m≤n):nl m≤nl n:=iY (by decide) h
theorem ki (a b:Nat):nl (a*b)≤nl a+nl b:=by
 refine Au ?_
 rw [Nat.pow_add]
 exact Nat.mul_lt_mul'' (AH a) (AH b)
theorem IM (a b:Nat):nl (a+b)≤max (nl a) (nl b)+1:=by
 refine Au ?_
 have h1:a<4294967296 ^ max (nl a) (nl b):=Nat.lt_of_lt_of_le (AH a) (Nat.pow_le_pow_right (by decide) (by omega))
 have h2:b<4294967296 ^ max (nl a) (nl b):=Nat.lt_of_lt_of_le (AH b) (Nat.pow_le_pow_right (by decide) (by omega))
 rw [Nat.pow_succ]
 generalize 4294967296 ^ max (nl a) (nl b)=z at *
 omega
theorem Mn (m:Nat):(2:Nat) ^ (32*m)=4294967296 ^ m:=by rw [Nat.pow_mul]
theorem yg (k:Nat):nl (2 ^ k)≤k / 32+1:=by
 refine Au ?_
 rw [← Mn]
 exact Nat.pow_lt_pow_right (by decide) (by omega)
theorem oR:nl 1=1:=by unfold nl;rw [Gk (by decide) (by decide) (by decide)];rfl
theorem Nt {a L:Nat}(h:a<10 ^ L):nl a≤(L+8) / 9:=by
 refine Au (Nat.lt_of_lt_of_le h ?_)
 have h1:(10:Nat) ^ L≤10 ^ (9*((L+8) / 9)):=Nat.pow_le_pow_right (by decide) (by omega)
 rw [Nat.pow_mul] at h1
 exact Nat.le_trans h1 (Nat.pow_le_pow_left (by decide) _)
theorem tn {n:Nat}(h:n≠0):bG n≤32*nl n:=by
 have h1:=AH n
 rw [← Mn] at h1
 have h2:=m6 h
 have h3:bG n - 1<32*nl n:=(Nat.pow_lt_pow_iff_right (by decide)).1 (Nat.lt_of_le_of_lt h2 h1)
 omega
def nE (x:Rat)(L:Nat):Prop:=nl x.num.natAbs≤L∧nl x.den≤L
theorem eY {x:Rat}{L M:Nat}(h:nE x L) (hm:L≤M):nE x M:=⟨Nat.le_trans h.1 hm,Nat.le_trans h.2 hm⟩
theorem oT (neg:Bool){a b L:Nat}(hb:b≠0) (h1:nl a≤L) (h2:nl b≤L):nE (mkRat (fM neg a) b) L:=by
 obtain⟨n1,n2⟩:=uz neg (a:=a) hb
 unfold nE
 rw [n1,n2,xE]
 exact⟨Nat.le_trans (nM (Nat.div_le_self _ _)) h1,Nat.le_trans (nM (Nat.div_le_self _ _)) h2⟩
theorem yz {x:Rat}{L:Nat}(h:nE x L):nE (-x) L:=by
 unfold nE at *;rw [Rat.neg_num,Rat.neg_den,Int.natAbs_neg];exact h
def cj (x:Rat)(k:Int):Rat:=if k<0 then mkRat x.num (x.den*2 ^ (-k).toNat) else mkRat (x.num*2 ^ k.toNat) x.den
theorem vA (x:Rat)(k:Nat):x.den*2 ^ k≠0:=Nat.ne_of_gt (Nat.mul_pos x.den_pos (Nat.pow_pos (by decide)))
theorem u6 {x:Rat}{k:Int}(h:k<0):cj x k=mkRat (fM (decide (x.num<0)) x.num.natAbs) (x.den*2 ^ (-k).toNat):=by rw [rj];unfold cj;rw [if_pos h]
theorem qI (neg:Bool)(a b:Nat):fM neg a*(b:Int)=fM neg (a*b):=by
 unfold fM;cases neg
 ·simp
 ·simp [Int.neg_mul]
theorem tO {x:Rat}{k:Int}(h:¬ k<0):cj x k=mkRat (fM (decide (x.num<0)) (x.num.natAbs*2 ^ k.toNat)) x.den:=by
 unfold cj;rw [if_neg h,← qI,rj]
 congr 2
theorem rm {x:Rat}{L:Nat}(h:nE x L) (k:Int):nE (cj x k) (L+k.natAbs / 32+1):=by
 by_cases hk:k<0
 ·rw [u6 hk]
  refine oT _ (vA _ _) (by have:=h.1;omega) ?_
  have h1:=ki x.den (2 ^ (-k).toNat)
  have h2:=yg (-k).toNat
  have h3:(-k).toNat=k.natAbs:=by omega
  have:=h.2
  rw [h3] at h1 h2 ⊢
  omega
 ·rw [tO hk]
  refine oT _ x.den_nz ?_ (by have:=h.2;omega)
  have h1:=ki x.num.natAbs (2 ^ k.toNat)
  have h2:=yg k.toNat
  have h3:k.toNat=k.natAbs:=by omega
  have:=h.1
  rw [h3] at h1 h2 ⊢
  omega
theorem HV (x y:Rat):x+y=mkRat (fM (decide (x.num<0)) (x.num.natAbs*y.den)+fM (decide (y.num<0)) (y.num.natAbs*x.den)) (x.den*y.den):=by
 rw [Rat.add_def',← qI,← qI,rj,rj]
theorem D2 (neg:Bool)(a b:Nat):fM neg a+fM neg b=fM neg (a+b):=by unfold fM;cases neg <;> simp <;> omega
theorem HM {neg neg':Bool}(h:neg≠neg') {a b:Nat}(hab:a<b):fM neg a+fM neg' b=fM neg' (b - a):=by
 unfold fM;cases neg <;> cases neg' <;> simp_all <;> omega
theorem GL {neg neg':Bool}(h:neg≠neg') {a b:Nat}(hab:¬ a<b):fM neg a+fM neg' b=fM neg (a - b):=by
 unfold fM;cases neg <;> cases neg' <;> simp_all <;> omega
theorem Ls {x y:Rat}{L:Nat}(hx:nE x L) (hy:nE y L):nE (x+y) (2*L+1):=by
 have hd:x.den*y.den≠0:=Nat.ne_of_gt (Nat.mul_pos x.den_pos y.den_pos)
 have e1:=ki x.num.natAbs y.den
 have e2:=ki y.num.natAbs x.den
 have e3:=ki x.den y.den
 obtain⟨a1,a2⟩:=hx
 obtain⟨b1,b2⟩:=hy
 rw [HV]
 by_cases h:decide (x.num<0)=decide (y.num<0)
 ·rw [h,D2]
  refine oT _ hd ?_ (by omega)
  have:=IM (x.num.natAbs*y.den) (y.num.natAbs*x.den)
  omega
 ·by_cases hab:x.num.natAbs*y.den<y.num.natAbs*x.den
  ·rw [HM h hab]
   refine oT _ hd ?_ (by omega)
   have:=nM (Nat.sub_le (y.num.natAbs*x.den) (x.num.natAbs*y.den))
   omega
  ·rw [GL h hab]
   refine oT _ hd ?_ (by omega)
   have:=nM (Nat.sub_le (x.num.natAbs*y.den) (y.num.natAbs*x.den))
   omega
def vW (x y:Rat):Int:=if x<y then -1 else if y<x then 1 else 0
end Go.Am

namespace Go.Am
open Go.Am.Ty Go.Proofs N
theorem MJ (a b:Bool):aI Tryz.prog .eql 4 (.c (.d (.bool a))) (.c (.d (.bool b)))=some (.c (.d (.bool (a == b))),[],[],True):=by
 cases a <;> cases b <;> kernel_rfl
theorem tR (G:List (List DV))(neg:Bool)(p q:Option (List Nat))(hp:can 4294967296 (dO p))(hq:can 4294967296 (dO q))(hq0:dO q≠[])(hl:(dO p).length<1000000000000)(hl':(dO q).length<1000000000000) :
 ah Tryz.prog G 225 [.c (.d (.bool neg)),.c (nC p),.c (nC q)] (eS (mkRat (fM neg (val 4294967296 (dO p))) (val 4294967296 (dO q)))):=by
 have:=oa G neg p q hp hq hq0 hl hl'
 rw [xw neg hp hq hq0] at this
 simp only [jY] at this
 exact this
theorem xh (G:List (List DV))(neg:Bool)(a b:Nat)(hb:b≠0)(hl:nl a<1000000000000)(hl':nl b<1000000000000) :
 ah Tryz.prog G 225 [.c (.d (.bool neg)),.c (nC (some (bV 4294967296 a))),.c (nC (some (bV 4294967296 b)))] (eS (mkRat (fM neg a) b)):=by
 have:=tR G neg (some (bV 4294967296 a)) (some (bV 4294967296 b)) (fh a) (fh b) (kf hb) hl hl'
 simp only [cQ,dx] at this
 exact this
theorem Dk (G:List (List DV))(neg:Bool)(p q:Option (List Nat)):ah Tryz.prog G 198 [nV neg p q] (nV (!neg && decide (dO p≠[])) p q):=by
 cases neg with
 | true=>
  show ah Tryz.prog G 198 [nV true p q] (nV false p q)
  refine ah.er Go.Proofs.Tryz.func198 rfl (by rw [Tryz.ntmps198];simp) (fun lv=>eN lv _ _ _) ?_
  rintro⟨_,_,w0,F0,W0,_,bu,β0⟩ rfl rfl rfl
  refine AW.ag fun K hK=>?_
  refine AW.aa rfl ?_
  simp
  apply hK;clear hK K
  refine AW.ag fun K hK=>?_
  refine AW.aa rfl ?_
  simp [Cj]
  apply hK;clear hK K
  refine AW.ret ?_
  refine eI.cell (κ:=0) (T:=224) (t:=2) (k:=1) (off:=0) (own:=true) (fz:=false) (U:=224) (cs:=[.d (.bool false),nC p,nC q]) rfl ?_ ?_ ?_
  ·simp
  ·simp [aj]
  ·rw [List.drop_zero,bx]
 | false=>
  by_cases hp:dO p=[]
  ·rw [show (!false && decide (dO p≠[]))=false by simp [hp]]
   refine ah.er Go.Proofs.Tryz.func198 rfl (by rw [Tryz.ntmps198];simp) (fun lv=>eN lv _ _ _) ?_
   rintro⟨_,_,w0,F0,W0,_,bu,β0⟩ rfl rfl rfl
   refine AW.ag fun K hK=>?_
   refine AW.aa rfl ?_
   simp
   apply hK;clear hK K
   refine AW.ag fun K hK=>?_
   refine AW.aa rfl ?_
   simp [Cj,YO,hp]
   apply hK;clear hK K
   refine AW.ret ?_
   refine eI.cell (κ:=0) (T:=224) (t:=2) (k:=1) (off:=0) (own:=true) (fz:=false) (U:=224) (cs:=[.d (.bool false),nC p,nC q]) rfl ?_ ?_ ?_
   ·simp
   ·simp [aj]
   ·rw [List.drop_zero,bx]
  ·rw [show (!false && decide (dO p≠[]))=true by simp [hp]]
   refine ah.er Go.Proofs.Tryz.func198 rfl (by rw [Tryz.ntmps198];simp) (fun lv=>eN lv _ _ _) ?_
   rintro⟨_,_,w0,F0,W0,_,bu,β0⟩ rfl rfl rfl
   refine AW.ag fun K hK=>?_
   refine AW.aa rfl ?_
   simp
   apply hK;clear hK K
   refine AW.ag fun K hK=>?_
   have hp':=List.length_pos_iff.2 hp
   refine AW.aa rfl ?_
   simp [Cj,YO,hp,hp']
   apply hK;clear hK K
   refine AW.ret ?_
   refine eI.cell (κ:=0) (T:=224) (t:=2) (k:=1) (off:=0) (own:=true) (fz:=false) (U:=224) (cs:=[.d (.bool true),nC p,nC q]) rfl ?_ ?_ ?_
   ·simp
   ·simp [aj]
   ·rw [List.drop_zero,bx]
theorem JV (G:List (List DV))(x:Rat):ah Tryz.prog G 198 [eS x] (eS (-x)):=by
 have h:=Dk G (decide (x.num<0)) (cA x.num.natAbs) (dA x.den)
 have e:(!decide (x.num<0) && decide (dO (cA x.num.natAbs)≠[]))=decide ((-x).num<0):=by
  rw [Rat.neg_num,lH]
  by_cases h0:x.num=0
  ·rw [h0];rfl
  ·have h1:(bV 4294967296 x.num.natAbs)≠[]:=kf (by omega)
   rw [decide_eq_true h1,Bool.and_true]
   by_cases h2:x.num<0
   ·rw [decide_eq_true h2,decide_eq_false (by omega)];rfl
   ·rw [decide_eq_false h2,decide_eq_true (by omega)];rfl
 rw [e] at h
 show ah _ _ _ _ (nV (decide ((-x).num<0)) (cA (-x).num.natAbs) (dA (-x).den))
 rw [show (-x).num.natAbs=x.num.natAbs by rw [Rat.neg_num,Int.natAbs_neg],Rat.neg_den]
 exact h
theorem FC (neg:Bool)(a:Nat):mkRat (fM neg a) 1=((fM neg a:Int):Rat):=by
 rw [Rat.mkRat_one]
theorem Ec (G:List (List DV))(n:Int)(h1:-9223372036854775808≤n)(h2:n≤9223372036854775807):ah Tryz.prog G 263 [.c (.d (.int .i64 n))] (eS (n:Rat)):=by
 have hof1:=eV G 1 (by decide)
 have hofn:=eV G n.natAbs (by omega)
 have hl:nl n.natAbs<1000000000000:=by
  have e2:(4294967296:Nat) ^ 2=18446744073709551616:=by decide
  have:=Au (n:=n.natAbs) (m:=2) (by omega)
  omega
 have hm:=fun neg=>xh G neg n.natAbs 1 (by decide) hl (by rw [oR];decide)
 simp only [jY] at hof1 hofn
 simp only [FC] at hm
 by_cases hn:n<0
 ·have e:fM true n.natAbs=n:=by unfold fM;rw [if_pos rfl];omega
  have QA:=hm true
  rw [e] at QA
  have ew:IntKind.u64.wrap (-IntKind.u64.wrap n)=(n.natAbs:Int):=by rw [wL,wL];omega
  refine ah.er Go.Proofs.Tryz.func263 rfl (by rw [Tryz.ntmps263];simp) (fun lv=>eN lv _ _ _) ?_
  rintro⟨_,_,w0,F0,W0,_,bu,β0⟩ rfl rfl rfl
  refine AW.ag fun K hK=>?_
  refine AW.aa rfl ?_
  simp
  apply hK;clear hK K
  refine AW.ag fun K hK=>?_
  refine AW.ag fun K1 hK1=>?_
  refine AW.aa rfl ?_
  simp [hn]
  apply hK1;clear hK1 K1
  refine AW.cond (b:=true) (by first|(simp [hn];done)|(simp [hn];omega)) ?_
  refine AW.ag fun K1 hK1=>?_
  refine AW.aa rfl ?_
  simp [ew]
  refine ai.pure 1 9 (hofn) (by first|(simp;done)|rfl) (by simp) (by first|rfl|simp) ?_
  simp
  refine ai.pure 1 9 (hof1) (by first|(simp;done)|rfl) (by simp) (by first|rfl|simp) ?_
  simp
  refine ai.pure 1 9 (QA) (by first|(simp;done)|rfl) (by simp) (by first|rfl|simp) ?_
  simp
  apply hK1;clear hK1 K1
  refine AW.ret ?_
  refine eI.cell (κ:=0) (T:=224) (t:=2) (k:=0) (off:=0) (own:=true) (fz:=false) (U:=224) (cs:=[.d (.bool (decide ((n:Rat).num<0))),nC (cA (n:Rat).num.natAbs),nC (dA (n:Rat).den)]) rfl ?_ ?_ ?_
  ·simp
  ·simp [aj]
  ·rw [List.drop_zero,bx]
 ·have e:fM false n.natAbs=n:=by unfold fM;rw [if_neg (by decide)];omega
  have QA:=hm false
  rw [e] at QA
  have ew:IntKind.u64.wrap n=(n.natAbs:Int):=by rw [wL];omega
  refine ah.er Go.Proofs.Tryz.func263 rfl (by rw [Tryz.ntmps263];simp) (fun lv=>eN lv _ _ _) ?_
  rintro⟨_,_,w0,F0,W0,_,bu,β0⟩ rfl rfl rfl
  refine AW.ag fun K hK=>?_
  refine AW.aa rfl ?_
  simp
  apply hK;clear hK K
  refine AW.ag fun K hK=>?_
  refine AW.ag fun K1 hK1=>?_
  refine AW.aa rfl ?_
  simp [hn]
  apply hK1;clear hK1 K1
  refine AW.cond (b:=false) (by first|(simp [hn];done)|(simp [hn];omega)) ?_
  refine AW.skip ?_
  simp
  apply hK;clear hK K
  refine AW.ag fun K hK=>?_
  refine AW.aa rfl ?_
  simp [ew]
  refine ai.pure 1 9 (hofn) (by first|(simp;done)|rfl) (by simp) (by first|rfl|simp) ?_
  simp
  refine ai.pure 1 9 (hof1) (by first|(simp;done)|rfl) (by simp) (by first|rfl|simp) ?_
  simp
  refine ai.pure 1 9 (QA) (by first|(simp;done)|rfl) (by simp) (by first|rfl|simp) ?_
  simp
  apply hK;clear hK K
  refine AW.ret ?_
  refine eI.cell (κ:=0) (T:=224) (t:=2) (k:=0) (off:=0) (own:=true) (fz:=false) (U:=224) (cs:=[.d (.bool (decide ((n:Rat).num<0))),nC (cA (n:Rat).num.natAbs),nC (dA (n:Rat).den)]) rfl ?_ ?_ ?_
  ·simp
  ·simp [aj]
  ·rw [List.drop_zero,bx]
def ym (neg:Bool)(a:Nat)(neg':Bool)(b q:Nat):Rat:=
 if neg=neg' then mkRat (fM neg (a+b)) q else if a<b then mkRat (fM neg' (b - a)) q else mkRat (fM neg (a - b)) q
theorem qe {a b:Nat}:(jH a b<0)↔a<b:=by unfold jH;(repeat' split) <;> omega
set_option maxHeartbeats 4000000 in
theorem Dr (G:List (List DV))(neg neg':Bool)(p q p' q':Option (List Nat))(h1:(dO p).length≤10000000000)(h2:(dO q).length≤10000000000)(h3:(dO p').length≤10000000000)(h4:(dO q').length≤10000000000)
 (c1:can 4294967296 (dO p)) (c2:can 4294967296 (dO (ef q))) (c3:can 4294967296 (dO p')) (c4:can 4294967296 (dO (ef q'))) (z2:(val 4294967296 (dO (ef q)))≠0) (z4:(val 4294967296 (dO (ef q')))≠0) :
 ah Tryz.prog G 335 [nV neg p q,nV neg' p' q'] (eS (ym neg ((val 4294967296 (dO p))*(val 4294967296 (dO (ef q')))) neg' ((val 4294967296 (dO p'))*(val 4294967296 (dO (ef q)))) ((val 4294967296 (dO (ef q)))*(val 4294967296 (dO (ef q')))))):=by
 have b1:=pL h2 (by decide)
 have b2:=pL h4 (by decide)
 have m1:=fk G p (ef q') (by omega) (by omega)
 have m2:=fk G p' (ef q) (by omega) (by omega)
 have m3:=fk G (ef q) (ef q') (by omega) (by omega)
 have hQ:(val 4294967296 (dO (ef q)))*(val 4294967296 (dO (ef q')))≠0:=Nat.ne_of_gt (Nat.mul_pos (Nat.pos_of_ne_zero z2) (Nat.pos_of_ne_zero z4))
 have lv:∀ {o:Option (List Nat)},can 4294967296 (dO o)→nl (val 4294967296 (dO o))=(dO o).length:=fun {o} hc=>by unfold nl;rw [← iM (by decide) hc rfl]
 have l1:nl ((val 4294967296 (dO p))*(val 4294967296 (dO (ef q'))))≤20000000000:=by
  have:=ki (val 4294967296 (dO p)) (val 4294967296 (dO (ef q')))
  rw [lv c1,lv c4] at this;omega
 have l2:nl ((val 4294967296 (dO p'))*(val 4294967296 (dO (ef q))))≤20000000000:=by
  have:=ki (val 4294967296 (dO p')) (val 4294967296 (dO (ef q)))
  rw [lv c3,lv c2] at this;omega
 have l3:nl ((val 4294967296 (dO (ef q)))*(val 4294967296 (dO (ef q'))))≤20000000000:=by
  have:=ki (val 4294967296 (dO (ef q))) (val 4294967296 (dO (ef q')))
  rw [lv c2,lv c4] at this;omega
 generalize (val 4294967296 (dO p))*(val 4294967296 (dO (ef q')))=a at *
 generalize (val 4294967296 (dO p'))*(val 4294967296 (dO (ef q)))=b at *
 generalize (val 4294967296 (dO (ef q)))*(val 4294967296 (dO (ef q')))=Q at *
 have la:(dO (some (bV 4294967296 a))).length≤20000000000:=l1
 have lb:(dO (some (bV 4294967296 b))).length≤20000000000:=l2
 have k1:=qw G (some (bV 4294967296 a)) (some (bV 4294967296 b)) (by omega) (by omega)
 have k2:=fq (G:=G) (a:=some (bV 4294967296 a)) (b:=some (bV 4294967296 b)) (fh _) (fh _)
 have k3:=fun h=>qm G (some (bV 4294967296 a)) (some (bV 4294967296 b)) (by omega) h
 have k4:=fun h=>qm G (some (bV 4294967296 b)) (some (bV 4294967296 a)) (by omega) h
 simp only [cQ,dx] at k1 k2 k3 k4
 simp only [jY,CT] at m1 m2 m3 k1 k2 k3 k4
 have mk1:=fun neg n (h:nl n≤20000000001)=>xh G neg n Q hQ (by omega) (by omega)
 have hsum:nl (a+b)≤20000000001:=by have:=IM a b;omega
 have hs1:nl (a - b)≤20000000001:=by have:=nM (Nat.sub_le a b);omega
 have hs2:nl (b - a)≤20000000001:=by have:=nM (Nat.sub_le b a);omega
 refine ah.er Go.Proofs.Tryz.func335 rfl (by rw [Tryz.ntmps335];simp) (fun lv=>eN lv _ _ _) ?_
 rintro⟨_,_,w0,F0,W0,_,bu,β0⟩ rfl rfl rfl
 refine AW.ag fun K hK=>?_
 refine AW.aa rfl ?_
 simp
 apply hK;clear hK K
 refine AW.ag fun K hK=>?_
 refine AW.eB mixed (by kernel_rfl) rfl ?_
 simp
 refine ai.pure 3 9 (cR _ neg' p' q') (by first|(simp;done)|rfl) (by simp) (by first|rfl|simp) ?_
 simp
 refine ai.pure 3 9 (m1) (by first|(simp;done)|rfl) (by simp) (by first|rfl|simp) ?_
 simp
 refine ai.pure 3 9 (cR _ neg p q) (by first|(simp;done)|rfl) (by simp) (by first|rfl|simp) ?_
 simp
 refine ai.pure 3 9 (m2) (by first|(simp;done)|rfl) (by simp) (by first|rfl|simp) ?_
 simp
 refine ai.pure 3 9 (cR _ neg p q) (by first|(simp;done)|rfl) (by simp) (by first|rfl|simp) ?_
 simp
 refine ai.pure 3 9 (cR _ neg' p' q') (by first|(simp;done)|rfl) (by simp) (by first|rfl|simp) ?_
 simp
 refine ai.pure 3 9 (m3) (by first|(simp;done)|rfl) (by simp) (by first|rfl|simp) ?_
 simp
 refine⟨by kernel_rfl,?_⟩
 apply hK;clear hK K
 refine AW.ag fun K hK=>?_
 refine AW.block ?_
 refine AW.ag fun K1 hK1=>?_
 refine AW.aa rfl ?_
 simp [MJ]
 apply hK1;clear hK1 K1
 by_cases hn:neg=neg'
 ·subst hn
  have e:ym neg a neg b Q=mkRat (fM neg (a+b)) Q:=by unfold ym;rw [if_pos rfl]
  rw [e]
  refine AW.cond (b:=true) (by first|(simp [];done)|(simp [];omega)) ?_
  refine AW.ag fun K1 hK1=>?_
  refine AW.eB mixed (by kernel_rfl) rfl ?_
  simp
  refine ai.pure 3 9 (k1) (by first|(simp;done)|rfl) (by simp) (by first|rfl|simp) ?_
  simp
  refine ai.pure 3 9 (mk1 neg _ hsum) (by first|(simp;done)|rfl) (by simp) (by first|rfl|simp) ?_
  simp
  refine⟨by kernel_rfl,?_⟩
  apply hK1;clear hK1 K1
  refine AW.ret ?_
  refine eI.cell (κ:=0) (T:=224) (t:=4) (k:=2) (off:=0) (own:=true) (fz:=false) (U:=224) (cs:=[.d (.bool (decide ((mkRat (fM neg (a+b)) Q).num<0))),nC (cA (mkRat (fM neg (a+b)) Q).num.natAbs),nC (dA (mkRat (fM neg (a+b)) Q).den)]) rfl ?_ ?_ ?_
  ·simp
  ·simp [aj]
  ·rw [List.drop_zero,bx]
 have hn':(neg == neg')=false:=by cases neg <;> cases neg' <;> simp_all
 refine AW.cond (b:=false) (by first|(simp [hn'];done)|(simp [hn'];omega)) ?_
 refine AW.ag fun K1 hK1=>?_
 refine AW.aa rfl ?_
 simp
 refine ai.pure 3 9 (k2) (by first|(simp;done)|rfl) (by simp) (by first|rfl|simp) ?_
 simp
 apply hK1;clear hK1 K1
 by_cases hab:a<b
 ·have e:ym neg a neg' b Q=mkRat (fM neg' (b - a)) Q:=by unfold ym;rw [if_neg hn,if_pos hab]
  rw [e]
  have hc:=qe.2 hab
  refine AW.cond (b:=true) (by first|(simp [hc];done)|(simp [hc];omega)) ?_
  refine AW.ag fun K1 hK1=>?_
  refine AW.eB mixed (by kernel_rfl) rfl ?_
  simp
  refine ai.pure 3 9 (k4 (by omega)) (by first|(simp;done)|rfl) (by simp) (by first|rfl|simp) ?_
  simp
  refine ai.pure 3 9 (mk1 neg' _ hs2) (by first|(simp;done)|rfl) (by simp) (by first|rfl|simp) ?_
  simp
  refine⟨by kernel_rfl,?_⟩
  apply hK1;clear hK1 K1
  refine AW.ret ?_
  refine eI.cell (κ:=0) (T:=224) (t:=4) (k:=2) (off:=0) (own:=true) (fz:=false) (U:=224) (cs:=[.d (.bool (decide ((mkRat (fM neg' (b - a)) Q).num<0))),nC (cA (mkRat (fM neg' (b - a)) Q).num.natAbs),nC (dA (mkRat (fM neg' (b - a)) Q).den)]) rfl ?_ ?_ ?_
  ·simp
  ·simp [aj]
  ·rw [List.drop_zero,bx]
 ·have e:ym neg a neg' b Q=mkRat (fM neg (a - b)) Q:=by unfold ym;rw [if_neg hn,if_neg hab]
  have hc:¬ jH a b<0:=fun h=>hab (qe.1 h)
  refine AW.cond (b:=false) (by first|(simp [hc];done)|(simp [hc];omega)) ?_
  refine AW.skip ?_
  simp
  apply hK;clear hK K
  refine AW.ag fun K hK=>?_
  refine AW.eB mixed (by kernel_rfl) rfl ?_
  simp
  refine ai.pure 3 9 (k3 (by omega)) (by first|(simp;done)|rfl) (by simp) (by first|rfl|simp) ?_
  simp
  refine ai.pure 3 9 (mk1 neg _ hs1) (by first|(simp;done)|rfl) (by simp) (by first|rfl|simp) ?_
  simp
  refine⟨by kernel_rfl,?_⟩
  apply hK;clear hK K
  refine AW.ret ?_
  refine eI.cell (κ:=0) (T:=224) (t:=4) (k:=2) (off:=0) (own:=true) (fz:=false) (U:=224) (cs:=[.d (.bool (decide ((mkRat (fM neg (a - b)) Q).num<0))),nC (cA (mkRat (fM neg (a - b)) Q).num.natAbs),nC (dA (mkRat (fM neg (a - b)) Q).den)]) rfl ?_ ?_ ?_
  ·simp
  ·simp [aj]
  ·rw [List.drop_zero,bx,e]
theorem gM (n:Nat):(dO (cA n)).length=nl n:=by rw [lH];rfl
theorem pF (n:Nat):(dO (dA n)).length≤nl n:=by
 unfold dA;split
 ·exact Nat.zero_le _
 ·exact Nat.le_refl _
theorem Ku (G:List (List DV))(x y:Rat)(hx:nE x 10000000000)(hy:nE y 10000000000):ah Tryz.prog G 335 [eS x,eS y] (eS (x+y)):=by
 have h:=Dr G (decide (x.num<0)) (decide (y.num<0)) (cA x.num.natAbs) (dA x.den) (cA y.num.natAbs) (dA y.den)
  (by rw [gM];exact hx.1) (Nat.le_trans (pF _) hx.2) (by rw [gM];exact hy.1) (Nat.le_trans (pF _) hy.2) (mT _) (Ac _) (mT _) (Ac _) (by rw [yh];exact x.den_nz) (by rw [yh];exact y.den_nz)
 simp only [rW,yh] at h
 have e:ym (decide (x.num<0)) (x.num.natAbs*y.den) (decide (y.num<0)) (y.num.natAbs*x.den) (x.den*y.den)=x+y:=by
  rw [HV];unfold ym
  split
  ·rename_i hh;rw [hh,D2]
  ·split
   ·rename_i hh hl;rw [HM hh hl]
   ·rename_i hh hl;rw [GL hh hl]
 rw [e] at h
 exact h
theorem KO (G:List (List DV))(x y:Rat)(hx:nE x 10000000000)(hy:nE y 10000000000):ah Tryz.prog G 287 [eS x,eS y] (eS (x - y)):=by
 have h1:=JV G y
 have h2:=Ku G x (-y) hx (yz hy)
 rw [← Rat.sub_eq_add_neg] at h2
 refine ah.er Go.Proofs.Tryz.func287 rfl (by rw [Tryz.ntmps287];simp) (fun lv=>eN lv _ _ _) ?_
 rintro⟨_,_,w0,F0,W0,_,bu,β0⟩ rfl rfl rfl
 refine AW.ag fun K hK=>?_
 refine AW.aa rfl ?_
 simp
 apply hK;clear hK K
 refine AW.ag fun K hK=>?_
 refine AW.eB mixed (by kernel_rfl) rfl ?_
 simp
 refine ai.pure 3 9 (h1) (by first|(simp;done)|rfl) (by simp) (by first|rfl|simp) ?_
 simp
 refine ai.pure 3 9 (h2) (by first|(simp;done)|rfl) (by simp) (by first|rfl|simp) ?_
 simp
 refine⟨by kernel_rfl,?_⟩
 apply hK;clear hK K
 refine AW.ret ?_
 refine eI.cell (κ:=0) (T:=224) (t:=4) (k:=2) (off:=0) (own:=true) (fz:=false) (U:=224) (cs:=[.d (.bool (decide ((x - y).num<0))),nC (cA (x - y).num.natAbs),nC (dA (x - y).den)]) rfl ?_ ?_ ?_
 ·simp
 ·simp [aj]
 ·rw [List.drop_zero,bx]
set_option maxHeartbeats 1000000 in
theorem AL (G:List (List DV))(x:Rat)(k:Int)(hx:nE x 10000000000)(h1:-1000000≤k)(h2:k≤1000000):ah Tryz.prog G 332 [eS x,.c (.d (.int .i64 k))] (eS (cj x k)):=by
 have hbot:=cR G (decide (x.num<0)) (cA x.num.natAbs) (dA x.den)
 rw [yU] at hbot
 have hw:IntKind.i64.wrap (-k) = -k:=cX (by omega) (by omega)
 by_cases hk:k<0
 ·have e:=u6 (x:=x) hk
  have ht:((-k).toNat:Int) = -k:=by omega
  have hs:=fE G (some (bV 4294967296 x.den)) (-k).toNat (by have:=hx.2;show nl _≤_;omega) (by omega)
  simp only [cQ,kf x.den_nz,if_false,dx,jY,ht] at hs
  have hm:=tR G (decide (x.num<0)) (cA x.num.natAbs) (some (bV 4294967296 (x.den*2 ^ (-k).toNat))) (mT _) (fh _) (kf (vA _ _)) (by rw [gM];have:=hx.1;omega) (by
   have h3:=ki x.den (2 ^ (-k).toNat)
   have h4:=yg (-k).toNat
   have:=hx.2
   show nl _<_
   omega)
  rw [rW,cQ,dx,← e] at hm
  generalize cj x k=r at *
  refine ah.er Go.Proofs.Tryz.func332 rfl (by rw [Tryz.ntmps332];simp) (fun lv=>eN lv _ _ _) ?_
  rintro⟨_,_,w0,F0,W0,_,bu,β0⟩ rfl rfl rfl
  refine AW.ag fun K hK=>?_
  refine AW.aa rfl ?_
  simp
  apply hK;clear hK K
  refine AW.ag fun K hK=>?_
  refine AW.ag fun K1 hK1=>?_
  refine AW.aa rfl ?_
  simp [hk]
  apply hK1;clear hK1 K1
  refine AW.cond (b:=true) (by first|(simp [hk];done)|(simp [hk];omega)) ?_
  refine AW.ag fun K1 hK1=>?_
  refine AW.eB mixed (by kernel_rfl) rfl ?_
  simp [hw]
  refine ai.pure 2 9 (hbot) (by first|(simp;done)|rfl) (by simp) (by first|rfl|simp) ?_
  simp [hw]
  refine ai.pure 2 9 (hs) (by first|(simp;done)|rfl) (by simp) (by first|rfl|simp) ?_
  simp [hw]
  refine ai.pure 2 9 (hm) (by first|(simp;done)|rfl) (by simp) (by first|rfl|simp) ?_
  simp
  refine⟨by kernel_rfl,?_⟩
  apply hK1;clear hK1 K1
  refine AW.ret ?_
  refine eI.cell (κ:=0) (T:=224) (t:=4) (k:=1) (off:=0) (own:=true) (fz:=false) (U:=224) (cs:=[.d (.bool (decide (r.num<0))),nC (cA r.num.natAbs),nC (dA r.den)]) rfl ?_ ?_ ?_
  ·simp
  ·simp [aj]
  ·rw [List.drop_zero,bx]
 ·have e:=tO (x:=x) hk
  have ht:(k.toNat:Int)=k:=by omega
  have hs:=fE G (cA x.num.natAbs) k.toNat (by rw [gM];have:=hx.1;omega) (by omega)
  have hs':ah Tryz.prog G 326 [.c (nC (cA x.num.natAbs)),.c (.d (.int .i64 k))] (.c (nC (cA (x.num.natAbs*2 ^ k.toNat)))):=by
   simp only [rW] at hs
   simp only [lH,ht,jY] at hs
   by_cases h0:x.num.natAbs=0
   ·have:(bV 4294967296 x.num.natAbs)=[]:=by rw [h0];rfl
    rw [if_pos this] at hs
    rw [h0,Nat.zero_mul]
    rw [h0] at hs
    exact hs
   ·rw [if_neg (kf h0)] at hs
    unfold cA at hs ⊢
    rw [if_neg h0] at hs
    rw [if_neg h0,if_neg (Nat.ne_of_gt (Nat.mul_pos (Nat.pos_of_ne_zero h0) (Nat.pow_pos (by decide))))]
    exact hs
  have hm:=tR G (decide (x.num<0)) (cA (x.num.natAbs*2 ^ k.toNat)) (some (bV 4294967296 x.den)) (mT _) (fh _) (kf x.den_nz) (by
   rw [gM]
   have h3:=ki x.num.natAbs (2 ^ k.toNat)
   have h4:=yg k.toNat
   have:=hx.1
   omega) (by have:=hx.2;show nl _<_;omega)
  rw [rW,cQ,dx,← e] at hm
  generalize cj x k=r at *
  refine ah.er Go.Proofs.Tryz.func332 rfl (by rw [Tryz.ntmps332];simp) (fun lv=>eN lv _ _ _) ?_
  rintro⟨_,_,w0,F0,W0,_,bu,β0⟩ rfl rfl rfl
  refine AW.ag fun K hK=>?_
  refine AW.aa rfl ?_
  simp
  apply hK;clear hK K
  refine AW.ag fun K hK=>?_
  refine AW.ag fun K1 hK1=>?_
  refine AW.aa rfl ?_
  simp [hk]
  apply hK1;clear hK1 K1
  refine AW.cond (b:=false) (by first|(simp [hk];done)|(simp [hk];omega)) ?_
  refine AW.skip ?_
  simp
  apply hK;clear hK K
  refine AW.ag fun K hK=>?_
  refine AW.eB mixed (by kernel_rfl) rfl ?_
  simp
  refine ai.pure 2 9 (hs') (by first|(simp;done)|rfl) (by simp) (by first|rfl|simp) ?_
  simp
  refine ai.pure 2 9 (hbot) (by first|(simp;done)|rfl) (by simp) (by first|rfl|simp) ?_
  simp
  refine ai.pure 2 9 (hm) (by first|(simp;done)|rfl) (by simp) (by first|rfl|simp) ?_
  simp
  refine⟨by kernel_rfl,?_⟩
  apply hK;clear hK K
  refine AW.ret ?_
  refine eI.cell (κ:=0) (T:=224) (t:=4) (k:=1) (off:=0) (own:=true) (fz:=false) (U:=224) (cs:=[.d (.bool (decide (r.num<0))),nC (cA r.num.natAbs),nC (dA r.den)]) rfl ?_ ?_ ?_
  ·simp
  ·simp [aj]
  ·rw [List.drop_zero,bx]
theorem A5 (lv:Key→LB)(b:Bool)(p q:Option (List Nat))(n:Int):fX lv (.tup [nV b p q,.c (.d (.int .i64 n))])=some (.tup [nV b p q,.c (.d (.int .i64 n))],[]):=by
 cases p <;> cases q <;> rfl
@[simp] theorem KS (b:Bool)(p q:Option (List Nat))(n:Int):(AV.tup [.agg [.d (.bool b),nC p,nC q],.c (.d (.int .i64 n))]).pure=true:=by
 cases p <;> cases q <;> rfl
theorem wQ (G:List (List DV))(x:Rat)(k:Int)(hx:nE x 10000000000)(h1:-20000≤k)(h2:k≤20000):ah Tryz.prog G 283 [eS x,.c (.d (.int .i64 k))] (.tup [eS (cj x k),.c (.d (.int .i64 0))]):=by
 have h:=AL G x k hx (by omega) (by omega)
 generalize cj x k=r at *
 have i1:¬ k < -20000:=by omega
 have i2:¬ 20000<k:=by omega
 refine ah.er Go.Proofs.Tryz.func283 rfl (by rw [Tryz.ntmps283];simp) (fun lv=>A5 lv _ _ _ _) ?_
 rintro⟨_,_,w0,F0,W0,_,bu,β0⟩ rfl rfl rfl
 refine AW.ag fun K hK=>?_
 refine AW.aa rfl ?_
 simp
 apply hK;clear hK K
 refine AW.ag fun K hK=>?_
 refine AW.ag fun K1 hK1=>?_
 refine AW.aa rfl ?_
 simp [i1,i2]
 apply hK1;clear hK1 K1
 refine AW.cond (b:=false) (by first|(simp [];done)|(simp [];omega)) ?_
 refine AW.skip ?_
 simp
 apply hK;clear hK K
 refine AW.ag fun K hK=>?_
 refine AW.aa rfl ?_
 simp
 refine ai.pure 2 9 (h) (by first|(simp;done)|rfl) (by simp) (by first|rfl|simp) ?_
 simp
 apply hK;clear hK K
 refine AW.ret ?_
 refine eI.jQ (κ:=0) (T:=224) (t:=4) (u:=5) (k:=1) (off:=0) (own:=true) (fz:=false) (U:=224) (cs:=[.d (.bool (decide (r.num<0))),nC (cA r.num.natAbs),nC (dA r.den)]) rfl ?_ ?_ ?_ ?_ rfl rfl
 ·simp
 ·simp [aj]
 ·rw [List.drop_zero,bx]
 ·simp
theorem Lb (G:List (List DV))(k:Int)(h1:-20000≤k)(h2:k≤20000):ah Tryz.prog G 334 [.c (.d (.int .i64 k))] (.tup [eS (cj 1 k),.c (.d (.int .i64 0))]):=by
 have hi:=Ec G 1 (by decide) (by decide)
 have h:=wQ G 1 k ⟨by show nl 1≤_;rw [oR];decide,by show nl 1≤_;rw [oR];decide⟩ h1 h2
 change ah _ _ _ _ (eS (1:Rat)) at hi
 generalize cj 1 k=r at *
 generalize (1:Rat)=o at *
 refine ah.er Go.Proofs.Tryz.func334 rfl (by rw [Tryz.ntmps334];simp) (fun lv=>A5 lv _ _ _ _) ?_
 rintro⟨_,_,w0,F0,W0,_,bu,β0⟩ rfl rfl rfl
 refine AW.ag fun K hK=>?_
 refine AW.aa rfl ?_
 simp
 apply hK;clear hK K
 refine AW.ag fun K hK=>?_
 refine AW.aa rfl ?_
 simp
 refine ai.pure 1 9 (hi) (by first|(simp;done)|rfl) (by simp) (by first|rfl|simp) ?_
 simp
 refine ai.pure 1 9 (h) (by first|(simp;done)|rfl) (by simp) (by first|rfl|simp) ?_
 simp
 apply hK;clear hK K
 refine AW.ret ?_
 refine eI.jQ (κ:=0) (T:=224) (t:=2) (u:=3) (k:=0) (off:=0) (own:=true) (fz:=false) (U:=224) (cs:=[.d (.bool (decide (r.num<0))),nC (cA r.num.natAbs),nC (dA r.den)]) rfl ?_ ?_ ?_ ?_ rfl rfl
 ·simp
 ·simp [aj]
 ·rw [List.drop_zero,bx]
 ·simp
def kS (x:Rat):Int:=
 let k:=(bG x.num.natAbs:Int) - bG x.den
 if x.num.natAbs*2 ^ (max (-k) 0).toNat<x.den*2 ^ (max k 0).toNat then k - 1 else k
theorem Gr {x:Rat}(hx:x≠0) {L:Nat}(h:nE x L):-(32*(L:Int))≤kS x∧kS x≤32*L:=by
 have h0:x.num.natAbs≠0:=by intro e;exact hx (Rat.num_eq_zero.1 (by omega))
 have h1:=tn h0
 have h2:=tn x.den_nz
 have h3:1≤bG x.num.natAbs:=by unfold bG;rw [if_neg h0];omega
 have h4:1≤bG x.den:=by unfold bG;rw [if_neg x.den_nz];omega
 have:=h.1
 have:=h.2
 unfold kS
 simp only
 split <;> omega
set_option maxHeartbeats 1000000 in
theorem LC (G:List (List DV))(x:Rat)(hx:x≠0)(hs:nE x 10000000):ah Tryz.prog G 333 [eS x] (.c (.d (.int .i64 (kS x)))):=by
 have h0:x.num.natAbs≠0:=by intro e;exact hx (Rat.num_eq_zero.1 (by omega))
 have hbot:=cR G (decide (x.num<0)) (cA x.num.natAbs) (dA x.den)
 rw [yU] at hbot
 have l1:=hs.1
 have l2:=hs.2
 have b1:=tn h0
 have b2:=tn x.den_nz
 have p1:=od G (cA x.num.natAbs) (mT _) (by rw [gM];omega)
 have p2:=od G (some (bV 4294967296 x.den)) (fh _) (by show nl _≤_;omega)
 rw [rW] at p1
 rw [cQ,dx] at p2
 have ek:∃ k:Int,(bG x.num.natAbs:Int) - bG x.den=k∧-320000000≤k∧k≤320000000:=⟨_,rfl,by omega,by omega⟩
 obtain⟨k,hk,k1,k2⟩:=ek
 have ew:IntKind.i64.wrap ((bG x.num.natAbs:Int) - bG x.den)=k:=by rw [hk];exact cX (by omega) (by omega)
 have ew2:IntKind.i64.wrap (-k) = -k:=cX (by omega) (by omega)
 have mx1:(List.foldl (fun a b:Int=>if a<b then b else a) (-k) [0])=((max (-k) 0).toNat:Int):=by simp only [List.foldl];split <;> omega
 have mx2:(List.foldl (fun a b:Int=>if a<b then b else a) k [0])=((max k 0).toNat:Int):=by simp only [List.foldl];split <;> omega
 have hlog:kS x=if x.num.natAbs*2 ^ (max (-k) 0).toNat<x.den*2 ^ (max k 0).toNat then k - 1 else k:=by unfold kS;simp only [hk]
 have s1:=fE G (cA x.num.natAbs) (max (-k) 0).toNat (by rw [gM];omega) (by omega)
 have s2:=fE G (some (bV 4294967296 x.den)) (max k 0).toNat (by show nl _≤_;omega) (by omega)
 rw [lH,if_neg (kf h0),dx] at s1
 rw [cQ,if_neg (kf x.den_nz),dx] at s2
 have cm:=fq (G:=G) (a:=some (bV 4294967296 (x.num.natAbs*2 ^ (max (-k) 0).toNat))) (b:=some (bV 4294967296 (x.den*2 ^ (max k 0).toNat))) (fh _) (fh _)
 simp only [cQ,dx] at cm
 generalize x.num.natAbs*2 ^ (max (-k) 0).toNat=a at *
 generalize x.den*2 ^ (max k 0).toNat=b at *
 generalize (max (-k) 0).toNat=u at *
 generalize (max k 0).toNat=v at *
 simp only [jY] at p1 p2 s1 s2 cm
 have ew3:IntKind.i64.wrap (k - 1)=k - 1:=cX (by omega) (by omega)
 refine ah.aU Go.Proofs.Tryz.func333 rfl (by rw [Tryz.ntmps333];simp) ?_
 rintro⟨_,_,w0,F0,W0,_,bu,β0⟩ rfl rfl rfl
 refine AW.ag fun K hK=>?_
 refine AW.aa rfl ?_
 simp
 apply hK;clear hK K
 refine AW.ag fun K hK=>?_
 refine AW.aa rfl ?_
 simp
 refine ai.pure 1 9 (hbot) (by first|(simp;done)|rfl) (by simp) (by first|rfl|simp) ?_
 simp
 apply hK;clear hK K
 refine AW.ag fun K hK=>?_
 refine AW.aa rfl ?_
 simp
 refine ai.pure 1 9 (p1) (by first|(simp;done)|rfl) (by simp) (by first|rfl|simp) ?_
 simp
 refine ai.pure 1 9 (p2) (by first|(simp;done)|rfl) (by simp) (by first|rfl|simp) ?_
 simp [ew]
 apply hK;clear hK K
 refine AW.ag fun K hK=>?_
 refine AW.ag fun K1 hK1=>?_
 refine AW.aa rfl ?_
 simp [ew2,dS,mx1,mx2,-List.foldl_cons,-List.foldl_nil]
 refine ai.pure 1 9 (s1) (by first|(simp;done)|rfl) (by simp) (by first|rfl|simp) ?_
 simp [ew2,dS,mx1,mx2,-List.foldl_cons,-List.foldl_nil]
 refine ai.pure 1 9 (s2) (by first|(simp;done)|rfl) (by simp) (by first|rfl|simp) ?_
 simp [ew2,dS,mx1,mx2,-List.foldl_cons,-List.foldl_nil]
 refine ai.pure 1 9 (cm) (by first|(simp;done)|rfl) (by simp) (by first|rfl|simp) ?_
 simp
 apply hK1;clear hK1 K1
 by_cases hab:a<b
 ·have hc:=qe.2 hab
  rw [if_pos hab] at hlog
  refine AW.cond (b:=true) (by first|(simp [hc];done)|(simp [hc];omega)) ?_
  refine AW.aa rfl ?_
  simp [ew3]
  apply hK;clear hK K
  refine AW.ag fun K hK=>?_
  refine AW.aa rfl ?_
  simp
  apply hK;clear hK K
  exact AW.ret (κ:=0) (aK.tmp (κ:=0) rfl 2 (by simp [hlog]) (by first|rfl|simp) (by first|rfl|simp) (by first|rfl|simp))
 ·have hc:¬ jH a b<0:=fun h=>hab (qe.1 h)
  rw [if_neg hab] at hlog
  refine AW.cond (b:=false) (by first|(simp [hc];done)|(simp [hc];omega)) ?_
  refine AW.skip ?_
  simp
  apply hK;clear hK K
  refine AW.ag fun K hK=>?_
  refine AW.aa rfl ?_
  simp
  apply hK;clear hK K
  exact AW.ret (κ:=0) (aK.tmp (κ:=0) rfl 2 (by simp [hlog]) (by first|rfl|simp) (by first|rfl|simp) (by first|rfl|simp))
theorem IA {x:Rat}(hx:x≠0):so (decide (x.num<0)) (cA x.num.natAbs)≠0:=by
 have h0:x.num.natAbs≠0:=by intro e;exact hx (Rat.num_eq_zero.1 (by omega))
 unfold so;rw [lH,if_neg (kf h0)];split <;> decide
theorem Gm {x:Rat}(hx:x=0):so (decide (x.num<0)) (cA x.num.natAbs)=0:=by subst hx;rfl
theorem Lv (G:List (List DV))(x:Rat)(hx:x≠0)(hs:nE x 10000000):ah Tryz.prog G 285 [eS x] (.tup [.c (.d (.int .i64 (kS x))),.c (.d (.int .i64 0))]):=by
 have h:=LC G x hx hs
 have hg:=jM G (decide (x.num<0)) (cA x.num.natAbs) (dA x.den)
 have hne:=IA hx
 refine ah.aU Go.Proofs.Tryz.func285 rfl (by rw [Tryz.ntmps285];simp) ?_
 rintro⟨_,_,w0,F0,W0,_,bu,β0⟩ rfl rfl rfl
 refine AW.ag fun K hK=>?_
 refine AW.aa rfl ?_
 simp
 apply hK;clear hK K
 refine AW.ag fun K hK=>?_
 refine AW.ag fun K1 hK1=>?_
 refine AW.aa rfl ?_
 simp
 refine ai.pure 1 9 (hg) (by first|(simp;done)|rfl) (by simp) (by first|rfl|simp) ?_
 simp [hne]
 apply hK1;clear hK1 K1
 refine AW.cond (b:=false) (by first|(simp [hne];done)|(simp [hne];omega)) ?_
 refine AW.skip ?_
 simp
 apply hK;clear hK K
 refine AW.ag fun K hK=>?_
 refine AW.aa rfl ?_
 simp
 refine ai.pure 1 9 (h) (by first|(simp;done)|rfl) (by simp) (by first|rfl|simp) ?_
 simp
 apply hK;clear hK K
 exact AW.ret (κ:=0) (aK.BV (κ:=0) rfl 9 (by simp) (by simp) rfl rfl (by simp) rfl rfl (by decide))
theorem M7 {x y:Rat}:x<y↔fM (decide (x.num<0)) (x.num.natAbs*y.den)<fM (decide (y.num<0)) (y.num.natAbs*x.den):=by
 rw [Rat.lt_iff,← qI,← qI,rj,rj]
theorem Ka (x y:Rat):PR (decide (x.num<0)) (cA x.num.natAbs) (dA x.den) (decide (y.num<0)) (cA y.num.natAbs) (dA y.den)=vW x y:=by
 unfold vW
 simp only [M7]
 unfold PR
 simp only [rW,yh]
 have hx:0<x.den:=x.den_pos
 have hy:0<y.den:=y.den_pos
 have sx:so (decide (x.num<0)) (cA x.num.natAbs)=if x.num.natAbs=0 then 0 else if x.num<0 then -1 else 1:=by
  unfold so;rw [lH];simp only [jN (by decide:2≤4294967296),decide_eq_true_eq]
 have sy:so (decide (y.num<0)) (cA y.num.natAbs)=if y.num.natAbs=0 then 0 else if y.num<0 then -1 else 1:=by
  unfold so;rw [lH];simp only [jN (by decide:2≤4294967296),decide_eq_true_eq]
 rw [sx,sy]
 have ha:x.num.natAbs*y.den=0↔x.num.natAbs=0:=by rw [Nat.mul_eq_zero];omega
 have hb:y.num.natAbs*x.den=0↔y.num.natAbs=0:=by rw [Nat.mul_eq_zero];omega
 generalize x.num.natAbs*y.den=a at *
 generalize y.num.natAbs*x.den=b at *
 unfold fM jH
 simp only [decide_eq_true_eq]
 generalize x.num=u at *
 generalize y.num=v at *
 (repeat' split) <;> omega
theorem Ev (G:List (List DV))(x y:Rat)(hx:nE x 10000000000)(hy:nE y 10000000000):ah Tryz.prog G 161 [eS x,eS y] (.c (.d (.int .i64 (vW x y)))):=by
 have h:=DA G (decide (x.num<0)) (decide (y.num<0)) (cA x.num.natAbs) (dA x.den) (cA y.num.natAbs) (dA y.den)
  (by rw [gM];have:=hx.1;omega) (Nat.le_trans (pF _) (by have:=hx.2;omega)) (by rw [gM];have:=hy.1;omega) (Nat.le_trans (pF _) (by have:=hy.2;omega))
 rw [Ka] at h
 exact h
end Go.Am

namespace Go.Am
open Go.Proofs
theorem E6 (m:Int):ah Tryz.prog (GG m) 22 [.c (.d (.str [114,101,115,117,108,116,32,121,10]))]
 (.tup [.agg [.d .nilsl,.d (.int .i64 (.ofNat 0)),.d .nilsl,.d .nilsl,.d (.int .i64 (.ofNat 0)),.d (.int .i64 (.ofNat 0)),.d .nilsl,.d (.int .i64 (.ofNat 0))],.c (.d (.int .i64 (.ofNat 1))),.c (.d (.int .i64 (.ofNat 144)))]):=
 ah.Eb (CG m 60) (by kernel_rfl)
end Go.Am

namespace Go.Am
open Go.Am.Ty Go.Proofs N
def kA (c:UInt8):Bool:=decide (48≤c.toNat∧c.toNat≤57)
def Cf:List DV:=(List.range 256).map fun c=>.bool (decide (48≤c∧c≤57))
theorem y6:Cf.length=256:=by simp [Cf]
theorem Hj (c:UInt8):Cf.drop c.toNat=.bool (kA c)::Cf.drop (c.toNat+1):=by
 have h:c.toNat<Cf.length:=by rw [y6];exact c.toNat_lt
 rw [List.drop_eq_getElem_cons h]
 congr 1
 simp [Cf,kA]
theorem sr (G:List (List DV))(c:UInt8):ah Tryz.prog G 344 [.c (.d (.ptr Cf)),.c (.d (.int .u8 c.toNat))] (.c (.d (.bool (kA c)))):=by
 have hc:=c.toNat_lt
 have hl:=y6
 have ha:=Hj c
 refine ah.aU Go.Proofs.Tryz.func344 rfl (by rw [Tryz.ntmps344];simp) ?_
 rintro⟨_,_,w0,F0,W0,_,bu,β0⟩ rfl rfl rfl
 refine AW.ag fun K hK=>?_
 refine AW.aa rfl ?_
 simp
 apply hK;clear hK K
 refine AW.ag fun K hK=>?_
 refine AW.aa rfl ?_
 simp [ak,ha,hl]
 repeat (refine And.intro (by omega) ?_)
 apply hK;clear hK K
 exact AW.ret (κ:=0) (aK.tmp (κ:=0) rfl 4 (by simp []) (by first|rfl|simp) (by first|rfl|simp) (by first|rfl|simp))
theorem BW (G:List (List DV))(s:List UInt8):ah Tryz.prog G 308 [.c (.d (.str s)),.c (.d (.ptr Cf))] (.c (.d (.str (s.dropWhile kA)))):=by
 refine ah.aU Go.Proofs.Tryz.func308 rfl (by rw [Tryz.ntmps308];simp) ?_
 rintro⟨_,_,w0,F0,W0,_,bu,β0⟩ rfl rfl rfl
 refine AW.ag fun K hK=>?_
 refine AW.aa rfl ?_
 simp
 apply hK;clear hK K
 refine AW.ag fun K hK=>?_
 refine AW.block ?_
 refine AW.b9 (fun (p:List UInt8)=>⟨bp [(0,.c (.d (.str p))),(1,.c (.d (.ptr Cf)))],fun _=>.hole⟩) 0 (fun p=>p.dropWhile kA=s.dropWhile kA) (fun p=>p.length) s (Le.mk' _ rfl (by intro k own es h;cases h) (by simp)) rfl ?_
 rintro p hp
 refine AW.ag fun K3 hK3=>AW.ag fun K4 hK4=>?_
 refine AW.aa rfl ?_
 simp
 apply hK4;clear hK4 K4
 cases p with
 | nil=>
  refine AW.cond (b:=false) (by first|(simp [];done)|(simp [];omega)) ?_
  refine AW.exit ?_
  simp
  apply hK
  refine AW.ag fun K3 hK3=>?_
  refine AW.aa rfl ?_
  simp
  apply hK3;clear hK3 K3
  have hp':s.dropWhile kA=[]:=by rw [← hp];rfl
  exact AW.ret (κ:=0) (aK.tmp (κ:=0) rfl 4 (by simp [hp']) (by first|rfl|simp) (by first|rfl|simp) (by first|rfl|simp))
 | cons c l=>
  refine AW.cond (b:=true) (by first|(simp [];done)|(simp [];omega)) ?_
  refine AW.skip ?_
  simp
  apply hK3
  refine AW.block ?_
  refine AW.ag fun K5 hK5=>?_
  refine AW.ag fun K6 hK6=>?_
  refine AW.aa rfl ?_
  simp
  refine ai.pure 0 9 (sr _ c) (by simp) (by simp) rfl ?_
  simp
  apply hK6;clear hK6 K6
  cases hd:kA c with
  | false=>
   refine AW.cond (b:=true) (by first|(simp [hd];done)|(simp [hd];omega)) ?_
   refine AW.exit ?_
   simp
   apply hK
   simp only [List.dropWhile,hd] at hp
   refine AW.ag fun K3 hK3=>?_
   refine AW.aa rfl ?_
   simp
   apply hK3;clear hK3 K3
   exact AW.ret (κ:=0) (aK.tmp (κ:=0) rfl 4 (by simp [hp]) (by first|rfl|simp) (by first|rfl|simp) (by first|rfl|simp))
  | true=>
   refine AW.cond (b:=false) (by first|(simp [hd];done)|(simp [hd];omega)) ?_
   refine AW.skip ?_
   simp
   apply hK5;clear hK5 K5
   refine AW.aa rfl ?_
   simp
   simp only [List.dropWhile,hd] at hp
   exact⟨by omega,l,Le.mk' _ rfl (by intro k own es h;cases h) (by simp),hp,by simp⟩
def jx (s:List UInt8):List UInt8:=(s.reverse.dropWhile kA).reverse
theorem xM (G:List (List DV))(s:List UInt8):ah Tryz.prog G 309 [.c (.d (.str s)),.c (.d (.ptr Cf))] (.c (.d (.str (jx s)))):=by
 refine aC.gu 0 (by simp) (fun V v h=>(show s.length≤9223372036854775807 by cases h.1 with|str _ hl=>exact hl)) fun hr=>?_
 refine ah.aU Go.Proofs.Tryz.func309 rfl (by rw [Tryz.ntmps309];simp) ?_
 rintro⟨_,_,w0,F0,W0,_,bu,β0⟩ rfl rfl rfl
 refine AW.ag fun K hK=>?_
 refine AW.aa rfl ?_
 simp
 apply hK;clear hK K
 refine AW.ag fun K hK=>?_
 refine AW.block ?_
 refine AW.b9 (fun (p:List UInt8)=>⟨bp [(0,.c (.d (.str p))),(1,.c (.d (.ptr Cf)))],fun _=>.hole⟩) 0 (fun p=>p.reverse.dropWhile kA=s.reverse.dropWhile kA∧p.length≤s.length) (fun p=>p.length) s (Le.mk' _ rfl (by intro k own es h;cases h) (by simp)) ⟨rfl,Nat.le_refl _⟩ ?_
 rintro p ⟨hp,hpl⟩
 refine AW.ag fun K3 hK3=>AW.ag fun K4 hK4=>?_
 refine AW.aa rfl ?_
 simp
 apply hK4;clear hK4 K4
 rcases List.eq_nil_or_concat p with rfl|⟨l,c,rfl⟩
 ·refine AW.cond (b:=false) (by first|(simp [];done)|(simp [];omega)) ?_
  refine AW.exit ?_
  simp
  apply hK
  refine AW.ag fun K3 hK3=>?_
  refine AW.aa rfl ?_
  simp
  apply hK3;clear hK3 K3
  have hp':jx s=[]:=by unfold jx;rw [← hp];rfl
  exact AW.ret (κ:=0) (aK.tmp (κ:=0) rfl 4 (by simp [hp']) (by first|rfl|simp) (by first|rfl|simp) (by first|rfl|simp))
 ·rw [List.concat_eq_append] at *
  have hn:0<(l++[c]).length:=by simp
  have hlen:(l++[c]).length=l.length+1:=by simp
  have e2:IntKind.i64.wrap (l.length:Int)=(l.length:Int):=cX (by omega) (by omega)
  have hr1:(l++[c]).reverse=c::l.reverse:=by simp
  rw [hr1] at hp
  refine AW.cond (b:=true) (by first|(simp [];done)|(simp [];omega)) ?_
  refine AW.skip ?_
  simp
  apply hK3
  refine AW.block ?_
  refine AW.ag fun K5 hK5=>?_
  refine AW.ag fun K6 hK6=>?_
  refine AW.aa rfl ?_
  simp [e2]
  refine⟨by omega,?_⟩
  refine ai.pure 0 9 (sr _ c) (by simp) (by simp) rfl ?_
  simp
  apply hK6;clear hK6 K6
  cases hd:kA c with
  | false=>
   refine AW.cond (b:=true) (by first|(simp [hd];done)|(simp [hd];omega)) ?_
   refine AW.exit ?_
   simp
   apply hK
   simp only [List.dropWhile,hd] at hp
   refine AW.ag fun K3 hK3=>?_
   refine AW.aa rfl ?_
   simp
   apply hK3;clear hK3 K3
   have hp':jx s=l++[c]:=by unfold jx;rw [← hp];simp
   exact AW.ret (κ:=0) (aK.tmp (κ:=0) rfl 4 (by simp [hp']) (by first|rfl|simp) (by first|rfl|simp) (by first|rfl|simp))
  | true=>
   refine AW.cond (b:=false) (by first|(simp [hd];done)|(simp [hd];omega)) ?_
   refine AW.skip ?_
   simp
   apply hK5;clear hK5 K5
   refine AW.aa rfl ?_
   simp [e2]
   simp only [List.dropWhile,hd] at hp
   exact⟨by omega,l,Le.mk' _ rfl (by intro k own es h;cases h) (by simp),⟨hp,by omega⟩,by simp⟩
end Go.Am

namespace Go.Am
open Go.Proofs
theorem Ip (m:Int):ah Tryz.prog (GG m) 307 [.c (.d (.str [48,49,50,51,52,53,54,55,56,57]))] (.tup [.agg (Cf.map .d),.c (.d (.bool true))]):=
 ah.Eb (CG m 60) (by kernel_rfl)
end Go.Am

namespace Go.Am
open Go.Am.Ty Go.Proofs N
abbrev Ut:List UInt8:=[48,49,50,51,52,53,54,55,56,57]
def uM (s:List UInt8):List UInt8:=(jx s).dropWhile kA
def AT:List CV:=List.replicate 256 (.d (.bool false))
def qz:List CV:=Cf.map .d
theorem NI (m:Int):ah Tryz.prog (GG m) 307 [.c (.d (.str Ut))] (.tup [.agg qz,.c (.d (.bool true))]):=Ip m
theorem Oc:(AV.tup [.agg qz,.c (.d (.bool true))]).pure=true:=by kernel_rfl
abbrev Ym:Key→LB:=aB (fun _=>LB.hole) 0 (.cells true false 342 qz)
theorem Mb (s:List UInt8):iP Ym [.c (.d (.str s)),.c (.ptr 0 0)]=some ([.c (.d (.str s)),.c (.d (.ptr Cf))],[0]):=by kernel_rfl
theorem Xr:iQ Ym (.c (.ptr 0 0))=[0]:=by kernel_rfl
theorem Zg (s:List UInt8):∀ a∈[AV.c (.d (.str s)),AV.c (.ptr 0 0)],∀ k∈iQ Ym a,k∈[0]:=by
 intro a ha k hk
 simp only [List.mem_cons,List.not_mem_nil,or_false] at ha
 rcases ha with rfl|rfl
 ·cases hk
 ·rw [Xr] at hk;exact hk
theorem ZK:bh Tryz.prog 342=some AT:=by kernel_rfl
theorem ZD:cG Tryz.prog 342 (aB (fun _=>.hole) 0 (.cells true false 342 AT)) (.c (.ptr 0 0)) (.agg qz)=some (.undef,[(0,.cells true false 342 qz)],[],True):=by
 have hl:qz.length=256:=by unfold qz;simp [y6]
 have hz:AT.length=256:=List.length_replicate
 have hs:aj AT 0 qz=qz:=by
  unfold aj;rw [hl,List.take_zero,List.nil_append,Nat.zero_add,List.drop_eq_nil_of_le (Nat.le_of_eq hz),List.append_nil]
 have hi:((Tryz.prog.info? 342).isSome && qz.length == gb Tryz.prog 342)=true:=by kernel_rfl
 have hu:aB (fun _=>LB.hole) 0 (.cells true false 342 AT) 0=.cells true false 342 (List.replicate 256 (.d (.bool false))):=az _ _ _
 have ht:(0+qz.length≤AT.length)=True:=by rw [hl,hz];exact eq_true (by decide)
 unfold cG
 simp only [hu]
 show (if ((Tryz.prog.info? 342).isSome && qz.length == gb Tryz.prog 342)=true then some (AV.undef,[(0,LB.cells true false 342 (aj AT 0 qz))],[],0+qz.length≤AT.length) else none)=_
 rw [if_pos hi,hs,ht]
theorem ai.flat {c:Ctx}{f:FuncId}{xs us:List AV}{ks rds:List Key}{x:AV}{lv:Key→LB}{K:AV→List (Key × LB)→List Key→Nat→Prop}(κ:Nat) (ha:iP lv xs=some (us,ks)) (hc:ah c.P c.G f us x) (hx:x.flat=true)
 (hr:∀ a∈xs,∀ k∈iQ lv a,k∈rds) (hK:K x [] rds κ):ai c f xs lv K:=⟨x,[],rds,κ,bw.flat us ks rds x ha hc hx hr,hK⟩
theorem Em (s:List UInt8):aI Tryz.prog .eql 9 (.c (.d (.str s))) (.c (.d (.str [])))=some (.c (.d (.bool (decide (s=[])))),[],[],True):=by
 cases s with
 | nil=>kernel_rfl
 | cons a l=>exact (show ∀ a l,aI Tryz.prog .eql 9 (.c (.d (.str (a::l)))) (.c (.d (.str [])))=some (.c (.d (.bool false)),[],[],True) from fun a l=>by kernel_rfl) a l
set_option maxHeartbeats 1000000 in
theorem yD (m:Int)(s:List UInt8):ah Tryz.prog (GG m) 261 [.c (.d (.str s)),.c (.d (.str Ut))] (.c (.d (.str (uM s)))):=by
 refine ah.aU Go.Proofs.Tryz.func261 rfl (by rw [Tryz.ntmps261];simp) ?_
 rintro⟨_,_,w0,F0,W0,_,bu,β0⟩ rfl rfl rfl
 refine AW.ag fun K hK=>?_
 refine AW.aa rfl ?_
 simp
 apply hK;clear hK K
 refine AW.ag fun K hK=>?_
 refine AW.ag fun K1 hK1=>?_
 by_cases hs:s=[]
 ·refine AW.aa rfl ?_
  simp [Em,hs]
  apply hK1;clear hK1 K1
  refine AW.cond (b:=true) (by first|(simp [];done)|(simp [];omega)) ?_
  refine AW.ag fun K1 hK1=>?_
  refine AW.aa rfl ?_
  simp
  apply hK1;clear hK1 K1
  exact AW.ret (κ:=0) (aK.tmp (κ:=0) rfl 4 (by simp [hs,uM,jx]) (by first|rfl|simp) (by first|rfl|simp) (by first|rfl|simp))
 refine AW.aa rfl ?_
 simp [Em,hs]
 apply hK1;clear hK1 K1
 refine AW.cond (b:=false) (by first|(simp [];done)|(simp [];omega)) ?_
 refine AW.skip ?_
 simp
 apply hK;clear hK K
 refine AW.ag fun K hK=>?_
 refine AW.ag fun K1 hK1=>?_
 refine AW.aa rfl ?_
 simp
 apply hK1;clear hK1 K1
 refine AW.cond (b:=false) (by first|(simp [];done)|(simp [];omega)) ?_
 refine AW.skip ?_
 simp
 apply hK;clear hK K
 refine AW.ag fun K hK=>?_
 refine AW.ag fun K1 hK1=>?_
 refine AW.aa rfl ?_
 simp
 refine ai.pure 0 9 (NI m) Oc (by simp) rfl ?_
 simp [ZK,ZD,-cG]
 apply hK1;clear hK1 K1
 refine AW.ag fun K1 hK1=>?_
 refine AW.aa rfl ?_
 simp
 apply hK1;clear hK1 K1
 refine AW.cond (b:=true) (by first|(simp [];done)|(simp [];omega)) ?_
 refine AW.ag fun K1 hK1=>?_
 refine AW.aa rfl ?_
 simp
 refine ai.flat 2 (us:=[.c (.d (.str s)),.c (.d (.ptr Cf))]) (ks:=[0]) (rds:=[0]) (Mb s) (xM _ s) rfl (Zg s) ?_
 simp
 refine ai.flat 2 (us:=[.c (.d (.str (jx s))),.c (.d (.ptr Cf))]) (ks:=[0]) (rds:=[0]) (Mb _) (BW _ (jx s)) rfl (Zg _) ?_
 simp
 apply hK1;clear hK1 K1
 exact AW.ret (κ:=0) (aK.tmp (κ:=0) rfl 9 (by simp [uM]) rfl (by simp) rfl)
end Go.Am

namespace Go.Am
open Go.Am.Ty Go.Proofs N
theorem NA (s t:List UInt8):(s == t)=decide (s=t):=by
 by_cases h:s=t
 ·subst h;simp
 ·rw [decide_eq_false h];exact beq_eq_false_iff_ne.2 h
theorem eqStr (s t:List UInt8):aI Tryz.prog .eql 9 (.c (.d (.str s))) (.c (.d (.str t)))=some (.c (.d (.bool (decide (s=t)))),[],[],True):=by
 rw [← NA];kernel_rfl
theorem LQ (s t:List UInt8):aI Tryz.prog .neq 9 (.c (.d (.str s))) (.c (.d (.str t)))=some (.c (.d (.bool (!decide (s=t)))),[],[],True):=by
 rw [← NA];kernel_rfl
def kH (s:List UInt8):Bool:=!decide (s=[]) && decide (uM s=[]) && (decide (s=[48]) || !decide (s.getD 0 0=48))
theorem IS (m:Int)(s:List UInt8):ah Tryz.prog (GG m) 224 [.c (.d (.str s))] (.c (.d (.bool (kH s)))):=by
 refine ah.aU Go.Proofs.Tryz.func224 rfl (by rw [Tryz.ntmps224];simp) ?_
 rintro⟨_,_,w0,F0,W0,_,bu,β0⟩ rfl rfl rfl
 refine AW.ag fun K hK=>?_
 refine AW.aa rfl ?_
 simp
 apply hK;clear hK K
 refine AW.ag fun K hK=>?_
 cases s with
 | nil=>
  refine AW.aa rfl ?_
  simp [LQ]
  apply hK;clear hK K
  exact AW.ret (κ:=0) (aK.tmp (κ:=0) rfl 2 (by simp [kH]) (by first|rfl|simp) (by first|rfl|simp) (by first|rfl|simp))
 | cons a l=>
  refine AW.aa rfl ?_
  simp [LQ]
  refine ai.pure 0 9 (yD m (a::l)) (by simp) (by simp) rfl ?_
  by_cases ht:uM (a::l)=[]
  ·by_cases h0:a::l=[48]
   ·have ht':uM [48]=[]:=h0 ▸ ht
    simp [eqStr,h0,ht']
    apply hK;clear hK K
    exact AW.ret (κ:=0) (aK.tmp (κ:=0) rfl 2 (by simp [kH,h0,ht']) (by first|rfl|simp) (by first|rfl|simp) (by first|rfl|simp))
   ·simp [eqStr,ht,h0]
    apply hK;clear hK K
    have ha:((a.toNat:Int)=48)↔a=48:=by
     constructor
     ·intro h;exact UInt8.toNat_inj.1 (by show a.toNat=48;omega)
     ·intro h;subst h;rfl
    have hr:kH (a::l) = !decide ((a.toNat:Int)=48):=by
     have h1:decide ((a.toNat:Int)=48)=decide (a=48):=by simp only [ha]
     rw [h1]
     simp [kH,ht,h0]
    exact AW.ret (κ:=0) (aK.tmp (κ:=0) rfl 2 (by simp [hr]) (by first|rfl|simp) (by first|rfl|simp) (by first|rfl|simp))
  ·simp [eqStr,ht]
   apply hK;clear hK K
   exact AW.ret (κ:=0) (aK.tmp (κ:=0) rfl 2 (by simp [kH,ht]) (by first|rfl|simp) (by first|rfl|simp) (by first|rfl|simp))
end Go.Am

namespace Go.Am
open Go.Am.Ty Go.Proofs N
def CM (s p:List UInt8):Bool:=decide (p.length≤s.length) && decide (s.take p.length=p)
def qL (s p:List UInt8):List UInt8:=if CM s p=true then s.drop p.length else s
theorem zH (G:List (List DV))(s p:List UInt8):ah Tryz.prog G 254 [.c (.d (.str s)),.c (.d (.str p))] (.c (.d (.bool (CM s p)))):=by
 refine ah.aU Go.Proofs.Tryz.func254 rfl (by rw [Tryz.ntmps254];simp) ?_
 rintro⟨_,_,w0,F0,W0,_,bu,β0⟩ rfl rfl rfl
 refine AW.ag fun K hK=>?_
 refine AW.aa rfl ?_
 simp
 apply hK;clear hK K
 refine AW.ag fun K hK=>?_
 by_cases h:p.length≤s.length
 ·have h':(p.length:Int)≤(s.length:Int):=by omega
  refine AW.aa rfl ?_
  simp [eqStr,h,h']
  apply hK;clear hK K
  exact AW.ret (κ:=0) (aK.tmp (κ:=0) rfl 4 (by simp [CM,h]) (by first|rfl|simp) (by first|rfl|simp) (by first|rfl|simp))
 ·have h':¬ (p.length:Int)≤(s.length:Int):=by omega
  refine AW.aa rfl ?_
  simp [eqStr,h,h']
  apply hK;clear hK K
  exact AW.ret (κ:=0) (aK.tmp (κ:=0) rfl 4 (by simp [CM,h]) (by first|rfl|simp) (by first|rfl|simp) (by first|rfl|simp))
theorem vX (G:List (List DV))(s p:List UInt8):ah Tryz.prog G 276 [.c (.d (.str s)),.c (.d (.str p))] (.tup [.c (.d (.str (qL s p))),.c (.d (.bool (CM s p)))]):=by
 refine ah.aU Go.Proofs.Tryz.func276 rfl (by rw [Tryz.ntmps276];simp) ?_
 rintro⟨_,_,w0,F0,W0,_,bu,β0⟩ rfl rfl rfl
 refine AW.ag fun K hK=>?_
 refine AW.aa rfl ?_
 simp
 apply hK;clear hK K
 refine AW.ag fun K hK=>?_
 refine AW.ag fun K1 hK1=>?_
 refine AW.aa rfl ?_
 simp
 refine ai.pure 0 9 (zH _ s p) (by simp) (by simp) rfl ?_
 simp
 apply hK1;clear hK1 K1
 by_cases h:CM s p=true
 ·refine AW.cond (b:=false) (by first|(simp [h];done)|(simp [h];omega)) ?_
  refine AW.skip ?_
  simp
  apply hK;clear hK K
  refine AW.ag fun K hK=>?_
  have hl:p.length≤s.length:=by
   unfold CM at h;simp only [Bool.and_eq_true,decide_eq_true_eq] at h;exact h.1
  refine AW.aa rfl ?_
  simp [hl]
  apply hK;clear hK K
  exact AW.ret (κ:=0) (aK.BV (κ:=0) rfl 5 (by simp [qL,h]) (by simp [h]) rfl rfl rfl rfl rfl (by decide))
 ·refine AW.cond (b:=true) (by first|(simp [h];done)|(simp [h];omega)) ?_
  refine AW.ag fun K1 hK1=>?_
  refine AW.aa rfl ?_
  simp
  apply hK1;clear hK1 K1
  exact AW.ret (κ:=0) (aK.BV (κ:=0) rfl 5 (by simp [qL,h]) (by simp [h]) rfl rfl rfl rfl rfl (by decide))
theorem zE (G:List (List DV))(s p:List UInt8):ah Tryz.prog G 222 [.c (.d (.str s)),.c (.d (.str p))] (.tup [.c (.d (.str (qL s p))),.c (.d (.bool (CM s p)))]):=by
 refine ah.aU Go.Proofs.Tryz.func222 rfl (by rw [Tryz.ntmps222];simp) ?_
 rintro⟨_,_,w0,F0,W0,_,bu,β0⟩ rfl rfl rfl
 refine AW.ag fun K hK=>?_
 refine AW.aa rfl ?_
 simp
 apply hK;clear hK K
 refine AW.ag fun K hK=>?_
 refine AW.aa rfl ?_
 simp
 refine ai.pure 0 9 (vX _ s p) rfl (by simp) rfl ?_
 simp
 apply hK;clear hK K
 exact AW.ret (κ:=0) (aK.BV (κ:=0) rfl 6 (by simp) (by simp) rfl rfl rfl rfl rfl (by decide))
end Go.Am

namespace Go.Am
open Go.Am.Ty Go.Proofs N
theorem aK.Bv {c:Ctx}{fn:Func}{x y z:AV}{t u v:Nat}{s:aG}{κ:Nat}(hr:fn.results=#[.tmp t,.tmp u,.tmp v]) (kh:Key) (hx:s.fr t=x) (hy:s.fr u=y) (hz:s.fr v=z) (hp:x.pure=true) (hq:y.pure=true) (hw:z.pure=true) (hh:s.lv kh=.hole)
 (hn:x.dY=true) (hm:y.dY=true) (hl:z.dY=true) (htu:t≠u) (htv:t≠v) (huv:u≠v):aK c fn (.tup [x,y,z]) .ret s κ:=by
 refine⟨[(t,x),(u,y),(v,z)],kh,by simp [hp,hx,hq,hy,hw,hz],hh,?_⟩
 rw [hr]
 have h1:¬ u=t:=fun h=>htu h.symm
 have h2:¬ v=t:=fun h=>htv h.symm
 have h3:¬ v=u:=fun h=>huv h.symm
 simp [cq,iB,j8,bp,h1,h2,h3,hn,hm,hl]
def qq (s t:List UInt8):Int:=Lib.index s t
def EJ (s t:List UInt8):List UInt8:=if 0≤qq s t then s.take (qq s t).toNat else s
def EA (s t:List UInt8):List UInt8:=if 0≤qq s t then s.drop ((qq s t).toNat+t.length) else []
theorem I0 (s t:List UInt8)(h:s.length≤9223372036854775807):-9223372036854775808≤Lib.index s t∧Lib.index s t≤9223372036854775807:=by
 have h1:=Lib.index_ge s t
 have h2:Lib.index s t≤s.length:=by
  clear h h1
  induction s with
  | nil=>simp only [Lib.index];split <;> simp
  | cons a s ih=>
   simp only [Lib.index]
   split
   ·simp;omega
   ·split <;> simp <;> omega
 omega
theorem Fj (G:List (List DV))(s:List UInt8)(c:Nat)(hc:c<256):ah Tryz.prog G 255 [.c (.d (.str s)),.c (.d (.int .u8 (c:Int)))] (.c (.d (.int .i64 (qq s [UInt8.ofNat c])))):=by
 refine aC.gu 0 (by simp) (fun V v h=>(show s.length≤9223372036854775807 by cases h.1 with|str _ hl=>exact hl)) fun hs=>?_
 refine ah.vj (X:=.c (.d (.int .i64 (qq s [UInt8.ofNat c])))) (lv':=fun _=>.hole) (ks:=[]) ?_ rfl
 refine bC.of_same (by rfl) fun F β w vs hS hl hv=>?_
 obtain⟨u,v,rfl,hu,hv⟩:=args2 hl hv
 have:=Tryz.stringslite_IndexByte ⟨s.toArray⟩ c w
 refine⟨.int .i64 (qq s [UInt8.ofNat c]),zz (I0 s _ hs),?_⟩
 rw [Vw.gQ hu,Vw.eM hv]
 simpa [qq,← index_one] using this
theorem I1 (c:UInt8):qq [c] [c]=0:=by simp [qq,Lib.index,List.isPrefixOf]
theorem Ft (G:List (List DV))(s:List UInt8)(c:UInt8):ah Tryz.prog G 253 [.c (.d (.str s)),.c (.d (.str [c]))] (.c (.d (.int .i64 (qq s [c])))):=by
 have hb:=Fj G s c.toNat c.toNat_lt
 rw [show UInt8.ofNat c.toNat=c from UInt8.ofNat_toNat] at hb
 refine ah.aU Go.Proofs.Tryz.func253 rfl (by rw [Tryz.ntmps253];simp) ?_
 rintro⟨_,_,w0,F0,W0,_,bu,β0⟩ rfl rfl rfl
 refine AW.ag fun K hK=>?_
 refine AW.aa rfl ?_
 simp
 apply hK;clear hK K
 refine AW.ag fun K hK=>?_
 refine AW.aa rfl ?_
 simp
 apply hK;clear hK K
 refine AW.ag fun K hK=>?_
 refine AW.block ?_
 refine AW.ag fun K1 hK1=>?_
 by_cases hs:[c]=s
 ·have h0:qq s [c]=0:=by rw [← hs];exact I1 c
  refine AW.aa rfl ?_
  simp [eqStr,hs]
  apply hK1;clear hK1 K1
  refine AW.cond (b:=true) (by first|(simp [];done)|(simp [];omega)) ?_
  refine AW.ag fun K1 hK1=>?_
  refine AW.aa rfl ?_
  simp
  apply hK1;clear hK1 K1
  exact AW.ret (κ:=0) (aK.tmp (κ:=0) rfl 4 (by simp [h0]) (by first|rfl|simp) (by first|rfl|simp) (by first|rfl|simp))
 ·refine AW.aa rfl ?_
  simp [eqStr,hs]
  apply hK1;clear hK1 K1
  refine AW.cond (b:=false) (by first|(simp [];done)|(simp [];omega)) ?_
  refine AW.ag fun K1 hK1=>?_
  refine AW.aa rfl ?_
  simp
  apply hK1;clear hK1 K1
  refine AW.cond (b:=true) (by first|(simp [];done)|(simp [];omega)) ?_
  refine AW.ag fun K1 hK1=>?_
  refine AW.aa rfl ?_
  simp
  refine ai.pure 0 9 hb (by simp) (by simp) rfl ?_
  simp
  apply hK1;clear hK1 K1
  exact AW.ret (κ:=0) (aK.tmp (κ:=0) rfl 4 (by simp []) (by first|rfl|simp) (by first|rfl|simp) (by first|rfl|simp))
set_option maxHeartbeats 1000000 in
theorem Gx (m:Int)(s t:List UInt8)(h:s.length≤9223372036854775807)(hix:ah Tryz.prog (GG m) 253 [.c (.d (.str s)),.c (.d (.str t))] (.c (.d (.int .i64 (qq s t))))):ah Tryz.prog (GG m) 277 [.c (.d (.str s)),.c (.d (.str t))] (.tup [.c (.d (.str (EJ s t))),.c (.d (.str (EA s t))),.c (.d (.bool (decide (0≤qq s t))))]):=by
 refine ah.aU Go.Proofs.Tryz.func277 rfl (by rw [Tryz.ntmps277];simp) ?_
 rintro⟨_,_,w0,F0,W0,_,bu,β0⟩ rfl rfl rfl
 refine AW.ag fun K hK=>?_
 refine AW.aa rfl ?_
 simp
 apply hK;clear hK K
 refine AW.ag fun K hK=>?_
 refine AW.ag fun K1 hK1=>?_
 refine AW.aa rfl ?_
 simp
 refine ai.pure 0 9 hix (by simp) (by simp) rfl ?_
 simp
 apply hK1;clear hK1 K1
 refine AW.ag fun K1 hK1=>?_
 refine AW.aa rfl ?_
 simp
 apply hK1;clear hK1 K1
 by_cases hi:0≤qq s t
 ·refine AW.cond (b:=true) (by first|(simp [hi];done)|(simp [hi];omega)) ?_
  obtain⟨n,hn⟩:∃ n:Nat,qq s t=n:=⟨(qq s t).toNat,(Int.toNat_of_nonneg hi).symm⟩
  have hr:=Lib.index_room s t (by unfold qq at hi;exact hi)
  have hr':n+t.length≤s.length:=by unfold qq at hn;rw [hn] at hr;omega
  have hw:IntKind.i64.wrap ((n:Int)+t.length)=((n+t.length:Nat):Int):=by rw [cX (by omega) (by omega)];omega
  have hn1:n≤s.length:=by omega
  refine AW.ag fun K1 hK1=>?_
  refine AW.jj mixed (by kernel_rfl) rfl rfl ?_
  simp [hn,hw,hn1,hr',-Int.natCast_add]
  apply hK1;clear hK1 K1
  exact AW.ret (κ:=0) (aK.Bv (κ:=0) rfl 9 (by simp [EJ,hi,hn]) (by simp [EA,hi,hn]) (by simp [hi,hn]) rfl rfl rfl rfl rfl rfl rfl (by decide) (by decide) (by decide))
 ·refine AW.cond (b:=false) (by first|(simp [hi];done)|(simp [hi];omega)) ?_
  refine AW.skip ?_
  simp
  apply hK;clear hK K
  refine AW.ag fun K hK=>?_
  refine AW.aa rfl ?_
  simp
  apply hK;clear hK K
  exact AW.ret (κ:=0) (aK.Bv (κ:=0) rfl 9 (by simp [EJ,hi]) (by simp [EA,hi]) (by simp [hi]) rfl rfl rfl rfl rfl rfl rfl (by decide) (by decide) (by decide))
theorem Jw (m:Int)(s t:List UInt8)(h:s.length≤9223372036854775807)(hix:ah Tryz.prog (GG m) 253 [.c (.d (.str s)),.c (.d (.str t))] (.c (.d (.int .i64 (qq s t))))):ah Tryz.prog (GG m) 223 [.c (.d (.str s)),.c (.d (.str t))] (.tup [.c (.d (.str (EJ s t))),.c (.d (.str (EA s t))),.c (.d (.bool (decide (0≤qq s t))))]):=by
 refine ah.aU Go.Proofs.Tryz.func223 rfl (by rw [Tryz.ntmps223];simp) ?_
 rintro⟨_,_,w0,F0,W0,_,bu,β0⟩ rfl rfl rfl
 refine AW.ag fun K hK=>?_
 refine AW.aa rfl ?_
 simp
 apply hK;clear hK K
 refine AW.ag fun K hK=>?_
 refine AW.aa rfl ?_
 simp
 refine ai.pure 0 9 (Gx m s t h hix) rfl (by simp) rfl ?_
 simp
 apply hK;clear hK K
 exact AW.ret (κ:=0) (aK.Bv (κ:=0) rfl 9 (by simp) (by simp) (by simp) rfl rfl rfl rfl rfl rfl rfl (by decide) (by decide) (by decide))
theorem J8 (m:Int)(s:List UInt8)(c:UInt8):ah Tryz.prog (GG m) 223 [.c (.d (.str s)),.c (.d (.str [c]))] (.tup [.c (.d (.str (EJ s [c]))),.c (.d (.str (EA s [c]))),.c (.d (.bool (decide (0≤qq s [c]))))]):=by
 refine aC.gu 0 (by simp) (fun V v h=>(show s.length≤9223372036854775807 by cases h.1 with|str _ hl=>exact hl)) fun hs=>?_
 exact Jw m s [c] hs (Ft (GG m) s c)
end Go.Am

namespace Go.Am
open Go.Am.Ty Go.Proofs N
theorem ID {p:UInt8→Bool}:∀ {l:List UInt8},l.dropWhile p=[]→∀ x∈l,p x=true
 | [],_,x,hx=>by cases hx
 | a::l,h,x,hx=>by
  simp only [List.dropWhile] at h
  split at h
  ·rename_i ha
   rcases List.mem_cons.1 hx with rfl|hx
   ·exact ha
   ·exact ID h x hx
  ·cases h
theorem Fp {s:List UInt8}(h:uM s=[]):Ll s:=by
 have h1:∀ x∈jx s,kA x=true:=ID h
 have h2:∀ x∈s.reverse.dropWhile kA,kA x=true:=fun x hx=>h1 x (by unfold jx;exact List.mem_reverse.2 hx)
 have h3:∀ x∈s.reverse,kA x=true:=by
  intro x hx
  rw [← List.takeWhile_append_dropWhile (p:=kA) (l:=s.reverse),List.mem_append] at hx
  rcases hx with hx|hx
  ·have:=List.all_takeWhile (p:=kA) (l:=s.reverse)
   exact List.all_eq_true.1 this x hx
  ·exact h2 x hx
 intro c hc
 have:=h3 c (List.mem_reverse.2 hc)
 simpa [kA] using this
theorem oK {s:List UInt8}(h:kH s=true):Ll s∧s≠[]:=by
 unfold kH at h
 simp only [Bool.and_eq_true,Bool.not_eq_true',decide_eq_false_iff_not,decide_eq_true_eq] at h
 exact⟨Fp h.1.2,h.1.1⟩
abbrev W7:AV:=nV false none none
def kj (neg:Bool)(top bot:List UInt8)(brk:Bool):Bool:=!kH top || (neg && decide (top=[48])) || (brk && (!kH bot || decide (bot=[48]) || decide (bot=[49])))
abbrev nP (s:List UInt8):Option (List Nat):=some (bV 4294967296 (bX s 0))
def dQ (neg:Bool)(top bot:List UInt8)(brk:Bool):AV:=
 if kj neg top bot brk=true then .tup [W7,.c (.d (.int .i64 6))]
 else if 2000<max top.length bot.length then .tup [W7,.c (.d (.int .i64 3))]
 else if brk=false then .tup [iS neg (nP top) (some (bV 4294967296 1)),.c (.d (.int .i64 0))]
 else if val 4294967296 (dO (gO (nP top) (nP bot)))=1 then .tup [nV neg (nP top) (nP bot),.c (.d (.int .i64 0))]
 else .tup [W7,.c (.d (.int .i64 6))]
theorem Bw (lv:Key→LB)(neg:Bool)(top bot:List UInt8)(brk:Bool):fX lv (dQ neg top bot brk)=some (dQ neg top bot brk,[]):=by
 have h1:∀ b p q n,fX lv (.tup [nV b p q,.c (.d (.int .i64 n))])=some (.tup [nV b p q,.c (.d (.int .i64 n))],[]):=by
  intro b p q n;cases p <;> cases q <;> rfl
 unfold dQ iS
 (repeat' split) <;> exact h1 ..
theorem Bb (G:List (List DV)){s:List UInt8}(h:kH s=true) (hl:s.length≤2000):ah Tryz.prog G 226 [.c (.d (.str s))] (.c (nC (nP s))):=by
 obtain⟨h1,h2⟩:=oK h
 have:=om G s h1 (by omega)
 have e:oO (!s.isEmpty) (bX s 0)=nP s:=by
  cases s with
  | nil=>exact absurd rfl h2
  | cons a l=>rfl
 rw [e,jY] at this
 exact this
set_option maxHeartbeats 4000000 in
theorem BN (m:Int)(r:List UInt8) :
 ah Tryz.prog (GG m) 159 [.c (.d (.str r))] (dQ (CM r [45]) (EJ (qL r [45]) [47]) (EA (qL r [45]) [47]) (decide (0≤qq (qL r [45]) [47]))):=by
 refine aC.gu 0 (by simp) (fun V v h=>(show r.length≤9223372036854775807 by cases h.1 with|str _ hl=>exact hl)) fun hr=>?_
 have hcl:(qL r [45]).length≤9223372036854775807:=by
  unfold qL;split
  ·rw [List.length_drop];omega
  ·exact hr
 have hcp:=zE (GG m) r [45]
 have hct:=J8 m (qL r [45]) 47
 have hta:(EJ (qL r [45]) [47]).length≤9223372036854775807:=by
  unfold EJ;split
  ·rw [List.length_take];omega
  ·omega
 have htb:(EA (qL r [45]) [47]).length≤9223372036854775807:=by
  unfold EA;split
  ·rw [List.length_drop];omega
  ·simp
 generalize CM r [45]=neg at *
 generalize qL r [45]=s at *
 generalize EJ s [47]=top at *
 generalize EA s [47]=bot at *
 generalize decide (0≤qq s [47])=brk at *
 refine ah.er Go.Proofs.Tryz.func159 rfl (by rw [Tryz.ntmps159];simp) (fun lv=>Bw lv _ _ _ _) ?_
 rintro⟨_,_,w0,F0,W0,_,bu,β0⟩ rfl rfl rfl
 refine AW.ag fun K hK=>?_
 refine AW.aa rfl ?_
 simp
 apply hK;clear hK K
 refine AW.ag fun K hK=>?_
 refine AW.aa rfl ?_
 simp
 refine ai.pure 1 9 hcp rfl (by simp) (by simp) ?_
 simp
 apply hK;clear hK K
 refine AW.ag fun K hK=>?_
 refine AW.aa rfl ?_
 simp
 refine ai.pure 1 9 hct rfl (by simp) (by simp) ?_
 simp
 apply hK;clear hK K
 refine AW.ag fun K hK=>?_
 refine AW.block ?_
 refine AW.ag fun K1 hK1=>?_
 have row1:=IS m top
 have row2:=IS m bot
 have hbad:∀ (fr:Nat→AV) (κ:Nat),fr 2=.c (.ptr 0 0)→fr 22=.c (.d (.bool true))→kj neg top bot brk=true →
  K1 ⟨fr,aB (fun _=>.hole) 0 (.cells true false 224 [.d (.bool false),.d .nilsl,.d .nilsl])⟩ κ:=by
  intro fr κ z2 z22 hb
  apply hK1
  refine AW.cond (b:=true) (by first|(simp [z22];done)|(simp [z22];omega)) ?_
  refine AW.ag fun K2 hK2=>?_
  refine AW.aa rfl ?_
  simp [z2,Er]
  apply hK2;clear hK2 K2
  refine AW.ret ?_
  simp only [dQ,if_pos hb]
  refine eI.jQ (κ:=0) (T:=224) (t:=2) (u:=3) (k:=0) (off:=0) (own:=true) (fz:=false) (U:=224) (cs:=[.d (.bool false),.d .nilsl,.d .nilsl]) rfl ?_ ?_ ?_ ?_ rfl rfl
  ·simp [z2]
  ·simp [aj]
  ·rw [List.drop_zero,bx];rfl
  ·simp
 have hgood:∀ (fr:Nat→AV) (κ:Nat),fr 2=.c (.ptr 0 0)→fr 5=.c (.d (.bool neg))→fr 6=.c (.d (.str top))→fr 7=.c (.d (.str bot))→fr 8=.c (.d (.bool brk))→fr 22=.c (.d (.bool false)) →
  kH top=true→(brk=true→kH bot=true)→kj neg top bot brk=false →
  K1 ⟨fr,aB (fun _=>.hole) 0 (.cells true false 224 [.d (.bool false),.d .nilsl,.d .nilsl])⟩ κ:=by
  intro fr κ z2 z5 z6 z7 z8 z22 g1 g2 hb
  apply hK1
  refine AW.cond (b:=false) (by first|(simp [z22];done)|(simp [z22];omega)) ?_
  refine AW.ag fun K2 hK2=>?_
  have hmx:∀ (a b:Nat),(List.foldl (fun a b:Int=>if a<b then b else a) (a:Int) [(b:Int)])=((max a b:Nat):Int):=by
   intro a b;simp only [List.foldl];split <;> omega
  refine AW.aa rfl ?_
  simp [z6,z7,dS,hmx,-List.foldl_cons,-List.foldl_nil]
  apply hK2;clear hK2 K2
  have hbf:¬ kj neg top bot brk=true:=by rw [hb];decide
  by_cases hl:2000<max top.length bot.length
  ·have hl':(2000:Int)<((max top.length bot.length:Nat):Int):=by omega
   refine AW.cond (b:=true) (by first|(simp [hl'];done)|(simp [hl'];omega)) ?_
   refine AW.ag fun K2 hK2=>?_
   refine AW.aa rfl ?_
   simp [z2,Er]
   apply hK2;clear hK2 K2
   refine AW.ret ?_
   simp only [dQ,if_neg hbf,if_pos hl]
   refine eI.jQ (κ:=0) (T:=224) (t:=2) (u:=3) (k:=0) (off:=0) (own:=true) (fz:=false) (U:=224) (cs:=[.d (.bool false),.d .nilsl,.d .nilsl]) rfl ?_ ?_ ?_ ?_ rfl rfl
   ·simp [z2]
   ·simp [aj]
   ·rw [List.drop_zero,bx];rfl
   ·simp
  have hl':¬ (2000:Int)<((max top.length bot.length:Nat):Int):=by omega
  refine AW.cond (b:=false) (by first|(simp [hl'];done)|(simp [hl'];omega)) ?_
  refine AW.skip ?_
  simp
  apply hK
  have ht2:top.length≤2000:=by omega
  have hb2:bot.length≤2000:=by omega
  have rd1:=Bb (GG m) g1 ht2
  have hof:=eV (GG m) 1 (by decide)
  have c1:can 4294967296 (dO (nP top)):=dy (by decide) _
  have c2:can 4294967296 (dO (some (bV 4294967296 1))):=dy (by decide) _
  have dlen:∀ (u:List UInt8),Ll u→u.length≤2000→(dO (nP u)).length<1000000000000:=by
   intro u hu hlu
   have h1:=ql hu
   have h2:(10:Nat) ^ u.length≤4294967296 ^ u.length:=Nat.pow_le_pow_left (by decide) _
   have:=cL (B:=4294967296) (n:=bX u 0) (m:=u.length) (by decide) (by omega)
   simp only [cQ]
   omega
  have l1:=dlen top (oK g1).1 ht2
  have l2:(dO (some (bV 4294967296 1))).length<1000000000000:=Nat.lt_of_le_of_lt (cL (m:=1) (by decide) (by decide)) (by decide)
  refine AW.ag fun K3 hK3=>?_
  refine AW.ag fun K4 hK4=>?_
  refine AW.aa rfl ?_
  simp [z8]
  apply hK4;clear hK4 K4
  cases hk:brk with
  | false=>
   rw [hk] at hbf
   have hmade:=oa (GG m) neg (nP top) (some (bV 4294967296 1)) c1 c2 (by intro h;exact absurd ((jN (by decide)).1 h) (by decide)) l1 l2
   simp only [jY] at hmade hof
   refine AW.cond (b:=true) (by first|(simp [];done)|(simp [];omega)) ?_
   refine AW.ag fun K4 hK4=>?_
   refine AW.aa rfl ?_
   simp [z5,z6]
   refine ai.pure κ 9 rd1 (by simp) (by simp) (by simp) ?_
   simp
   refine ai.pure κ 9 hof (by simp) (by simp) (by simp) ?_
   simp
   by_cases hz:dO (nP top)=[]
   ·simp only [iS,if_pos hz] at hmade
    refine ai.pure κ 9 hmade (by simp) (by simp) (by simp) ?_
    simp [z2]
    apply hK4;clear hK4 K4
    refine AW.ret ?_
    simp only [dQ,if_neg hbf,if_neg hl,reduceIte,iS,if_pos hz]
    refine eI.jQ (κ:=0) (T:=224) (t:=2) (u:=3) (k:=0) (off:=0) (own:=true) (fz:=false) (U:=224) (cs:=[.d (.bool false),nC none,nC none]) rfl ?_ ?_ ?_ ?_ rfl rfl
    ·simp [z2]
    ·simp [aj]
    ·rw [List.drop_zero,bx]
    ·simp
   ·simp only [iS,if_neg hz] at hmade
    refine ai.pure κ 9 hmade (by simp) (by simp) (by simp) ?_
    simp [z2]
    apply hK4;clear hK4 K4
    refine AW.ret ?_
    simp only [dQ,if_neg hbf,if_neg hl,reduceIte,iS,if_neg hz]
    refine eI.jQ (κ:=0) (T:=224) (t:=2) (u:=3) (k:=0) (off:=0) (own:=true) (fz:=false) (U:=224) (cs:=[.d (.bool neg),nC (mP (nP top) (some (bV 4294967296 1))),nC (mQ (nP top) (some (bV 4294967296 1)))]) rfl ?_ ?_ ?_ ?_ rfl rfl
    ·simp [z2]
    ·simp [aj]
    ·rw [List.drop_zero,bx]
    ·simp
  | true=>
   rw [hk] at hbf
   have g3:=g2 hk
   have rd2:=Bb (GG m) g3 hb2
   have c3:can 4294967296 (dO (nP bot)):=dy (by decide) _
   have l3:=dlen bot (oK g3).1 hb2
   have hgcd:=qn (GG m) (nP top) (nP bot) c1 c3 l1 l3
   have his:=iX (GG m) (gO (nP top) (nP bot)) (by unfold gO;rw [vD c1 c3];exact dy (by decide) _)
   change ah _ _ 229 _ (nK .u32 (gO (nP top) (nP bot))) at hgcd
   simp only [jY] at hgcd his
   refine AW.cond (b:=false) (by first|(simp [];done)|(simp [];omega)) ?_
   refine AW.skip ?_
   simp
   apply hK3
   refine AW.ag fun K4 hK4=>?_
   refine AW.aa rfl ?_
   simp [z6,z7]
   refine ai.pure κ 9 rd1 (by simp) (by simp) (by simp) ?_
   simp [z7]
   refine ai.pure κ 9 rd2 (by simp) (by simp) (by simp) ?_
   simp
   apply hK4;clear hK4 K4
   refine AW.ag fun K4 hK4=>?_
   refine AW.ag fun K5 hK5=>?_
   refine AW.aa rfl ?_
   simp
   refine ai.pure κ 9 hgcd (by simp) (by simp) (by simp) ?_
   simp
   refine ai.pure κ 9 his (by simp) (by simp) (by simp) ?_
   simp
   apply hK5;clear hK5 K5
   by_cases h1:val 4294967296 (dO (gO (nP top) (nP bot)))=1
   ·refine AW.cond (b:=false) (by first|(simp [h1];done)|(simp [h1];omega)) ?_
    refine AW.skip ?_
    simp
    apply hK4;clear hK4 K4
    refine AW.ag fun K4 hK4=>?_
    refine AW.aa rfl ?_
    simp [z2,z5,Cj]
    apply hK4;clear hK4 K4
    refine AW.ret ?_
    have hp:dQ neg top bot brk=.tup [nV neg (nP top) (nP bot),.c (.d (.int .i64 0))]:=by rw [hk];unfold dQ;rw [if_neg hbf,if_neg hl,if_neg (by decide),if_pos h1]
    rw [hp]
    refine eI.jQ (κ:=0) (T:=224) (t:=2) (u:=3) (k:=0) (off:=0) (own:=true) (fz:=false) (U:=224) (cs:=[.d (.bool neg),nC (nP top),nC (nP bot)]) rfl ?_ ?_ ?_ ?_ rfl rfl
    ·simp [z2]
    ·simp [aj]
    ·rw [List.drop_zero,bx]
    ·simp
   ·refine AW.cond (b:=true) (by first|(simp [h1];done)|(simp [h1];omega)) ?_
    refine AW.ag fun K5 hK5=>?_
    refine AW.aa rfl ?_
    simp [z2,Er]
    apply hK5;clear hK5 K5
    refine AW.ret ?_
    have hp:dQ neg top bot brk=.tup [W7,.c (.d (.int .i64 6))]:=by rw [hk];unfold dQ;rw [if_neg hbf,if_neg hl,if_neg (by decide),if_neg h1]
    rw [hp]
    refine eI.jQ (κ:=0) (T:=224) (t:=2) (u:=3) (k:=0) (off:=0) (own:=true) (fz:=false) (U:=224) (cs:=[.d (.bool false),.d .nilsl,.d .nilsl]) rfl ?_ ?_ ?_ ?_ rfl rfl
    ·simp [z2]
    ·simp [aj]
    ·rw [List.drop_zero,bx];rfl
    ·simp
 refine AW.aa rfl ?_
 simp
 refine ai.pure 1 9 row1 (by simp) (by simp) (by simp) ?_
 cases g1:kH top with
 | false=>
  simp [g1]
  exact hbad _ _ (by simp) (by simp) (by simp [kj,g1])
 | true=>
  cases hn:neg with
  | true=>
   by_cases h48:top=[48]
   ·have e48:decide (top=[48])=true:=decide_eq_true h48
    simp [eqStr,g1,hn,e48]
    exact hbad _ _ (by simp) (by simp) (by simp [kj,hn,h48])
   ·cases hk:brk with
    | false=>
     simp [eqStr,g1,hn,h48,hk]
     exact hgood _ _ (by simp) (by simp [hn]) (by simp) (by simp) (by simp [hk]) (by simp) g1 (fun h=>by rw [hk] at h;cases h) (by simp [kj,g1,hn,h48,hk])
    | true=>
     simp [eqStr,g1,hn,h48,hk]
     refine ai.pure 1 9 row2 (by simp) (by simp) (by simp) ?_
     cases g2:kH bot with
     | false=>
      simp [g2]
      exact hbad _ _ (by simp) (by simp) (by simp [kj,g2,hk])
     | true=>
      by_cases b48:bot=[48]
      ·have e:decide (bot=[48])=true:=decide_eq_true b48
       simp [eqStr,g2,e]
       exact hbad _ _ (by simp) (by simp) (by simp [kj,e,hk])
      ·by_cases b49:bot=[49]
       ·have e:decide (bot=[49])=true:=decide_eq_true b49
        simp [eqStr,g2,b48,e]
        exact hbad _ _ (by simp) (by simp) (by simp [kj,e,hk])
       ·simp [eqStr,g2,b48,b49]
        exact hgood _ _ (by simp) (by simp [hn]) (by simp) (by simp) (by simp [hk]) (by simp) g1 (fun _=>g2) (by simp [kj,g1,hn,h48,hk,g2,b48,b49])
  | false=>
   cases hk:brk with
   | false=>
    simp [eqStr,g1,hn,hk]
    exact hgood _ _ (by simp) (by simp [hn]) (by simp) (by simp) (by simp [hk]) (by simp) g1 (fun h=>by rw [hk] at h;cases h) (by simp [kj,g1,hn,hk])
   | true=>
    simp [eqStr,g1,hn,hk]
    refine ai.pure 1 9 row2 (by simp) (by simp) (by simp) ?_
    cases g2:kH bot with
    | false=>
     simp [g2]
     exact hbad _ _ (by simp) (by simp) (by simp [kj,g2,hk])
    | true=>
     by_cases b48:bot=[48]
     ·have e:decide (bot=[48])=true:=decide_eq_true b48
      simp [eqStr,g2,e]
      exact hbad _ _ (by simp) (by simp) (by simp [kj,e,hk])
     ·by_cases b49:bot=[49]
      ·have e:decide (bot=[49])=true:=decide_eq_true b49
       simp [eqStr,g2,b48,e]
       exact hbad _ _ (by simp) (by simp) (by simp [kj,e,hk])
      ·simp [eqStr,g2,b48,b49]
       exact hgood _ _ (by simp) (by simp [hn]) (by simp) (by simp) (by simp [hk]) (by simp) g1 (fun _=>g2) (by simp [kj,g1,hn,hk,g2,b48,b49])
end Go.Am

namespace Go.Am
open Go.Am.Ty Go.Proofs N
def ei (neg:Bool)(top bot:List UInt8)(brk:Bool):Int:=
 if kj neg top bot brk=true then 6
 else if 2000<max top.length bot.length then 3
 else if brk=false then 0
 else if val 4294967296 (dO (gO (nP top) (nP bot)))=1 then 0 else 6
theorem Bp (neg:Bool)(top bot:List UInt8)(brk:Bool):∃ b p q,dQ neg top bot brk=.tup [nV b p q,.c (.d (.int .i64 (ei neg top bot brk)))]:=by
 unfold dQ ei iS
 (repeat' split) <;> exact⟨_,_,_,rfl⟩
theorem vQ (m:Int)(r:List UInt8) :
 ah Tryz.prog (GG m) 163 [.c (.d (.str r))] (.c (.d (.int .i64 (ei (CM r [45]) (EJ (qL r [45]) [47]) (EA (qL r [45]) [47]) (decide (0≤qq (qL r [45]) [47])))))):=by
 have hp:=BN m r
 obtain⟨b,p,q,e⟩:=Bp (CM r [45]) (EJ (qL r [45]) [47]) (EA (qL r [45]) [47]) (decide (0≤qq (qL r [45]) [47]))
 rw [e] at hp
 generalize ei (CM r [45]) (EJ (qL r [45]) [47]) (EA (qL r [45]) [47]) (decide (0≤qq (qL r [45]) [47]))=n at *
 have hpu:(AV.tup [nV b p q,.c (.d (.int .i64 n))]).pure=true:=by cases p <;> cases q <;> rfl
 refine ah.aU Go.Proofs.Tryz.func163 rfl (by rw [Tryz.ntmps163];simp) ?_
 rintro⟨_,_,w0,F0,W0,_,bu,β0⟩ rfl rfl rfl
 refine AW.ag fun K hK=>?_
 refine AW.aa rfl ?_
 simp
 apply hK;clear hK K
 refine AW.ag fun K hK=>?_
 refine AW.aa rfl ?_
 simp
 refine ai.pure 0 9 hp hpu (by simp) rfl ?_
 simp
 apply hK;clear hK K
 refine AW.ag fun K hK=>?_
 refine AW.aa rfl ?_
 simp
 apply hK;clear hK K
 exact AW.ret (κ:=0) (aK.tmp (κ:=0) rfl 9 (by simp) rfl (by simp) rfl)
def m4 (e p:Int):Int:=if e<2∨11<e∨p<2∨113<p∨e+p<5 then 2 else 0
theorem jt (G:List (List DV))(e p:Int):ah Tryz.prog G 158 [.agg [.d (.int .i64 e),.d (.int .i64 p)]] (.c (.d (.int .i64 (m4 e p)))):=by
 refine ah.aU Go.Proofs.Tryz.func158 rfl (by rw [Tryz.ntmps158];simp) ?_
 rintro⟨_,_,w0,F0,W0,_,bu,β0⟩ rfl rfl rfl
 refine AW.ag fun K hK=>?_
 refine AW.aa rfl ?_
 simp
 apply hK;clear hK K
 refine AW.ag fun K hK=>?_
 refine AW.ag fun K1 hK1=>?_
 have bad:∀ (fr:Nat→AV) (κ:Nat) (lv:Key→LB),lv 9=.hole→fr 28=.c (.d (.bool true))→m4 e p=2→K1 ⟨fr,lv⟩ κ:=by
  intro fr κ lv h9 z hf
  apply hK1
  refine AW.cond (b:=true) (by first|(simp [z];done)|(simp [z];omega)) ?_
  refine AW.ag fun K2 hK2=>?_
  refine AW.aa rfl ?_
  simp
  apply hK2;clear hK2 K2
  exact AW.ret (κ:=0) (aK.tmp (κ:=0) rfl 9 (by simp [hf]) rfl (by simp [h9]) rfl)
 by_cases h1:e<2
 ·refine AW.aa rfl ?_
  simp [h1]
  exact bad _ _ _ (by simp) (by simp) (by unfold m4;rw [if_pos (by omega)])
 by_cases h2:11<e
 ·refine AW.aa rfl ?_
  simp [h1,h2]
  exact bad _ _ _ (by simp) (by simp) (by unfold m4;rw [if_pos (by omega)])
 by_cases h3:p<2
 ·refine AW.aa rfl ?_
  simp [h1,h2,h3]
  exact bad _ _ _ (by simp) (by simp) (by unfold m4;rw [if_pos (by omega)])
 by_cases h4:113<p
 ·refine AW.aa rfl ?_
  simp [h1,h2,h3,h4]
  exact bad _ _ _ (by simp) (by simp) (by unfold m4;rw [if_pos (by omega)])
 have hw:IntKind.i64.wrap (e+p)=e+p:=cX (by omega) (by omega)
 by_cases h5:e+p<5
 ·refine AW.aa rfl ?_
  simp [h1,h2,h3,h4,hw,h5]
  exact bad _ _ _ (by simp) (by simp) (by unfold m4;rw [if_pos (by omega)])
 refine AW.aa rfl ?_
 simp [h1,h2,h3,h4,hw,h5]
 apply hK1
 refine AW.cond (b:=false) (by first|(simp [];done)|(simp [];omega)) ?_
 refine AW.skip ?_
 simp
 apply hK
 refine AW.ag fun K3 hK3=>?_
 refine AW.aa rfl ?_
 simp
 apply hK3;clear hK3 K3
 have hf:m4 e p=0:=by unfold m4;rw [if_neg (by omega)]
 exact AW.ret (κ:=0) (aK.tmp (κ:=0) rfl 9 (by simp [hf]) rfl (by simp) rfl)
end Go.Am

namespace Go.Am
open Go.Am.Ty Go.Proofs N
@[simp] theorem Ui (cs:List CV):(AV.agg cs).pure=cs.all CV.pure:=rfl
@[simp] theorem VR (x:DV):(CV.d x).pure=true:=rfl
@[simp] theorem PV (o:Option (List (List DV))):(dg o).pure=true:=by cases o <;> rfl
@[simp] theorem TI (l:List AV):(AV.tup l).pure=l.all AV.jA:=rfl
@[simp] theorem Vr (x:CV):(AV.c x).jA=x.pure:=rfl
@[simp] theorem QC (cs:List CV):(AV.agg cs).jA=cs.all CV.pure:=rfl
def dJ (e:Int):Int:=(2:Int) ^ (e - 1).toNat - 1
theorem wC {e:Int}(h1:2≤e) (h2:e≤11):1≤dJ e∧dJ e≤1023∧aI Tryz.prog .shl 3 (.c (.d (.int .i64 1))) (.c (.d (.int .i64 (e - 1))))=some (.c (.d (.int .i64 (dJ e+1))),[],[],True):=by
 have h:e=2∨e=3∨e=4∨e=5∨e=6∨e=7∨e=8∨e=9∨e=10∨e=11:=by omega
 rcases h with rfl|rfl|rfl|rfl|rfl|rfl|rfl|rfl|rfl|rfl <;> refine⟨by decide,by decide,?_⟩ <;> rw [GK] <;> congr 1 <;> congr 1 <;> first|rfl|decide|(congr 1;congr 1;decide)
abbrev fA (e p:Int):AV:=.agg [.d (.int .i64 e),.d (.int .i64 p)]
abbrev O3 (e p m b:Int):AV:=.agg [.d (.int .i64 e),.d (.int .i64 p),.d (.int .i64 m),.d (.int .i64 b)]
theorem SQ:hH Tryz.prog 282 [] []=some (O3 0 0 0 0,[],[],True):=by kernel_rfl
theorem YG (a b c d:CV):hH Tryz.prog 282 [0,1,2] [.agg [a,b],.c c,.c d]=some (.agg [a,b,c,d],[],[],True):=by kernel_rfl
theorem yS (a b c d:CV):eC Tryz.prog 282 [a,b,c,d]=some (.agg [a,b,c,d]):=by kernel_rfl
theorem EX {e p:Int}(h:m4 e p=0):2≤e∧e≤11∧2≤p∧p≤113∧5≤e+p:=by
 unfold m4 at h;split at h
 ·cases h
 ·omega
theorem ZH (T:TypeId)(h:(eG Tryz.prog T).isSome=true)(lv:Key→LB):eE Tryz.prog T lv (.c (.d .nilsl))=some (.c (.d (.int .i64 0)),[],[],True):=bY (o:=none) h
set_option maxHeartbeats 1000000 in
theorem JW (G:List (List DV))(e p:Int)(hf:m4 e p=0):ah Tryz.prog G 230 [fA e p,.c (.d (.int .i64 0)),.c (.d .nilsl)] (.tup [O3 e p 0 (dJ e),.c (.d (.int .i64 0))]):=by
 obtain⟨f1,f2,f3,f4,f5⟩:=EX hf
 obtain⟨g1,g2,hsh⟩:=wC f1 f2
 have hc:=jt G e p
 rw [hf] at hc
 have w1:IntKind.i64.wrap (e - 1)=e - 1:=cX (by omega) (by omega)
 have w2:IntKind.i64.wrap (dJ e+1 - 1)=dJ e:=by rw [cX (by omega) (by omega)];omega
 have w2':IntKind.i64.wrap (dJ e)=dJ e:=cX (by omega) (by omega)
 have lpn:=ZH 325 (by simp)
 generalize dJ e=b at *
 refine ah.er Go.Proofs.Tryz.func230 rfl (by rw [Tryz.ntmps230];simp) (fun lv=>rfl) ?_
 rintro⟨_,_,w0,F0,W0,_,bu,β0⟩ rfl rfl rfl
 refine AW.ag fun K hK=>?_
 refine AW.aa rfl ?_
 simp
 apply hK;clear hK K
 refine AW.ag fun K hK=>?_
 refine AW.ag fun K1 hK1=>?_
 refine AW.aa rfl ?_
 simp
 refine ai.pure 2 9 (hc) (by first|(simp;done)|rfl) (by simp) (by first|rfl|simp) ?_
 simp
 apply hK1;clear hK1 K1
 refine AW.cond (b:=false) (by first|(simp [];done)|(simp [];omega)) ?_
 refine AW.skip ?_
 simp
 apply hK;clear hK K
 refine AW.ag fun K hK=>?_
 refine AW.eB mixed (by kernel_rfl) rfl ?_
 simp [w1,hsh,w2,w2',YG,-GK]
 refine⟨by kernel_rfl,?_⟩
 apply hK;clear hK K
 refine AW.ag fun K hK=>?_
 refine AW.ag fun K1 hK1=>?_
 refine AW.aa rfl ?_
 simp [lpn]
 apply hK1;clear hK1 K1
 refine AW.block ?_
 refine AW.b9 (fun (_:Unit)=>⟨bp [(6,.c (.ptr 1 0)),(8,.c (.ptr 2 0)),(32,.c (.d .nilsl)),(33,.c (.d (.int .i64 0))),(34,.c (.d (.int .i64 0)))],
  aB (aB (aB (fun _=>.hole) 0 (.cells true false 81 [.d (.int .i64 e),.d (.int .i64 p)])) 1 (.cells true false 282 [.d (.int .i64 0),.d (.int .i64 0),.d (.int .i64 0),.d (.int .i64 0)])) 2 (.cells true false 282 [.d (.int .i64 e),.d (.int .i64 p),.d (.int .i64 0),.d (.int .i64 b)])⟩) 3
  (fun _=>True) (fun _=>0) () (Le.mk' _ rfl (by repeat (first|exact aL|refine aN ?_ _ _ _ _ _|(refine aq ?_ _)|(refine aQ ?_ _ _ _)|(refine au ?_ _)|simp)) (by simp)) trivial ?_
 rintro⟨⟩ _
 refine AW.ag fun K3 hK3=>?_
 refine AW.aa rfl ?_
 simp
 apply hK3;clear hK3 K3
 refine AW.ag fun K3 hK3=>?_
 refine AW.cond (b:=false) (by first|(simp [];done)|(simp [];omega)) ?_
 refine AW.exit ?_
 simp
 apply hK
 refine AW.ag fun K3 hK3=>?_
 refine AW.aa rfl ?_
 simp [yS,aj]
 apply hK3;clear hK3 K3
 refine AW.ret ?_
 refine eI.jQ (κ:=0) (T:=282) (t:=6) (u:=7) (k:=1) (off:=0) (own:=true) (fz:=false) (U:=282) (cs:=[.d (.int .i64 e),.d (.int .i64 p),.d (.int .i64 0),.d (.int .i64 b)]) rfl ?_ ?_ ?_ ?_ rfl rfl
 ·simp
 ·simp [aj]
 ·rw [List.drop_zero,yS]
 ·simp
theorem IP (G:List (List DV))(e p:Int)(hf:m4 e p≠0):ah Tryz.prog G 230 [fA e p,.c (.d (.int .i64 0)),.c (.d .nilsl)] (.tup [O3 0 0 0 0,.c (.d (.int .i64 2))]):=by
 have hc:=jt G e p
 refine ah.er Go.Proofs.Tryz.func230 rfl (by rw [Tryz.ntmps230];simp) (fun lv=>rfl) ?_
 rintro⟨_,_,w0,F0,W0,_,bu,β0⟩ rfl rfl rfl
 refine AW.ag fun K hK=>?_
 refine AW.aa rfl ?_
 simp
 apply hK;clear hK K
 refine AW.ag fun K hK=>?_
 refine AW.ag fun K1 hK1=>?_
 refine AW.aa rfl ?_
 simp
 refine ai.pure 2 9 (hc) (by first|(simp;done)|rfl) (by simp) (by first|rfl|simp) ?_
 simp [hf]
 apply hK1;clear hK1 K1
 refine AW.cond (b:=true) (by first|(simp [hf];done)|(simp [hf];omega)) ?_
 refine AW.ag fun K1 hK1=>?_
 refine AW.aa rfl ?_
 simp [SQ]
 apply hK1;clear hK1 K1
 refine AW.ret ?_
 refine eI.jQ (κ:=0) (T:=282) (t:=6) (u:=7) (k:=1) (off:=0) (own:=true) (fz:=false) (U:=282) (cs:=[.d (.int .i64 0),.d (.int .i64 0),.d (.int .i64 0),.d (.int .i64 0)]) rfl ?_ ?_ ?_ ?_ rfl rfl
 ·simp
 ·simp [aj]
 ·rw [List.drop_zero,yS]
 ·simp
theorem FP (G:List (List DV))(k:Int)(h1:-20000≤k)(h2:k≤20000):ah Tryz.prog G 286 [.c (.d (.int .i64 k))] (eS (cj 1 k)):=by
 have h:=Lb G k h1 h2
 generalize cj 1 k=r at *
 refine ah.er Go.Proofs.Tryz.func286 rfl (by rw [Tryz.ntmps286];simp) (fun lv=>eN lv _ _ _) ?_
 rintro⟨_,_,w0,F0,W0,_,bu,β0⟩ rfl rfl rfl
 refine AW.ag fun K hK=>?_
 refine AW.aa rfl ?_
 simp
 apply hK;clear hK K
 refine AW.ag fun K hK=>?_
 refine AW.aa rfl ?_
 simp
 refine ai.pure 1 9 (h) (by first|(simp;done)|rfl) (by simp) (by first|rfl|simp) ?_
 simp
 apply hK;clear hK K
 refine AW.ag fun K hK=>?_
 refine AW.aa rfl ?_
 simp [bx,aj]
 apply hK;clear hK K
 refine AW.ret ?_
 refine eI.cell (κ:=0) (T:=224) (t:=2) (k:=0) (off:=0) (own:=true) (fz:=false) (U:=224) (cs:=[.d (.bool (decide (r.num<0))),nC (cA r.num.natAbs),nC (dA r.den)]) rfl ?_ ?_ ?_
 ·simp
 ·simp [aj]
 ·rw [List.drop_zero,bx]
theorem sj (G:List (List DV))(x:Rat)(k:Int)(hx:nE x 10000000000)(h1:-20000≤k)(h2:k≤20000):ah Tryz.prog G 232 [eS x,.c (.d (.int .i64 k))] (eS (cj x k)):=by
 have h:=wQ G x k hx h1 h2
 generalize cj x k=r at *
 refine ah.er Go.Proofs.Tryz.func232 rfl (by rw [Tryz.ntmps232];simp) (fun lv=>eN lv _ _ _) ?_
 rintro⟨_,_,w0,F0,W0,_,bu,β0⟩ rfl rfl rfl
 refine AW.ag fun K hK=>?_
 refine AW.aa rfl ?_
 simp
 apply hK;clear hK K
 refine AW.ag fun K hK=>?_
 refine AW.aa rfl ?_
 simp
 refine ai.pure 2 9 (h) (by first|(simp;done)|rfl) (by simp) (by first|rfl|simp) ?_
 simp
 apply hK;clear hK K
 refine AW.ag fun K hK=>?_
 refine AW.aa rfl ?_
 simp [bx,aj]
 apply hK;clear hK K
 refine AW.ret ?_
 refine eI.cell (κ:=0) (T:=224) (t:=4) (k:=1) (off:=0) (own:=true) (fz:=false) (U:=224) (cs:=[.d (.bool (decide (r.num<0))),nC (cA r.num.natAbs),nC (dA r.den)]) rfl ?_ ?_ ?_
 ·simp
 ·simp [aj]
 ·rw [List.drop_zero,bx]
theorem FQ (G:List (List DV))(x:Rat)(hx:x≠0)(hs:nE x 10000000):ah Tryz.prog G 234 [eS x] (.c (.d (.int .i64 (kS x)))):=by
 have h:=Lv G x hx hs
 refine ah.aU Go.Proofs.Tryz.func234 rfl (by rw [Tryz.ntmps234];simp) ?_
 rintro⟨_,_,w0,F0,W0,_,bu,β0⟩ rfl rfl rfl
 refine AW.ag fun K hK=>?_
 refine AW.aa rfl ?_
 simp
 apply hK;clear hK K
 refine AW.ag fun K hK=>?_
 refine AW.aa rfl ?_
 simp
 refine ai.pure 1 9 (h) (by first|(simp;done)|rfl) (by simp) (by first|rfl|simp) ?_
 simp
 apply hK;clear hK K
 refine AW.ag fun K hK=>?_
 refine AW.aa rfl ?_
 simp
 apply hK;clear hK K
 exact AW.ret (κ:=0) (aK.tmp (κ:=0) rfl 2 (by simp []) (by first|rfl|simp) (by first|rfl|simp) (by first|rfl|simp))
theorem yE (G:List (List DV))(e p m b:Int)(h1:0≤b)(h2:b≤100000):ah Tryz.prog G 284 [O3 e p m b] (.c (.d (.int .i64 (1 - b)))):=by
 have w:IntKind.i64.wrap (1 - b)=1 - b:=cX (by omega) (by omega)
 refine ah.aU Go.Proofs.Tryz.func284 rfl (by rw [Tryz.ntmps284];simp) ?_
 rintro⟨_,_,w0,F0,W0,_,bu,β0⟩ rfl rfl rfl
 refine AW.ag fun K hK=>?_
 refine AW.aa rfl ?_
 simp
 apply hK;clear hK K
 refine AW.ag fun K hK=>?_
 refine AW.aa rfl ?_
 simp [w]
 apply hK;clear hK K
 exact AW.ret (κ:=0) (aK.tmp (κ:=0) rfl 2 (by simp []) (by first|rfl|simp) (by first|rfl|simp) (by first|rfl|simp))
def jo (p b l:Int):Int:=max l (1 - b) - p+1
theorem Du (G:List (List DV))(e p m b l:Int)(h1:0≤b)(h2:b≤100000)(h3:0≤p)(h4:p≤100000)(h5:-1000000≤l)(h6:l≤1000000):ah Tryz.prog G 233 [O3 e p m b,.c (.d (.int .i64 l))] (.c (.d (.int .i64 (jo p b l)))):=by
 have h:=yE G e p m b h1 h2
 have mx:(List.foldl (fun a b:Int=>if a<b then b else a) l [1 - b])=max l (1 - b):=by simp only [List.foldl];split <;> omega
 have w1:IntKind.i64.wrap (max l (1 - b) - p)=max l (1 - b) - p:=cX (by omega) (by omega)
 have w2:IntKind.i64.wrap (max l (1 - b) - p+1)=jo p b l:=by unfold jo;exact cX (by omega) (by omega)
 refine ah.aU Go.Proofs.Tryz.func233 rfl (by rw [Tryz.ntmps233];simp) ?_
 rintro⟨_,_,w0,F0,W0,_,bu,β0⟩ rfl rfl rfl
 refine AW.ag fun K hK=>?_
 refine AW.aa rfl ?_
 simp
 apply hK;clear hK K
 refine AW.ag fun K hK=>?_
 refine AW.eB mixed (by kernel_rfl) rfl ?_
 simp
 refine ai.pure 1 9 (h) (by first|(simp;done)|rfl) (by simp) (by first|rfl|simp) ?_
 simp [dS,mx,w1,w2,-List.foldl_cons,-List.foldl_nil]
 refine⟨by kernel_rfl,?_⟩
 apply hK;clear hK K
 exact AW.ret (κ:=0) (aK.tmp (κ:=0) rfl 4 (by simp []) (by first|rfl|simp) (by first|rfl|simp) (by first|rfl|simp))
def lS (p b:Int):Rat:=cj (cj 1 p - 1) (b - p+1)
theorem tG (L:Nat)(h:1≤L):nE 1 L:=⟨by show nl 1≤_;rw [oR];exact h,by show nl 1≤_;rw [oR];exact h⟩
theorem uG (p:Int)(h1:0≤p)(h2:p≤10000):nE (cj 1 p - 1) 1000:=by
 rw [Rat.sub_eq_add_neg]
 have h:=rm (tG 1 (Nat.le_refl _)) p
 have:=Ls (eY h (show 1+p.natAbs / 32+1≤400 by omega)) (yz (tG 400 (by omega)))
 exact eY this (by omega)
theorem E5 (p b:Int)(h1:0≤p)(h2:p≤10000)(h3:0≤b)(h4:b≤5000):nE (lS p b) 2000:=by
 refine eY (rm (uG p h1 h2) _) (by omega)
theorem uq (G:List (List DV))(e p m b:Int)(h1:0≤b)(h2:b≤5000)(h3:0≤p)(h4:p≤10000):ah Tryz.prog G 237 [O3 e p m b] (eS (lS p b)):=by
 have k1:=FP G p (by omega) (by omega)
 have k2:ah Tryz.prog G 263 [.c (.d (.int .i64 1))] (eS (1:Rat)):=Ec G 1 (by decide) (by decide)
 have k3:=KO G (cj 1 p) 1 (eY (rm (tG 1 (Nat.le_refl _)) p) (by omega)) (tG _ (by omega))
 have k4:=sj G (cj 1 p - 1) (b - p+1) (eY (uG p h3 h4) (by omega)) (by omega) (by omega)
 rw [show cj (cj 1 p - 1) (b - p+1)=lS p b from rfl] at k4
 have w1:IntKind.i64.wrap (b - p)=b - p:=cX (by omega) (by omega)
 have w2:IntKind.i64.wrap (b - p+1)=b - p+1:=cX (by omega) (by omega)
 generalize lS p b=r at *
 generalize cj 1 p - 1=r2 at *
 generalize cj 1 p=r1 at *
 generalize (1:Rat)=r0 at *
 refine ah.er Go.Proofs.Tryz.func237 rfl (by rw [Tryz.ntmps237];simp) (fun lv=>eN lv _ _ _) ?_
 rintro⟨_,_,w0,F0,W0,_,bu,β0⟩ rfl rfl rfl
 refine AW.ag fun K hK=>?_
 refine AW.aa rfl ?_
 simp
 apply hK;clear hK K
 refine AW.ag fun K hK=>?_
 refine AW.eB mixed (by kernel_rfl) rfl ?_
 simp
 refine ai.pure 2 9 (k1) (by first|(simp;done)|rfl) (by simp) (by first|rfl|simp) ?_
 simp
 refine ai.pure 2 9 (k2) (by first|(simp;done)|rfl) (by simp) (by first|rfl|simp) ?_
 simp
 refine ai.pure 2 9 (k3) (by first|(simp;done)|rfl) (by simp) (by first|rfl|simp) ?_
 simp [w1,w2]
 refine ai.pure 2 9 (k4) (by first|(simp;done)|rfl) (by simp) (by first|rfl|simp) ?_
 simp
 refine⟨by kernel_rfl,?_⟩
 apply hK;clear hK K
 refine AW.ret ?_
 refine eI.cell (κ:=0) (T:=224) (t:=2) (k:=1) (off:=0) (own:=true) (fz:=false) (U:=224) (cs:=[.d (.bool (decide (r.num<0))),nC (cA r.num.natAbs),nC (dA r.den)]) rfl ?_ ?_ ?_
 ·simp
 ·simp [aj]
 ·rw [List.drop_zero,bx]
def vK (x:Rat):Rat:=if x<0 then -x else x
theorem NF (x:Rat):eS (vK x)=nV false (cA x.num.natAbs) (dA x.den):=by
 unfold vK
 split
 ·rename_i h
  have:x.num<0:=by
   have:=(Rat.lt_iff x 0).1 h
   simpa using this
  show nV (decide ((-x).num<0)) (cA (-x).num.natAbs) (dA (-x).den)=_
  rw [Rat.neg_num,Rat.neg_den,Int.natAbs_neg,decide_eq_false (by omega)]
 ·rename_i h
  have:¬ x.num<0:=fun hn=>h ((Rat.lt_iff x 0).2 (by simpa using hn))
  show nV (decide (x.num<0)) _ _=_
  rw [decide_eq_false this]
theorem LD (G:List (List DV))(x:Rat):ah Tryz.prog G 236 [eS x] (eS (vK x)):=by
 rw [NF];exact Dq _ _ _ _
theorem JF {x:Rat}{L:Nat}(h:nE x L):nE (vK x) L:=by
 unfold vK;split
 ·exact yz h
 ·exact h
theorem FX (G:List (List DV))(x:Rat):ah Tryz.prog G 235 [eS x] (.c (.d (.bool (decide (x.den=1))))):=by
 have h:=yP G (decide (x.num<0)) (cA x.num.natAbs) (dA x.den)
 have e:(dA x.den).isNone=decide (x.den=1):=by unfold dA;split <;> simp_all
 rw [e] at h;exact h
def hasB (e p:Int)(x:Rat):Bool:=
 decide (m4 e p=0) && (decide (x=0) || (decide ((cj x (-(jo p (dJ e) (kS x)))).den=1) && decide (vW (vK x) (lS p (dJ e))≤0)))
set_option maxHeartbeats 2000000 in
theorem p9 (G:List (List DV))(e p:Int)(x:Rat)(hs:nE x 300):ah Tryz.prog G 160 [fA e p,eS x] (.c (.d (.bool (hasB e p x)))):=by
 by_cases hf:m4 e p=0
 rotate_left
 ·have hw:=IP G e p hf
  have hb:hasB e p x=false:=by unfold hasB;rw [decide_eq_false hf];rfl
  refine ah.aU Go.Proofs.Tryz.func160 rfl (by rw [Tryz.ntmps160];simp) ?_
  rintro⟨_,_,w0,F0,W0,_,bu,β0⟩ rfl rfl rfl
  refine AW.ag fun K hK=>?_
  refine AW.aa rfl ?_
  simp
  apply hK;clear hK K
  refine AW.ag fun K hK=>?_
  refine AW.aa rfl ?_
  simp
  refine ai.pure 2 9 (hw) (by first|(simp;done)|rfl) (by simp) (by first|rfl|simp) ?_
  simp
  apply hK;clear hK K
  refine AW.ag fun K hK=>?_
  refine AW.block ?_
  refine AW.ag fun K1 hK1=>?_
  refine AW.aa rfl ?_
  simp
  apply hK1;clear hK1 K1
  refine AW.cond (b:=true) (by first|(simp [];done)|(simp [];omega)) ?_
  refine AW.ag fun K1 hK1=>?_
  refine AW.aa rfl ?_
  simp
  apply hK1;clear hK1 K1
  exact AW.ret (κ:=0) (aK.tmp (κ:=0) rfl 4 (by simp [hb]) (by first|rfl|simp) (by first|rfl|simp) (by first|rfl|simp))
 obtain⟨f1,f2,f3,f4,f5⟩:=EX hf
 obtain⟨g1,g2,_⟩:=wC f1 f2
 have hw:=JW G e p hf
 have hg:=jM G (decide (x.num<0)) (cA x.num.natAbs) (dA x.den)
 by_cases hx:x=0
 ·have hb:hasB e p x=true:=by unfold hasB;rw [decide_eq_true hf,decide_eq_true hx];rfl
  have hz:=Gm hx
  refine ah.aU Go.Proofs.Tryz.func160 rfl (by rw [Tryz.ntmps160];simp) ?_
  rintro⟨_,_,w0,F0,W0,_,bu,β0⟩ rfl rfl rfl
  refine AW.ag fun K hK=>?_
  refine AW.aa rfl ?_
  simp
  apply hK;clear hK K
  refine AW.ag fun K hK=>?_
  refine AW.aa rfl ?_
  simp
  refine ai.pure 2 9 (hw) (by first|(simp;done)|rfl) (by simp) (by first|rfl|simp) ?_
  simp
  apply hK;clear hK K
  refine AW.ag fun K hK=>?_
  refine AW.block ?_
  refine AW.ag fun K1 hK1=>?_
  refine AW.aa rfl ?_
  simp
  apply hK1;clear hK1 K1
  refine AW.cond (b:=false) (by first|(simp [];done)|(simp [];omega)) ?_
  refine AW.ag fun K1 hK1=>?_
  refine AW.aa rfl ?_
  simp
  refine ai.pure 3 9 (hg) (by first|(simp;done)|rfl) (by simp) (by first|rfl|simp) ?_
  simp [hz]
  apply hK1;clear hK1 K1
  refine AW.cond (b:=true) (by first|(simp [hz];done)|(simp [hz];omega)) ?_
  refine AW.ag fun K1 hK1=>?_
  refine AW.aa rfl ?_
  simp
  apply hK1;clear hK1 K1
  exact AW.ret (κ:=0) (aK.tmp (κ:=0) rfl 4 (by simp [hb]) (by first|rfl|simp) (by first|rfl|simp) (by first|rfl|simp))
 have hne:=IA hx
 have hl:=FQ G x hx (eY hs (by omega))
 obtain⟨l1,l2⟩:=Gr hx hs
 have hst:=Du G e p 0 (dJ e) (kS x) (by omega) (by omega) (by omega) (by omega) (by omega) (by omega)
 have s1:-20000≤-(jo p (dJ e) (kS x)):=by unfold jo;omega
 have s2:-(jo p (dJ e) (kS x))≤20000:=by unfold jo;omega
 have hsh:=sj G x (-(jo p (dJ e) (kS x))) (eY hs (by omega)) s1 s2
 have hin:=FX G (cj x (-(jo p (dJ e) (kS x))))
 have hab:=LD G x
 have hgr:=uq G e p 0 (dJ e) (by omega) (by omega) (by omega) (by omega)
 have hcm:=Ev G (vK x) (lS p (dJ e)) (eY (JF hs) (by omega)) (eY (E5 p (dJ e) (by omega) (by omega) (by omega) (by omega)) (by omega))
 have hb:hasB e p x=(decide ((cj x (-(jo p (dJ e) (kS x)))).den=1) && decide (vW (vK x) (lS p (dJ e))≤0)):=by
  unfold hasB;rw [decide_eq_true hf,decide_eq_false hx];rfl
 have w:IntKind.i64.wrap (-(jo p (dJ e) (kS x))) = -(jo p (dJ e) (kS x)):=cX (by omega) (by omega)
 generalize vW (vK x) (lS p (dJ e))=cm at *
 generalize lS p (dJ e)=gr at *
 generalize vK x=ab at *
 generalize cj x (-(jo p (dJ e) (kS x)))=sh at *
 generalize jo p (dJ e) (kS x)=st at *
 generalize kS x=lo at *
 generalize dJ e=b at *
 by_cases hi:sh.den=1
 ·have hb2:hasB e p x=decide (cm≤0):=by rw [hb,decide_eq_true hi];rfl
  refine ah.aU Go.Proofs.Tryz.func160 rfl (by rw [Tryz.ntmps160];simp) ?_
  rintro⟨_,_,w0,F0,W0,_,bu,β0⟩ rfl rfl rfl
  refine AW.ag fun K hK=>?_
  refine AW.aa rfl ?_
  simp
  apply hK;clear hK K
  refine AW.ag fun K hK=>?_
  refine AW.aa rfl ?_
  simp
  refine ai.pure 2 9 (hw) (by first|(simp;done)|rfl) (by simp) (by first|rfl|simp) ?_
  simp
  apply hK;clear hK K
  refine AW.ag fun K hK=>?_
  refine AW.block ?_
  refine AW.ag fun K1 hK1=>?_
  refine AW.aa rfl ?_
  simp
  apply hK1;clear hK1 K1
  refine AW.cond (b:=false) (by first|(simp [];done)|(simp [];omega)) ?_
  refine AW.ag fun K1 hK1=>?_
  refine AW.aa rfl ?_
  simp
  refine ai.pure 3 9 (hg) (by first|(simp;done)|rfl) (by simp) (by first|rfl|simp) ?_
  simp [hne]
  apply hK1;clear hK1 K1
  refine AW.cond (b:=false) (by first|(simp [hne];done)|(simp [hne];omega)) ?_
  refine AW.skip ?_
  simp
  apply hK;clear hK K
  refine AW.ag fun K hK=>?_
  refine AW.eB mixed (by kernel_rfl) rfl ?_
  simp [aj]
  refine ai.pure 3 9 (hl) (by first|(simp;done)|rfl) (by simp) (by first|rfl|simp) ?_
  simp
  refine ai.pure 3 9 (hst) (by first|(simp;done)|rfl) (by simp) (by first|rfl|simp) ?_
  simp [w]
  refine ai.pure 3 9 (hsh) (by first|(simp;done)|rfl) (by simp) (by first|rfl|simp) ?_
  simp
  refine ai.pure 3 9 (hin) (by first|(simp;done)|rfl) (by simp) (by first|rfl|simp) ?_
  simp [hi]
  refine ai.pure 3 9 (hab) (by first|(simp;done)|rfl) (by simp) (by first|rfl|simp) ?_
  simp
  refine ai.pure 3 9 (hgr) (by first|(simp;done)|rfl) (by simp) (by first|rfl|simp) ?_
  simp
  refine ai.pure 3 9 (hcm) (by first|(simp;done)|rfl) (by simp) (by first|rfl|simp) ?_
  simp
  refine⟨by kernel_rfl,?_⟩
  apply hK;clear hK K
  exact AW.ret (κ:=0) (aK.tmp (κ:=0) rfl 4 (by simp [hb2]) (by first|rfl|simp) (by first|rfl|simp) (by first|rfl|simp))
 ·have hb2:hasB e p x=false:=by rw [hb,decide_eq_false hi];rfl
  refine ah.aU Go.Proofs.Tryz.func160 rfl (by rw [Tryz.ntmps160];simp) ?_
  rintro⟨_,_,w0,F0,W0,_,bu,β0⟩ rfl rfl rfl
  refine AW.ag fun K hK=>?_
  refine AW.aa rfl ?_
  simp
  apply hK;clear hK K
  refine AW.ag fun K hK=>?_
  refine AW.aa rfl ?_
  simp
  refine ai.pure 2 9 (hw) (by first|(simp;done)|rfl) (by simp) (by first|rfl|simp) ?_
  simp
  apply hK;clear hK K
  refine AW.ag fun K hK=>?_
  refine AW.block ?_
  refine AW.ag fun K1 hK1=>?_
  refine AW.aa rfl ?_
  simp
  apply hK1;clear hK1 K1
  refine AW.cond (b:=false) (by first|(simp [];done)|(simp [];omega)) ?_
  refine AW.ag fun K1 hK1=>?_
  refine AW.aa rfl ?_
  simp
  refine ai.pure 3 9 (hg) (by first|(simp;done)|rfl) (by simp) (by first|rfl|simp) ?_
  simp [hne]
  apply hK1;clear hK1 K1
  refine AW.cond (b:=false) (by first|(simp [hne];done)|(simp [hne];omega)) ?_
  refine AW.skip ?_
  simp
  apply hK;clear hK K
  refine AW.ag fun K hK=>?_
  refine AW.eB mixed (by kernel_rfl) rfl ?_
  simp [aj]
  refine ai.pure 3 9 (hl) (by first|(simp;done)|rfl) (by simp) (by first|rfl|simp) ?_
  simp
  refine ai.pure 3 9 (hst) (by first|(simp;done)|rfl) (by simp) (by first|rfl|simp) ?_
  simp [w]
  refine ai.pure 3 9 (hsh) (by first|(simp;done)|rfl) (by simp) (by first|rfl|simp) ?_
  simp
  refine ai.pure 3 9 (hin) (by first|(simp;done)|rfl) (by simp) (by first|rfl|simp) ?_
  simp [hi]
  refine⟨by kernel_rfl,?_⟩
  apply hK;clear hK K
  exact AW.ret (κ:=0) (aK.tmp (κ:=0) rfl 4 (by simp [hb2]) (by first|rfl|simp) (by first|rfl|simp) (by first|rfl|simp))
end Go.Am

namespace Go.Am
open Go.Am.Ty Go.Proofs N
theorem Es {s:List UInt8}(h:kH s=true) (h0:s≠[48]) (h1:s≠[49]):2≤bX s 0:=by
 obtain⟨hD,hne⟩:=oK h
 unfold kH at h
 simp only [Bool.and_eq_true,Bool.or_eq_true,Bool.not_eq_true',decide_eq_true_eq,decide_eq_false_iff_not] at h
 have h4:s.getD 0 0≠48:=by
  rcases h.2 with h3|h3
  ·exact absurd h3 h0
  ·exact h3
 cases s with
 | nil=>exact absurd rfl hne
 | cons c l=>
  have hc:=hD c (by simp)
  have hc48:c≠48:=h4
  have hcn:c.toNat≠48:=fun e=>hc48 (UInt8.toNat_inj.1 (by rw [e];rfl))
  have e:bX (c::l) 0=(c.toNat - 48)*10 ^ l.length+bX l 0:=by
   show bX l (10*0+(c.toNat - 48))=_
   rw [jl,Nat.mul_zero,Nat.zero_add]
  rw [e]
  cases l with
  | nil=>
   have hc49:c.toNat≠49:=fun e=>h1 (by rw [UInt8.toNat_inj.1 (show c.toNat=(49:UInt8).toNat by rw [e];rfl)])
   show 2≤(c.toNat - 48)*10 ^ 0+0
   omega
  | cons d l=>
   have h10:10≤10 ^ (d::l).length:=by
    rw [List.length_cons,Nat.pow_succ]
    have:=Nat.pow_pos (a:=10) (n:=l.length) (by decide)
    omega
   have:1*10≤(c.toNat - 48)*10 ^ (d::l).length:=Nat.mul_le_mul (by omega) h10
   omega
def pH (neg:Bool)(top bot:List UInt8)(brk:Bool):Rat:=if ei neg top bot brk=0 then mkRat (fM neg (bX top 0)) (if brk=true then bX bot 0 else 1) else 0
theorem Jk (s:List UInt8):(val 4294967296 (dO (nP s)))=bX s 0:=by show val 4294967296 (bV 4294967296 (bX s 0))=_;rw [dx]
theorem xX (s:List UInt8):can 4294967296 (dO (nP s)):=fh _
theorem XT (s t:List UInt8):(val 4294967296 (dO (gO (nP s) (nP t))))=Nat.gcd (bX s 0) (bX t 0):=by
 unfold gO;rw [vD (xX s) (xX t),dx,Jk,Jk]
theorem Gn {neg:Bool}{top bot:List UInt8}{brk:Bool}(h:kj neg top bot brk=false):kH top=true∧(brk=true→kH bot=true∧bot≠[48]∧bot≠[49]):=by
 unfold kj at h
 simp only [Bool.or_eq_false_iff,Bool.not_eq_false',Bool.and_eq_false_iff,decide_eq_false_iff_not] at h
 obtain⟨⟨h1,_⟩,h3⟩:=h
 refine⟨h1,fun hb=>?_⟩
 rcases h3 with h3|h3
 ·rw [hb] at h3;cases h3
 ·exact⟨h3.1.1,h3.1.2,h3.2⟩
theorem Dd (neg:Bool)(top bot:List UInt8)(brk:Bool):dQ neg top bot brk=.tup [eS (pH neg top bot brk),.c (.d (.int .i64 (ei neg top bot brk)))]:=by
 by_cases h1:kj neg top bot brk=true
 ·have e:ei neg top bot brk=6:=by unfold ei;rw [if_pos h1]
  have e2:pH neg top bot brk=0:=by unfold pH;rw [e,if_neg (by decide)]
  rw [e,e2];unfold dQ;rw [if_pos h1];rfl
 by_cases h2:2000<max top.length bot.length
 ·have e:ei neg top bot brk=3:=by unfold ei;rw [if_neg h1,if_pos h2]
  have e2:pH neg top bot brk=0:=by unfold pH;rw [e,if_neg (by decide)]
  rw [e,e2];unfold dQ;rw [if_neg h1,if_pos h2];rfl
 obtain⟨g1,g2⟩:=Gn (by simpa using h1)
 by_cases h3:brk=false
 ·have e:ei neg top bot brk=0:=by unfold ei;rw [if_neg h1,if_neg h2,if_pos h3]
  have e2:pH neg top bot brk=mkRat (fM neg (bX top 0)) 1:=by unfold pH;rw [e,if_pos rfl,h3];rfl
  rw [e,e2];unfold dQ;rw [if_neg h1,if_neg h2,if_pos h3]
  rw [xw neg (xX top) (q:=some (bV 4294967296 1)) (fh 1) (kf (by decide)),Jk,cQ,dx]
 have hb:brk=true:=by simpa using h3
 obtain⟨r1,r2,r3⟩:=g2 hb
 have hge:=Es r1 r2 r3
 by_cases h4:(val 4294967296 (dO (gO (nP top) (nP bot))))=1
 ·have e:ei neg top bot brk=0:=by unfold ei;rw [if_neg h1,if_neg h2,if_neg h3,if_pos h4]
  have e2:pH neg top bot brk=mkRat (fM neg (bX top 0)) (bX bot 0):=by unfold pH;rw [e,if_pos rfl,hb];rfl
  rw [e,e2];unfold dQ;rw [if_neg h1,if_neg h2,if_neg h3,if_pos h4]
  rw [XT] at h4
  have ha:bX top 0≠0:=by intro h0;rw [h0,Nat.gcd_zero_left] at h4;omega
  obtain⟨n1,n2⟩:=uz neg (a:=bX top 0) (b:=bX bot 0) (by omega)
  rw [h4,Nat.div_one] at n1 n2
  show AV.tup [nV neg (some (bV 4294967296 (bX top 0))) (some (bV 4294967296 (bX bot 0))),_]=AV.tup [nV (decide ((mkRat (fM neg (bX top 0)) (bX bot 0)).num<0)) (cA (mkRat (fM neg (bX top 0)) (bX bot 0)).num.natAbs) (dA (mkRat (fM neg (bX top 0)) (bX bot 0)).den),_]
  rw [n1,n2,xE,Eo neg ha]
  unfold cA dA
  rw [if_neg ha,if_neg (by omega)]
 ·have e:ei neg top bot brk=6:=by unfold ei;rw [if_neg h1,if_neg h2,if_neg h3,if_neg h4]
  have e2:pH neg top bot brk=0:=by unfold pH;rw [e,if_neg (by decide)]
  rw [e,e2];unfold dQ;rw [if_neg h1,if_neg h2,if_neg h3,if_neg h4];rfl
theorem G5 (L:Nat)(h:1≤L):nE 0 L:=⟨by show nl 0≤_;exact Nat.zero_le _,by show nl 1≤_;rw [oR];exact h⟩
theorem zm {s:List UInt8}(h:Ll s) (hl:s.length≤2000):nl (bX s 0)≤300:=by
 have:=Nt (ql h)
 omega
theorem Kb (neg:Bool)(top bot:List UInt8)(brk:Bool):nE (pH neg top bot brk) 300:=by
 unfold pH
 split
 ·rename_i h
  have h1:¬ kj neg top bot brk=true:=by
   intro hb;unfold ei at h;rw [if_pos hb] at h;cases h
  have h2:¬ 2000<max top.length bot.length:=by
   intro hb;unfold ei at h;rw [if_neg h1,if_pos hb] at h;cases h
  obtain⟨g1,g2⟩:=Gn (by simpa using h1)
  split
  ·rename_i hb
   obtain⟨r1,r2,r3⟩:=g2 hb
   have hge:=Es r1 r2 r3
   exact oT _ (by omega) (zm (oK g1).1 (by omega)) (zm (oK r1).1 (by omega))
  ·exact oT _ (by decide) (zm (oK g1).1 (by omega)) (by rw [oR];decide)
 ·exact G5 _ (by decide)
def jg (r:List UInt8):Int:=ei (CM r [45]) (EJ (qL r [45]) [47]) (EA (qL r [45]) [47]) (decide (0≤qq (qL r [45]) [47]))
def jG (r:List UInt8):Rat:=pH (CM r [45]) (EJ (qL r [45]) [47]) (EA (qL r [45]) [47]) (decide (0≤qq (qL r [45]) [47]))
theorem D6 (r:List UInt8):nE (jG r) 300:=Kb ..
theorem wH (m:Int)(r:List UInt8):ah Tryz.prog (GG m) 159 [.c (.d (.str r))] (.tup [eS (jG r),.c (.d (.int .i64 (jg r)))]):=by
 have h:=BN m r
 rw [Dd] at h
 exact h
theorem F5 (m:Int)(r:List UInt8):ah Tryz.prog (GG m) 163 [.c (.d (.str r))] (.c (.d (.int .i64 (jg r)))):=vQ m r
end Go.Am

namespace Go.Am
open Go.Am.Ty Go.Proofs N
theorem gY (G:List (List DV))(n m:Int):ah Tryz.prog G 87 [.c (.d (.int .i64 n)),.c (.d (.int .i64 m))] (.c (.d (.bool (decide (0≤n∧n<m))))):=by
 refine ah.aU Go.Proofs.Tryz.func87 rfl (by rw [Tryz.ntmps87];simp) ?_
 rintro⟨_,_,w0,F0,W0,_,bu,β0⟩ rfl rfl rfl
 refine AW.ag fun K hK=>?_
 refine AW.aa rfl ?_
 simp
 apply hK;clear hK K
 refine AW.ag fun K hK=>?_
 by_cases h:0≤n
 ·refine AW.aa rfl ?_
  simp [h]
  apply hK;clear hK K
  exact AW.ret (κ:=0) (aK.tmp (κ:=0) rfl 4 (by simp [h]) (by first|rfl|simp) (by first|rfl|simp) (by first|rfl|simp))
 ·refine AW.aa rfl ?_
  simp [h]
  apply hK;clear hK K
  exact AW.ret (κ:=0) (aK.tmp (κ:=0) rfl 4 (by simp [h]) (by first|rfl|simp) (by first|rfl|simp) (by first|rfl|simp))
theorem Bm (G:List (List DV))(n:Int):ah Tryz.prog G 96 [.c (.d (.int .i64 n))] (.c (.d (.bool (decide (1≤n∧n≤15))))):=by
 refine ah.aU Go.Proofs.Tryz.func96 rfl (by rw [Tryz.ntmps96];simp) ?_
 rintro⟨_,_,w0,F0,W0,_,bu,β0⟩ rfl rfl rfl
 refine AW.ag fun K hK=>?_
 refine AW.aa rfl ?_
 simp
 apply hK;clear hK K
 refine AW.ag fun K hK=>?_
 by_cases h:1≤n
 ·refine AW.aa rfl ?_
  simp [h]
  apply hK;clear hK K
  exact AW.ret (κ:=0) (aK.tmp (κ:=0) rfl 2 (by simp [h]) (by first|rfl|simp) (by first|rfl|simp) (by first|rfl|simp))
 ·refine AW.aa rfl ?_
  simp [h]
  apply hK;clear hK K
  exact AW.ret (κ:=0) (aK.tmp (κ:=0) rfl 2 (by simp [h]) (by first|rfl|simp) (by first|rfl|simp) (by first|rfl|simp))
def lR (p:PD)(i:Int):Int:=if i<p.head then 0 else if i<p.tail then 1 else 2
theorem oS (G:List (List DV))(p:PD)(i:Int):ah Tryz.prog G 88 [p.A,.c (.d (.int .i64 i))] (.c (.d (.int .i64 (lR p i)))):=by
 refine ah.aU Go.Proofs.Tryz.func88 rfl (by rw [Tryz.ntmps88];simp) ?_
 rintro⟨_,_,w0,F0,W0,_,bu,β0⟩ rfl rfl rfl
 refine AW.ag fun K hK=>?_
 refine AW.aa rfl ?_
 simp
 apply hK;clear hK K
 refine AW.ag fun K hK=>?_
 refine AW.block ?_
 refine AW.ag fun K1 hK1=>?_
 refine AW.aa rfl ?_
 simp
 apply hK1;clear hK1 K1
 by_cases h:i<p.head
 ·refine AW.cond (b:=true) (by first|(simp [h];done)|(simp [h];omega)) ?_
  refine AW.ag fun K1 hK1=>?_
  refine AW.aa rfl ?_
  simp
  apply hK1;clear hK1 K1
  exact AW.ret (κ:=0) (aK.tmp (κ:=0) rfl 4 (by simp [lR,h]) (by first|rfl|simp) (by first|rfl|simp) (by first|rfl|simp))
 ·refine AW.cond (b:=false) (by first|(simp [h];done)|(simp [h];omega)) ?_
  refine AW.ag fun K1 hK1=>?_
  refine AW.aa rfl ?_
  simp
  apply hK1;clear hK1 K1
  by_cases h2:i<p.tail
  ·refine AW.cond (b:=true) (by first|(simp [h2];done)|(simp [h2];omega)) ?_
   refine AW.ag fun K1 hK1=>?_
   refine AW.aa rfl ?_
   simp
   apply hK1;clear hK1 K1
   exact AW.ret (κ:=0) (aK.tmp (κ:=0) rfl 4 (by simp [lR,h,h2]) (by first|rfl|simp) (by first|rfl|simp) (by first|rfl|simp))
  ·refine AW.cond (b:=false) (by first|(simp [h2];done)|(simp [h2];omega)) ?_
   refine AW.skip ?_
   simp
   apply hK;clear hK K
   refine AW.ag fun K hK=>?_
   refine AW.aa rfl ?_
   simp
   apply hK;clear hK K
   exact AW.ret (κ:=0) (aK.tmp (κ:=0) rfl 4 (by simp [lR,h,h2]) (by first|rfl|simp) (by first|rfl|simp) (by first|rfl|simp))
end Go.Am

namespace Go.Am
open Go.Am.Ty Go.Proofs N
@[simp] theorem PD.Zp (p:PD):(AV.agg [dg p.f,.d (.int .i64 p.mode),dg p.ins,dg p.nodes,.d (.int .i64 p.head),.d (.int .i64 p.tail),dg p.states,.d (.int .i64 p.res)]).pure=true:=by
 obtain⟨f,a,i,n,b,c,s,d⟩:=p
 cases f <;> cases i <;> cases n <;> cases s <;> rfl
def fR (p:PD)(i k:Int):Bool:=decide (0≤k∧k<i) && (decide (lR p k=0) || decide (lR p k=lR p i))
theorem JD (G:List (List DV))(p:PD)(i k:Int):ah Tryz.prog G 164 [p.A,.c (.d (.int .i64 i)),.c (.d (.int .i64 k))] (.c (.d (.bool (fR p i k)))):=by
 refine ah.aU Go.Proofs.Tryz.func164 rfl (by rw [Tryz.ntmps164];simp) ?_
 rintro⟨_,_,w0,F0,W0,_,bu,β0⟩ rfl rfl rfl
 refine AW.ag fun K hK=>?_
 refine AW.aa rfl ?_
 simp
 apply hK;clear hK K
 refine AW.ag fun K hK=>?_
 refine AW.ag fun K1 hK1=>?_
 by_cases h1:k<0
 ·have h1':¬ 0≤k:=by omega
  refine AW.aa rfl ?_
  simp [h1]
  apply hK1;clear hK1 K1
  refine AW.cond (b:=true) (by first|(simp [];done)|(simp [];omega)) ?_
  refine AW.ag fun K1 hK1=>?_
  refine AW.aa rfl ?_
  simp
  apply hK1;clear hK1 K1
  exact AW.ret (κ:=0) (aK.tmp (κ:=0) rfl 6 (by simp [fR,h1']) (by first|rfl|simp) (by first|rfl|simp) (by first|rfl|simp))
 have h0:0≤k:=by omega
 by_cases h2:i≤k
 ·have h2':¬ k<i:=by omega
  refine AW.aa rfl ?_
  simp [h1,h2]
  apply hK1;clear hK1 K1
  refine AW.cond (b:=true) (by first|(simp [];done)|(simp [];omega)) ?_
  refine AW.ag fun K1 hK1=>?_
  refine AW.aa rfl ?_
  simp
  apply hK1;clear hK1 K1
  exact AW.ret (κ:=0) (aK.tmp (κ:=0) rfl 6 (by simp [fR,h2']) (by first|rfl|simp) (by first|rfl|simp) (by first|rfl|simp))
 have h2':k<i:=by omega
 refine AW.aa rfl ?_
 simp [h1,h2]
 apply hK1;clear hK1 K1
 refine AW.cond (b:=false) (by first|(simp [];done)|(simp [];omega)) ?_
 refine AW.skip ?_
 simp
 apply hK;clear hK K
 refine AW.ag fun K hK=>?_
 refine AW.aa rfl ?_
 simp
 refine ai.pure 1 9 (oS _ p k) (by simp) (by simp) rfl ?_
 simp
 apply hK;clear hK K
 refine AW.ag fun K hK=>?_
 by_cases h3:lR p k=0
 ·refine AW.aa rfl ?_
  simp [h3]
  apply hK;clear hK K
  exact AW.ret (κ:=0) (aK.tmp (κ:=0) rfl 6 (by simp [fR,h0,h2',h3]) (by first|rfl|simp) (by first|rfl|simp) (by first|rfl|simp))
 ·refine AW.aa rfl ?_
  simp [h3]
  refine ai.pure 1 9 (oS _ p i) (by simp) (by simp) rfl ?_
  simp
  apply hK;clear hK K
  exact AW.ret (κ:=0) (aK.tmp (κ:=0) rfl 6 (by simp [fR,h0,h2',h3]) (by first|rfl|simp) (by first|rfl|simp) (by first|rfl|simp))
end Go.Am

namespace Go.Am
open Go.Am.Ty Go.Proofs N
def gp (p:PD):Int:=
 if 6<(sO p.f).length∨6<(sO p.ins).length∨64<(sO p.nodes).length∨4<(sO p.states).length then 3
 else if (sO p.f).length=0∨(sO p.nodes).length=0∨p.mode<0∨4<p.mode then 2
 else if p.head<0∨p.tail<p.head∨((sO p.nodes).length:Int)<p.tail then 2
 else if (sO p.states).length=0∧p.head≠(sO p.nodes).length then 2 else 0
set_option maxHeartbeats 2000000 in
theorem DC (G:List (List DV))(p:PD):ah Tryz.prog G 82 [p.A] (.c (.d (.int .i64 (gp p)))):=by
 have lp0:∀ (lv:Key→LB) (o:Option (List (List DV))),eE Tryz.prog 22 lv (mS o)=some (.c (.d (.int .i64 (sO o).length)),[],[],True):=fun lv o=>bY (by simp)
 have lp2:∀ (lv:Key→LB) (o:Option (List (List DV))),eE Tryz.prog 23 lv (mS o)=some (.c (.d (.int .i64 (sO o).length)),[],[],True):=fun lv o=>bY (by simp)
 have lp3:∀ (lv:Key→LB) (o:Option (List (List DV))),eE Tryz.prog 24 lv (mS o)=some (.c (.d (.int .i64 (sO o).length)),[],[],True):=fun lv o=>bY (by simp)
 have lp6:∀ (lv:Key→LB) (o:Option (List (List DV))),eE Tryz.prog 25 lv (mS o)=some (.c (.d (.int .i64 (sO o).length)),[],[],True):=fun lv o=>bY (by simp)
 refine ah.aU Go.Proofs.Tryz.func82 rfl (by rw [Tryz.ntmps82];simp) ?_
 rintro⟨_,_,w0,F0,W0,_,bu,β0⟩ rfl rfl rfl
 refine AW.ag fun K hK=>?_
 refine AW.aa rfl ?_
 simp
 apply hK;clear hK K
 refine AW.ag fun K hK=>?_
 refine AW.aa rfl ?_
 simp [lp3]
 apply hK;clear hK K
 refine AW.ag fun K hK=>?_
 refine AW.block ?_
 refine AW.ag fun K1 hK1=>?_
 have toK1:∀ (fr:Nat→AV) (κ:Nat) (b:Bool),fr 1=.c (.ptr 0 0)→fr 3=.c (.d (.int .i64 (sO p.nodes).length))→fr 8=.c (.d (.bool b)) →
  (b=decide (6<(sO p.f).length∨6<(sO p.ins).length∨64<(sO p.nodes).length∨4<(sO p.states).length)) →
  K1 ⟨fr,aB (fun _=>.hole) 0 (.cells true false 154 p.cs)⟩ κ:=by
  intro fr κ b z1 z3 z8 hb
  apply hK1
  cases b with
  | true=>
   have h:=of_decide_eq_true hb.symm
   refine AW.cond (b:=true) (by first|(simp [z8];done)|(simp [z8];omega)) ?_
   refine AW.ag fun K2 hK2=>?_
   refine AW.aa rfl ?_
   simp
   apply hK2;clear hK2 K2
   exact AW.ret (κ:=0) (aK.tmp (κ:=0) rfl 9 (by simp [gp,if_pos h]) rfl (by simp) rfl)
  | false=>
   have h:=of_decide_eq_false hb.symm
   refine AW.cond (b:=false) (by first|(simp [z8];done)|(simp [z8];omega)) ?_
   refine AW.ag fun K2 hK2=>?_
   have toK2:∀ (fr:Nat→AV) (κ:Nat) (b:Bool),fr 1=.c (.ptr 0 0)→fr 3=.c (.d (.int .i64 (sO p.nodes).length))→fr 26=.c (.d (.bool b)) →
    (b=decide ((sO p.f).length=0∨(sO p.nodes).length=0∨p.mode<0∨4<p.mode)) →
    K2 ⟨fr,aB (fun _=>.hole) 0 (.cells true false 154 p.cs)⟩ κ:=by
    intro fr κ b y1 y3 y26 hb2
    apply hK2
    cases b with
    | true=>
     have h2:=of_decide_eq_true hb2.symm
     refine AW.cond (b:=true) (by first|(simp [y26];done)|(simp [y26];omega)) ?_
     refine AW.ag fun K3 hK3=>?_
     refine AW.aa rfl ?_
     simp
     apply hK3;clear hK3 K3
     have hg:gp p=2:=by unfold gp;rw [if_neg h,if_pos h2]
     exact AW.ret (κ:=0) (aK.tmp (κ:=0) rfl 9 (by simp [hg]) rfl (by simp) rfl)
    | false=>
     have h2:=of_decide_eq_false hb2.symm
     refine AW.cond (b:=false) (by first|(simp [y26];done)|(simp [y26];omega)) ?_
     refine AW.ag fun K3 hK3=>?_
     have toK3:∀ (fr:Nat→AV) (κ:Nat) (b:Bool),fr 1=.c (.ptr 0 0)→fr 3=.c (.d (.int .i64 (sO p.nodes).length))→fr 42=.c (.d (.bool b)) →
      (b=decide (p.head<0∨p.tail<p.head∨((sO p.nodes).length:Int)<p.tail)) →
      K3 ⟨fr,aB (fun _=>.hole) 0 (.cells true false 154 p.cs)⟩ κ:=by
      intro fr κ b x1 x3 x42 hb3
      apply hK3
      cases b with
      | true=>
       have h3:=of_decide_eq_true hb3.symm
       refine AW.cond (b:=true) (by first|(simp [x42];done)|(simp [x42];omega)) ?_
       refine AW.ag fun K4 hK4=>?_
       refine AW.aa rfl ?_
       simp
       apply hK4;clear hK4 K4
       have hg:gp p=2:=by unfold gp;rw [if_neg h,if_neg h2,if_pos h3]
       exact AW.ret (κ:=0) (aK.tmp (κ:=0) rfl 9 (by simp [hg]) rfl (by simp) rfl)
      | false=>
       have h3:=of_decide_eq_false hb3.symm
       refine AW.cond (b:=false) (by first|(simp [x42];done)|(simp [x42];omega)) ?_
       refine AW.ag fun K4 hK4=>?_
       have fin0:gp p=0→∀ (fr:Nat→AV) (κ:Nat) (lv:Key→LB),lv 9=.hole→K ⟨fr,lv⟩ κ:=by
        intro hg fr κ lv h9
        apply hK
        refine AW.ag fun K5 hK5=>?_
        refine AW.aa rfl ?_
        simp
        apply hK5;clear hK5 K5
        exact AW.ret (κ:=0) (aK.tmp (κ:=0) rfl 9 (by simp [hg]) rfl (by simp [h9]) rfl)
       by_cases e1:sO p.states=[]
       ·by_cases e2:p.head=((sO p.nodes).length:Int)
        ·have hg:gp p=0:=by unfold gp;rw [if_neg h,if_neg h2,if_neg h3,if_neg (fun hh=>hh.2 e2)]
         refine AW.aa rfl ?_
         simp [x1,x3,lp6,e1,e2]
         apply hK4;clear hK4 K4
         refine AW.cond (b:=false) (by first|(simp [];done)|(simp [];omega)) ?_
         refine AW.skip ?_
         simp
         exact fin0 hg _ _ _ (by simp)
        ·have hg:gp p=2:=by unfold gp;rw [if_neg h,if_neg h2,if_neg h3,if_pos ⟨by rw [e1];rfl,e2⟩]
         refine AW.aa rfl ?_
         simp [x1,x3,lp6,e1,e2]
         apply hK4;clear hK4 K4
         refine AW.cond (b:=true) (by first|(simp [];done)|(simp [];omega)) ?_
         refine AW.ag fun K5 hK5=>?_
         refine AW.aa rfl ?_
         simp
         apply hK5;clear hK5 K5
         exact AW.ret (κ:=0) (aK.tmp (κ:=0) rfl 9 (by simp [hg]) rfl (by simp) rfl)
       ·have hg:gp p=0:=by unfold gp;rw [if_neg h,if_neg h2,if_neg h3,if_neg (fun hh=>e1 (List.length_eq_zero_iff.1 hh.1))]
        refine AW.aa rfl ?_
        simp [x1,x3,lp6,e1]
        apply hK4;clear hK4 K4
        refine AW.cond (b:=false) (by first|(simp [];done)|(simp [];omega)) ?_
        refine AW.skip ?_
        simp
        exact fin0 hg _ _ _ (by simp)
     refine AW.ag fun K4 hK4=>?_
     refine AW.aa rfl ?_
     simp [y1]
     apply hK4;clear hK4 K4
     by_cases f1:p.head<0
     ·refine AW.cond (b:=true) (by first|(simp [f1];done)|(simp [f1];omega)) ?_
      refine AW.skip ?_
      simp
      exact toK3 _ _ true (by simp [y1]) (by simp [y3]) (by simp [f1]) (by simp [f1])
     refine AW.cond (b:=false) (by first|(simp [f1];done)|(simp [f1];omega)) ?_
     refine AW.ag fun K4 hK4=>?_
     refine AW.aa rfl ?_
     simp [y1]
     apply hK4;clear hK4 K4
     by_cases f2:p.tail<p.head
     ·refine AW.cond (b:=true) (by first|(simp [f2];done)|(simp [f2];omega)) ?_
      refine AW.skip ?_
      simp
      exact toK3 _ _ true (by simp [y1]) (by simp [y3]) (by simp [f2]) (by simp [f2])
     refine AW.cond (b:=false) (by first|(simp [f2];done)|(simp [f2];omega)) ?_
     refine AW.aa rfl ?_
     simp [y1,y3]
     exact toK3 _ _ (decide (((sO p.nodes).length:Int)<p.tail)) (by simp [y1]) (by simp [y3]) (by simp) (by simp [f1,f2])
   refine AW.ag fun K3 hK3=>?_
   refine AW.aa rfl ?_
   simp [z1,lp0]
   apply hK3;clear hK3 K3
   by_cases c1:(sO p.f).length=0
   ·have c1l:sO p.f=[]:=List.length_eq_zero_iff.1 c1
    refine AW.cond (b:=true) (by first|(simp [c1l];done)|(simp [c1l];omega)) ?_
    refine AW.skip ?_
    simp
    exact toK2 _ _ true (by simp [z1]) (by simp [z3]) (by simp [c1l]) (by simp [c1l])
   have c1l:¬ sO p.f=[]:=fun e=>c1 (by rw [e];rfl)
   refine AW.cond (b:=false) (by first|(simp [c1l];done)|(simp [c1l];omega)) ?_
   refine AW.ag fun K3 hK3=>?_
   refine AW.aa rfl ?_
   simp [z3]
   apply hK3;clear hK3 K3
   by_cases c2:(sO p.nodes).length=0
   ·have c2l:sO p.nodes=[]:=List.length_eq_zero_iff.1 c2
    refine AW.cond (b:=true) (by first|(simp [c2l];done)|(simp [c2l];omega)) ?_
    refine AW.skip ?_
    simp
    exact toK2 _ _ true (by simp [z1]) (by simp [z3]) (by simp [c2l]) (by simp [c2l])
   have c2l:¬ sO p.nodes=[]:=fun e=>c2 (by rw [e];rfl)
   refine AW.cond (b:=false) (by first|(simp [c2l];done)|(simp [c2l];omega)) ?_
   refine AW.ag fun K3 hK3=>?_
   refine AW.aa rfl ?_
   simp [z1]
   apply hK3;clear hK3 K3
   by_cases c3:p.mode<0
   ·refine AW.cond (b:=true) (by first|(simp [c3];done)|(simp [c3];omega)) ?_
    refine AW.skip ?_
    simp
    exact toK2 _ _ true (by simp [z1]) (by simp [z3]) (by simp [c3]) (by simp [c3])
   refine AW.cond (b:=false) (by first|(simp [c3];done)|(simp [c3];omega)) ?_
   refine AW.aa rfl ?_
   simp [z1]
   exact toK2 _ _ (decide (4<p.mode)) (by simp [z1]) (by simp [z3]) (by simp) (by simp [c1l,c2l,c3])
 refine AW.ag fun K2 hK2=>?_
 refine AW.aa rfl ?_
 simp [lp0]
 apply hK2;clear hK2 K2
 by_cases d1:6<(sO p.f).length
 ·have d1':(6:Int)<((sO p.f).length:Int):=by omega
  refine AW.cond (b:=true) (by first|(simp [d1'];done)|(simp [d1'];omega)) ?_
  refine AW.skip ?_
  simp
  exact toK1 _ _ true (by simp) (by simp) (by simp [d1']) (by simp [d1])
 have d1':¬ (6:Int)<((sO p.f).length:Int):=by omega
 refine AW.cond (b:=false) (by first|(simp [d1'];done)|(simp [d1'];omega)) ?_
 refine AW.ag fun K2 hK2=>?_
 refine AW.aa rfl ?_
 simp [lp2]
 apply hK2;clear hK2 K2
 by_cases d2:6<(sO p.ins).length
 ·have d2':(6:Int)<((sO p.ins).length:Int):=by omega
  refine AW.cond (b:=true) (by first|(simp [d2'];done)|(simp [d2'];omega)) ?_
  refine AW.skip ?_
  simp
  exact toK1 _ _ true (by simp) (by simp) (by simp [d2']) (by simp [d2])
 have d2':¬ (6:Int)<((sO p.ins).length:Int):=by omega
 refine AW.cond (b:=false) (by first|(simp [d2'];done)|(simp [d2'];omega)) ?_
 refine AW.ag fun K2 hK2=>?_
 refine AW.aa rfl ?_
 simp
 apply hK2;clear hK2 K2
 by_cases d3:64<(sO p.nodes).length
 ·have d3':(64:Int)<((sO p.nodes).length:Int):=by omega
  refine AW.cond (b:=true) (by first|(simp [d3'];done)|(simp [d3'];omega)) ?_
  refine AW.skip ?_
  simp
  exact toK1 _ _ true (by simp) (by simp) (by simp [d3']) (by simp [d3])
 have d3':¬ (64:Int)<((sO p.nodes).length:Int):=by omega
 refine AW.cond (b:=false) (by first|(simp [d3'];done)|(simp [d3'];omega)) ?_
 refine AW.aa rfl ?_
 simp [lp6]
 have d4:((4:Int)<((sO p.states).length:Int))↔4<(sO p.states).length:=by omega
 exact toK1 _ _ (decide (4<(sO p.states).length)) (by simp) (by simp) (by simp [d4]) (by simp [d1,d2,d3])
end Go.Am

namespace Go.Am
theorem ah.EU {P:Program}{G:List (List DV)}{f:FuncId}{fn:Func}{code:Code}{args:List AV}{x:AV}(hf:P.funcs[f]?=some fn) (hb:fn.body=some code) (hl:args.length≤fn.ntmps)
 (hx:∀ lv,fX lv x=some (x,[]))
 (h:∀ c:Ctx,c.P=P→c.G=G→c.n=fn.ntmps→c.bu=(fun _=>.hole)→AW c none code ⟨fun t=>args.getD t .undef,fun _=>.hole⟩ 0 (eI c fn x)):ah P G f args x:=by
 intro F β w vs hS hvl hv
 have hlv:aV [] []=fun _=>LB.hole:=cU
 rw [hlv] at hS hv
 refine calls_of_wp hf hb ?_
 let c:Ctx:={ ct P G w F β (fun _=>.hole) with n:=fn.ntmps }
 have hS':bS c F β (fun _=>.hole) w:=hS
 let a:Act:={ tmps:=vs++Array.replicate (fn.ntmps - vs.size) undef,defers:=[] }
 have hst:aA c F β ⟨fun t=>args.getD t .undef,fun _=>.hole⟩ a w:=by
  refine hS'.with ?_ rfl (fun t=>?_)
  ·show (vs++Array.replicate (fn.ntmps - vs.size) undef).size=fn.ntmps
   simp;omega
  ·show (Vw.mk F β (fun _=>.hole) w).av ((vs++Array.replicate (fn.ntmps - vs.size) undef).getD t undef) (args.getD t .undef)
   by_cases ht:t<args.length
   ·have h1:args.getD t .undef=args[t]:=bQ ht
    have h2:(vs++Array.replicate (fn.ntmps - vs.size) undef).getD t undef=vs[t]'(by omega):=by
     rw [Array.getD_eq_getD_getElem?,Array.getElem?_append_left (by omega),Array.getElem?_eq_getElem (by omega)];rfl
    rw [h1,h2];exact hv t ht (by omega)
   ·have h1:args.getD t .undef=.undef:=bH ht
    have h2:(vs++Array.replicate (fn.ntmps - vs.size) undef).getD t undef=undef:=by
     rw [Array.getD_eq_getD_getElem?,Array.getElem?_append_right (by omega),Array.getElem?_replicate];split <;> rfl
    rw [h1,h2];rfl
 have hw:=(wpIn_wide (n:=0)).1 (h c rfl rfl rfl rfl F β a w hst)
 refine wp_mono hw fun e a' w' hp=>?_
 obtain⟨e',s',κ',F',β',hq,hX,he⟩:=hp
 have fin:cq c.P s' fn.results.toList=some x→a'.defers=[]∧∃ v,(results fn a'.tmps).run P w'=.ok v w'∧Dh P G [] F β w (.ret x [] []) (.returned v) w':=by
  intro h0
  obtain⟨v,h4,h5⟩:=ji hX h0
  refine⟨hX.defers,v,h4,v,F',β',rfl,?_,?_⟩
  ·rw [hlv]
   exact⟨fun k=>trivial,fun k k' h=>(by cases h),fun _=>trivial,rfl,rfl,hX.jJ,fun b hb=>hX.F0 b hb,fun b hb hW=>hX.old b hb (by rintro⟨k,hk,_⟩;cases hk),hX.ge,hX.lF,fun k hk=>absurd rfl hk,hX.AR,hX.w7⟩
  ·rw [hlv]
   exact hX.o4.fX (fun _ h=>h) (hx s'.lv) (fun k hk=>by cases hk) h5
 cases e' with
 | normal=>cases he;exact fin hq
 | ret=>cases he;exact fin hq
 | exit id=>exact hq.elim
 | goto l=>exact hq.elim
 | panic d=>exact hq.elim
def mc (c:Ctx)(fn:Func)(x:AV):Ex→aG→Nat→Prop
 | .normal,s,_|.ret,s,_=>∃ X ks,cq c.P s fn.results.toList=some X∧fX s.lv X=some (x,ks)
 | _,_,_=>False
theorem ah.jC {P:Program}{G:List (List DV)}{f:FuncId}{fn:Func}{code:Code}{args:List AV}{x:AV}(hf:P.funcs[f]?=some fn) (hb:fn.body=some code) (hl:args.length≤fn.ntmps)
 (h:∀ c:Ctx,c.P=P→c.G=G→c.n=fn.ntmps→c.bu=(fun _=>.hole)→AW c none code ⟨fun t=>args.getD t .undef,fun _=>.hole⟩ 0 (mc c fn x)):ah P G f args x:=by
 intro F β w vs hS hvl hv
 have hlv:aV [] []=fun _=>LB.hole:=cU
 rw [hlv] at hS hv
 refine calls_of_wp hf hb ?_
 let c:Ctx:={ ct P G w F β (fun _=>.hole) with n:=fn.ntmps }
 have hS':bS c F β (fun _=>.hole) w:=hS
 let a:Act:={ tmps:=vs++Array.replicate (fn.ntmps - vs.size) undef,defers:=[] }
 have hst:aA c F β ⟨fun t=>args.getD t .undef,fun _=>.hole⟩ a w:=by
  refine hS'.with ?_ rfl (fun t=>?_)
  ·show (vs++Array.replicate (fn.ntmps - vs.size) undef).size=fn.ntmps
   simp;omega
  ·show (Vw.mk F β (fun _=>.hole) w).av ((vs++Array.replicate (fn.ntmps - vs.size) undef).getD t undef) (args.getD t .undef)
   by_cases ht:t<args.length
   ·have h1:args.getD t .undef=args[t]:=bQ ht
    have h2:(vs++Array.replicate (fn.ntmps - vs.size) undef).getD t undef=vs[t]'(by omega):=by
     rw [Array.getD_eq_getD_getElem?,Array.getElem?_append_left (by omega),Array.getElem?_eq_getElem (by omega)];rfl
    rw [h1,h2];exact hv t ht (by omega)
   ·have h1:args.getD t .undef=.undef:=bH ht
    have h2:(vs++Array.replicate (fn.ntmps - vs.size) undef).getD t undef=undef:=by
     rw [Array.getD_eq_getD_getElem?,Array.getElem?_append_right (by omega),Array.getElem?_replicate];split <;> rfl
    rw [h1,h2];rfl
 have hw:=(wpIn_wide (n:=0)).1 (h c rfl rfl rfl rfl F β a w hst)
 refine wp_mono hw fun e a' w' hp=>?_
 obtain⟨e',s',κ',F',β',hq,hX0,he⟩:=hp
 have fin:(∃ X ks,cq c.P s' fn.results.toList=some X∧fX s'.lv X=some (x,ks))→a'.defers=[]∧∃ v,(results fn a'.tmps).run P w'=.ok v w'∧Dh P G [] F β w (.ret x [] []) (.returned v) w':=by
  rintro⟨X,ks,h0,hd⟩
  obtain⟨v,h4,hav⟩:=ji hX0 h0
  have hX:bS (ct P G w F β (fun _=>.hole)) F' β' s'.lv w':=hX0.o4
  have hFz:∀ b,F' b→(F' b∨∃ k∈ks,b=β' k):=fun b hb=>.inl hb
  refine⟨hX0.defers,v,h4,v,fun b=>F' b∨∃ k∈ks,b=β' k,β',rfl,?_,?_⟩
  ·rw [hlv]
   refine⟨fun k=>trivial,fun k k' h=>(by cases h),fun _=>trivial,rfl,rfl,fun b hb=>?_,fun b hb=>.inl (hX.F0 b hb),fun b hb hW=>hX.old b hb (by rintro⟨k,hk,_⟩;cases hk),hX.ge,fun g cs hg=>Rd.mono (fy hFz (fun _ _=>rfl)) (hX.lF g cs hg),fun k hk=>absurd rfl hk,hX.AR,hX.w7⟩
   rcases hb with hb|⟨k,hk,rfl⟩
   ·exact hX.jJ b hb
   ·obtain⟨own,fz,T,cs',e⟩:=wX hd k hk
    have hlt:β' k<w'.heap.size:=aA.qG hX e
    cases fz with
    | false=>
     refine⟨hlt,?_⟩
     rcases hX.dP (k:=k) (by show (s'.lv k).live=true;rw [e];rfl) with h1|⟨j,hj,_⟩
     ·exact .inr h1
     ·cases hj
    | true=>
     have hb:=hX.br k
     unfold Vw.br at hb
     simp only [e] at hb
     obtain⟨arr,b1,b2,b3,b4,b5⟩:=hb
     simp only [if_true] at b4
     exact hX.jJ _ b4
  ·rw [hlv]
   exact bS.fX (s:=⟨fun _=>.junk,s'.lv⟩) hX hFz hd (fun k hk=>.inr ⟨k,hk,rfl⟩) hav
 cases e' with
 | normal=>cases he;exact fin hq
 | ret=>cases he;exact fin hq
 | exit id=>exact hq.elim
 | goto l=>exact hq.elim
 | panic d=>exact hq.elim
theorem tH {lv:Key→LB}{n:Nat}:∀ (l:List DV),eR (cF lv n) (l.map CV.d)=some (l,[])
 | []=>rfl
 | x::l=>by
  have ih:=tH (lv:=lv) (n:=n) l
  simp only [List.map_cons,eR] at ih ⊢
  rw [ih]
  cases n <;> rfl
theorem o7 {α:Type}{sz:Nat}:∀ (es:List (List α)),(∀ e∈es,e.length=sz)→chunk sz es.length es.flatten=es
 | [],_=>rfl
 | e::es,h=>by
  have he:e.length=sz:=h e (by simp)
  have ih:=o7 es fun x hx=>h x (by simp [hx])
  have hlen:es.flatten.length=es.length*sz:=by
   rw [List.length_flatten]
   have:∀ l:List (List α),(∀ e∈l,e.length=sz)→(l.map List.length).sum=l.length*sz:=by
    intro l
    induction l with
    | nil=>intro _;simp
    | cons a l ih=>intro h;simp [ih fun x hx=>h x (by simp [hx]),h a (by simp),Nat.succ_mul];omega
   exact this es fun x hx=>h x (by simp [hx])
  unfold chunk at ih ⊢
  rw [List.length_cons,List.range_succ_eq_map,List.map_cons,List.map_map]
  congr 1
  ·simp [List.take_left' he]
  ·conv=>rhs;rw [← ih]
   apply List.map_congr_left
   intro i _
   simp only [Function.comp,List.flatten_cons]
   have:(i+1)*sz=e.length+i*sz:=by rw [he,Nat.succ_mul];omega
   rw [Nat.succ_eq_add_one,this,List.drop_append,List.drop_eq_nil_of_le (by omega),Nat.add_sub_cancel_left,List.nil_append]
theorem mc.tmp {c:Ctx}{fn:Func}{x X:AV}{t:Nat}{s:aG}{κ:Nat}{ks:List Key}(hr:fn.results=#[.tmp t]) (hx:s.fr t=X) (hd:fX s.lv X=some (x,ks)):mc c fn x .ret s κ:=
 ⟨X,ks,by rw [hr];simp [cq,iB,j8,hx],hd⟩
theorem mc.cell {c:Ctx}{fn:Func}{x X:AV}{t k off:Nat}{T U:TypeId}{own fz:Bool}{cs:List CV}{s:aG}{κ:Nat}{ks:List Key}(hr:fn.results=#[.cell t T]) (ht:s.fr t=.c (.ptr k off)) (hk:s.lv k=.cells own fz U cs)
 (hx:eC c.P T (cs.drop off)=some X) (hd:fX s.lv X=some (x,ks)):mc c fn x .ret s κ:=
 ⟨X,ks,by rw [hr];simp [cq,iB,j8,ht,hk,hx],hd⟩
theorem mc.jQ {c:Ctx}{fn:Func}{x X y:AV}{t u k off:Nat}{T U:TypeId}{own fz:Bool}{cs:List CV}{s:aG}{κ:Nat}{ks:List Key}(hr:fn.results=#[.cell t T,.tmp u]) (ht:s.fr t=.c (.ptr k off)) (hk:s.lv k=.cells own fz U cs)
 (hx:eC c.P T (cs.drop off)=some X) (hy:s.fr u=y) (hn:X.dY=true) (hm:y.dY=true) (hd:fX s.lv (.tup [X,y])=some (x,ks)):mc c fn x .ret s κ:=
 ⟨.tup [X,y],ks,by rw [hr];simp [cq,iB,j8,ht,hk,hx,hy,hn,hm],hd⟩
theorem lf {lv:Key→LB}{k:Key}{own fz:Bool}{T:TypeId}{es:List (List DV)}{sz:Nat}(h:lv k=.cells own fz T (es.flatten.map CV.d)) (hs:∀ e∈es,e.length=sz) (hl:es.length≤9223372036854775807) :
 fX lv (.c (.aJ k 0 es.length sz))=some (.c (.d (.sl es)),[k]):=by
 have hlen:es.flatten.length=es.length*sz:=by
  rw [List.length_flatten]
  have:∀ l:List (List DV),(∀ e∈l,e.length=sz)→(l.map List.length).sum=l.length*sz:=by
   intro l
   induction l with
   | nil=>intro _;simp
   | cons a l ih=>intro h;simp [ih fun x hx=>h x (by simp [hx]),h a (by simp),Nat.succ_mul];omega
  exact this es hs
 have ht:(es.flatten.map CV.d).take (es.length*sz)=es.flatten.map CV.d:=List.take_of_length_le (by rw [List.length_map,hlen];exact Nat.le_refl _)
 simp only [fX,dZ,cF,h,List.length_map,hlen,Nat.zero_add,Nat.le_refl,hl,and_self,if_true,List.drop_zero,ht,tH,Option.map_some,o7 es hs]
theorem iZ {lv:Key→LB}{es:List (List DV)}{sz:Nat}(h:∀ e∈es,e.length=sz):ga lv sz (.c (.d (.sl es)))=some (es.length,es.flatten.map CV.d):=by
 have h1:es.all (fun e=>e.length == sz)=true:=by rw [List.all_eq_true];intro e he;simp [h e he]
 simp [ga,h1]
end Go.Am

namespace Go.Am
open Go.Am.Ty Go.Proofs N
structure Nd where
 op:Int
 a:Int
 b:Int
 c:Int
 d:Int
 f:Int
 v:List UInt8
 deriving DecidableEq,Inhabited
structure In where
 f:Int
 lo:List UInt8
 hi:List UInt8
 deriving DecidableEq,Inhabited
@[simp] def Nd.e (n:Nd):List DV:=[.int .i64 n.op,.int .i64 n.a,.int .i64 n.b,.int .i64 n.c,.int .i64 n.d,.int .i64 n.f,.str n.v]
@[simp] def In.e (n:In):List DV:=[.int .i64 n.f,.str n.lo,.str n.hi]
@[simp] def Vx (n:Int × Int):List DV:=[.int .i64 n.1,.int .i64 n.2]
abbrev Nd.A (n:Nd):AV:=.agg [.d (.int .i64 n.op),.d (.int .i64 n.a),.d (.int .i64 n.b),.d (.int .i64 n.c),.d (.int .i64 n.d),.d (.int .i64 n.f),.d (.str n.v)]
def KP:List DV→Nd
 | [.int _ o,.int _ a,.int _ b,.int _ c,.int _ d,.int _ f,.str v]=>⟨o,a,b,c,d,f,v⟩
 | _=>default
def N6:List DV→In
 | [.int _ f,.str a,.str b]=>⟨f,a,b⟩
 | _=>default
def Om:List DV→Int × Int
 | [.int _ a,.int _ b]=>(a,b)
 | _=>(0,0)
theorem Dc {e:List DV}(h:Hu e):e=(KP e).e:=by obtain⟨a1,a2,a3,a4,a5,a6,s,rfl⟩:=h;rfl
theorem MI {e:List DV}(h:Jo e):e=(N6 e).e:=by obtain⟨a,s,t,rfl⟩:=h;rfl
theorem G0 {e:List DV}(h:Cg e):e=Vx (Om e):=by obtain⟨a,b,rfl⟩:=h;rfl
theorem Q3 (n:Nd):Hu n.e:=⟨_,_,_,_,_,_,_,rfl⟩
def PD.nf (p:PD):Nat:=(sO p.f).length
def PD.ni (p:PD):Nat:=(sO p.ins).length
def PD.nn (p:PD):Nat:=(sO p.nodes).length
def PD.ns (p:PD):Nat:=(sO p.states).length
def PD.fm (p:PD)(i:Nat):Int × Int:=Om ((sO p.f).getD i [])
def PD.CX (p:PD)(i:Nat):In:=N6 ((sO p.ins).getD i [])
def PD.nd (p:PD)(i:Nat):Nd:=KP ((sO p.nodes).getD i [])
def PD.st (p:PD)(i:Nat):Int × Int:=Om ((sO p.states).getD i [])
section
variable {p:PD}(hp:p.ok) (lv:Key→LB) (k:Int) (h0:0≤k)
theorem Sw {P:Program}{T:TypeId}{lv:Key→LB}{o:Option (List (List DV))}{k:Int}{sz:Nat}{e:List DV}(h:(eG P T).map (·.2)=some sz) (h0:0≤k) (hi:k<(sO o).length) (he:(sO o).getD k.toNat []=e) (hs:e.length=sz) :
 ak P T lv (mS o) (.c (.d (.int .i64 k)))=some (.c (.d (.ptr e)),[],[],True):=by
 obtain⟨i,rfl⟩:∃ i:Nat,k=i:=⟨k.toNat,by omega⟩
 have hi':i<(sO o).length:=by omega
 have e1:(sO o)[i]=e:=by rw [← he,Int.toNat_natCast,List.getD_eq_getElem?_getD,List.getElem?_eq_getElem hi'];rfl
 rw [iJ h hi' (by rw [e1];exact hs),e1]
theorem gD {l:List (List DV)}{q:List DV→Prop}(h:∀ e∈l,q e) {i:Nat}(hi:i<l.length):q (l.getD i []):=by
 rw [List.getD_eq_getElem?_getD,List.getElem?_eq_getElem hi];exact h _ (List.getElem_mem hi)
include hp h0
theorem ZA (hi:k<p.nf):ak Tryz.prog 22 lv (.c (dg p.f)) (.c (.d (.int .i64 k)))=some (.c (.d (.ptr (Vx (p.fm k.toNat)))),[],[],True):=
 Sw (by simp) h0 hi (G0 (gD hp.f (by unfold PD.nf at hi;omega))) rfl
theorem Y8 (hi:k<p.ni):ak Tryz.prog 23 lv (.c (dg p.ins)) (.c (.d (.int .i64 k)))=some (.c (.d (.ptr (p.CX k.toNat).e)),[],[],True):=
 Sw (by simp) h0 hi (MI (gD hp.ins (by unfold PD.ni at hi;omega))) rfl
theorem YF (hi:k<p.nn):ak Tryz.prog 24 lv (.c (dg p.nodes)) (.c (.d (.int .i64 k)))=some (.c (.d (.ptr (p.nd k.toNat).e)),[],[],True):=
 Sw (by simp) h0 hi (Dc (gD hp.nodes (by unfold PD.nn at hi;omega))) rfl
theorem Zt (hi:k<p.ns):ak Tryz.prog 25 lv (.c (dg p.states)) (.c (.d (.int .i64 k)))=some (.c (.d (.ptr (Vx (p.st k.toNat)))),[],[],True):=
 Sw (by simp) h0 hi (G0 (gD hp.states (by unfold PD.ns at hi;omega))) rfl
end
theorem Tt (p:PD)(lv:Key→LB):eE Tryz.prog 22 lv (.c (dg p.f))=some (.c (.d (.int .i64 p.nf)),[],[],True):=bY (by simp)
theorem XQ (p:PD)(lv:Key→LB):eE Tryz.prog 23 lv (.c (dg p.ins))=some (.c (.d (.int .i64 p.ni)),[],[],True):=bY (by simp)
theorem Df (p:PD)(lv:Key→LB):eE Tryz.prog 24 lv (.c (dg p.nodes))=some (.c (.d (.int .i64 p.nn)),[],[],True):=bY (by simp)
theorem KW (p:PD)(lv:Key→LB):eE Tryz.prog 25 lv (.c (dg p.states))=some (.c (.d (.int .i64 p.ns)),[],[],True):=bY (by simp)
def bN (op:Int):Nat:=if op≤3 then 0 else if op≤7 then 1 else if op≤13 then 2 else if op=14 then 3 else 4
def fF (op:Int):Nat:=if op=1∨op=2 then 1 else bN op
def AY:List DV:=[.int .i64 0,.int .i64 0,.int .i64 0,.int .i64 1,.int .i64 0,.int .i64 1,.int .i64 0,.int .i64 0,.int .i64 1,.int .i64 1,.int .i64 1,.int .i64 1,.int .i64 1,.int .i64 1,.int .i64 1,.int .i64 1,.int .i64 2,.int .i64 2,.int .i64 2,.int .i64 2,.int .i64 2,.int .i64 2,.int .i64 2,.int .i64 2,.int .i64 2,.int .i64 2,.int .i64 2,.int .i64 2,.int .i64 3,.int .i64 3,.int .i64 4,.int .i64 4]
theorem Gz (m:Int):(GG m)[1]?=some AY:=rfl
theorem Yi {op:Int}(h1:1≤op) (h2:op≤15):op=1∨op=2∨op=3∨op=4∨op=5∨op=6∨op=7∨op=8∨op=9∨op=10∨op=11∨op=12∨op=13∨op=14∨op=15:=by omega
theorem Xq {op:Int}(h1:1≤op) (h2:op≤15):∃ rest,∀ lv:Key→LB,ak Tryz.prog 169 lv (.c (.d (.ptr AY))) (.c (.d (.int .i64 op)))=some (.c (.d (.ptr (.int .i64 (bN op)::.int .i64 (fF op)::rest))),[],[],True):=by
 have ha:qK Tryz.prog 169=some (16,168,2):=by kernel_rfl
 have key:∀ (op:Int) (rest:List DV),0≤op→op<16→AY.drop (op.toNat*2)=.int .i64 (bN op)::.int .i64 (fF op)::rest→op.toNat*2≤AY.length→∃ rest,∀ lv:Key→LB,ak Tryz.prog 169 lv (.c (.d (.ptr AY))) (.c (.d (.int .i64 op)))=some (.c (.d (.ptr (.int .i64 (bN op)::.int .i64 (fF op)::rest))),[],[],True):=by
  intro op rest g1 g2 g3 g4
  refine⟨rest,fun lv=>?_⟩
  unfold ak
  rw [ha]
  show some (AV.c (.d (.ptr (AY.drop (op.toNat*2)))),([]:List (Key × LB)),([]:List Key),(0≤op∧op<((16:Nat):Int)∧op.toNat*2≤AY.length))=_
  rw [g3,eq_true (show 0≤op∧op<((16:Nat):Int)∧op.toNat*2≤AY.length from ⟨g1,by omega,g4⟩)]
 rcases Yi h1 h2 with rfl|rfl|rfl|rfl|rfl|rfl|rfl|rfl|rfl|rfl|rfl|rfl|rfl|rfl|rfl <;> exact key _ _ (by decide) (by decide) rfl (by decide)
def Nd.l4 (n:Nd):List Int:=[n.a,n.b,n.c,n.d]
def cz (n:Nd):List Int:=if 1≤n.op∧n.op≤15 then n.l4.take (bN n.op) else []
def n7 (n:Nd):Option (List Int):=if 1≤n.op∧n.op≤15 then some (n.l4.take (bN n.op)) else none
def kD (n:Nd):Bool:=(n.l4.drop (fF n.op)).all (fun x=>decide (x=0)) && (decide (n.v=[]) || decide (n.op=3))
def zD (l:List Int):List (List DV):=l.map fun x=>[DV.int .i64 x]
def zC:Option (List Int)→CV
 | none=>.d .nilsl
 | some l=>.d (.sl (zD l))
def zL (o:Option (List Int)):List Int:=o.getD []
theorem C9 (o:Option (List Int)):zC o=dg (o.map zD):=by cases o <;> rfl
@[simp] theorem WH (o:Option (List Int)):(AV.c (zC o)).pure=true:=by cases o <;> rfl
@[simp] theorem Rf (o:Option (List Int)):(AV.c (zC o)).bD=true:=by cases o <;> rfl
@[simp] theorem Xc (o:Option (List Int))(g:Key→Key):(zC o).bt g=zC o:=by cases o <;> rfl
@[simp] theorem V6 (o:Option (List (List DV)))(g:Key→Key):(dg o).bt g=dg o:=by cases o <;> rfl
@[simp] theorem Yq (o:Option (List Nat))(g:Key→Key):(nC o).bt g=nC o:=by cases o <;> rfl
def zK (l:List Int):List CV:=l.map fun x=>CV.d (.int .i64 x)
@[simp] theorem Nk (l:List Int):(zK l).length=l.length:=by simp [zK]
theorem jb {P:Program}{T:TypeId}(ha:cO P T=some false) {l:List Int}{i:Nat}(h:i<l.length):eC P T ((zK l).drop i)=some (.c (.d (.int .i64 l[i]))):=by
 have:(zK l).drop i=CV.d (.int .i64 l[i])::(zK l).drop (i+1):=by
  rw [List.drop_eq_getElem_cons (by simpa using h)]
  simp [zK]
 rw [this];simp [ha]
theorem Cn (l:List Int):zK l=(l.map fun x=>DV.int .i64 x).map CV.d:=by simp [zK]
theorem Ic {lv:Key→LB}{n:Nat}(l:List Int):eR (cF lv n) (zK l)=some (l.map fun x=>DV.int .i64 x,[]):=by rw [Cn];exact tH _
theorem Zf {T:TypeId}(h:(eG Tryz.prog T).isSome=true) (lv:Key→LB) (o:Option (List Int)):eE Tryz.prog T lv (.c (zC o))=some (.c (.d (.int .i64 (zL o).length)),[],[],True):=by
 rw [C9]
 rw [bY h]
 cases o <;> simp [sO,zL,zD]
theorem ZI {T:TypeId}(h:(eG Tryz.prog T).map (·.2)=some 1) (lv:Key→LB) (o:Option (List Int)) {i:Nat}(hi:i<(zL o).length):ak Tryz.prog T lv (.c (zC o)) (.c (.d (.int .i64 (i:Int))))=some (.c (.d (.ptr [.int .i64 (zL o)[i]])),[],[],True):=by
 cases o with
 | none=>cases hi
 | some l=>
  rw [C9]
  have hi0:i<l.length:=hi
  have hi':i<(sO (Option.map zD (some l))).length:=by show i<(zD l).length;unfold zD;rw [List.length_map];exact hi0
  have e:(sO (Option.map zD (some l)))[i]=[.int .i64 (zL (some l))[i]]:=by simp [sO,zD,zL]
  rw [iJ h hi' (by rw [e];rfl),e]
  rfl
def EE (p:PD)(x:In):Int:=
 if ¬ (0≤x.f∧x.f<p.nf) then 7
 else if jg x.lo≠0 then jg x.lo
 else if jg x.hi≠0 then jg x.hi
 else if hasB (p.fm x.f.toNat).1 (p.fm x.f.toNat).2 (jG x.lo)=false then 7
 else if hasB (p.fm x.f.toNat).1 (p.fm x.f.toNat).2 (jG x.hi)=false then 7
 else if 0<vW (jG x.lo) (jG x.hi) then 7 else 0
def rM (p:PD)(i:Int)(n:Nd):Int:=
 if ¬ (1≤n.op∧n.op≤15) then 2
 else if kD n=false then 2
 else if ¬ (0≤n.f∧n.f<p.nf) then 7
 else if n.op=1∧¬ (0≤n.a∧n.a<p.ni) then 7
 else if n.op=1∧(p.CX n.a.toNat).f≠n.f then 143
 else if n.op=2∧(i<p.head∨¬ (0≤n.a∧n.a<p.ns)) then 7
 else if n.op=3 then jg n.v
 else if (cz n).all (fR p i) then 0 else 7
def mb (i f:Int)(n:Nd):Bool:=decide (n.op=2) && decide (n.a=i) && !decide (n.f=f)
def FZ (p:PD)(i:Int)(s:Int × Int):Int:=
 if ¬ (0≤s.1∧s.1<p.head) then 7
 else if ¬ (0≤s.2∧s.2<p.tail) then 7
 else if (p.nd s.2.toNat).f≠(p.nd s.1.toNat).f then 143
 else if (List.range p.nn).any (fun j=>mb i (p.nd s.1.toNat).f (p.nd j)) then 143 else 0
def iL (e:Nat→Int)(n:Nat):Option Nat:=(List.range n).find? fun i=>decide (e i≠0)
theorem sE {e:Nat→Int}{n:Nat}(h:∀ j,j<n→e j=0):iL e n=none:=by
 unfold iL
 rw [List.find?_eq_none]
 intro x hx
 simp [h x (List.mem_range.1 hx)]
theorem At {e:Nat→Int}{n i:Nat}(hi:i<n) (h:e i≠0) (h0:∀ j,j<i→e j=0):iL e n=some i:=by
 unfold iL
 rw [List.find?_range_eq_some]
 exact⟨by simpa using h,List.mem_range.2 hi,fun j hj=>by simp [h0 j hj]⟩
def iU (p:PD):Nat→Nat
 | 0=>p.nf
 | 1=>p.ni
 | 2=>p.nn
 | _=>p.ns
def dR (p:PD):Nat→Nat→Int
 | 0,i=>m4 (p.fm i).1 (p.fm i).2
 | 1,i=>EE p (p.CX i)
 | 2,i=>rM p i (p.nd i)
 | _,i=>FZ p i (p.st i)
def dh (p:PD):Nat→Nat→Int × Int × Int
 | 0,_=>if 0≤p.res∧p.res<p.nn∧lR p p.res≠1 then (0,0,0) else (5,0,7)
 | n+1,k=>match iL (dR p k) (iU p k) with
  | some i=>(k+1,i,dR p k i)
  | none=>dh p n (k+1)
def fI (p:PD):Int × Int × Int:=if gp p≠0 then (0,0,gp p) else dh p 4 0
end Go.Am

namespace Go.Am
open Go.Am.Ty Go.Proofs N
set_option maxHeartbeats 1000000 in
theorem Ch (G:List (List DV))(o:Option (List (List DV)))(h:∀ e∈sO o,e.length=2)(hl:(sO o).length≤1000000):ah Tryz.prog G 47 [.c (dg o)] (.c (dg o)):=by
 have e1:aI Tryz.prog .eql 22 (.c (.d .nilsl)) (.c (.d .nilsl))=some (.c (.d (.bool true)),[],[],True):=by kernel_rfl
 have e2:∀ es,aI Tryz.prog .eql 22 (.c (.d (.sl es))) (.c (.d .nilsl))=some (.c (.d (.bool false)),[],[],True):=fun es=>by kernel_rfl
 cases o with
 | none=>
  show ah Tryz.prog G 47 [.c (.d .nilsl)] (.c (.d .nilsl))
  refine ah.jC Go.Proofs.Tryz.func47 rfl (by rw [Tryz.ntmps47];simp)  ?_
  rintro⟨_,_,w0,F0,W0,_,bu,β0⟩ rfl rfl rfl rfl
  refine AW.ag fun K hK=>?_
  refine AW.aa rfl ?_
  simp
  apply hK;clear hK K
  refine AW.ag fun K hK=>?_
  refine AW.ag fun K1 hK1=>?_
  refine AW.aa rfl ?_
  simp [e1]
  apply hK1;clear hK1 K1
  refine AW.cond (b:=true) (by first|(simp [];done)|(simp [];omega)) ?_
  refine AW.ag fun K1 hK1=>?_
  refine AW.aa rfl ?_
  simp
  apply hK1;clear hK1 K1
  exact AW.ret (κ:=0) (mc.tmp (κ:=0) (X:=.c (.d .nilsl)) (ks:=[]) rfl (by simp) rfl)
 | some es=>
  have h:∀ e∈es,e.length=2:=h
  have hl:es.length≤1000000:=hl
  show ah Tryz.prog G 47 [.c (.d (.sl es))] (.c (.d (.sl es)))
  have hsrc:∀ lv,ga lv 2 (.c (.d (.sl es)))=some (es.length,es.flatten.map CV.d):=fun lv=>iZ h
  refine ah.jC Go.Proofs.Tryz.func47 rfl (by rw [Tryz.ntmps47];simp)  ?_
  rintro⟨_,_,w0,F0,W0,_,bu,β0⟩ rfl rfl rfl rfl
  refine AW.ag fun K hK=>?_
  refine AW.aa rfl ?_
  simp
  apply hK;clear hK K
  refine AW.ag fun K hK=>?_
  refine AW.ag fun K1 hK1=>?_
  refine AW.aa rfl ?_
  simp [e2]
  apply hK1;clear hK1 K1
  refine AW.cond (b:=false) (by first|(simp [];done)|(simp [];omega)) ?_
  refine AW.skip ?_
  simp
  apply hK;clear hK K
  refine AW.ag fun K hK=>?_
  refine AW.aa rfl ?_
  simp [hsrc,iq,eP,keyOf]
  repeat (refine And.intro (by omega) ?_)
  apply hK;clear hK K
  refine AW.ret (κ:=0) (mc.tmp (κ:=0) (X:=.c (.aJ 1 0 es.length 2)) (ks:=[1]) rfl (by simp) ?_)
  exact lf (own:=true) (fz:=false) (T:=81) (by simp) h (by omega)
set_option maxHeartbeats 1000000 in
theorem CL (G:List (List DV))(o:Option (List (List DV)))(h:∀ e∈sO o,e.length=3)(hl:(sO o).length≤1000000):ah Tryz.prog G 48 [.c (dg o)] (.c (dg o)):=by
 have e1:aI Tryz.prog .eql 23 (.c (.d .nilsl)) (.c (.d .nilsl))=some (.c (.d (.bool true)),[],[],True):=by kernel_rfl
 have e2:∀ es,aI Tryz.prog .eql 23 (.c (.d (.sl es))) (.c (.d .nilsl))=some (.c (.d (.bool false)),[],[],True):=fun es=>by kernel_rfl
 cases o with
 | none=>
  show ah Tryz.prog G 48 [.c (.d .nilsl)] (.c (.d .nilsl))
  refine ah.jC Go.Proofs.Tryz.func48 rfl (by rw [Tryz.ntmps48];simp)  ?_
  rintro⟨_,_,w0,F0,W0,_,bu,β0⟩ rfl rfl rfl rfl
  refine AW.ag fun K hK=>?_
  refine AW.aa rfl ?_
  simp
  apply hK;clear hK K
  refine AW.ag fun K hK=>?_
  refine AW.ag fun K1 hK1=>?_
  refine AW.aa rfl ?_
  simp [e1]
  apply hK1;clear hK1 K1
  refine AW.cond (b:=true) (by first|(simp [];done)|(simp [];omega)) ?_
  refine AW.ag fun K1 hK1=>?_
  refine AW.aa rfl ?_
  simp
  apply hK1;clear hK1 K1
  exact AW.ret (κ:=0) (mc.tmp (κ:=0) (X:=.c (.d .nilsl)) (ks:=[]) rfl (by simp) rfl)
 | some es=>
  have h:∀ e∈es,e.length=3:=h
  have hl:es.length≤1000000:=hl
  show ah Tryz.prog G 48 [.c (.d (.sl es))] (.c (.d (.sl es)))
  have hsrc:∀ lv,ga lv 3 (.c (.d (.sl es)))=some (es.length,es.flatten.map CV.d):=fun lv=>iZ h
  refine ah.jC Go.Proofs.Tryz.func48 rfl (by rw [Tryz.ntmps48];simp)  ?_
  rintro⟨_,_,w0,F0,W0,_,bu,β0⟩ rfl rfl rfl rfl
  refine AW.ag fun K hK=>?_
  refine AW.aa rfl ?_
  simp
  apply hK;clear hK K
  refine AW.ag fun K hK=>?_
  refine AW.ag fun K1 hK1=>?_
  refine AW.aa rfl ?_
  simp [e2]
  apply hK1;clear hK1 K1
  refine AW.cond (b:=false) (by first|(simp [];done)|(simp [];omega)) ?_
  refine AW.skip ?_
  simp
  apply hK;clear hK K
  refine AW.ag fun K hK=>?_
  refine AW.aa rfl ?_
  simp [hsrc,iq,eP,keyOf]
  repeat (refine And.intro (by omega) ?_)
  apply hK;clear hK K
  refine AW.ret (κ:=0) (mc.tmp (κ:=0) (X:=.c (.aJ 1 0 es.length 3)) (ks:=[1]) rfl (by simp) ?_)
  exact lf (own:=true) (fz:=false) (T:=67) (by simp) h (by omega)
set_option maxHeartbeats 1000000 in
theorem Ag (G:List (List DV))(o:Option (List (List DV)))(h:∀ e∈sO o,e.length=7)(hl:(sO o).length≤1000000):ah Tryz.prog G 156 [.c (dg o)] (.c (dg o)):=by
 have e1:aI Tryz.prog .eql 24 (.c (.d .nilsl)) (.c (.d .nilsl))=some (.c (.d (.bool true)),[],[],True):=by kernel_rfl
 have e2:∀ es,aI Tryz.prog .eql 24 (.c (.d (.sl es))) (.c (.d .nilsl))=some (.c (.d (.bool false)),[],[],True):=fun es=>by kernel_rfl
 cases o with
 | none=>
  show ah Tryz.prog G 156 [.c (.d .nilsl)] (.c (.d .nilsl))
  refine ah.jC Go.Proofs.Tryz.func156 rfl (by rw [Tryz.ntmps156];simp)  ?_
  rintro⟨_,_,w0,F0,W0,_,bu,β0⟩ rfl rfl rfl rfl
  refine AW.ag fun K hK=>?_
  refine AW.aa rfl ?_
  simp
  apply hK;clear hK K
  refine AW.ag fun K hK=>?_
  refine AW.ag fun K1 hK1=>?_
  refine AW.aa rfl ?_
  simp [e1]
  apply hK1;clear hK1 K1
  refine AW.cond (b:=true) (by first|(simp [];done)|(simp [];omega)) ?_
  refine AW.ag fun K1 hK1=>?_
  refine AW.aa rfl ?_
  simp
  apply hK1;clear hK1 K1
  exact AW.ret (κ:=0) (mc.tmp (κ:=0) (X:=.c (.d .nilsl)) (ks:=[]) rfl (by simp) rfl)
 | some es=>
  have h:∀ e∈es,e.length=7:=h
  have hl:es.length≤1000000:=hl
  show ah Tryz.prog G 156 [.c (.d (.sl es))] (.c (.d (.sl es)))
  have hsrc:∀ lv,ga lv 7 (.c (.d (.sl es)))=some (es.length,es.flatten.map CV.d):=fun lv=>iZ h
  refine ah.jC Go.Proofs.Tryz.func156 rfl (by rw [Tryz.ntmps156];simp)  ?_
  rintro⟨_,_,w0,F0,W0,_,bu,β0⟩ rfl rfl rfl rfl
  refine AW.ag fun K hK=>?_
  refine AW.aa rfl ?_
  simp
  apply hK;clear hK K
  refine AW.ag fun K hK=>?_
  refine AW.ag fun K1 hK1=>?_
  refine AW.aa rfl ?_
  simp [e2]
  apply hK1;clear hK1 K1
  refine AW.cond (b:=false) (by first|(simp [];done)|(simp [];omega)) ?_
  refine AW.skip ?_
  simp
  apply hK;clear hK K
  refine AW.ag fun K hK=>?_
  refine AW.aa rfl ?_
  simp [hsrc,iq,eP,keyOf]
  repeat (refine And.intro (by omega) ?_)
  apply hK;clear hK K
  refine AW.ret (κ:=0) (mc.tmp (κ:=0) (X:=.c (.aJ 1 0 es.length 7)) (ks:=[1]) rfl (by simp) ?_)
  exact lf (own:=true) (fz:=false) (T:=55) (by simp) h (by omega)
set_option maxHeartbeats 1000000 in
theorem Ax (G:List (List DV))(o:Option (List (List DV)))(h:∀ e∈sO o,e.length=2)(hl:(sO o).length≤1000000):ah Tryz.prog G 157 [.c (dg o)] (.c (dg o)):=by
 have e1:aI Tryz.prog .eql 25 (.c (.d .nilsl)) (.c (.d .nilsl))=some (.c (.d (.bool true)),[],[],True):=by kernel_rfl
 have e2:∀ es,aI Tryz.prog .eql 25 (.c (.d (.sl es))) (.c (.d .nilsl))=some (.c (.d (.bool false)),[],[],True):=fun es=>by kernel_rfl
 cases o with
 | none=>
  show ah Tryz.prog G 157 [.c (.d .nilsl)] (.c (.d .nilsl))
  refine ah.jC Go.Proofs.Tryz.func157 rfl (by rw [Tryz.ntmps157];simp)  ?_
  rintro⟨_,_,w0,F0,W0,_,bu,β0⟩ rfl rfl rfl rfl
  refine AW.ag fun K hK=>?_
  refine AW.aa rfl ?_
  simp
  apply hK;clear hK K
  refine AW.ag fun K hK=>?_
  refine AW.ag fun K1 hK1=>?_
  refine AW.aa rfl ?_
  simp [e1]
  apply hK1;clear hK1 K1
  refine AW.cond (b:=true) (by first|(simp [];done)|(simp [];omega)) ?_
  refine AW.ag fun K1 hK1=>?_
  refine AW.aa rfl ?_
  simp
  apply hK1;clear hK1 K1
  exact AW.ret (κ:=0) (mc.tmp (κ:=0) (X:=.c (.d .nilsl)) (ks:=[]) rfl (by simp) rfl)
 | some es=>
  have h:∀ e∈es,e.length=2:=h
  have hl:es.length≤1000000:=hl
  show ah Tryz.prog G 157 [.c (.d (.sl es))] (.c (.d (.sl es)))
  have hsrc:∀ lv,ga lv 2 (.c (.d (.sl es)))=some (es.length,es.flatten.map CV.d):=fun lv=>iZ h
  refine ah.jC Go.Proofs.Tryz.func157 rfl (by rw [Tryz.ntmps157];simp)  ?_
  rintro⟨_,_,w0,F0,W0,_,bu,β0⟩ rfl rfl rfl rfl
  refine AW.ag fun K hK=>?_
  refine AW.aa rfl ?_
  simp
  apply hK;clear hK K
  refine AW.ag fun K hK=>?_
  refine AW.ag fun K1 hK1=>?_
  refine AW.aa rfl ?_
  simp [e2]
  apply hK1;clear hK1 K1
  refine AW.cond (b:=false) (by first|(simp [];done)|(simp [];omega)) ?_
  refine AW.skip ?_
  simp
  apply hK;clear hK K
  refine AW.ag fun K hK=>?_
  refine AW.aa rfl ?_
  simp [hsrc,iq,eP,keyOf]
  repeat (refine And.intro (by omega) ?_)
  apply hK;clear hK K
  refine AW.ret (κ:=0) (mc.tmp (κ:=0) (X:=.c (.aJ 1 0 es.length 2)) (ks:=[1]) rfl (by simp) ?_)
  exact lf (own:=true) (fz:=false) (T:=69) (by simp) h (by omega)
set_option maxHeartbeats 1000000 in
theorem Cv (G:List (List DV))(o:Option (List (List DV)))(h:∀ e∈sO o,e.length=1)(hl:(sO o).length≤1000000):ah Tryz.prog G 97 [.c (dg o)] (.c (dg o)):=by
 have e1:aI Tryz.prog .eql 30 (.c (.d .nilsl)) (.c (.d .nilsl))=some (.c (.d (.bool true)),[],[],True):=by kernel_rfl
 have e2:∀ es,aI Tryz.prog .eql 30 (.c (.d (.sl es))) (.c (.d .nilsl))=some (.c (.d (.bool false)),[],[],True):=fun es=>by kernel_rfl
 cases o with
 | none=>
  show ah Tryz.prog G 97 [.c (.d .nilsl)] (.c (.d .nilsl))
  refine ah.jC Go.Proofs.Tryz.func97 rfl (by rw [Tryz.ntmps97];simp)  ?_
  rintro⟨_,_,w0,F0,W0,_,bu,β0⟩ rfl rfl rfl rfl
  refine AW.ag fun K hK=>?_
  refine AW.aa rfl ?_
  simp
  apply hK;clear hK K
  refine AW.ag fun K hK=>?_
  refine AW.ag fun K1 hK1=>?_
  refine AW.aa rfl ?_
  simp [e1]
  apply hK1;clear hK1 K1
  refine AW.cond (b:=true) (by first|(simp [];done)|(simp [];omega)) ?_
  refine AW.ag fun K1 hK1=>?_
  refine AW.aa rfl ?_
  simp
  apply hK1;clear hK1 K1
  exact AW.ret (κ:=0) (mc.tmp (κ:=0) (X:=.c (.d .nilsl)) (ks:=[]) rfl (by simp) rfl)
 | some es=>
  have h:∀ e∈es,e.length=1:=h
  have hl:es.length≤1000000:=hl
  show ah Tryz.prog G 97 [.c (.d (.sl es))] (.c (.d (.sl es)))
  have hsrc:∀ lv,ga lv 1 (.c (.d (.sl es)))=some (es.length,es.flatten.map CV.d):=fun lv=>iZ h
  refine ah.jC Go.Proofs.Tryz.func97 rfl (by rw [Tryz.ntmps97];simp)  ?_
  rintro⟨_,_,w0,F0,W0,_,bu,β0⟩ rfl rfl rfl rfl
  refine AW.ag fun K hK=>?_
  refine AW.aa rfl ?_
  simp
  apply hK;clear hK K
  refine AW.ag fun K hK=>?_
  refine AW.ag fun K1 hK1=>?_
  refine AW.aa rfl ?_
  simp [e2]
  apply hK1;clear hK1 K1
  refine AW.cond (b:=false) (by first|(simp [];done)|(simp [];omega)) ?_
  refine AW.skip ?_
  simp
  apply hK;clear hK K
  refine AW.ag fun K hK=>?_
  refine AW.aa rfl ?_
  simp [hsrc,iq,eP,keyOf]
  repeat (refine And.intro (by omega) ?_)
  apply hK;clear hK K
  refine AW.ret (κ:=0) (mc.tmp (κ:=0) (X:=.c (.aJ 1 0 es.length 1)) (ks:=[1]) rfl (by simp) ?_)
  exact lf (own:=true) (fz:=false) (T:=3) (by simp) h (by omega)
end Go.Am

namespace Go.Am
open Go.Am.Ty Go.Proofs N
theorem Gu (T:TypeId)(s t:List UInt8):aI Tryz.prog .eql T (.c (.d (.str s))) (.c (.d (.str t)))=some (.c (.d (.bool (decide (s=t)))),[],[],True):=by
 rw [← NA];rfl
theorem Zq (a b c d:CV):hH Tryz.prog 85 [0,1,2,3] [.c a,.c b,.c c,.c d]=some (.agg [a,b,c,d],[],[],True):=by kernel_rfl
theorem Oo:qK Tryz.prog 85=some (4,3,1):=by kernel_rfl
theorem ai.YD {c:Ctx}{f:FuncId}{lv:Key→LB}{K:AV→List (Key × LB)→List Key→Nat→Prop}(κ' kh κb:Key) {T:TypeId}{l:List Int}{x:AV}(n:Nat) (hn:n≤l.length) (hl:l.length≤100) (hk:lv κb=.cells true false T (zK l))
 (hc:ah c.P c.G f [.c (zC (some (l.take n)))] x) (hx:x.pure=true) (hh:lv kh=.hole) (hkh:kh≠κb) (hK:K x [(κb,.cells true true T (zK l))] [kh] κ'):ai c f [.c (.aJ κb 0 n 1)] lv K:=by
 refine ai.Ya κ' kh κb T (zK l) [kh] hc hx hk hh hkh rfl (fun i p q=>?_) (fun a ha j hj=>?_) (by simp) hK
 ·have hi:i=0:=by simp at p;omega
  subst hi
  right
  have h1:(zK l).take n=zK (l.take n):=by simp [zK,List.map_take]
  have hln:(l.take n).length=n:=by rw [List.length_take];omega
  simp only [List.getElem_cons_zero,dZ,cF,az,Nk,Nat.mul_one,Nat.zero_add,List.drop_zero,h1,Ic,Option.map_some]
  rw [if_pos ⟨hn,by omega⟩]
  have h2:=rY ((l.take n).map fun (x:Int)=>DV.int .i64 x)
  rw [List.length_map,hln] at h2
  simp only [Option.map_some,h2]
  simp [zC,zD]
  rfl
 ·simp only [List.mem_singleton] at ha;subst ha
  simp only [iQ,gq,List.mem_cons,az] at hj
  rcases hj with rfl|hj
  ·exact .inr rfl
  ·simp only [List.mem_flatMap] at hj
   obtain⟨y,hy,hj⟩:=hj
   simp only [zK,List.mem_map] at hy
   obtain⟨z,_,rfl⟩:=hy
   cases hj
theorem Fg (G:List (List DV))(o:Option (List Int))(hl:(zL o).length≤1000000):ah Tryz.prog G 97 [.c (zC o)] (.c (zC o)):=by
 rw [C9]
 refine Cv G _ ?_ ?_
 ·cases o with
  | none=>intro e he;cases he
  | some l=>intro e he;simp only [sO,Option.map_some,Option.getD_some,zD,List.mem_map] at he;obtain⟨x,_,rfl⟩:=he;rfl
 ·cases o with
  | none=>simp [sO]
  | some l=>simpa [sO,zD,zL] using hl
theorem kq (op:Int):bN op≤4:=by unfold bN;(repeat' split) <;> omega
theorem AG (op:Int):fF op≤4:=by have:=kq op;unfold fF;split <;> omega
theorem Nd.jq (n:Nd):n.l4.length=4:=rfl
theorem xK (n:Nd):zL (n7 n)=cz n:=by unfold n7 cz;split <;> rfl
set_option maxHeartbeats 1000000 in
theorem Kk (m:Int)(n:Nd):ah Tryz.prog (GG m) 35 [n.A] (.c (zC (n7 n))):=by
 have hkn:=Bm (GG m) n.op
 by_cases hk:1≤n.op∧n.op≤15
 ·obtain⟨rest,hix⟩:=Xq hk.1 hk.2
  have hcl:=Fg (GG m) (some (n.l4.take (bN n.op))) (by simp only [zL,Option.getD_some,List.length_take,Nd.jq];omega)
  have hko:n7 n=some (n.l4.take (bN n.op)):=by unfold n7;rw [if_pos hk]
  have hle:=kq n.op
  rw [hko]
  have hd:decide (1≤n.op∧n.op≤15)=true:=decide_eq_true hk
  rw [hd] at hkn
  generalize bN n.op=kk at *
  refine ah.aU Go.Proofs.Tryz.func35 rfl (by rw [Tryz.ntmps35];simp) ?_
  rintro⟨_,_,w0,F0,W0,_,bu,β0⟩ rfl rfl rfl
  refine AW.ag fun K hK=>?_
  refine AW.aa rfl ?_
  simp
  apply hK;clear hK K
  refine AW.ag fun K hK=>?_
  refine AW.ag fun K1 hK1=>?_
  refine AW.aa rfl ?_
  simp
  refine ai.pure 1 9 (hkn) (by first|(simp;done)|rfl) (by simp) (by first|rfl|simp) ?_
  simp
  apply hK1;clear hK1 K1
  refine AW.cond (b:=false) (by first|(simp [];done)|(simp [];omega)) ?_
  refine AW.skip ?_
  simp
  apply hK;clear hK K
  refine AW.ag fun K hK=>?_
  refine AW.aa rfl ?_
  simp [Zq,aj]
  apply hK;clear hK K
  refine AW.ag fun K hK=>?_
  refine AW.zc ?_
  refine p7.run 5 rfl ?_
  simp [Gz,hix]
  refine p7.fP (x:=.c (.aJ 1 0 kk 1)) (us:=[]) (rds:=[1]) 2 rfl rfl ?_ ?_
  ·simp [Am.fP,Op.operands,s6,oH,Oo]
   omega
  refine p7.run 2 rfl ?_
  simp []
  refine ai.YD (l:=n.l4) (T:=85) 2 9 1 kk hle (by simp [Nd.jq]) rfl hcl (by simp) (by simp) (by decide) ?_
  simp
  refine p7.done ?_
  apply hK;clear hK K
  exact AW.ret (κ:=0) (aK.tmp (κ:=0) rfl 2 (by simp []) (by first|rfl|simp) (by first|rfl|simp) (by first|rfl|simp))
 ·have hko:n7 n=none:=by unfold n7;rw [if_neg hk]
  have hd:decide (1≤n.op∧n.op≤15)=false:=decide_eq_false hk
  rw [hd] at hkn
  rw [hko]
  refine ah.aU Go.Proofs.Tryz.func35 rfl (by rw [Tryz.ntmps35];simp) ?_
  rintro⟨_,_,w0,F0,W0,_,bu,β0⟩ rfl rfl rfl
  refine AW.ag fun K hK=>?_
  refine AW.aa rfl ?_
  simp
  apply hK;clear hK K
  refine AW.ag fun K hK=>?_
  refine AW.ag fun K1 hK1=>?_
  refine AW.aa rfl ?_
  simp
  refine ai.pure 1 9 (hkn) (by first|(simp;done)|rfl) (by simp) (by first|rfl|simp) ?_
  simp
  apply hK1;clear hK1 K1
  refine AW.cond (b:=true) (by first|(simp [];done)|(simp [];omega)) ?_
  refine AW.ag fun K1 hK1=>?_
  refine AW.aa rfl ?_
  simp
  apply hK1;clear hK1 K1
  exact AW.ret (κ:=0) (aK.tmp (κ:=0) rfl 2 (by simp [zC]) (by first|rfl|simp) (by first|rfl|simp) (by first|rfl|simp))
set_option maxHeartbeats 2000000 in
theorem JB (m:Int)(n:Nd)(h1:1≤n.op)(h2:n.op≤15):ah Tryz.prog (GG m) 162 [n.A] (.c (.d (.bool (kD n)))):=by
 obtain⟨rest,hix⟩:=Xq h1 h2
 have hle:=AG n.op
 have hib:kD n=((n.l4.drop (fF n.op)).all (fun x=>decide (x=0)) && (decide (n.v=[]) || decide (n.op=3))):=rfl
 have hzk:[CV.d (.int .i64 n.a),.d (.int .i64 n.b),.d (.int .i64 n.c),.d (.int .i64 n.d)]=zK n.l4:=rfl
 have fin:(n.l4.drop (fF n.op)).all (fun x=>decide (x=0))=true→kD n=(decide (n.v=[]) || decide (n.op=3)):=by intro h;rw [hib,h];rfl
 have lp0:∀ lv,eE Tryz.prog 30 lv (.c (.d (.sl [])))=some (.c (.d (.int .i64 0)),[],[],True):=fun lv=>Zf (T:=30) (by simp) lv (some [])
 refine ah.aU Go.Proofs.Tryz.func162 rfl (by rw [Tryz.ntmps162];simp) ?_
 rintro⟨_,_,w0,F0,W0,_,bu,β0⟩ rfl rfl rfl
 refine AW.ag fun K hK=>?_
 refine AW.aa rfl ?_
 simp
 apply hK;clear hK K
 refine AW.ag fun K hK=>?_
 refine AW.aa rfl ?_
 simp [Zq,aj]
 apply hK;clear hK K
 refine AW.ag fun K hK=>?_
 have tail:∀ (fr:Nat→AV) (κ:Nat) (lv:Key→LB),fr 1=.c (.ptr 0 0)→lv 0=.cells true false 55 [.d (.int .i64 n.op),.d (.int .i64 n.a),.d (.int .i64 n.b),.d (.int .i64 n.c),.d (.int .i64 n.d),.d (.int .i64 n.f),.d (.str n.v)]→lv 9=.hole →
  (n.l4.drop (fF n.op)).all (fun x=>decide (x=0))=true→K ⟨fr,lv⟩ κ:=by
  intro fr κ lv z1 hl0 h9 hall
  have hf:=fin hall
  apply hK
  by_cases hv:n.v=[]
  ·refine AW.ag fun K3 hK3=>?_
   refine AW.aa rfl ?_
   simp [z1,hl0,Gu,hv]
   apply hK3;clear hK3 K3
   exact AW.ret (κ:=0) (aK.tmp (κ:=0) rfl 9 (by simp [hf,hv]) rfl (by simp [h9]) rfl)
  ·refine AW.ag fun K3 hK3=>?_
   refine AW.aa rfl ?_
   simp [z1,hl0,Gu,hv]
   apply hK3;clear hK3 K3
   exact AW.ret (κ:=0) (aK.tmp (κ:=0) rfl 9 (by simp [hf,hv]) rfl (by simp [h9]) rfl)
 refine AW.ag fun K1 hK1=>?_
 by_cases hu:fF n.op=4
 ·refine AW.zc ?_
  refine p7.run 5 rfl ?_
  simp [Gz,hix]
  refine p7.CH (κ:=1) (off:=0) (n:=4) (e:=3) (sz:=1) (l:=4) (own:=true) (fz:=false) (T':=85) 2 rfl rfl rfl (by simp) (by simp;rfl) Oo (by simp [hu]) (by simp) (by decide) (by decide) ?_
  refine p7.run 2 rfl ?_
  simp [lp0]
  refine p7.done ?_
  apply hK1;clear hK1 K1
  refine AW.block ?_
  refine AW.b9 (fun (_:Unit)=>⟨bp [(1,.c (.ptr 0 0)),(20,.c (.d (.sl []))),(21,.c (.d (.int .i64 0))),(22,.c (.d (.int .i64 0)))],
   aB (aB (fun _=>.hole) 0 (.cells true false 55 [.d (.int .i64 n.op),.d (.int .i64 n.a),.d (.int .i64 n.b),.d (.int .i64 n.c),.d (.int .i64 n.d),.d (.int .i64 n.f),.d (.str n.v)])) 1 (.cells true false 85 (zK n.l4))⟩) 2
   (fun _=>True) (fun _=>0) () (Le.mk' _ rfl (by repeat (first|exact aL|refine aN ?_ _ _ _ _ _|(refine aq ?_ _)|(refine aQ ?_ _ _ _)|(refine au ?_ _)|simp)) (by simp)) trivial ?_
  rintro⟨⟩ _
  refine AW.ag fun K3 hK3=>?_
  refine AW.aa rfl ?_
  simp
  apply hK3;clear hK3 K3
  refine AW.ag fun K3 hK3=>?_
  refine AW.cond (b:=false) (by first|(simp [];done)|(simp [];omega)) ?_
  refine AW.exit ?_
  simp
  exact tail _ _ _ (by simp) (by simp) (by simp) (by rw [hu];rfl)
 have hu4:fF n.op<4:=by omega
 have hdrop:∀ i,i<4 - fF n.op→fF n.op+i<n.l4.length:=by intro i hi;rw [Nd.jq];omega
 generalize hue:fF n.op=u at *
 refine AW.zc ?_
 refine p7.run 5 rfl ?_
 simp [Gz,hix]
 refine p7.fP (x:=.c (.aJ 1 u (4 - u) 1)) (us:=[]) (rds:=[1]) 2 rfl rfl ?_ ?_
 ·simp [Am.fP,Op.operands,s6,oH,Oo]
  omega
 have e4:((4 - u:Nat):Int)≤9223372036854775807:=by omega
 refine p7.run 2 rfl ?_
 simp [e4]
 refine p7.done ?_
 apply hK1;clear hK1 K1
 refine AW.block ?_
 refine AW.b9 (fun (i:Nat)=>⟨bp [(1,.c (.ptr 0 0)),(20,.c (.aJ 1 u (4 - u) 1)),(21,.c (.d (.int .i64 (4 - u:Nat)))),(22,.c (.d (.int .i64 i)))],
  aB (aB (fun _=>.hole) 0 (.cells true false 55 [.d (.int .i64 n.op),.d (.int .i64 n.a),.d (.int .i64 n.b),.d (.int .i64 n.c),.d (.int .i64 n.d),.d (.int .i64 n.f),.d (.str n.v)])) 1 (.cells true false 85 (zK n.l4))⟩) 2
  (fun i=>i≤4 - u∧∀ j (hj:j<i) (h:u+j<n.l4.length),n.l4[u+j]=0) (fun i=>4 - u - i) 0 (Le.mk' _ rfl (by repeat (first|exact aL|refine aN ?_ _ _ _ _ _|(refine aq ?_ _)|(refine aQ ?_ _ _ _)|(refine au ?_ _)|simp)) (by simp)) ⟨by omega,fun j hj=>absurd hj (Nat.not_lt_zero j)⟩ ?_
 rintro i ⟨hi,hall⟩
 try simp only at hi hall
 refine AW.ag fun K3 hK3=>?_
 refine AW.aa rfl ?_
 simp
 apply hK3;clear hK3 K3
 refine AW.ag fun K2 hK2=>?_
 by_cases hlt:i<4 - u
 ·have hlt':(i:Int)<((4 - u:Nat):Int):=by omega
  refine AW.cond (b:=true) (by first|(simp [hlt'];done)|(simp [hlt'];omega)) ?_
  refine AW.skip ?_
  simp
  apply hK2
  refine AW.ag fun K3 hK3=>?_
  refine AW.block ?_
  refine AW.ag fun K4 hK4=>?_
  have hx:=jb (P:=Tryz.prog) (T:=3) (by simp) (hdrop i hlt)
  refine AW.aa rfl ?_
  simp [hlt',hx]
  apply hK4;clear hK4 K4
  refine AW.ag fun K4 hK4=>?_
  refine AW.aa rfl ?_
  simp
  apply hK4;clear hK4 K4
  by_cases h0:n.l4[u+i]'(hdrop i hlt)=0
  ·refine AW.cond (b:=false) (by first|(simp [h0];done)|(simp [h0];omega)) ?_
   refine AW.skip ?_
   simp
   apply hK3
   have f12:=cX (n:=(i:Int)+1) (by omega) (by omega)
   refine AW.aa rfl ?_
   simp [f12]
   refine⟨i+1,Le.mk' _ (by simp) (by repeat (first|exact aL|refine aN ?_ _ _ _ _ _|(refine aq ?_ _)|(refine aQ ?_ _ _ _)|(refine au ?_ _)|simp)) (by simp),⟨by omega,fun j hj h=>?_⟩,by omega⟩
   by_cases hji:j=i
   ·subst hji;exact h0
   ·exact hall j (by omega) h
  ·refine AW.cond (b:=true) (by first|(simp [h0];done)|(simp [h0];omega)) ?_
   refine AW.ag fun K4 hK4=>?_
   refine AW.aa rfl ?_
   simp
   apply hK4;clear hK4 K4
   have hb:kD n=false:=by
    rw [hib]
    have:(n.l4.drop u).all (fun x=>decide (x=0))=false:=by
     rw [List.all_eq_false]
     refine⟨n.l4[u+i]'(hdrop i hlt),?_,by simpa using h0⟩
     rw [List.mem_iff_getElem]
     exact⟨i,by rw [List.length_drop,Nd.jq];omega,by simp⟩
    rw [this];rfl
   exact AW.ret (κ:=0) (aK.tmp (κ:=0) rfl 2 (by simp [hb]) (by first|rfl|simp) (by first|rfl|simp) (by first|rfl|simp))
 ·have hlt':¬ (i:Int)<((4 - u:Nat):Int):=by omega
  refine AW.cond (b:=false) (by first|(simp [hlt'];done)|(simp [hlt'];omega)) ?_
  refine AW.exit ?_
  simp
  refine tail _ _ _ (by simp) (by simp) (by simp) ?_
  rw [List.all_eq_true]
  intro x hx
  obtain⟨j,hj,rfl⟩:=List.mem_iff_getElem.1 hx
  rw [List.length_drop,Nd.jq] at hj
  have:=hall j (by omega) (by rw [Nd.jq];omega)
  simpa using this
end Go.Am

namespace Go.Am
open Go.Am.Ty Go.Proofs N
def lU (E:TypeId):Option (List (List DV))→LB
 | none=>.nils
 | some es=>.cells true false E (es.flatten.map CV.d)
theorem BI (es:List (List DV))(g:Key→Key):(es.flatten.map CV.d).map (CV.bt g)=es.flatten.map CV.d:=by
 rw [List.map_map];rfl
theorem kI (E:TypeId)(es:List (List DV))(g:Key→Key):(LB.cells true false E (es.flatten.map CV.d)).like (.cells true false E (es.flatten.map CV.d)) g:=LB.vt.2 ⟨rfl,rfl,(BI es g).symm,id⟩
set_option maxHeartbeats 1000000 in
theorem A2 (G:List (List DV))(o:Option (List (List DV)))(h:∀ e∈sO o,e.length=2)(hl:(sO o).length≤1000000):aC Tryz.prog G 47 [.c (dg o)] [] (.ret (.c (.aJ 1000 0 (sO o).length 2)) [] [lU 81 o]):=by
 cases o with
 | none=>exact aC.tr (Ch G none h hl)
 | some es=>
  have e2:∀ es,aI Tryz.prog .eql 22 (.c (.d (.sl es))) (.c (.d .nilsl))=some (.c (.d (.bool false)),[],[],True):=fun es=>by kernel_rfl
  have h:∀ e∈es,e.length=2:=h
  have hl:es.length≤1000000:=hl
  show aC Tryz.prog G 47 [.c (.d (.sl es))] [] (.ret (.c (.aJ 1000 0 es.length 2)) [] [.cells true false 81 (es.flatten.map CV.d)])
  have hsrc:∀ lv,ga lv 2 (.c (.d (.sl es)))=some (es.length,es.flatten.map CV.d):=fun lv=>iZ h
  refine aC.vm Go.Proofs.Tryz.func47 rfl (by rw [Tryz.ntmps47];simp)  ?_
  rintro⟨_,_,w0,F0,W0,_,bu,β0⟩ rfl rfl rfl rfl
  refine AW.ag fun K hK=>?_
  refine AW.aa rfl ?_
  simp
  apply hK;clear hK K
  refine AW.ag fun K hK=>?_
  refine AW.ag fun K1 hK1=>?_
  refine AW.aa rfl ?_
  simp [e2]
  apply hK1;clear hK1 K1
  refine AW.cond (b:=false) (by first|(simp [];done)|(simp [];omega)) ?_
  refine AW.skip ?_
  simp
  apply hK;clear hK K
  refine AW.ag fun K hK=>?_
  refine AW.aa rfl ?_
  simp [hsrc,iq,eP,keyOf,-List.map_flatten]
  repeat (refine And.intro (by omega) ?_)
  apply hK;clear hK K
  refine AW.ret (κ:=0) ⟨[(1000,1,.cells true false 81 (es.flatten.map CV.d))],9,nI _,by simp,by simp,by simp,?_,rfl,?_⟩
  ·intro e he
   rw [List.mem_singleton.1 he]
   exact kI 81 es _
  ·show cq _ _ [.tmp 2]=_
   simp [cq,iB,j8,cH]
set_option maxHeartbeats 1000000 in
theorem Aj (G:List (List DV))(o:Option (List (List DV)))(h:∀ e∈sO o,e.length=3)(hl:(sO o).length≤1000000):aC Tryz.prog G 48 [.c (dg o)] [] (.ret (.c (.aJ 1000 0 (sO o).length 3)) [] [lU 67 o]):=by
 cases o with
 | none=>exact aC.tr (CL G none h hl)
 | some es=>
  have e2:∀ es,aI Tryz.prog .eql 23 (.c (.d (.sl es))) (.c (.d .nilsl))=some (.c (.d (.bool false)),[],[],True):=fun es=>by kernel_rfl
  have h:∀ e∈es,e.length=3:=h
  have hl:es.length≤1000000:=hl
  show aC Tryz.prog G 48 [.c (.d (.sl es))] [] (.ret (.c (.aJ 1000 0 es.length 3)) [] [.cells true false 67 (es.flatten.map CV.d)])
  have hsrc:∀ lv,ga lv 3 (.c (.d (.sl es)))=some (es.length,es.flatten.map CV.d):=fun lv=>iZ h
  refine aC.vm Go.Proofs.Tryz.func48 rfl (by rw [Tryz.ntmps48];simp)  ?_
  rintro⟨_,_,w0,F0,W0,_,bu,β0⟩ rfl rfl rfl rfl
  refine AW.ag fun K hK=>?_
  refine AW.aa rfl ?_
  simp
  apply hK;clear hK K
  refine AW.ag fun K hK=>?_
  refine AW.ag fun K1 hK1=>?_
  refine AW.aa rfl ?_
  simp [e2]
  apply hK1;clear hK1 K1
  refine AW.cond (b:=false) (by first|(simp [];done)|(simp [];omega)) ?_
  refine AW.skip ?_
  simp
  apply hK;clear hK K
  refine AW.ag fun K hK=>?_
  refine AW.aa rfl ?_
  simp [hsrc,iq,eP,keyOf,-List.map_flatten]
  repeat (refine And.intro (by omega) ?_)
  apply hK;clear hK K
  refine AW.ret (κ:=0) ⟨[(1000,1,.cells true false 67 (es.flatten.map CV.d))],9,nI _,by simp,by simp,by simp,?_,rfl,?_⟩
  ·intro e he
   rw [List.mem_singleton.1 he]
   exact kI 67 es _
  ·show cq _ _ [.tmp 2]=_
   simp [cq,iB,j8,cH]
set_option maxHeartbeats 1000000 in
theorem yL (G:List (List DV))(o:Option (List (List DV)))(h:∀ e∈sO o,e.length=7)(hl:(sO o).length≤1000000):aC Tryz.prog G 156 [.c (dg o)] [] (.ret (.c (.aJ 1000 0 (sO o).length 7)) [] [lU 55 o]):=by
 cases o with
 | none=>exact aC.tr (Ag G none h hl)
 | some es=>
  have e2:∀ es,aI Tryz.prog .eql 24 (.c (.d (.sl es))) (.c (.d .nilsl))=some (.c (.d (.bool false)),[],[],True):=fun es=>by kernel_rfl
  have h:∀ e∈es,e.length=7:=h
  have hl:es.length≤1000000:=hl
  show aC Tryz.prog G 156 [.c (.d (.sl es))] [] (.ret (.c (.aJ 1000 0 es.length 7)) [] [.cells true false 55 (es.flatten.map CV.d)])
  have hsrc:∀ lv,ga lv 7 (.c (.d (.sl es)))=some (es.length,es.flatten.map CV.d):=fun lv=>iZ h
  refine aC.vm Go.Proofs.Tryz.func156 rfl (by rw [Tryz.ntmps156];simp)  ?_
  rintro⟨_,_,w0,F0,W0,_,bu,β0⟩ rfl rfl rfl rfl
  refine AW.ag fun K hK=>?_
  refine AW.aa rfl ?_
  simp
  apply hK;clear hK K
  refine AW.ag fun K hK=>?_
  refine AW.ag fun K1 hK1=>?_
  refine AW.aa rfl ?_
  simp [e2]
  apply hK1;clear hK1 K1
  refine AW.cond (b:=false) (by first|(simp [];done)|(simp [];omega)) ?_
  refine AW.skip ?_
  simp
  apply hK;clear hK K
  refine AW.ag fun K hK=>?_
  refine AW.aa rfl ?_
  simp [hsrc,iq,eP,keyOf,-List.map_flatten]
  repeat (refine And.intro (by omega) ?_)
  apply hK;clear hK K
  refine AW.ret (κ:=0) ⟨[(1000,1,.cells true false 55 (es.flatten.map CV.d))],9,nI _,by simp,by simp,by simp,?_,rfl,?_⟩
  ·intro e he
   rw [List.mem_singleton.1 he]
   exact kI 55 es _
  ·show cq _ _ [.tmp 2]=_
   simp [cq,iB,j8,cH]
set_option maxHeartbeats 1000000 in
theorem xL (G:List (List DV))(o:Option (List (List DV)))(h:∀ e∈sO o,e.length=2)(hl:(sO o).length≤1000000):aC Tryz.prog G 157 [.c (dg o)] [] (.ret (.c (.aJ 1000 0 (sO o).length 2)) [] [lU 69 o]):=by
 cases o with
 | none=>exact aC.tr (Ax G none h hl)
 | some es=>
  have e2:∀ es,aI Tryz.prog .eql 25 (.c (.d (.sl es))) (.c (.d .nilsl))=some (.c (.d (.bool false)),[],[],True):=fun es=>by kernel_rfl
  have h:∀ e∈es,e.length=2:=h
  have hl:es.length≤1000000:=hl
  show aC Tryz.prog G 157 [.c (.d (.sl es))] [] (.ret (.c (.aJ 1000 0 es.length 2)) [] [.cells true false 69 (es.flatten.map CV.d)])
  have hsrc:∀ lv,ga lv 2 (.c (.d (.sl es)))=some (es.length,es.flatten.map CV.d):=fun lv=>iZ h
  refine aC.vm Go.Proofs.Tryz.func157 rfl (by rw [Tryz.ntmps157];simp)  ?_
  rintro⟨_,_,w0,F0,W0,_,bu,β0⟩ rfl rfl rfl rfl
  refine AW.ag fun K hK=>?_
  refine AW.aa rfl ?_
  simp
  apply hK;clear hK K
  refine AW.ag fun K hK=>?_
  refine AW.ag fun K1 hK1=>?_
  refine AW.aa rfl ?_
  simp [e2]
  apply hK1;clear hK1 K1
  refine AW.cond (b:=false) (by first|(simp [];done)|(simp [];omega)) ?_
  refine AW.skip ?_
  simp
  apply hK;clear hK K
  refine AW.ag fun K hK=>?_
  refine AW.aa rfl ?_
  simp [hsrc,iq,eP,keyOf,-List.map_flatten]
  repeat (refine And.intro (by omega) ?_)
  apply hK;clear hK K
  refine AW.ret (κ:=0) ⟨[(1000,1,.cells true false 69 (es.flatten.map CV.d))],9,nI _,by simp,by simp,by simp,?_,rfl,?_⟩
  ·intro e he
   rw [List.mem_singleton.1 he]
   exact kI 69 es _
  ·show cq _ _ [.tmp 2]=_
   simp [cq,iB,j8,cH]
end Go.Am

namespace Go.Am
open Go.Am.Ty Go.Proofs N
theorem FU (G:List (List DV))(p:PD)(hp:p.ok)(i:Nat)(hi:i<p.nf):ah Tryz.prog G 83 [p.A,.c (.d (.int .i64 i))] (.c (.d (.int .i64 (dR p 0 i)))):=by
 have hx:=fun lv=>ZA hp lv (i:Int) (by omega) (by omega)
 have hc:=jt G (p.fm i).1 (p.fm i).2
 simp only [Int.toNat_natCast] at hx
 refine ah.aU Go.Proofs.Tryz.func83 rfl (by rw [Tryz.ntmps83];simp) ?_
 rintro⟨_,_,w0,F0,W0,_,bu,β0⟩ rfl rfl rfl
 refine AW.ag fun K hK=>?_
 refine AW.aa rfl ?_
 simp
 apply hK;clear hK K
 refine AW.ag fun K hK=>?_
 refine AW.aa rfl ?_
 simp [hx]
 refine ai.pure 1 9 (hc) (by first|(simp;done)|rfl) (by simp) (by first|rfl|simp) ?_
 simp
 apply hK;clear hK K
 exact AW.ret (κ:=0) (aK.tmp (κ:=0) rfl 4 (by simp [dR]) (by first|rfl|simp) (by first|rfl|simp) (by first|rfl|simp))
theorem FO (n:Nd):(cz n).length≤4:=by
 have:=kq n.op
 unfold cz
 split
 ·rw [List.length_take,Nd.jq];omega
 ·exact Nat.zero_le _
theorem Nc (p:PD)(lv:Key→LB)(hp:p.ok)(i:Nat)(hi:i<p.nn):ak Tryz.prog 24 lv (.c (dg p.nodes)) (.c (.d (.int .i64 (i:Int))))=some (.c (.d (.ptr (p.nd i).e)),[],[],True):=by
 have:=YF hp lv (i:Int) (by omega) (by omega)
 rwa [Int.toNat_natCast] at this
set_option maxHeartbeats 8000000 in
set_option maxRecDepth 20000 in
theorem Lq (m:Int)(p:PD)(hp:p.ok)(i:Nat)(hi:i<p.nn)(hn2:p.nn≤1000):ah Tryz.prog (GG m) 85 [p.A,.c (.d (.int .i64 i))] (.c (.d (.int .i64 (dR p 2 i)))):=by
 have hx:=fun lv=>Nc p lv hp i hi
 have hE:dR p 2 i=rM p i (p.nd i):=rfl
 rw [hE]
 obtain⟨n,hn⟩:∃ n,p.nd i=n:=⟨_,rfl⟩
 simp only [hn] at hx ⊢
 have hkn:=Bm (GG m) n.op
 have hwf:=gY (GG m) n.f p.nf
 have hwa:=gY (GG m) n.a p.ni
 have hws:=gY (GG m) n.a p.ns
 have lvN:List CV:=[.d (.int .i64 n.op),.d (.int .i64 n.a),.d (.int .i64 n.b),.d (.int .i64 n.c),.d (.int .i64 n.d),.d (.int .i64 n.f),.d (.str n.v)]
 refine ah.aU Go.Proofs.Tryz.func85 rfl (by rw [Tryz.ntmps85];simp) ?_
 rintro⟨_,_,w0,F0,W0,_,bu,β0⟩ rfl rfl rfl
 refine AW.ag fun K hK=>?_
 refine AW.aa rfl ?_
 simp
 apply hK;clear hK K
 refine AW.ag fun K hK=>?_
 refine AW.aa rfl ?_
 simp [hx,aj]
 apply hK;clear hK K
 refine AW.ag fun K hK=>?_
 refine AW.block ?_
 refine AW.ag fun K1 hK1=>?_
 by_cases h1:1≤n.op∧n.op≤15
 rotate_left
 ·have hd:decide (1≤n.op∧n.op≤15)=false:=decide_eq_false h1
  have hr:rM p i n=2:=by unfold rM;rw [if_pos h1]
  rw [hd] at hkn
  refine AW.aa rfl ?_
  simp
  refine ai.pure 2 9 (hkn) (by first|(simp;done)|rfl) (by simp) (by first|rfl|simp) ?_
  simp
  apply hK1;clear hK1 K1
  refine AW.cond (b:=true) (by first|(simp [];done)|(simp [];omega)) ?_
  refine AW.ag fun K1 hK1=>?_
  refine AW.aa rfl ?_
  simp
  apply hK1;clear hK1 K1
  exact AW.ret (κ:=0) (aK.tmp (κ:=0) rfl 4 (by simp [hr]) (by first|rfl|simp) (by first|rfl|simp) (by first|rfl|simp))
 have hid:=JB m n h1.1 h1.2
 have hd:decide (1≤n.op∧n.op≤15)=true:=decide_eq_true h1
 rw [hd] at hkn
 cases hib:kD n with
 | false=>
  have hr:rM p i n=2:=by unfold rM;rw [if_neg (not_not_intro h1),if_pos hib]
  rw [hib] at hid
  refine AW.aa rfl ?_
  simp
  refine ai.pure 2 9 (hkn) (by first|(simp;done)|rfl) (by simp) (by first|rfl|simp) ?_
  simp
  refine ai.pure 2 9 (hid) (by first|(simp;done)|rfl) (by simp) (by first|rfl|simp) ?_
  simp
  apply hK1;clear hK1 K1
  refine AW.cond (b:=true) (by first|(simp [];done)|(simp [];omega)) ?_
  refine AW.ag fun K1 hK1=>?_
  refine AW.aa rfl ?_
  simp
  apply hK1;clear hK1 K1
  exact AW.ret (κ:=0) (aK.tmp (κ:=0) rfl 4 (by simp [hr]) (by first|rfl|simp) (by first|rfl|simp) (by first|rfl|simp))
 | true=>
 rw [hib] at hid
 have ib:¬ kD n=false:=by rw [hib];decide
 refine AW.aa rfl ?_
 simp
 refine ai.pure 2 9 (hkn) (by first|(simp;done)|rfl) (by simp) (by first|rfl|simp) ?_
 simp
 refine ai.pure 2 9 (hid) (by first|(simp;done)|rfl) (by simp) (by first|rfl|simp) ?_
 simp
 apply hK1;clear hK1 K1
 refine AW.cond (b:=false) (by first|(simp [];done)|(simp [];omega)) ?_
 refine AW.ag fun K1 hK1=>?_
 by_cases h2:0≤n.f∧n.f<p.nf
 rotate_left
 ·have hd2:decide (0≤n.f∧n.f<(p.nf:Int))=false:=decide_eq_false h2
  have hr:rM p i n=7:=by unfold rM;rw [if_neg (not_not_intro h1),if_neg ib,if_pos h2]
  rw [hd2] at hwf
  refine AW.aa rfl ?_
  simp [Tt]
  refine ai.pure 2 9 (hwf) (by first|(simp;done)|rfl) (by simp) (by first|rfl|simp) ?_
  simp
  apply hK1;clear hK1 K1
  refine AW.cond (b:=true) (by first|(simp [];done)|(simp [];omega)) ?_
  refine AW.ag fun K1 hK1=>?_
  refine AW.aa rfl ?_
  simp
  apply hK1;clear hK1 K1
  exact AW.ret (κ:=0) (aK.tmp (κ:=0) rfl 4 (by simp [hr]) (by first|rfl|simp) (by first|rfl|simp) (by first|rfl|simp))
 have hd2:decide (0≤n.f∧n.f<(p.nf:Int))=true:=decide_eq_true h2
 rw [hd2] at hwf
 refine AW.aa rfl ?_
 simp [Tt]
 refine ai.pure 2 9 (hwf) (by first|(simp;done)|rfl) (by simp) (by first|rfl|simp) ?_
 simp
 apply hK1;clear hK1 K1
 refine AW.cond (b:=false) (by first|(simp [];done)|(simp [];omega)) ?_
 have r2:rM p i n=if n.op=1∧¬ (0≤n.a∧n.a<p.ni) then 7 else if n.op=1∧(p.CX n.a.toNat).f≠n.f then 143 else if n.op=2∧((i:Int)<p.head∨¬ (0≤n.a∧n.a<p.ns)) then 7 else if n.op=3 then jg n.v else if (cz n).all (fR p i) then 0 else 7:=by
  unfold rM;rw [if_neg (not_not_intro h1),if_neg ib,if_neg (not_not_intro h2)]
 have tail:∀ (fr:Nat→AV) (κ:Nat),fr 1=.c (.d (.int .i64 i))→fr 2=.c (.ptr 0 0)→fr 5=.c (.ptr 1 0)→(rM p i n=if (cz n).all (fR p i) then 0 else 7) →
  K ⟨fr,aB (aB (fun _=>.hole) 0 (.cells true false 154 p.cs)) 1 (.cells true false 55 [.d (.int .i64 n.op),.d (.int .i64 n.a),.d (.int .i64 n.b),.d (.int .i64 n.c),.d (.int .i64 n.d),.d (.int .i64 n.f),.d (.str n.v)])⟩ κ:=by
  intro fr κ z1 z2 z5 hr
  have hks:=Kk m n
  have hkl:=FO n
  have lpk:∀ lv,eE Tryz.prog 30 lv (.c (zC (n7 n)))=some (.c (.d (.int .i64 (cz n).length)),[],[],True):=fun lv=>by rw [Zf (by simp),xK]
  have ixk:∀ lv (j:Nat) (hj:j<(cz n).length),ak Tryz.prog 30 lv (.c (zC (n7 n))) (.c (.d (.int .i64 (j:Int))))=some (.c (.d (.ptr [.int .i64 (cz n)[j]])),[],[],True):=fun lv j hj=>by
   rw [ZI (by simp) lv _ (by rw [xK];exact hj)]
   simp only [xK]
  generalize n7 n=ko at *
  generalize cz n=kl at *
  apply hK
  refine AW.ag fun K3 hK3=>?_
  refine AW.ag fun K4 hK4=>?_
  refine AW.aa rfl ?_
  simp [z5]
  refine ai.pure 2 9 (hks) (by first|(simp;done)|rfl) (by simp) (by first|rfl|simp) ?_
  simp [lpk]
  apply hK4;clear hK4 K4
  refine AW.block ?_
  refine AW.b9 (fun (j:Nat)=>⟨bp [(1,.c (.d (.int .i64 i))),(2,.c (.ptr 0 0)),(93,.c (zC ko)),(94,.c (.d (.int .i64 kl.length))),(95,.c (.d (.int .i64 j)))],
   aB (aB (fun _=>.hole) 0 (.cells true false 154 p.cs)) 1 (.cells true false 55 [.d (.int .i64 n.op),.d (.int .i64 n.a),.d (.int .i64 n.b),.d (.int .i64 n.c),.d (.int .i64 n.d),.d (.int .i64 n.f),.d (.str n.v)])⟩) 2
   (fun j=>j≤kl.length∧∀ q (hq:q<j) (h:q<kl.length),fR p i kl[q]=true) (fun j=>kl.length - j) 0 (Le.mk' _ (by simp) (by repeat (first|exact aL|refine aN ?_ _ _ _ _ _|(refine aq ?_ _)|(refine aQ ?_ _ _ _)|(refine au ?_ _)|simp)) (by simp [z1,z2])) ⟨Nat.zero_le _,fun q hq=>absurd hq (Nat.not_lt_zero q)⟩ ?_
  rintro j ⟨hj,hall⟩
  try simp only at hj hall
  refine AW.ag fun K5 hK5=>?_
  refine AW.aa rfl ?_
  simp
  apply hK5;clear hK5 K5
  refine AW.ag fun K6 hK6=>?_
  by_cases hlt:j<kl.length
  ·have hlt':(j:Int)<(kl.length:Int):=by omega
   refine AW.cond (b:=true) (by first|(simp [hlt'];done)|(simp [hlt'];omega)) ?_
   refine AW.skip ?_
   simp
   apply hK6
   refine AW.ag fun K7 hK7=>?_
   refine AW.block ?_
   refine AW.ag fun K8 hK8=>?_
   have hxk:=fun lv=>ixk lv j hlt
   refine AW.aa rfl ?_
   simp [hxk]
   apply hK8;clear hK8 K8
   refine AW.ag fun K8 hK8=>?_
   have hse:=JD (GG m) p i kl[j]
   refine AW.aa rfl ?_
   simp
   refine ai.pure 2 9 (hse) (by first|(simp;done)|rfl) (by simp) (by first|rfl|simp) ?_
   simp
   apply hK8;clear hK8 K8
   cases hs:fR p i kl[j] with
   | true=>
    refine AW.cond (b:=false) (by first|(simp [];done)|(simp [];omega)) ?_
    refine AW.skip ?_
    simp
    apply hK7
    have f12:=cX (n:=(j:Int)+1) (by omega) (by omega)
    refine AW.aa rfl ?_
    simp [f12]
    refine⟨j+1,Le.mk' _ (by simp) (by repeat (first|exact aL|refine aN ?_ _ _ _ _ _|(refine aq ?_ _)|(refine aQ ?_ _ _ _)|(refine au ?_ _)|simp)) (by simp),⟨by omega,fun q hq h=>?_⟩,by omega⟩
    by_cases hji:q=j
    ·subst hji;exact hs
    ·exact hall q (by omega) h
   | false=>
    refine AW.cond (b:=true) (by first|(simp [];done)|(simp [];omega)) ?_
    refine AW.ag fun K8 hK8=>?_
    refine AW.aa rfl ?_
    simp
    apply hK8;clear hK8 K8
    have hb:rM p i n=7:=by
     rw [hr,if_neg]
     rw [Bool.not_eq_true,List.all_eq_false]
     exact⟨kl[j],List.getElem_mem hlt,by rw [hs];decide⟩
    exact AW.ret (κ:=0) (aK.tmp (κ:=0) rfl 4 (by simp [hb]) (by first|rfl|simp) (by first|rfl|simp) (by first|rfl|simp))
  ·have hlt':¬ (j:Int)<(kl.length:Int):=by omega
   refine AW.cond (b:=false) (by first|(simp [hlt'];done)|(simp [hlt'];omega)) ?_
   refine AW.exit ?_
   simp
   apply hK3
   have hb:rM p i n=0:=by
    rw [hr,if_pos]
    rw [List.all_eq_true]
    intro x hx
    obtain⟨q,hq,rfl⟩:=List.mem_iff_getElem.1 hx
    exact hall q (by omega) hq
   refine AW.ag fun K5 hK5=>?_
   refine AW.aa rfl ?_
   simp
   apply hK5;clear hK5 K5
   exact AW.ret (κ:=0) (aK.tmp (κ:=0) rfl 4 (by simp [hb]) (by first|rfl|simp) (by first|rfl|simp) (by first|rfl|simp))
 by_cases h3:n.op=1
 ·have n2:¬ n.op=2:=by omega
  have n3:¬ n.op=3:=by omega
  have t3:(n.op=1)=True:=eq_true h3
  by_cases h4:0≤n.a∧n.a<p.ni
  rotate_left
  ·have hd4:decide (0≤n.a∧n.a<(p.ni:Int))=false:=decide_eq_false h4
   have hr:rM p i n=7:=by rw [r2,if_pos ⟨h3,h4⟩]
   rw [hd4] at hwa
   refine AW.ag fun K1 hK1=>?_
   refine AW.aa rfl ?_
   simp [t3,XQ]
   refine ai.pure 2 9 (hwa) (by first|(simp;done)|rfl) (by simp) (by first|rfl|simp) ?_
   simp [t3]
   apply hK1;clear hK1 K1
   refine AW.cond (b:=true) (by first|(simp [];done)|(simp [];omega)) ?_
   refine AW.ag fun K1 hK1=>?_
   refine AW.aa rfl ?_
   simp
   apply hK1;clear hK1 K1
   exact AW.ret (κ:=0) (aK.tmp (κ:=0) rfl 4 (by simp [hr]) (by first|rfl|simp) (by first|rfl|simp) (by first|rfl|simp))
  have hd4:decide (0≤n.a∧n.a<(p.ni:Int))=true:=decide_eq_true h4
  rw [hd4] at hwa
  have hxi:=fun lv=>Y8 hp lv n.a h4.1 h4.2
  refine AW.ag fun K1 hK1=>?_
  refine AW.aa rfl ?_
  simp [t3,XQ]
  refine ai.pure 2 9 (hwa) (by first|(simp;done)|rfl) (by simp) (by first|rfl|simp) ?_
  simp [t3]
  apply hK1;clear hK1 K1
  refine AW.cond (b:=false) (by first|(simp [];done)|(simp [];omega)) ?_
  refine AW.ag fun K1 hK1=>?_
  by_cases h5:(p.CX n.a.toNat).f=n.f
  ·have hr:rM p i n=if (cz n).all (fR p i) then 0 else 7:=by
    rw [r2,if_neg (fun h=>h.2 h4),if_neg (fun h=>h.2 h5),if_neg (fun h=>n2 h.1),if_neg n3]
   refine AW.jj mixed (by kernel_rfl) rfl rfl ?_
   simp [t3,hxi,h5]
   apply hK1;clear hK1 K1
   refine AW.cond (b:=false) (by first|(simp [];done)|(simp [];omega)) ?_
   refine AW.ag fun K1 hK1=>?_
   refine AW.aa rfl ?_
   simp [n2]
   apply hK1;clear hK1 K1
   refine AW.cond (b:=false) (by first|(simp [];done)|(simp [];omega)) ?_
   refine AW.ag fun K1 hK1=>?_
   refine AW.aa rfl ?_
   simp [n3]
   apply hK1;clear hK1 K1
   refine AW.cond (b:=false) (by first|(simp [];done)|(simp [];omega)) ?_
   refine AW.skip ?_
   simp
   exact tail _ _ (by simp) (by simp) (by simp) hr
  ·have hr:rM p i n=143:=by rw [r2,if_neg (fun h=>h.2 h4),if_pos ⟨h3,h5⟩]
   refine AW.jj mixed (by kernel_rfl) rfl rfl ?_
   simp [t3,hxi,h5]
   apply hK1;clear hK1 K1
   refine AW.cond (b:=true) (by first|(simp [];done)|(simp [];omega)) ?_
   refine AW.ag fun K1 hK1=>?_
   refine AW.aa rfl ?_
   simp
   apply hK1;clear hK1 K1
   exact AW.ret (κ:=0) (aK.tmp (κ:=0) rfl 4 (by simp [hr]) (by first|rfl|simp) (by first|rfl|simp) (by first|rfl|simp))
 refine AW.ag fun K1 hK1=>?_
 refine AW.aa rfl ?_
 simp [h3]
 apply hK1;clear hK1 K1
 refine AW.cond (b:=false) (by first|(simp [];done)|(simp [];omega)) ?_
 refine AW.ag fun K1 hK1=>?_
 refine AW.jj mixed (by kernel_rfl) rfl rfl ?_
 simp [h3]
 apply hK1;clear hK1 K1
 refine AW.cond (b:=false) (by first|(simp [];done)|(simp [];omega)) ?_
 have r3:rM p i n=if n.op=2∧((i:Int)<p.head∨¬ (0≤n.a∧n.a<p.ns)) then 7 else if n.op=3 then jg n.v else if (cz n).all (fR p i) then 0 else 7:=by
  rw [r2,if_neg (fun h=>h3 h.1),if_neg (fun h=>h3 h.1)]
 refine AW.ag fun K1 hK1=>?_
 by_cases h6:n.op=2
 ·have n3:¬ n.op=3:=by omega
  have t6:(n.op=2)=True:=eq_true h6
  by_cases h7:(i:Int)<p.head
  ·have hr:rM p i n=7:=by rw [r3,if_pos ⟨h6,.inl h7⟩]
   refine AW.aa rfl ?_
   simp [t6,h7]
   apply hK1;clear hK1 K1
   refine AW.cond (b:=true) (by first|(simp [];done)|(simp [];omega)) ?_
   refine AW.ag fun K1 hK1=>?_
   refine AW.aa rfl ?_
   simp
   apply hK1;clear hK1 K1
   exact AW.ret (κ:=0) (aK.tmp (κ:=0) rfl 4 (by simp [hr]) (by first|rfl|simp) (by first|rfl|simp) (by first|rfl|simp))
  by_cases h8:0≤n.a∧n.a<p.ns
  ·have hd8:decide (0≤n.a∧n.a<(p.ns:Int))=true:=decide_eq_true h8
   rw [hd8] at hws
   have hr:rM p i n=if (cz n).all (fR p i) then 0 else 7:=by
    rw [r3,if_neg (fun h=>h.2.elim h7 (fun h=>h h8)),if_neg n3]
   refine AW.aa rfl ?_
   simp [t6,h7,KW]
   refine ai.pure 2 9 (hws) (by first|(simp;done)|rfl) (by simp) (by first|rfl|simp) ?_
   simp [t6,h7]
   apply hK1;clear hK1 K1
   refine AW.cond (b:=false) (by first|(simp [];done)|(simp [];omega)) ?_
   refine AW.ag fun K1 hK1=>?_
   refine AW.aa rfl ?_
   simp [n3]
   apply hK1;clear hK1 K1
   refine AW.cond (b:=false) (by first|(simp [];done)|(simp [];omega)) ?_
   refine AW.skip ?_
   simp
   exact tail _ _ (by simp) (by simp) (by simp) hr
  ·have hd8:decide (0≤n.a∧n.a<(p.ns:Int))=false:=decide_eq_false h8
   rw [hd8] at hws
   have hr:rM p i n=7:=by rw [r3,if_pos ⟨h6,.inr h8⟩]
   refine AW.aa rfl ?_
   simp [t6,h7,KW]
   refine ai.pure 2 9 (hws) (by first|(simp;done)|rfl) (by simp) (by first|rfl|simp) ?_
   simp [t6,h7]
   apply hK1;clear hK1 K1
   refine AW.cond (b:=true) (by first|(simp [];done)|(simp [];omega)) ?_
   refine AW.ag fun K1 hK1=>?_
   refine AW.aa rfl ?_
   simp
   apply hK1;clear hK1 K1
   exact AW.ret (κ:=0) (aK.tmp (κ:=0) rfl 4 (by simp [hr]) (by first|rfl|simp) (by first|rfl|simp) (by first|rfl|simp))
 refine AW.aa rfl ?_
 simp [h6]
 apply hK1;clear hK1 K1
 refine AW.cond (b:=false) (by first|(simp [];done)|(simp [];omega)) ?_
 refine AW.ag fun K1 hK1=>?_
 have r4:rM p i n=if n.op=3 then jg n.v else if (cz n).all (fR p i) then 0 else 7:=by
  rw [r3,if_neg (fun h=>h6 h.1)]
 by_cases h9:n.op=3
 ·have hr:rM p i n=jg n.v:=by rw [r4,if_pos h9]
  have hck:=F5 m n.v
  rw [← hr] at hck
  refine AW.aa rfl ?_
  simp [h9]
  apply hK1;clear hK1 K1
  refine AW.cond (b:=true) (by first|(simp [];done)|(simp [];omega)) ?_
  refine AW.ag fun K1 hK1=>?_
  refine AW.aa rfl ?_
  simp
  refine ai.pure 2 9 (hck) (by first|(simp;done)|rfl) (by simp) (by first|rfl|simp) ?_
  simp
  apply hK1;clear hK1 K1
  exact AW.ret (κ:=0) (aK.tmp (κ:=0) rfl 4 (by simp []) (by first|rfl|simp) (by first|rfl|simp) (by first|rfl|simp))
 ·have hr:rM p i n=if (cz n).all (fR p i) then 0 else 7:=by rw [r4,if_neg h9]
  refine AW.aa rfl ?_
  simp [h9]
  apply hK1;clear hK1 K1
  refine AW.cond (b:=false) (by first|(simp [];done)|(simp [];omega)) ?_
  refine AW.skip ?_
  simp
  exact tail _ _ (by simp) (by simp) (by simp) hr
end Go.Am

namespace Go.Am
open Go.Am.Ty Go.Proofs N
@[simp] def RS (x:Rat):List CV:=[.d (.bool (decide (x.num<0))),nC (cA x.num.natAbs),nC (dA x.den)]
theorem mN:qK Tryz.prog 225=some (2,224,3):=by kernel_rfl
theorem Yb (lv:Key→LB)(κ:Key)(h:lv κ=.hole)(a b:CV):aE Tryz.prog 59 2 [0,1] lv κ [.c a,.c b]=some (.c (.aJ κ 0 2 1),[(κ,.cells true false 53 [a,b])],[],True):=by
 unfold aE;rw [h];kernel_rfl
set_option maxHeartbeats 4000000 in
theorem IU (m:Int)(p:PD)(hp:p.ok)(i:Nat)(hi:i<p.ni):ah Tryz.prog (GG m) 84 [p.A,.c (.d (.int .i64 i))] (.c (.d (.int .i64 (dR p 1 i)))):=by
 have hx:=fun lv=>Y8 hp lv (i:Int) (by omega) (by omega)
 simp only [Int.toNat_natCast] at hx
 have hE:dR p 1 i=EE p (p.CX i):=rfl
 rw [hE]
 generalize p.CX i=x at *
 have hwf:=gY (GG m) x.f p.nf
 have hP1:=wH m x.lo
 have hP2:=wH m x.hi
 have q1:IntKind.i64.wrap 1=1:=by decide
 have q2:IntKind.i64.wrap 2=2:=by decide
 have z1:=D6 x.lo
 have z2:=D6 x.hi
 refine ah.IJ Go.Proofs.Tryz.func84 rfl (by rw [Tryz.ntmps84];simp)  ?_
 rintro⟨_,_,w0,F0,W0,_,bu,β0⟩ rfl rfl rfl rfl
 refine AW.ag fun K hK=>?_
 refine AW.aa rfl ?_
 simp
 apply hK;clear hK K
 refine AW.ag fun K hK=>?_
 refine AW.aa rfl ?_
 simp [hx,aj]
 apply hK;clear hK K
 refine AW.ag fun K hK=>?_
 refine AW.ag fun K1 hK1=>?_
 by_cases h1:0≤x.f∧x.f<p.nf
 rotate_left
 ·have hd:decide (0≤x.f∧x.f<(p.nf:Int))=false:=decide_eq_false h1
  have hr:EE p x=7:=by unfold EE;rw [if_pos h1]
  rw [hd] at hwf
  refine AW.aa rfl ?_
  simp [Tt]
  refine ai.pure 2 9 (hwf) (by first|(simp;done)|rfl) (by simp) (by first|rfl|simp) ?_
  simp
  apply hK1;clear hK1 K1
  refine AW.cond (b:=true) (by first|(simp [];done)|(simp [];omega)) ?_
  refine AW.ag fun K1 hK1=>?_
  refine AW.aa rfl ?_
  simp
  apply hK1;clear hK1 K1
  exact AW.ret (κ:=0) (aK.tmp (κ:=0) (t:=4) rfl 9 (by simp [hr]) (by first|rfl|simp) (by first|rfl|simp) (by first|rfl|simp))
 have hd:decide (0≤x.f∧x.f<(p.nf:Int))=true:=decide_eq_true h1
 rw [hd] at hwf
 have r1:EE p x=if jg x.lo≠0 then jg x.lo else if jg x.hi≠0 then jg x.hi else if hasB (p.fm x.f.toNat).1 (p.fm x.f.toNat).2 (jG x.lo)=false then 7
  else if hasB (p.fm x.f.toNat).1 (p.fm x.f.toNat).2 (jG x.hi)=false then 7 else if 0<vW (jG x.lo) (jG x.hi) then 7 else 0:=by
  unfold EE;rw [if_neg (not_not_intro h1)]
 refine AW.aa rfl ?_
 simp [Tt]
 refine ai.pure 2 9 (hwf) (by first|(simp;done)|rfl) (by simp) (by first|rfl|simp) ?_
 simp
 apply hK1;clear hK1 K1
 refine AW.cond (b:=false) (by first|(simp [];done)|(simp [];omega)) ?_
 refine AW.skip ?_
 simp
 apply hK;clear hK K
 refine AW.ag fun K hK=>?_
 refine AW.aa rfl ?_
 simp
 apply hK;clear hK K
 refine AW.ag fun K hK=>?_
 refine AW.ag fun K1 hK1=>?_
 have hbs:∀ (lv:Key→LB) (h:lv 3=.hole),aE Tryz.prog 59 2 [0,1] lv 3 [.c (.d (.str x.lo)),.c (.d (.str x.hi))]=some (.c (.aJ 3 0 2 1),[(3,.cells true false 53 [.d (.str x.lo),.d (.str x.hi)])],[],True):=fun lv h=>Yb lv 3 h _ _
 refine AW.aa rfl ?_
 simp [hbs,-aE]
 apply hK1;clear hK1 K1
 refine AW.block ?_
 refine AW.b9 (fun (k:Nat)=>⟨bp [(2,.c (.ptr 0 0)),(5,.c (.ptr 1 0)),(6,.c (.ptr 2 0)),(30,.c (.aJ 3 0 2 1)),(31,.c (.d (.int .i64 2))),(32,.c (.d (.int .i64 k)))],
  aB (aB (aB (aB (fun _=>.hole) 0 (.cells true false 154 p.cs)) 1 (.cells true false 67 [.d (.int .i64 x.f),.d (.str x.lo),.d (.str x.hi)])) 2 (.cells true false 225 (RS (if 0<k then jG x.lo else 0)++RS (if 1<k then jG x.hi else 0)))) 3 (.cells true false 53 [.d (.str x.lo),.d (.str x.hi)])⟩) 4
  (fun k=>k≤2∧(0<k→jg x.lo=0)∧(1<k→jg x.hi=0)) (fun k=>2 - k) 0 (Le.mk' _ (by simp [nC,cA,dA]) (by repeat (first|exact aL|refine aN ?_ _ _ _ _ _|(refine aq ?_ _)|(refine aQ ?_ _ _ _)|(refine au ?_ _)|simp)) (by simp)) ⟨by omega,fun h=>absurd h (by omega),fun h=>absurd h (by omega)⟩ ?_
 rintro k ⟨hk,k1,k2⟩
 try simp only at hk k1 k2
 refine AW.ag fun K3 hK3=>?_
 refine AW.aa rfl ?_
 simp
 apply hK3;clear hK3 K3
 refine AW.ag fun K2 hK2=>?_
 have hkc:k=0∨k=1∨k=2:=by omega
 rcases hkc with rfl|rfl|rfl
 ·refine AW.cond (b:=true) (by first|(simp [];done)|(simp [];omega)) ?_
  refine AW.skip ?_
  simp
  apply hK2
  refine AW.ag fun K3 hK3=>?_
  refine AW.block ?_
  refine AW.ag fun K4 hK4=>?_
  refine AW.aa rfl ?_
  simp
  apply hK4;clear hK4 K4
  refine AW.ag fun K4 hK4=>?_
  refine AW.aa rfl ?_
  simp
  refine ai.pure 4 9 (hP1) (by first|(simp;done)|rfl) (by simp) (by first|rfl|simp) ?_
  simp [aj]
  apply hK4;clear hK4 K4
  refine AW.ag fun K4 hK4=>?_
  refine AW.ag fun K5 hK5=>?_
  refine AW.aa rfl ?_
  simp
  apply hK5;clear hK5 K5
  by_cases he:jg x.lo=0
  ·refine AW.cond (b:=false) (by first|(simp [he];done)|(simp [he];omega)) ?_
   refine AW.skip ?_
   simp
   apply hK4;clear hK4 K4
   refine AW.aa rfl ?_
   simp [mN,bx,aj]
   apply hK3
   refine AW.aa rfl ?_
   simp [q1]
   exact⟨1,(Le.drop [4]  9 _ rfl (by intro k hk;simp at hk;subst hk;simp [aB]) (by intro k hk;simp at hk;simp only [aB];(repeat (any_goals split)) <;> simp_all) (by simp [aB]) (by repeat (first|exact aL|refine aN ?_ _ _ _ _ _|(refine aq ?_ _)|(refine aQ ?_ _ _ _)|(refine au ?_ _)|simp)) (by repeat (first|exact dW|refine fc ?_ (by simp [pg]))) (by simp [pg])),⟨by omega,fun _=>he,fun h=>absurd h (by omega)⟩,by omega⟩
  ·have hr:EE p x=jg x.lo:=by rw [r1,if_pos he]
   refine AW.cond (b:=true) (by first|(simp [he];done)|(simp [he];omega)) ?_
   refine AW.ag fun K5 hK5=>?_
   refine AW.aa rfl ?_
   simp
   apply hK5;clear hK5 K5
   exact AW.ret (κ:=0) (aK.tmp (κ:=0) (t:=4) rfl 9 (by simp [hr]) (by first|rfl|simp) (by first|rfl|simp) (by first|rfl|simp))
 ·refine AW.cond (b:=true) (by first|(simp [];done)|(simp [];omega)) ?_
  refine AW.skip ?_
  simp
  apply hK2
  refine AW.ag fun K3 hK3=>?_
  refine AW.block ?_
  refine AW.ag fun K4 hK4=>?_
  refine AW.aa rfl ?_
  simp
  apply hK4;clear hK4 K4
  refine AW.ag fun K4 hK4=>?_
  refine AW.aa rfl ?_
  simp
  refine ai.pure 4 9 (hP2) (by first|(simp;done)|rfl) (by simp) (by first|rfl|simp) ?_
  simp [aj]
  apply hK4;clear hK4 K4
  refine AW.ag fun K4 hK4=>?_
  refine AW.ag fun K5 hK5=>?_
  refine AW.aa rfl ?_
  simp
  apply hK5;clear hK5 K5
  by_cases he:jg x.hi=0
  ·refine AW.cond (b:=false) (by first|(simp [he];done)|(simp [he];omega)) ?_
   refine AW.skip ?_
   simp
   apply hK4;clear hK4 K4
   refine AW.aa rfl ?_
   simp [mN,bx,aj]
   apply hK3
   refine AW.aa rfl ?_
   simp [q2]
   exact⟨2,(Le.drop [4]  9 _ rfl (by intro k hk;simp at hk;subst hk;simp [aB]) (by intro k hk;simp at hk;simp only [aB];(repeat (any_goals split)) <;> simp_all) (by simp [aB]) (by repeat (first|exact aL|refine aN ?_ _ _ _ _ _|(refine aq ?_ _)|(refine aQ ?_ _ _ _)|(refine au ?_ _)|simp)) (by repeat (first|exact dW|refine fc ?_ (by simp [pg]))) (by simp [pg])),⟨by omega,fun _=>k1 (by omega),fun _=>he⟩,by omega⟩
  ·have hr:EE p x=jg x.hi:=by rw [r1,if_neg (not_not_intro (k1 (by omega))),if_pos he]
   refine AW.cond (b:=true) (by first|(simp [he];done)|(simp [he];omega)) ?_
   refine AW.ag fun K5 hK5=>?_
   refine AW.aa rfl ?_
   simp
   apply hK5;clear hK5 K5
   exact AW.ret (κ:=0) (aK.tmp (κ:=0) (t:=4) rfl 9 (by simp [hr]) (by first|rfl|simp) (by first|rfl|simp) (by first|rfl|simp))
 ·have r2:EE p x=if hasB (p.fm x.f.toNat).1 (p.fm x.f.toNat).2 (jG x.lo)=false then 7
   else if hasB (p.fm x.f.toNat).1 (p.fm x.f.toNat).2 (jG x.hi)=false then 7 else if 0<vW (jG x.lo) (jG x.hi) then 7 else 0:=by
   rw [r1,if_neg (not_not_intro (k1 (by omega))),if_neg (not_not_intro (k2 (by omega)))]
  refine AW.cond (b:=false) (by first|(simp [];done)|(simp [];omega)) ?_
  refine AW.exit ?_
  simp
  apply hK
  have hxf:=fun lv=>ZA hp lv x.f h1.1 h1.2
  generalize p.fm x.f.toNat=fe at *
  have hb1:=p9 (GG m) fe.1 fe.2 (jG x.lo) z1
  have hb2:=p9 (GG m) fe.1 fe.2 (jG x.hi) z2
  have hcm:=Ev (GG m) (jG x.lo) (jG x.hi) (eY z1 (by omega)) (eY z2 (by omega))
  generalize jG x.lo=a at *
  generalize jG x.hi=b at *
  refine AW.ag fun K3 hK3=>?_
  refine AW.aa rfl ?_
  simp [hxf,aj]
  apply hK3;clear hK3 K3
  refine AW.ag fun K3 hK3=>?_
  refine AW.ag fun K4 hK4=>?_
  cases g1:hasB fe.1 fe.2 a with
  | false=>
   have hr:EE p x=7:=by rw [r2,if_pos g1]
   rw [g1] at hb1
   refine AW.aa rfl ?_
   simp [mN]
   refine ai.pure 5 9 (hb1) (by first|(simp;done)|rfl) (by simp) (by first|rfl|simp) ?_
   simp
   apply hK4;clear hK4 K4
   refine AW.cond (b:=true) (by first|(simp [];done)|(simp [];omega)) ?_
   refine AW.ag fun K4 hK4=>?_
   refine AW.aa rfl ?_
   simp
   apply hK4;clear hK4 K4
   exact AW.ret (κ:=0) (aK.tmp (κ:=0) (t:=4) rfl 9 (by simp [hr]) (by first|rfl|simp) (by first|rfl|simp) (by first|rfl|simp))
  | true=>
  rw [g1] at hb1
  cases g2:hasB fe.1 fe.2 b with
  | false=>
   have hr:EE p x=7:=by rw [r2,g1,if_neg (by decide),if_pos g2]
   rw [g2] at hb2
   refine AW.aa rfl ?_
   simp [mN]
   refine ai.pure 5 9 (hb1) (by first|(simp;done)|rfl) (by simp) (by first|rfl|simp) ?_
   simp [mN]
   refine ai.pure 5 9 (hb2) (by first|(simp;done)|rfl) (by simp) (by first|rfl|simp) ?_
   simp
   apply hK4;clear hK4 K4
   refine AW.cond (b:=true) (by first|(simp [];done)|(simp [];omega)) ?_
   refine AW.ag fun K4 hK4=>?_
   refine AW.aa rfl ?_
   simp
   apply hK4;clear hK4 K4
   exact AW.ret (κ:=0) (aK.tmp (κ:=0) (t:=4) rfl 9 (by simp [hr]) (by first|rfl|simp) (by first|rfl|simp) (by first|rfl|simp))
  | true=>
  rw [g2] at hb2
  by_cases g3:0<vW a b
  ·have hr:EE p x=7:=by rw [r2,g1,if_neg (by decide),g2,if_neg (by decide),if_pos g3]
   refine AW.aa rfl ?_
   simp [mN]
   refine ai.pure 5 9 (hb1) (by first|(simp;done)|rfl) (by simp) (by first|rfl|simp) ?_
   simp [mN]
   refine ai.pure 5 9 (hb2) (by first|(simp;done)|rfl) (by simp) (by first|rfl|simp) ?_
   simp [mN]
   refine ai.pure 5 9 (hcm) (by first|(simp;done)|rfl) (by simp) (by first|rfl|simp) ?_
   simp
   apply hK4;clear hK4 K4
   refine AW.cond (b:=true) (by first|(simp [g3];done)|(simp [g3];omega)) ?_
   refine AW.ag fun K4 hK4=>?_
   refine AW.aa rfl ?_
   simp
   apply hK4;clear hK4 K4
   exact AW.ret (κ:=0) (aK.tmp (κ:=0) (t:=4) rfl 9 (by simp [hr]) (by first|rfl|simp) (by first|rfl|simp) (by first|rfl|simp))
  ·have hr:EE p x=0:=by rw [r2,g1,if_neg (by decide),g2,if_neg (by decide),if_neg g3]
   refine AW.aa rfl ?_
   simp [mN]
   refine ai.pure 5 9 (hb1) (by first|(simp;done)|rfl) (by simp) (by first|rfl|simp) ?_
   simp [mN]
   refine ai.pure 5 9 (hb2) (by first|(simp;done)|rfl) (by simp) (by first|rfl|simp) ?_
   simp [mN]
   refine ai.pure 5 9 (hcm) (by first|(simp;done)|rfl) (by simp) (by first|rfl|simp) ?_
   simp
   apply hK4;clear hK4 K4
   refine AW.cond (b:=false) (by first|(simp [g3];done)|(simp [g3];omega)) ?_
   refine AW.skip ?_
   simp
   apply hK3;clear hK3 K3
   refine AW.ag fun K3 hK3=>?_
   refine AW.aa rfl ?_
   simp
   apply hK3;clear hK3 K3
   exact AW.ret (κ:=0) (aK.tmp (κ:=0) (t:=4) rfl 9 (by simp [hr]) (by first|rfl|simp) (by first|rfl|simp) (by first|rfl|simp))
end Go.Am

namespace Go.Am
open Go.Am.Ty Go.Proofs N
@[simp] theorem Oi {lv:Key→LB}{k0 k1:Key}{b0 b1:LB}(h0:lv k0=b0) (h1:lv k1=b1):aW lv [(k0,b0),(k1,b1)]=lv:=by
 subst h0;subst h1
 funext k
 simp only [aW,List.foldl,aB]
 split
 ·rename_i h;rw [h]
 ·split
  ·rename_i h;rw [h]
  ·rfl
abbrev cI (i:Int):List CV:=[.d (.int .i64 i)]
abbrev bI (i:Int):LB:=.cells false false 3 (cI i)
set_option maxHeartbeats 1000000 in
theorem Hh (G:List (List DV))(n:Nd)(i f:Int):aC Tryz.prog G 165 [n.A,.c (.ptr 0 0),.c (.ptr 1 0)] [bI i,bI f] (.ret (.c (.d (.bool (mb i f n)))) [bI i,bI f] []):=by
 refine aC.C4 Go.Proofs.Tryz.func165 rfl (by rw [Tryz.ntmps165];simp) (fun r hr=>⟨_,List.mem_singleton.1 hr⟩) (by simp) (by simp) ?_
 rintro⟨_,_,w0,F0,W0,_,bu,β0⟩ rfl rfl rfl
 refine AW.ag fun K hK=>?_
 refine AW.aa rfl ?_
 simp
 apply hK;clear hK K
 refine AW.ag fun K hK=>?_
 by_cases h1:n.op=2
 ·by_cases h2:n.a=i
  ·by_cases h3:n.f=f
   ·refine AW.aa rfl ?_
    simp [h1,h2,h3]
    apply hK;clear hK K
    exact AW.ret (κ:=0) (wk.tmp (κ:=0) rfl 9 (by simp [mb,h1,h2,h3]) rfl (by simp) (by simp) (by simp) rfl)
   ·refine AW.aa rfl ?_
    simp [h1,h2,h3]
    apply hK;clear hK K
    exact AW.ret (κ:=0) (wk.tmp (κ:=0) rfl 9 (by simp [mb,h1,h2,h3]) rfl (by simp) (by simp) (by simp) rfl)
  ·refine AW.aa rfl ?_
   simp [h1,h2]
   apply hK;clear hK K
   exact AW.ret (κ:=0) (wk.tmp (κ:=0) rfl 9 (by simp [mb,h1,h2]) rfl (by simp) (by simp) (by simp) rfl)
 ·refine AW.aa rfl ?_
  simp [h1]
  apply hK;clear hK K
  exact AW.ret (κ:=0) (wk.tmp (κ:=0) rfl 9 (by simp [mb,h1]) rfl (by simp) (by simp) (by simp) rfl)
def Be (i f:Int)(p:PD):Int:=match (List.range p.nn).find? (fun j=>mb i f (p.nd j)) with
 | some j=>j
 | none=>-1
theorem Gw (i f:Int)(p:PD):decide (0≤Be i f p)=(List.range p.nn).any (fun j=>mb i f (p.nd j)):=by
 unfold Be
 cases h:(List.range p.nn).find? (fun j=>mb i f (p.nd j)) with
 | none=>
  rw [List.find?_eq_none] at h
  have:(List.range p.nn).any (fun j=>mb i f (p.nd j))=false:=by
   rw [List.any_eq_false];exact h
  rw [this];rfl
 | some j=>
  have h1:=List.find?_some h
  have h2:=List.mem_of_find?_eq_some h
  have:(List.range p.nn).any (fun j=>mb i f (p.nd j))=true:=List.any_eq_true.2 ⟨j,h2,h1⟩
  rw [this];exact decide_eq_true (Int.natCast_nonneg j)
abbrev Xz:AV:=.c (.func (.func 165) [] [.ptr 0 0,.ptr 1 0])
theorem Hf {lv:Key→LB}(n:Nd) {i f:Int}(h0:lv 0=bI i) (h1:lv 1=bI f) {a:AV}{k:Key}(ha:a∈[n.A,.c (.ptr 0 0),.c (.ptr 1 0)]) (hk:k∈iQ lv a):k∈[9,0,1]:=by
 simp only [List.mem_cons,List.not_mem_nil,or_false] at ha
 rcases ha with rfl|rfl|rfl
 ·rw [dm rfl] at hk;cases hk
 ·simp [iQ,gq,h0] at hk;simp [hk]
 ·simp [iQ,gq,h1] at hk;simp [hk]
theorem I7 {lv:Key→LB}(p:PD) {a:AV}{k:Key}{fn:Fn}{fs cs:List Ref}{R:List Key}(ha:a∈[AV.c (dg p.nodes),.c (.func fn fs cs)]) (hk:k∈iQ lv a):k∈R:=by
 simp only [List.mem_cons,List.not_mem_nil,or_false] at ha
 rcases ha with rfl|rfl
 ·rw [dm (by simp)] at hk;cases hk
 ·cases hk
set_option maxHeartbeats 1000000 in
theorem JP (G:List (List DV))(p:PD)(hp:p.ok)(hn:p.nn≤1000)(i f:Int):aC Tryz.prog G 241 [.c (dg p.nodes),Xz] [bI i,bI f] (.ret (.c (.d (.int .i64 (Be i f p)))) [bI i,bI f] []):=by
 have ho:=fun j=>Hh G (p.nd j) i f
 refine aC.C4 Go.Proofs.Tryz.func241 rfl (by rw [Tryz.ntmps241];simp) (fun r hr=>⟨_,List.mem_singleton.1 hr⟩) (by simp) (by simp) ?_
 rintro⟨_,_,w0,F0,W0,_,bu,β0⟩ rfl rfl rfl
 refine AW.ag fun K hK=>?_
 refine AW.aa rfl ?_
 simp
 apply hK;clear hK K
 refine AW.ag fun K hK=>?_
 refine AW.ag fun K1 hK1=>?_
 refine AW.aa rfl ?_
 simp [Df]
 apply hK1;clear hK1 K1
 refine AW.block ?_
 refine AW.b9 (fun (j:Nat)=>⟨bp [(0,.c (dg p.nodes)),(1,Xz),(7,.c (.d (.int .i64 p.nn))),(8,.c (.d (.int .i64 j)))],aB (aB (fun _=>.hole) 0 (bI i)) 1 (bI f)⟩) 1000
  (fun j=>j≤p.nn∧∀ q,q<j→mb i f (p.nd q)=false) (fun j=>p.nn - j) 0 (Le.mk' _ (by simp) (by repeat (first|exact aL|refine aN ?_ _ _ _ _ _|(refine aq ?_ _)|(refine aQ ?_ _ _ _)|(refine au ?_ _)|simp)) (by simp)) ⟨by omega,fun q hq=>absurd hq (Nat.not_lt_zero q)⟩ ?_
 rintro j ⟨hj,hall⟩
 try simp only at hj hall
 refine AW.ag fun K3 hK3=>?_
 refine AW.aa rfl ?_
 simp
 apply hK3;clear hK3 K3
 refine AW.ag fun K2 hK2=>?_
 by_cases hlt:j<p.nn
 ·have hlt':(j:Int)<(p.nn:Int):=by omega
  refine AW.cond (b:=true) (by first|(simp [hlt'];done)|(simp [hlt'];omega)) ?_
  refine AW.skip ?_
  simp
  apply hK2
  refine AW.ag fun K3 hK3=>?_
  refine AW.block ?_
  refine AW.ag fun K4 hK4=>?_
  refine AW.aa rfl ?_
  simp
  apply hK4;clear hK4 K4
  refine AW.ag fun K4 hK4=>?_
  have hx:=fun lv=>Nc p lv hp j hlt
  refine AW.aa rfl ?_
  simp [hx,nj,kB,l5]
  refine ai.Io (T0:=3) (T1:=3) (cs0:=cI i) (cs1:=cI f) 1000 9 0 1 false [9,0,1] (ho j) rfl rfl rfl (by simp) (by simp) (by decide) rfl rfl ?_ ?_ (by simp) ?_
  ·intro a b c
   have:a=0∨a=1∨a=2:=by simp at b;omega
   rcases this with rfl|rfl|rfl <;> exact⟨rfl,rfl⟩
  ·intro a ha k hk
   exact Hf (p.nd j) (i:=i) (f:=f) (by simp) (by simp) ha hk
  simp
  apply hK4;clear hK4 K4
  cases hs:mb i f (p.nd j) with
  | true=>
   refine AW.cond (b:=true) (by first|(simp [];done)|(simp [];omega)) ?_
   refine AW.ag fun K4 hK4=>?_
   refine AW.aa rfl ?_
   simp
   apply hK4;clear hK4 K4
   have hr:Be i f p=j:=by
    unfold Be
    have:(List.range p.nn).find? (fun j=>mb i f (p.nd j))=some j:=by
     rw [List.find?_range_eq_some]
     exact⟨hs,List.mem_range.2 hlt,fun q hq=>by rw [hall q hq];rfl⟩
    rw [this]
   exact AW.ret (κ:=0) (wk.tmp (κ:=0) rfl 9 (by simp [hr]) rfl (by simp) (by simp) (by simp) rfl)
  | false=>
   refine AW.cond (b:=false) (by first|(simp [];done)|(simp [];omega)) ?_
   refine AW.skip ?_
   simp
   apply hK3
   have f12:=cX (n:=(j:Int)+1) (by omega) (by omega)
   refine AW.aa rfl ?_
   simp [f12]
   refine⟨j+1,Le.mk' _ (by simp) (by repeat (first|exact aL|refine aN ?_ _ _ _ _ _|(refine aq ?_ _)|(refine aQ ?_ _ _ _)|(refine au ?_ _)|simp)) (by simp),⟨by omega,fun q hq=>?_⟩,by omega⟩
   by_cases hji:q=j
   ·subst hji;exact hs
   ·exact hall q (by omega)
 ·have hlt':¬ (j:Int)<(p.nn:Int):=by omega
  refine AW.cond (b:=false) (by first|(simp [hlt'];done)|(simp [hlt'];omega)) ?_
  refine AW.exit ?_
  simp
  apply hK
  refine AW.ag fun K3 hK3=>?_
  refine AW.aa rfl ?_
  simp
  apply hK3;clear hK3 K3
  have hr:Be i f p = -1:=by
   unfold Be
   have:(List.range p.nn).find? (fun j=>mb i f (p.nd j))=none:=by
    rw [List.find?_eq_none]
    intro q hq
    rw [hall q (by have:=List.mem_range.1 hq;omega)];decide
   rw [this]
  exact AW.ret (κ:=0) (wk.tmp (κ:=0) rfl 9 (by simp [hr]) rfl (by simp) (by simp) (by simp) rfl)
theorem Ib (G:List (List DV))(p:PD)(hp:p.ok)(hn:p.nn≤1000)(i f:Int):aC Tryz.prog G 166 [.c (dg p.nodes),Xz] [bI i,bI f] (.ret (.c (.d (.bool ((List.range p.nn).any fun j=>mb i f (p.nd j))))) [bI i,bI f] []):=by
 have hx:=JP G p hp hn i f
 rw [← Gw]
 generalize Be i f p=r at *
 refine aC.C4 Go.Proofs.Tryz.func166 rfl (by rw [Tryz.ntmps166];simp) (fun r hr=>⟨_,List.mem_singleton.1 hr⟩) (by simp) (by simp) ?_
 rintro⟨_,_,w0,F0,W0,_,bu,β0⟩ rfl rfl rfl
 refine AW.ag fun K hK=>?_
 refine AW.aa rfl ?_
 simp
 apply hK;clear hK K
 refine AW.ag fun K hK=>?_
 refine AW.aa rfl ?_
 simp
 refine ai.Io (T0:=3) (T1:=3) (cs0:=cI i) (cs1:=cI f) 1000 9 0 1 false [9] hx rfl rfl rfl (by simp) (by simp) (by decide) rfl rfl ?_ ?_ (by simp) ?_
 ·intro a b c
  have:a=0∨a=1:=by simp at b;omega
  rcases this with rfl|rfl
  ·exact⟨by simp,by simp⟩
  ·exact⟨rfl,rfl⟩
 ·intro a ha k hk
  exact I7 p ha hk
 simp
 apply hK;clear hK K
 exact AW.ret (κ:=0) (wk.tmp (κ:=0) rfl 9 (by simp) rfl (by simp) (by simp) (by simp) rfl)
theorem nO {p:PD}(h:gp p=0):0≤p.head∧p.head≤p.tail∧p.tail≤p.nn∧p.nf≤6∧p.ni≤6∧p.nn≤64∧p.ns≤4:=by
 unfold gp at h
 unfold PD.nf PD.ni PD.nn PD.ns
 (repeat' split at h) <;> first|omega|cases h
set_option maxHeartbeats 2000000 in
theorem IZ (m:Int)(p:PD)(hp:p.ok)(hg:gp p=0)(i:Nat)(hi:i<p.ns):ah Tryz.prog (GG m) 86 [p.A,.c (.d (.int .i64 i))] (.c (.d (.int .i64 (dR p 3 i)))):=by
 obtain⟨g1,g2,g3,_,_,g4,_⟩:=nO hg
 have hx:=fun lv=>Zt hp lv (i:Int) (by omega) (by omega)
 simp only [Int.toNat_natCast] at hx
 have hE:dR p 3 i=FZ p i (p.st i):=rfl
 rw [hE]
 generalize p.st i=s at *
 have hw1:=gY (GG m) s.1 p.head
 have hw2:=gY (GG m) s.2 p.tail
 refine ah.aU Go.Proofs.Tryz.func86 rfl (by rw [Tryz.ntmps86];simp) ?_
 rintro⟨_,_,w0,F0,W0,_,bu,β0⟩ rfl rfl rfl
 refine AW.ag fun K hK=>?_
 refine AW.aa rfl ?_
 simp
 apply hK;clear hK K
 refine AW.ag fun K hK=>?_
 refine AW.aa rfl ?_
 simp [hx,aj]
 apply hK;clear hK K
 refine AW.ag fun K hK=>?_
 refine AW.ag fun K1 hK1=>?_
 by_cases h1:0≤s.1∧s.1<p.head
 rotate_left
 ·have hd:decide (0≤s.1∧s.1<p.head)=false:=decide_eq_false h1
  have hr:FZ p i s=7:=by unfold FZ;rw [if_pos h1]
  rw [hd] at hw1
  refine AW.aa rfl ?_
  simp
  refine ai.pure 3 9 (hw1) (by first|(simp;done)|rfl) (by simp) (by first|rfl|simp) ?_
  simp
  apply hK1;clear hK1 K1
  refine AW.cond (b:=true) (by first|(simp [];done)|(simp [];omega)) ?_
  refine AW.ag fun K1 hK1=>?_
  refine AW.aa rfl ?_
  simp
  apply hK1;clear hK1 K1
  exact AW.ret (κ:=0) (aK.tmp (κ:=0) rfl 4 (by simp [hr]) (by first|rfl|simp) (by first|rfl|simp) (by first|rfl|simp))
 have hd:decide (0≤s.1∧s.1<p.head)=true:=decide_eq_true h1
 rw [hd] at hw1
 by_cases h2:0≤s.2∧s.2<p.tail
 rotate_left
 ·have hd2:decide (0≤s.2∧s.2<p.tail)=false:=decide_eq_false h2
  have hr:FZ p i s=7:=by unfold FZ;rw [if_neg (not_not_intro h1),if_pos h2]
  rw [hd2] at hw2
  refine AW.aa rfl ?_
  simp
  refine ai.pure 3 9 (hw1) (by first|(simp;done)|rfl) (by simp) (by first|rfl|simp) ?_
  simp
  refine ai.pure 3 9 (hw2) (by first|(simp;done)|rfl) (by simp) (by first|rfl|simp) ?_
  simp
  apply hK1;clear hK1 K1
  refine AW.cond (b:=true) (by first|(simp [];done)|(simp [];omega)) ?_
  refine AW.ag fun K1 hK1=>?_
  refine AW.aa rfl ?_
  simp
  apply hK1;clear hK1 K1
  exact AW.ret (κ:=0) (aK.tmp (κ:=0) rfl 4 (by simp [hr]) (by first|rfl|simp) (by first|rfl|simp) (by first|rfl|simp))
 have hd2:decide (0≤s.2∧s.2<p.tail)=true:=decide_eq_true h2
 rw [hd2] at hw2
 refine AW.aa rfl ?_
 simp
 refine ai.pure 3 9 (hw1) (by first|(simp;done)|rfl) (by simp) (by first|rfl|simp) ?_
 simp
 refine ai.pure 3 9 (hw2) (by first|(simp;done)|rfl) (by simp) (by first|rfl|simp) ?_
 simp
 apply hK1;clear hK1 K1
 refine AW.cond (b:=false) (by first|(simp [];done)|(simp [];omega)) ?_
 refine AW.skip ?_
 simp
 apply hK;clear hK K
 refine AW.ag fun K hK=>?_
 have x1:=fun lv=>YF hp lv s.1 h1.1 (by omega)
 have x2:=fun lv=>YF hp lv s.2 h2.1 (by omega)
 have hr:FZ p i s=if (p.nd s.2.toNat).f≠(p.nd s.1.toNat).f then 143 else if (List.range p.nn).any (fun j=>mb i (p.nd s.1.toNat).f (p.nd j)) then 143 else 0:=by
  unfold FZ;rw [if_neg (not_not_intro h1),if_neg (not_not_intro h2)]
 generalize p.nd s.1.toNat=n1 at *
 generalize p.nd s.2.toNat=n2 at *
 refine AW.aa rfl ?_
 simp [x1,aj]
 apply hK;clear hK K
 refine AW.ag fun K hK=>?_
 refine AW.aa rfl ?_
 simp [CF,ot,sX,ue,fQ]
 apply hK;clear hK K
 refine AW.ag fun K hK=>?_
 refine AW.ag fun K1 hK1=>?_
 by_cases h3:n2.f=n1.f
 ·have hc:=Ib (GG m) p hp (by omega) i n1.f
  refine AW.eB mixed (by kernel_rfl) rfl ?_
  simp [x2,h3]
  refine ai.Io (T0:=3) (T1:=3) (cs0:=cI i) (cs1:=cI n1.f) 4 9 1 3 true [9] hc rfl rfl rfl (by simp) (by simp) (by decide) rfl rfl ?_ ?_ (by simp) ?_
  ·intro a b c
   have:a=0∨a=1:=by simp at b;omega
   rcases this with rfl|rfl
   ·exact⟨by simp,by simp⟩
   ·exact⟨rfl,rfl⟩
  ·intro a ha k hk
   exact I7 p ha hk
  simp
  refine⟨by kernel_rfl,?_⟩
  apply hK1;clear hK1 K1
  cases hs:(List.range p.nn).any (fun j=>mb i n1.f (p.nd j)) with
  | true=>
   have hr2:FZ p i s=143:=by rw [hr,if_neg (not_not_intro h3),if_pos hs]
   refine AW.cond (b:=true) (by first|(simp [];done)|(simp [];omega)) ?_
   refine AW.ag fun K1 hK1=>?_
   refine AW.aa rfl ?_
   simp
   apply hK1;clear hK1 K1
   exact AW.ret (κ:=0) (aK.tmp (κ:=0) rfl 4 (by simp [hr2]) (by first|rfl|simp) (by first|rfl|simp) (by first|rfl|simp))
  | false=>
   have hr2:FZ p i s=0:=by rw [hr,if_neg (not_not_intro h3),hs,if_neg (by decide)]
   refine AW.cond (b:=false) (by first|(simp [];done)|(simp [];omega)) ?_
   refine AW.skip ?_
   simp
   apply hK;clear hK K
   refine AW.ag fun K hK=>?_
   refine AW.aa rfl ?_
   simp
   apply hK;clear hK K
   exact AW.ret (κ:=0) (aK.tmp (κ:=0) rfl 4 (by simp [hr2]) (by first|rfl|simp) (by first|rfl|simp) (by first|rfl|simp))
 ·have hr2:FZ p i s=143:=by rw [hr,if_pos h3]
  refine AW.eB mixed (by kernel_rfl) rfl ?_
  simp [x2,h3]
  refine⟨by kernel_rfl,?_⟩
  apply hK1;clear hK1 K1
  refine AW.cond (b:=true) (by first|(simp [];done)|(simp [];omega)) ?_
  refine AW.ag fun K1 hK1=>?_
  refine AW.aa rfl ?_
  simp
  apply hK1;clear hK1 K1
  exact AW.ret (κ:=0) (aK.tmp (κ:=0) rfl 4 (by simp [hr2]) (by first|rfl|simp) (by first|rfl|simp) (by first|rfl|simp))
end Go.Am

namespace Go.Am
open Go.Am.Ty Go.Proofs N
def sD:Option (List (List DV))→DV
 | none=>.nilsl
 | some es=>.sl es
theorem HP (o:Option (List (List DV))):dg o=.d (sD o):=by cases o <;> rfl
def PD.Ei (p:PD):List DV:=[sD p.f,.int .i64 p.mode,sD p.ins,sD p.nodes,.int .i64 p.head,.int .i64 p.tail,sD p.states,.int .i64 p.res]
theorem uJ (p:PD):p.Ei.map CV.d=p.cs:=by simp [PD.Ei,HP]
theorem GP (p:PD):HW (.agg p.Ei)=p.A:=by show AV.agg (p.Ei.map CV.d)=_;rw [uJ]
theorem HG (p:PD):nX p.cs=some p.Ei:=by
 obtain⟨f,a,i,n,b,c,s,d⟩:=p
 cases f <;> cases i <;> cases n <;> cases s <;> rfl
theorem Jl (p:PD)(f:FuncId):CF (.func f) [.agg [dg p.f,.d (.int .i64 p.mode),dg p.ins,dg p.nodes,.d (.int .i64 p.head),.d (.int .i64 p.tail),dg p.states,.d (.int .i64 p.res)]] []=some (.c (.d (.func (.func f) [.agg p.Ei] [])),[],[],True):=by
 have h:=HG p
 simp only [PD.cs] at h
 simp only [CF,ot,sX,h,ue,fQ]
 rfl
theorem YW (a b:CV):hH Tryz.prog 157 [0,1] [.c a,.c b]=some (.agg [a,b],[],[],True):=by kernel_rfl
theorem TV (lv:Key→LB)(κ:Key)(h:lv κ=.hole)(a b c d e f g i:CV):aE Tryz.prog 158 4 [0,1,2,3] lv κ [.agg [a,b],.agg [c,d],.agg [e,f],.agg [g,i]]=some (.c (.aJ κ 0 4 2),[(κ,.cells true false 157 [a,b,c,d,e,f,g,i])],[],True):=by
 unfold aE;rw [h];kernel_rfl
theorem S9 (p:PD):hH Tryz.prog 154 [0] [.agg [dg p.f,.d (.int .i64 p.mode),dg p.ins,dg p.nodes,.d (.int .i64 p.head),.d (.int .i64 p.tail),dg p.states,.d (.int .i64 p.res)]]=some (.agg [dg p.f,.d (.int .i64 p.mode),dg p.ins,dg p.nodes,.d (.int .i64 p.head),.d (.int .i64 p.tail),dg p.states,.d (.int .i64 p.res)],[],[],True):=
 (show ∀ a b c d e f g h:CV,hH Tryz.prog 154 [0] [.agg [a,b,c,d,e,f,g,h]]=some (.agg [a,b,c,d,e,f,g,h],[],[],True) from fun a b c d e f g h=>by kernel_rfl) _ _ _ _ _ _ _ _
def MR (p:PD):List CV:=[.d (.int .i64 p.nf),.d (.func (.func 83) [.agg p.Ei] []),.d (.int .i64 p.ni),.d (.func (.func 84) [.agg p.Ei] []),.d (.int .i64 p.nn),.d (.func (.func 85) [.agg p.Ei] []),.d (.int .i64 p.ns),.d (.func (.func 86) [.agg p.Ei] [])]
@[simp] theorem Wk (p:PD)(g:Key→Key):(MR p).map (CV.bt g)=MR p:=rfl
theorem Gs (p:PD)(k:Nat)(hk:k<4):eC Tryz.prog 157 ((MR p).drop (k*2))=some (.agg [.d (.int .i64 (iU p k)),.d (.func (.func (83+k)) [.agg p.Ei] [])]):=by
 have h:k=0∨k=1∨k=2∨k=3:=by omega
 rcases h with rfl|rfl|rfl|rfl <;> simp [MR,iU]
theorem JY (m:Int)(p:PD)(hp:p.ok)(hg:gp p=0)(k:Nat)(hk:k<4)(i:Nat)(hi:i<iU p k):ah Tryz.prog (GG m) (83+k) [p.A,.c (.d (.int .i64 i))] (.c (.d (.int .i64 (dR p k i)))):=by
 have h:k=0∨k=1∨k=2∨k=3:=by omega
 have hr:=nO hg
 rcases h with rfl|rfl|rfl|rfl
 ·exact FU _ p hp i hi
 ·exact IU m p hp i hi
 ·exact Lq m p hp i hi (by omega)
 ·exact IZ m p hp hg i hi
theorem Lw (k:Nat)(hk:k<4):aS Tryz.prog (83+k)=true:=by
 have h:k=0∨k=1∨k=2∨k=3:=by omega
 rcases h with rfl|rfl|rfl|rfl <;> simp
theorem KL {p:PD}(hg:gp p=0) (k:Nat) (hk:k<4):iU p k≤64:=by
 have h:k=0∨k=1∨k=2∨k=3:=by omega
 have hr:=nO hg
 rcases h with rfl|rfl|rfl|rfl <;> simp only [iU] <;> omega
set_option maxHeartbeats 4000000 in
theorem BH (m:Int)(p:PD)(hp:p.ok):ah Tryz.prog (GG m) 31 [p.A] (.tup [.c (.d (.int .i64 (fI p).1)),.c (.d (.int .i64 (fI p).2.1)),.c (.d (.int .i64 (fI p).2.2))]):=by
 have hge:=DC (GG m) p
 have hbl:∀ lv (h:lv 2=.hole) (a b c d e f g i:CV),aE Tryz.prog 158 4 [0,1,2,3] lv 2 [.agg [a,b],.agg [c,d],.agg [e,f],.agg [g,i]]=some (.c (.aJ 2 0 4 2),[(2,.cells true false 157 [a,b,c,d,e,f,g,i])],[],True):=fun lv h=>TV lv 2 h
 by_cases hg:gp p=0
 rotate_left
 ·have hr:fI p=(0,0,gp p):=by unfold fI;rw [if_pos hg]
  rw [hr]
  refine ah.aU Go.Proofs.Tryz.func31 rfl (by rw [Tryz.ntmps31];simp) ?_
  rintro⟨_,_,w0,F0,W0,_,bu,β0⟩ rfl rfl rfl
  refine AW.ag fun K hK=>?_
  refine AW.aa rfl ?_
  simp
  apply hK;clear hK K
  refine AW.ag fun K hK=>?_
  refine AW.aa rfl ?_
  simp [S9,aj]
  apply hK;clear hK K
  refine AW.ag fun K hK=>?_
  refine AW.ag fun K1 hK1=>?_
  refine AW.aa rfl ?_
  simp
  refine ai.pure 2 9 (hge) (by first|(simp;done)|rfl) (by simp) (by first|rfl|simp) ?_
  simp
  apply hK1;clear hK1 K1
  refine AW.ag fun K1 hK1=>?_
  refine AW.aa rfl ?_
  simp
  apply hK1;clear hK1 K1
  refine AW.cond (b:=true) (by first|(simp [hg];done)|(simp [hg];omega)) ?_
  refine AW.ag fun K1 hK1=>?_
  refine AW.aa rfl ?_
  simp
  apply hK1;clear hK1 K1
  exact AW.ret (κ:=0) (aK.Bv (κ:=0) rfl 9 (by simp) (by simp) (by simp) rfl rfl rfl rfl rfl rfl rfl (by decide) (by decide) (by decide))
 have hr:fI p=dh p 4 0:=by unfold fI;rw [if_neg (not_not_intro hg)]
 rw [hr]
 rw [hg] at hge
 have hwi:=gY (GG m) p.res p.nn
 have hse:=oS (GG m) p p.res
 refine ah.IJ Go.Proofs.Tryz.func31 rfl (by rw [Tryz.ntmps31];simp)  ?_
 rintro⟨_,_,w0,F0,W0,_,bu,β0⟩ rfl rfl rfl rfl
 refine AW.ag fun K hK=>?_
 refine AW.aa rfl ?_
 simp
 apply hK;clear hK K
 refine AW.ag fun K hK=>?_
 refine AW.aa rfl ?_
 simp [S9,aj]
 apply hK;clear hK K
 refine AW.ag fun K hK=>?_
 refine AW.ag fun K1 hK1=>?_
 refine AW.aa rfl ?_
 simp
 refine ai.pure 2 9 (hge) (by first|(simp;done)|rfl) (by simp) (by first|rfl|simp) ?_
 simp
 apply hK1;clear hK1 K1
 refine AW.ag fun K1 hK1=>?_
 refine AW.aa rfl ?_
 simp
 apply hK1;clear hK1 K1
 refine AW.cond (b:=false) (by first|(simp [];done)|(simp [];omega)) ?_
 refine AW.skip ?_
 simp
 apply hK;clear hK K
 refine AW.ag fun K hK=>?_
 refine AW.aa rfl ?_
 simp [Tt,XQ,Df,KW,Jl,YW,hbl,-aE]
 apply hK;clear hK K
 refine AW.ag fun K hK=>?_
 refine AW.ag fun K1 hK1=>?_
 refine AW.aa rfl ?_
 simp
 apply hK1;clear hK1 K1
 refine AW.block ?_
 refine AW.b9 (fun (k:Nat)=>⟨bp [(1,.c (.ptr 0 0)),(5,.c (.ptr 1 0)),(44,.c (.aJ 2 0 4 2)),(45,.c (.d (.int .i64 4))),(46,.c (.d (.int .i64 k)))],
  aB (aB (aB (fun _=>.hole) 0 (.cells true false 27 p.cs)) 1 (.cells true false 154 p.cs)) 2 (.cells true false 157 (MR p))⟩) 3
  (fun k=>k≤4∧dh p (4 - k) k=dh p 4 0) (fun k=>4 - k) 0 (Le.mk' _ (by simp [MR]) (by repeat (first|exact aL|refine aN ?_ _ _ _ _ _|(refine aq ?_ _)|(refine aQ ?_ _ _ _)|(refine au ?_ _)|simp)) (by simp)) ⟨by omega,rfl⟩ ?_
 rintro k ⟨hk,hpv⟩
 try simp only at hk hpv
 refine AW.ag fun K3 hK3=>?_
 refine AW.aa rfl ?_
 simp
 apply hK3;clear hK3 K3
 refine AW.ag fun K2 hK2=>?_
 by_cases hlt:k<4
 ·have hlt':(k:Int)<4:=by omega
  have hld:=Gs p k hlt
  have hle:=KL hg k hlt
  have hfn:=Lw k hlt
  have hca:=JY m p hp hg k hlt
  have hstep:∀ i,i<iU p k→dR p k i≠0→(∀ j,j<i→dR p k j=0)→dh p 4 0=((k:Int)+1,(i:Int),dR p k i):=by
   intro i hi h0 h1
   rw [← hpv,show 4 - k=(4 - (k+1))+1 by omega]
   show (match iL (dR p k) (iU p k) with|some i=>((k:Int)+1,(i:Int),dR p k i)|none=>dh p (4 - (k+1)) (k+1))=_
   rw [At hi h0 h1]
  have hnext:(∀ j,j<iU p k→dR p k j=0)→dh p (4 - (k+1)) (k+1)=dh p 4 0:=by
   intro h1
   rw [← hpv,show 4 - k=(4 - (k+1))+1 by omega]
   show _=(match iL (dR p k) (iU p k) with|some i=>((k:Int)+1,(i:Int),dR p k i)|none=>dh p (4 - (k+1)) (k+1))
   rw [sE h1]
  generalize iU p k=N at *
  generalize dR p k=E at *
  refine AW.cond (b:=true) (by first|(simp [hlt'];done)|(simp [hlt'];omega)) ?_
  refine AW.skip ?_
  simp
  apply hK2
  refine AW.ag fun K3 hK3=>?_
  refine AW.block ?_
  refine AW.ag fun K4 hK4=>?_
  refine AW.aa rfl ?_
  simp [hlt',hld,aj,-Gg]
  apply hK4;clear hK4 K4
  refine AW.ag fun K4 hK4=>?_
  refine AW.aa rfl ?_
  simp
  apply hK4;clear hK4 K4
  refine AW.block ?_
  refine AW.b9 (fun (i:Nat)=>⟨bp [(1,.c (.ptr 0 0)),(5,.c (.ptr 1 0)),(8,.c (.d (.int .i64 k))),(9,.c (.ptr 3 0)),(44,.c (.aJ 2 0 4 2)),(45,.c (.d (.int .i64 4))),(46,.c (.d (.int .i64 k))),(52,.c (.d (.int .i64 N))),(53,.c (.d (.int .i64 i)))],
   aB (aB (aB (aB (fun _=>.hole) 0 (.cells true false 27 p.cs)) 1 (.cells true false 154 p.cs)) 2 (.cells true false 157 (MR p))) 3 (.cells true false 157 [.d (.int .i64 N),.d (.func (.func (83+k)) [.agg p.Ei] [])])⟩) 4
   (fun i=>i≤N∧∀ j,j<i→E j=0) (fun i=>N - i) 0 (Le.mk' _ (by simp [aj]) (by repeat (first|exact aL|refine aN ?_ _ _ _ _ _|(refine aq ?_ _)|(refine aQ ?_ _ _ _)|(refine au ?_ _)|simp)) (by simp)) ⟨by omega,fun j hj=>absurd hj (Nat.not_lt_zero j)⟩ ?_
  rintro i ⟨hi,hall⟩
  try simp only at hi hall
  refine AW.ag fun K5 hK5=>?_
  refine AW.aa rfl ?_
  simp
  apply hK5;clear hK5 K5
  refine AW.ag fun K6 hK6=>?_
  by_cases hlt2:i<N
  ·have hlt2':(i:Int)<(N:Int):=by omega
   have hc:=hca i hlt2
   refine AW.cond (b:=true) (by first|(simp [hlt2'];done)|(simp [hlt2'];omega)) ?_
   refine AW.skip ?_
   simp
   apply hK6
   refine AW.ag fun K7 hK7=>?_
   refine AW.block ?_
   refine AW.ag fun K8 hK8=>?_
   refine AW.aa rfl ?_
   simp
   apply hK8;clear hK8 K8
   refine AW.ag fun K8 hK8=>?_
   refine AW.aa rfl ?_
   simp [Fy,kB,GP,hfn]
   refine ai.pure 4 9 (hc) (by first|(simp;done)|rfl) (by simp) (by first|rfl|simp) ?_
   simp
   apply hK8;clear hK8 K8
   refine AW.ag fun K8 hK8=>?_
   refine AW.aa rfl ?_
   simp
   apply hK8;clear hK8 K8
   by_cases h0:E i=0
   ·refine AW.cond (b:=false) (by first|(simp [h0];done)|(simp [h0];omega)) ?_
    refine AW.skip ?_
    simp
    apply hK7
    have f12:=cX (n:=(i:Int)+1) (by omega) (by omega)
    refine AW.aa rfl ?_
    simp [f12]
    refine⟨i+1,Le.mk' _ (by simp) (by repeat (first|exact aL|refine aN ?_ _ _ _ _ _|(refine aq ?_ _)|(refine aQ ?_ _ _ _)|(refine au ?_ _)|simp)) (by simp),⟨by omega,fun j hj=>?_⟩,by omega⟩
    by_cases hji:j=i
    ·subst hji;exact h0
    ·exact hall j (by omega)
   ·have hres:=hstep i hlt2 h0 hall
    have f12:=cX (n:=(k:Int)+1) (by omega) (by omega)
    refine AW.cond (b:=true) (by first|(simp [h0];done)|(simp [h0];omega)) ?_
    refine AW.ag fun K8 hK8=>?_
    refine AW.aa rfl ?_
    simp [f12]
    apply hK8;clear hK8 K8
    exact AW.ret (κ:=0) (aK.Bv (κ:=0) rfl 9 (by simp [hres]) (by simp [hres]) (by simp [hres]) rfl rfl rfl (by simp) rfl rfl rfl (by decide) (by decide) (by decide))
  ·have hlt2':¬ (i:Int)<(N:Int):=by omega
   refine AW.cond (b:=false) (by first|(simp [hlt2'];done)|(simp [hlt2'];omega)) ?_
   refine AW.exit ?_
   simp
   apply hK3
   have f12:=cX (n:=(k:Int)+1) (by omega) (by omega)
   refine AW.aa rfl ?_
   simp [f12]
   exact⟨k+1,(Le.drop [3]  9 _ rfl (by intro k hk;simp at hk;subst hk;simp [aB]) (by intro k hk;simp at hk;simp only [aB];(repeat (any_goals split)) <;> simp_all) (by simp [aB]) (by repeat (first|exact aL|refine aN ?_ _ _ _ _ _|(refine aq ?_ _)|(refine aQ ?_ _ _ _)|(refine au ?_ _)|simp)) (by repeat (first|exact dW|refine fc ?_ (by simp [pg]))) (by simp [pg])),⟨by omega,hnext fun j hj=>hall j (by omega)⟩,by omega⟩
 ·have hlt':¬ (k:Int)<4:=by omega
  have hk4:k=4:=by omega
  subst hk4
  have hfin:dh p 4 0=if 0≤p.res∧p.res<p.nn∧lR p p.res≠1 then (0,0,0) else (5,0,7):=by rw [← hpv];rfl
  refine AW.cond (b:=false) (by first|(simp [hlt'];done)|(simp [hlt'];omega)) ?_
  refine AW.exit ?_
  simp
  apply hK
  refine AW.ag fun K hK=>?_
  refine AW.ag fun K1 hK1=>?_
  by_cases h1:0≤p.res∧p.res<p.nn
  rotate_left
  ·have hd:decide (0≤p.res∧p.res<(p.nn:Int))=false:=decide_eq_false h1
   have hres:dh p 4 0=(5,0,7):=by rw [hfin,if_neg (fun h=>h1 ⟨h.1,h.2.1⟩)]
   rw [hd] at hwi
   refine AW.aa rfl ?_
   simp [Df]
   refine ai.pure 3 9 (hwi) (by first|(simp;done)|rfl) (by simp) (by first|rfl|simp) ?_
   simp
   apply hK1;clear hK1 K1
   refine AW.cond (b:=true) (by first|(simp [];done)|(simp [];omega)) ?_
   refine AW.ag fun K1 hK1=>?_
   refine AW.aa rfl ?_
   simp
   apply hK1;clear hK1 K1
   exact AW.ret (κ:=0) (aK.Bv (κ:=0) rfl 9 (by simp [hres]) (by simp [hres]) (by simp [hres]) rfl rfl rfl (by simp) rfl rfl rfl (by decide) (by decide) (by decide))
  have hd:decide (0≤p.res∧p.res<(p.nn:Int))=true:=decide_eq_true h1
  rw [hd] at hwi
  by_cases h2:lR p p.res=1
  ·have hres:dh p 4 0=(5,0,7):=by rw [hfin,if_neg (fun h=>h.2.2 h2)]
   rw [h2] at hse
   refine AW.aa rfl ?_
   simp [Df]
   refine ai.pure 3 9 (hwi) (by first|(simp;done)|rfl) (by simp) (by first|rfl|simp) ?_
   simp
   refine ai.pure 3 9 (hse) (by first|(simp;done)|rfl) (by simp) (by first|rfl|simp) ?_
   simp
   apply hK1;clear hK1 K1
   refine AW.cond (b:=true) (by first|(simp [];done)|(simp [];omega)) ?_
   refine AW.ag fun K1 hK1=>?_
   refine AW.aa rfl ?_
   simp
   apply hK1;clear hK1 K1
   exact AW.ret (κ:=0) (aK.Bv (κ:=0) rfl 9 (by simp [hres]) (by simp [hres]) (by simp [hres]) rfl rfl rfl (by simp) rfl rfl rfl (by decide) (by decide) (by decide))
  ·have hres:dh p 4 0=(0,0,0):=by rw [hfin,if_pos ⟨h1.1,h1.2,h2⟩]
   refine AW.aa rfl ?_
   simp [Df]
   refine ai.pure 3 9 (hwi) (by first|(simp;done)|rfl) (by simp) (by first|rfl|simp) ?_
   simp
   refine ai.pure 3 9 (hse) (by first|(simp;done)|rfl) (by simp) (by first|rfl|simp) ?_
   simp [h2]
   apply hK1;clear hK1 K1
   refine AW.cond (b:=false) (by first|(simp [h2];done)|(simp [h2];omega)) ?_
   refine AW.skip ?_
   simp
   apply hK;clear hK K
   refine AW.ag fun K hK=>?_
   refine AW.aa rfl ?_
   simp
   apply hK;clear hK K
   exact AW.ret (κ:=0) (aK.Bv (κ:=0) rfl 9 (by simp [hres]) (by simp [hres]) (by simp [hres]) rfl rfl rfl (by simp) rfl rfl rfl (by decide) (by decide) (by decide))
end Go.Am

namespace Go.Am
open Go.Am.Ty Go.Proofs N
theorem uY (m:Int)(p:PD)(hp:p.ok):ah Tryz.prog (GG m) 45 [p.A] (.c (.d (.int .i64 (fI p).2.2))):=by
 have h:=BH m p hp
 generalize fI p=v at *
 refine ah.aU Go.Proofs.Tryz.func45 rfl (by rw [Tryz.ntmps45];simp) ?_
 rintro⟨_,_,w0,F0,W0,_,bu,β0⟩ rfl rfl rfl
 refine AW.ag fun K hK=>?_
 refine AW.aa rfl ?_
 simp
 apply hK;clear hK K
 refine AW.ag fun K hK=>?_
 refine AW.aa rfl ?_
 simp
 refine ai.pure 1 9 (h) (by first|(simp;done)|rfl) (by simp) (by first|rfl|simp) ?_
 simp
 apply hK;clear hK K
 refine AW.ag fun K hK=>?_
 refine AW.aa rfl ?_
 simp
 apply hK;clear hK K
 exact AW.ret (κ:=0) (aK.tmp (κ:=0) rfl 2 (by simp []) (by first|rfl|simp) (by first|rfl|simp) (by first|rfl|simp))
@[simp] theorem WB (E:TypeId)(o:Option (List (List DV)))(g:Key→Key):(lU E o).bt g=lU E o:=by
 cases o with
 | none=>rfl
 | some es=>simp only [lU,LB.jc,BI]
@[simp] theorem Wh (E:TypeId)(o:Option (List (List DV)))(b:Bool):(lU E o).fix b=lU E o:=by cases o <;> rfl
theorem yY (E:TypeId)(o:Option (List (List DV))):lU E o≠.hole:=by cases o <;> (intro h;cases h)
theorem N3 (E:TypeId)(o:Option (List (List DV)))(g:Key→Key):(lU E o).like (lU E o) g:=by
 cases o with
 | none=>rfl
 | some es=>exact kI E es g
abbrev lP (p:PD)(a b c d:Key):List CV:=[.aJ a 0 p.nf 2,.d (.int .i64 p.mode),.aJ b 0 p.ni 3,.aJ c 0 p.nn 7,.d (.int .i64 p.head),.d (.int .i64 p.tail),.aJ d 0 p.ns 2,.d (.int .i64 p.res)]
structure PD.Fm (p:PD):Prop where
 f:p.nf≤1000
 i:p.ni≤1000
 n:p.nn≤1000
 s:p.ns≤1000
theorem Cq (a b c d e f g h:CV):eC Tryz.prog 27 [a,b,c,d,e,f,g,h]=some (.agg [a,b,c,d,e,f,g,h]):=by kernel_rfl
set_option maxHeartbeats 2000000 in
theorem Gb (G:List (List DV))(p:PD)(hp:p.ok)(ht:p.Fm):aC Tryz.prog G 78 [p.A] [] (.ret (.agg (lP p 1000 1001 1002 1003)) [] [lU 81 p.f,lU 67 p.ins,lU 55 p.nodes,lU 69 p.states]):=by
 have c1:=A2 G p.f (fun e he=>ia (hp.f e he)) (Nat.le_trans ht.f (by decide))
 have c2:=Aj G p.ins (fun e he=>qJ (hp.ins e he)) (Nat.le_trans ht.i (by decide))
 have c3:=yL G p.nodes (fun e he=>kX (hp.nodes e he)) (Nat.le_trans ht.n (by decide))
 have c4:=xL G p.states (fun e he=>ia (hp.states e he)) (Nat.le_trans ht.s (by decide))
 refine aC.vm Go.Proofs.Tryz.func78 rfl (by rw [Tryz.ntmps78];simp)  ?_
 rintro⟨_,_,w0,F0,W0,_,bu,β0⟩ rfl rfl rfl rfl
 refine AW.ag fun K hK=>?_
 refine AW.aa rfl ?_
 simp
 apply hK;clear hK K
 refine AW.ag fun K hK=>?_
 refine AW.eB mixed (by kernel_rfl) rfl ?_
 simp
 refine ai.Jz 3 19 [2] [lU 81 p.f] c1 (by simp) (by simp) (by simp) rfl (by simp) (by simp) (by simp [yY]) ?_
 simp [bA,aF]
 refine ai.Jz 4 19 [3] [lU 67 p.ins] c2 (by simp) (by simp) (by simp) rfl (by simp) (by simp) (by simp [yY]) ?_
 simp [bA,aF,aj]
 refine⟨by kernel_rfl,?_⟩
 apply hK;clear hK K
 refine AW.ag fun K hK=>?_
 refine AW.eB mixed (by kernel_rfl) rfl ?_
 simp
 refine ai.Jz 5 19 [4] [lU 55 p.nodes] c3 (by simp) (by simp) (by simp) rfl (by simp) (by simp) (by simp [yY]) ?_
 simp [bA,aF]
 refine ai.Jz 6 19 [5] [lU 69 p.states] c4 (by simp) (by simp) (by simp) rfl (by simp) (by simp) (by simp [yY]) ?_
 simp [bA,aF,aj]
 refine⟨by kernel_rfl,?_⟩
 apply hK;clear hK K
 refine AW.ag fun K hK=>?_
 refine AW.aa rfl ?_
 simp
 apply hK;clear hK K
 refine AW.ret (κ:=0) ⟨[(1000,2,lU 81 p.f),(1001,3,lU 67 p.ins),(1002,4,lU 55 p.nodes),(1003,5,lU 69 p.states)],19,qb _ _ _ _,by simp,by simp,by simp,?_,rfl,?_⟩
 ·simp [N3]
 ·show cq _ _ [.cell 2 27]=_
  simp [cq,iB,j8,cH,aj,PD.nf,PD.ni,PD.nn,PD.ns]
theorem ah.NO {P:Program}{G:List (List DV)}{f:FuncId}{us:List AV}{X x:AV}{ν:List LB}{ks:List Key}(h:aC P G f us [] (.ret X [] ν)) (hd:fX (aV [] ν) X=some (x,ks)):ah P G f us x:=by
 refine ah.vj (lv':=aV [] ν) (fun F β w vs hS hl hv=>?_) hd
 have hlv:aV [] []=fun _=>LB.hole:=cU
 have h2:=h F β w vs (by rw [hlv];exact hS) hl (by rw [hlv];exact hv)
 refine h2.mono fun e w' he=>?_
 obtain⟨v,F',β',h3,h4,h5⟩:=he
 exact⟨v,F',β',h3,by rw [hlv] at h4;exact h4,h5⟩
theorem kM {lv:Key→LB}{k:Key}{E:TypeId}{o:Option (List (List DV))}{sz n:Nat}(h:lv k=lU E o) (hs:∀ e∈sO o,e.length=sz) (hl:(sO o).length≤1000) :
 cF lv (n+1) (.aJ k 0 (sO o).length sz)=some (sD o,if o.isSome then [k] else []):=by
 cases o with
 | none=>simp only [lU] at h;simp only [cF,h];rfl
 | some es=>
  simp only [lU] at h
  have hs:∀ e∈es,e.length=sz:=hs
  have hl:es.length≤1000:=hl
  have h1:=lf (sz:=sz) h hs (by omega)
  show cF lv (n+1) (.aJ k 0 es.length sz)=some (.sl es,[k])
  have hlen:es.flatten.length=es.length*sz:=by
   rw [List.length_flatten]
   have:∀ l:List (List DV),(∀ e∈l,e.length=sz)→(l.map List.length).sum=l.length*sz:=by
    intro l
    induction l with
    | nil=>intro _;simp
    | cons a l ih=>intro h;simp [ih fun x hx=>h x (by simp [hx]),h a (by simp),Nat.succ_mul];omega
   exact this es hs
  have ht:(es.flatten.map CV.d).take (es.length*sz)=es.flatten.map CV.d:=List.take_of_length_le (by rw [List.length_map,hlen];exact Nat.le_refl _)
  have hl2:es.length≤9223372036854775807:=by omega
  simp only [cF,h,List.length_map,hlen,Nat.zero_add,Nat.le_refl,hl2,and_self,if_true,List.drop_zero,ht,tH,Option.map_some,o7 es hs]
theorem FN {lv:Key→LB}{p:PD}{a b c d:Key}(hp:p.ok) (ht:p.Fm) (h1:lv a=lU 81 p.f) (h2:lv b=lU 67 p.ins) (h3:lv c=lU 55 p.nodes) (h4:lv d=lU 69 p.states) :
 dZ lv (.agg (lP p a b c d))=some (p.A,(if p.f.isSome then [a] else [])++((if p.ins.isSome then [b] else [])++((if p.nodes.isSome then [c] else [])++(if p.states.isSome then [d] else [])))):=by
 have e1:=kM (n:=7) h1 (fun e he=>ia (hp.f e he)) ht.f
 have e2:=kM (n:=7) h2 (fun e he=>qJ (hp.ins e he)) ht.i
 have e3:=kM (n:=7) h3 (fun e he=>kX (hp.nodes e he)) ht.n
 have e4:=kM (n:=7) h4 (fun e he=>ia (hp.states e he)) ht.s
 have f1:∀ n:Int,cF lv 8 (.d (.int .i64 n))=some (.int .i64 n,[]):=fun n=>rfl
 simp only [dZ,PD.nf,PD.ni,PD.nn,PD.ns,eR,e1,e2,e3,e4,f1,Option.map_some,List.append_nil,List.nil_append]
 show some (AV.agg (p.Ei.map CV.d),_)=_
 rw [uJ]
theorem Fk (G:List (List DV))(p:PD)(hp:p.ok)(ht:p.Fm):ah Tryz.prog G 78 [p.A] p.A:=
 ah.NO (Gb G p hp ht) (FN hp ht (by rw [qb];simp) (by rw [qb];simp) (by rw [qb];simp) (by rw [qb];simp))
def m9:PD:=⟨none,0,none,none,0,0,none,0⟩
theorem Zc:hH Tryz.prog 27 [] []=some (.agg m9.cs,[],[],True):=by kernel_rfl
theorem EC (lv:Key→LB)(p:PD)(n:Int):fX lv (.tup [p.A,.c (.d (.int .i64 n))])=some (.tup [p.A,.c (.d (.int .i64 n))],[]):=by
 obtain⟨f,a,i,nn,b,c,s,d⟩:=p
 cases f <;> cases i <;> cases nn <;> cases s <;> rfl
@[simp] theorem PD.Zi (p:PD)(n:Int):(AV.tup [.agg [dg p.f,.d (.int .i64 p.mode),dg p.ins,dg p.nodes,.d (.int .i64 p.head),.d (.int .i64 p.tail),dg p.states,.d (.int .i64 p.res)],.c (.d (.int .i64 n))]).pure=true:=by
 obtain⟨f,a,i,nn,b,c,s,d⟩:=p
 cases f <;> cases i <;> cases nn <;> cases s <;> rfl
theorem E1 {p:PD}(h:(fI p).2.2=0):gp p=0:=by
 unfold fI at h
 by_cases hg:gp p=0
 ·exact hg
 ·rw [if_pos hg] at h;exact absurd h hg
theorem Jf {p:PD}(h:(fI p).2.2=0):p.Fm:=by
 have:=nO (E1 h)
 exact⟨by omega,by omega,by omega,by omega⟩
def S5 (p:PD):PD:=if (fI p).2.2=0 then p else m9
def PD.NJ (p:PD)(n:Int):PD:=⟨p.f,p.mode,p.ins,p.nodes,p.head,p.tail,p.states,n⟩
def TX (p:PD)(n:Int):PD × Int:=if (fI p).2.2≠0 then (m9,(fI p).2.2) else if 0≤n∧n<p.nn∧lR p n≠1 then (p.NJ n,0) else (m9,7)
end Go.Am

namespace Go.Am
open Go.Am.Ty Go.Proofs N
def ij (l:List Nd):List CV:=(l.flatMap Nd.e).map CV.d
def Xy (l:List In):List CV:=(l.flatMap In.e).map CV.d
theorem G8 (n:Nd)(l:List Nd):ij (n::l)=[CV.d (.int .i64 n.op),.d (.int .i64 n.a),.d (.int .i64 n.b),.d (.int .i64 n.c),.d (.int .i64 n.d),.d (.int .i64 n.f),.d (.str n.v)]++ij l:=by
 simp [ij]
def Nd.Yz (n:Nd)(x:Int):Nd:=⟨n.op,n.a,n.b,n.c,n.d,x,n.v⟩
def In.X3 (n:In)(a b:List UInt8):In:=⟨n.f,a,b⟩
theorem nu (l:List Nd):(ij l).length=l.length*7:=by
 induction l with
 | nil=>rfl
 | cons a l ih=>rw [G8,List.length_append,ih];simp;omega
def PD.N (p:PD):List Nd:=(sO p.nodes).map KP
def PD.I (p:PD):List In:=(sO p.ins).map N6
theorem PD.ZJ {p:PD}(hp:p.ok):p.N.map Nd.e=sO p.nodes:=by
 unfold PD.N
 rw [List.map_map]
 conv=>rhs;rw [← List.map_id (sO p.nodes)]
 exact List.map_congr_left fun e he=>(Dc (hp.nodes e he)).symm
theorem PD.uC (p:PD):p.N.length=p.nn:=by simp [PD.N,PD.nn]
end Go.Am
