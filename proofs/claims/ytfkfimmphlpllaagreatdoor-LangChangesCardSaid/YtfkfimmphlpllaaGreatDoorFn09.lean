/- Helpers: an abstract machine for Go functions, and walks of functions of the program. -/
import Derived.Test.YtfkfimmphlpllaaGreatDoorFn08
import Derived.Lib.IndexMore

set_option linter.all false
set_option maxHeartbeats 8000000
set_option maxRecDepth 100000
namespace Go.Am
variable {x:Rat}
abbrev Zp:=@Rat.sub_eq_add_neg
abbrev Zq:=@Nat.gcd_zero_left
abbrev Zb:=@List.all_eq_false
abbrev YS:=@List.flatMap_def
open Go.Am.Ty Go.Proofs N
theorem Pm (a b:Bool):aH Tryz.prog .eql 4 (.c (.d (.bool a))) (.c (.d (.bool b)))=some (.c (.d (.bool (a == b))),[],[],True):=by
 cases a <;> cases b <;> kernel_rfl
theorem ye (G:List (List DV))(neg:Bool)(p q:Option (List Nat))(hp:can 4294967296 (dO p))(hq:can 4294967296 (dO q))(hq0:dO q≠[])(hl:(dO p).length<1000000000000)(hl':(dO q).length<1000000000000) :
 aa Tryz.prog G 225 [.c (.d (.bool neg)),.c (nC p),.c (nC q)] (fL (mkRat (dy neg (val 4294967296 (dO p))) (val 4294967296 (dO q)))):=by
 have:=pN G neg p q hp hq hq0 hl hl';rw [zZ neg hp hq hq0] at this;simp only [kL] at this;exact this
theorem zO (G:List (List DV))(neg:Bool)(a b:Nat)(hb:b≠0)(hl:nl a<1000000000000)(hl':nl b<1000000000000) :
 aa Tryz.prog G 225 [.c (.d (.bool neg)),.c (nC (some (aI 4294967296 a))),.c (nC (some (aI 4294967296 b)))] (fL (mkRat (dy neg a) b)):=by
 have:=ye G neg (some (aI 4294967296 a)) (some (aI 4294967296 b)) (gz a) (gz b) (lp hb) hl hl';simp only [aV,dR] at this;exact this
theorem EH (G:List (List DV))(neg:Bool)(p q:Option (List Nat)):aa Tryz.prog G 198 [pG neg p q] (pG (!neg && decide (dO p≠[])) p q):=by
 cases neg with
 | true=>
  show aa Tryz.prog G 198 [pG true p q] (pG false p q);refine aa.enc Tryz.func198 rfl (fun lv=>fJ lv _ _ _) fun _=>aab ?_;refine aal @Fm ?_;refine aam ?_;refine bD.cell (κ:=0) (T:=224) (t:=2) (k:=1) (off:=0) (own:=true) (fz:=false) (U:=224) (cs:=[.d (.bool false),nC p,nC q]) rfl ?_ ?_ ?_
  ·simp
  ·simp [aj]
  ·rw [fQ,bL]
 | false=>
  by_cases hp:dO p=[]
  ·rw [show (!false && decide (dO p≠[]))=false by simp [hp]];refine aa.enc Tryz.func198 rfl (fun lv=>fJ lv _ _ _) fun _=>aab ?_;refine aay @Fm @Va hp ?_;refine aam ?_;refine bD.cell (κ:=0) (T:=224) (t:=2) (k:=1) (off:=0) (own:=true) (fz:=false) (U:=224) (cs:=[.d (.bool false),nC p,nC q]) rfl ?_ ?_ ?_
   ·simp
   ·simp [aj]
   ·rw [fQ,bL]
  ·rw [show (!false && decide (dO p≠[]))=true by simp [hp]];refine aa.enc Tryz.func198 rfl (fun lv=>fJ lv _ _ _) fun _=>aab ?_;refine aaa fun K hK=>?_;have hp':=List.length_pos_iff.2 hp;refine aaE @Fm @Va hp hp' (hK _ _ ?_);refine aam ?_;refine bD.cell (κ:=0) (T:=224) (t:=2) (k:=1) (off:=0) (own:=true) (fz:=false) (U:=224) (cs:=[.d (.bool true),nC p,nC q]) rfl ?_ ?_ ?_
   ·simp
   ·simp [aj]
   ·rw [fQ,bL]
theorem M8 (G:List (List DV))(x:Rat):aa Tryz.prog G 198 [fL x] (fL (-x)):=by
 have h:=EH G (decide (x.num<0)) (cL x.num.natAbs) (dP x.den)
 have e:(!decide (x.num<0) && decide (dO (cL x.num.natAbs)≠[]))=decide ((-x).num<0):=by
  rw [Rat.neg_num,lA]
  by_cases h0:x.num=0
  ·rw [h0];rfl
  ·have h1:(aI 4294967296 x.num.natAbs)≠[]:=lp (by omega);rw [decide_eq_true h1,YN]
   by_cases h2:x.num<0
   ·rw [decide_eq_true h2,decide_eq_false (by omega)];rfl
   ·rw [decide_eq_false h2,decide_eq_true (by omega)];rfl
 rw [e] at h;show aa _ _ _ _ (pG (decide ((-x).num<0)) (cL (-x).num.natAbs) (dP (-x).den));rw [show (-x).num.natAbs=x.num.natAbs by rw [Rat.neg_num,Int.natAbs_neg],Rat.neg_den];exact h
theorem Hz (neg:Bool)(a:Nat):mkRat (dy neg a) 1=((dy neg a:Int):Rat):=by
 rw [Rat.mkRat_one]
theorem Gh (G:List (List DV))(n:Int)(h1:-9223372036854775808≤n)(h2:n≤9223372036854775807):aa Tryz.prog G 263 [.c (.d (.int .i64 n))] (fL (n:Rat)):=by
 have hof1:=fX G 1 (by decide);have hofn:=fX G n.natAbs (by omega)
 have hl:nl n.natAbs<1000000000000:=by
  have e2:(4294967296:Nat) ^ 2=18446744073709551616:=by decide
  have:=Cn (n:=n.natAbs) (m:=2) (by omega);omega
 have hm:=fun neg=>zO G neg n.natAbs 1 (by decide) hl (by rw [qh];decide)
 simp only [kL] at hof1 hofn;simp only [Hz] at hm
 by_cases hn:n<0
 ·have e:dy true n.natAbs=n:=by unfold dy;rw [if_pos rfl];omega
  have Qc:=hm true;rw [e] at Qc;have ew:IntKind.u64.wrap (-IntKind.u64.wrap n)=(n.natAbs:Int):=by rw [Ac,Ac];omega
  refine aa.enc Tryz.func263 rfl (fun lv=>fJ lv _ _ _) fun _=>aab ?_;refine aaa fun K hK=>aal hn ?_;refine aai (by simp [hn] <;> omega) (aak fun K1 hK1=>?_);simp [ew];refine ag.p 1 9 hofn ?_;simp;refine ag.p 1 9 hof1 ?_;simp;refine ag.p 1 9 Qc ?_;simp;apply hK1;refine aam ?_;refine bD.cell (κ:=0) (T:=224) (t:=2) (k:=0) (off:=0) (own:=true) (fz:=false) (U:=224) (cs:=[.d (.bool (decide ((n:Rat).num<0))),nC (cL (n:Rat).num.natAbs),nC (dP (n:Rat).den)]) rfl ?_ ?_ ?_
  ·simp
  ·simp [aj]
  ·rw [fQ,bL]
 ·have e:dy false n.natAbs=n:=by unfold dy;rw [if_neg (by decide)];omega
  have Qc:=hm false;rw [e] at Qc;have ew:IntKind.u64.wrap n=(n.natAbs:Int):=by rw [Ac];omega
  refine aa.enc Tryz.func263 rfl (fun lv=>fJ lv _ _ _) fun _=>aab ?_;refine aaa fun K hK=>aal hn ?_;refine aaj (by simp [hn] <;> omega) (aac (hK _ _ (aak fun K hK=>?_)));simp [ew];refine ag.p 1 9 hofn ?_;simp;refine ag.p 1 9 hof1 ?_;simp;refine ag.p 1 9 Qc ?_;simp;apply hK;refine aam ?_;refine bD.cell (κ:=0) (T:=224) (t:=2) (k:=0) (off:=0) (own:=true) (fz:=false) (U:=224) (cs:=[.d (.bool (decide ((n:Rat).num<0))),nC (cL (n:Rat).num.natAbs),nC (dP (n:Rat).den)]) rfl ?_ ?_ ?_
  ·simp
  ·simp [aj]
  ·rw [fQ,bL]
def BJ (neg:Bool)(a:Nat)(neg':Bool)(b q:Nat):Rat:=
 if neg=neg' then mkRat (dy neg (a+b)) q else if a<b then mkRat (dy neg' (b - a)) q else mkRat (dy neg (a - b)) q
theorem rz {a b:Nat}:(dG a b<0)↔a<b:=by unfold dG;(repeat' split) <;> omega
theorem Ef (G:List (List DV))(neg neg':Bool)(p q p' q':Option (List Nat))(h1:(dO p).length≤10000000000)(h2:(dO q).length≤10000000000)(h3:(dO p').length≤10000000000)(h4:(dO q').length≤10000000000)
 (c1:can 4294967296 (dO p)) (c2:can 4294967296 (dO (eV q))) (c3:can 4294967296 (dO p')) (c4:can 4294967296 (dO (eV q'))) (z2:(val 4294967296 (dO (eV q)))≠0) (z4:(val 4294967296 (dO (eV q')))≠0) :
 aa Tryz.prog G 335 [pG neg p q,pG neg' p' q'] (fL (BJ neg ((val 4294967296 (dO p))*(val 4294967296 (dO (eV q')))) neg' ((val 4294967296 (dO p'))*(val 4294967296 (dO (eV q)))) ((val 4294967296 (dO (eV q)))*(val 4294967296 (dO (eV q')))))):=by
 have b1:=sI h2 (by decide);have b2:=sI h4 (by decide);have m1:=gj G p (eV q') (by omega) (by omega);have m2:=gj G p' (eV q) (by omega) (by omega);have m3:=gj G (eV q) (eV q') (by omega) (by omega);have hQ:(val 4294967296 (dO (eV q)))*(val 4294967296 (dO (eV q')))≠0:=XY (XC (YA z2) (YA z4));have lv:∀ {o:Option (List Nat)},can 4294967296 (dO o)→nl (val 4294967296 (dO o))=(dO o).length:=fun {o} hc=>by unfold nl;rw [← gB (by decide) hc rfl]
 have l1:nl ((val 4294967296 (dO p))*(val 4294967296 (dO (eV q'))))≤20000000000:=by
  have:=fZ (val 4294967296 (dO p)) (val 4294967296 (dO (eV q')));rw [lv c1,lv c4] at this;omega
 have l2:nl ((val 4294967296 (dO p'))*(val 4294967296 (dO (eV q))))≤20000000000:=by
  have:=fZ (val 4294967296 (dO p')) (val 4294967296 (dO (eV q)));rw [lv c3,lv c2] at this;omega
 have l3:nl ((val 4294967296 (dO (eV q)))*(val 4294967296 (dO (eV q'))))≤20000000000:=by
  have:=fZ (val 4294967296 (dO (eV q))) (val 4294967296 (dO (eV q')));rw [lv c2,lv c4] at this;omega
 generalize (val 4294967296 (dO p))*(val 4294967296 (dO (eV q')))=a at *
 generalize (val 4294967296 (dO p'))*(val 4294967296 (dO (eV q)))=b at *
 generalize (val 4294967296 (dO (eV q)))*(val 4294967296 (dO (eV q')))=Q at *
 have la:(dO (some (aI 4294967296 a))).length≤20000000000:=l1;have lb:(dO (some (aI 4294967296 b))).length≤20000000000:=l2;have k1:=sF G (some (aI 4294967296 a)) (some (aI 4294967296 b)) (by omega) (by omega);have k2:=gx (G:=G) (a:=some (aI 4294967296 a)) (b:=some (aI 4294967296 b)) (gz _) (gz _);have k3:=fun h=>ru G (some (aI 4294967296 a)) (some (aI 4294967296 b)) (by omega) h
 have k4:=fun h=>ru G (some (aI 4294967296 b)) (some (aI 4294967296 a)) (by omega) h
 simp only [aV,dR] at k1 k2 k3 k4;simp only [kL,FE] at m1 m2 m3 k1 k2 k3 k4;have mk1:=fun neg n (h:nl n≤20000000001)=>zO G neg n Q hQ (by omega) (by omega)
 have hsum:nl (a+b)≤20000000001:=by have:=FQ a b;omega
 have hs1:nl (a - b)≤20000000001:=by have:=kX (Nat.sub_le a b);omega
 have hs2:nl (b - a)≤20000000001:=by have:=kX (Nat.sub_le b a);omega
 refine aa.enc Tryz.func335 rfl (fun lv=>fJ lv _ _ _) fun _=>aab ?_;refine aaa fun K hK=>?_;refine aap mixed (by kernel_rfl) rfl ?_;simp;refine ag.p 3 9 (dn _ neg' p' q') ?_;simp;refine ag.p 3 9 m1 ?_;simp;refine ag.p 3 9 (dn _ neg p q) ?_;simp;refine ag.p 3 9 m2 ?_;simp;refine ag.p 3 9 (dn _ neg p q) ?_;simp;refine ag.p 3 9 (dn _ neg' p' q') ?_;simp;refine ag.p 3 9 m3 ?_;simp;refine⟨by kernel_rfl,?_⟩;apply hK;refine aaa fun K hK=>aaf (aal @Pm ?_)
 by_cases hn:neg=neg'
 ·subst hn;have e:BJ neg a neg b Q=mkRat (dy neg (a+b)) Q:=by unfold BJ;rw [if_pos rfl]
  rw [e];refine aah (aaa fun K1 hK1=>?_);refine aap mixed (by kernel_rfl) rfl ?_;simp;refine ag.p 3 9 k1 ?_;simp;refine ag.p 3 9 (mk1 neg _ hsum) ?_;simp;refine⟨by kernel_rfl,?_⟩;apply hK1;refine aam ?_;refine bD.cell (κ:=0) (T:=224) (t:=4) (k:=2) (off:=0) (own:=true) (fz:=false) (U:=224) (cs:=[.d (.bool (decide ((mkRat (dy neg (a+b)) Q).num<0))),nC (cL (mkRat (dy neg (a+b)) Q).num.natAbs),nC (dP (mkRat (dy neg (a+b)) Q).den)]) rfl ?_ ?_ ?_
  ·simp
  ·simp [aj]
  ·rw [fQ,bL]
 have hn':(neg == neg')=false:=by cases neg <;> cases neg' <;> simp_all
 refine aaj (by simp [hn'] <;> omega) (aaq 3 k2 ?_)
 by_cases hab:a<b
 ·have e:BJ neg a neg' b Q=mkRat (dy neg' (b - a)) Q:=by unfold BJ;rw [if_neg hn,if_pos hab]
  rw [e];have hc:=rz.2 hab;refine aai (by simp [hc] <;> omega) (aaa fun K1 hK1=>?_);refine aap mixed (by kernel_rfl) rfl ?_;simp;refine ag.p 3 9 (k4 (by omega)) ?_;simp;refine ag.p 3 9 (mk1 neg' _ hs2) ?_;simp;refine⟨by kernel_rfl,?_⟩;apply hK1;refine aam ?_;refine bD.cell (κ:=0) (T:=224) (t:=4) (k:=2) (off:=0) (own:=true) (fz:=false) (U:=224) (cs:=[.d (.bool (decide ((mkRat (dy neg' (b - a)) Q).num<0))),nC (cL (mkRat (dy neg' (b - a)) Q).num.natAbs),nC (dP (mkRat (dy neg' (b - a)) Q).den)]) rfl ?_ ?_ ?_
  ·simp
  ·simp [aj]
  ·rw [fQ,bL]
 ·have e:BJ neg a neg' b Q=mkRat (dy neg (a - b)) Q:=by unfold BJ;rw [if_neg hn,if_neg hab]
  have hc:¬ dG a b<0:=fun h=>hab (rz.1 h)
  refine aaj (by simp [hc] <;> omega) (aac (hK _ _ (aaa fun K hK=>?_)));refine aap mixed (by kernel_rfl) rfl ?_;simp;refine ag.p 3 9 (k3 (by omega)) ?_;simp;refine ag.p 3 9 (mk1 neg _ hs1) ?_;simp;refine⟨by kernel_rfl,?_⟩;apply hK;refine aam ?_;refine bD.cell (κ:=0) (T:=224) (t:=4) (k:=2) (off:=0) (own:=true) (fz:=false) (U:=224) (cs:=[.d (.bool (decide ((mkRat (dy neg (a - b)) Q).num<0))),nC (cL (mkRat (dy neg (a - b)) Q).num.natAbs),nC (dP (mkRat (dy neg (a - b)) Q).den)]) rfl ?_ ?_ ?_
  ·simp
  ·simp [aj]
  ·rw [fQ,bL,e]
theorem iI (n:Nat):(dO (cL n)).length=nl n:=by rw [lA];rfl
theorem qX (n:Nat):(dO (dP n)).length≤nl n:=by
 unfold dP;split
 ·exact W2 _
 ·exact bg _
theorem My (G:List (List DV))(x y:Rat)(hx:jv x 10000000000)(hy:jv y 10000000000):aa Tryz.prog G 335 [fL x,fL y] (fL (x+y)):=by
 have h:=Ef G (decide (x.num<0)) (decide (y.num<0)) (cL x.num.natAbs) (dP x.den) (cL y.num.natAbs) (dP y.den)
  (by rw [iI];exact hx.1) (WN (qX _) hx.2) (by rw [iI];exact hy.1) (WN (qX _) hy.2) (nT _) (D3 _) (nT _) (D3 _) (by rw [s9];exact x.den_nz) (by rw [s9];exact y.den_nz)
 simp only [nH,s9] at h
 have e:BJ (decide (x.num<0)) (x.num.natAbs*y.den) (decide (y.num<0)) (y.num.natAbs*x.den) (x.den*y.den)=x+y:=by
  rw [Fh];unfold BJ;split
  ·rename_i hh;rw [hh,BB]
  ·split
   ·rename_i hh hl;rw [E1 hh hl]
   ·rename_i hh hl;rw [E8 hh hl]
 rw [e] at h;exact h
theorem NN (G:List (List DV))(x y:Rat)(hx:jv x 10000000000)(hy:jv y 10000000000):aa Tryz.prog G 287 [fL x,fL y] (fL (x - y)):=by
 have h1:=M8 G y;have h2:=My G x (-y) hx (wq hy);rw [← Zp] at h2;refine aa.enc Tryz.func287 rfl (fun lv=>fJ lv _ _ _) fun _=>aab ?_;refine aaa fun K hK=>?_;refine aap mixed (by kernel_rfl) rfl ?_;simp;refine ag.p 3 9 h1 ?_;simp;refine ag.p 3 9 h2 ?_;simp;refine⟨by kernel_rfl,?_⟩;apply hK;refine aam ?_;refine bD.cell (κ:=0) (T:=224) (t:=4) (k:=2) (off:=0) (own:=true) (fz:=false) (U:=224) (cs:=[.d (.bool (decide ((x - y).num<0))),nC (cL (x - y).num.natAbs),nC (dP (x - y).den)]) rfl ?_ ?_ ?_
 ·simp
 ·simp [aj]
 ·rw [fQ,bL]
theorem Cr (G:List (List DV))(x:Rat)(k:Int)(hx:jv x 10000000000)(h1:-1000000≤k)(h2:k≤1000000):aa Tryz.prog G 332 [fL x,.c (.d (.int .i64 k))] (fL (aM x k)):=by
 have hbot:=dn G (decide (x.num<0)) (cL x.num.natAbs) (dP x.den);rw [BN] at hbot;have hw:IntKind.i64.wrap (-k) = -k:=bG (by omega) (by omega)
 by_cases hk:k<0
 ·have e:=gZ (x:=x) hk;have ht:((-k).toNat:Int) = -k:=by omega
  have hs:=gw G (some (aI 4294967296 x.den)) (-k).toNat (by have:=hx.2;show nl _≤_;omega) (by omega);simp only [aV,lp x.den_nz,if_false,dR,kL,ht] at hs
  have hm:=ye G (decide (x.num<0)) (cL x.num.natAbs) (some (aI 4294967296 (x.den*2 ^ (-k).toNat))) (nT _) (gz _) (lp (qu _ _)) (by rw [iI];have:=hx.1;omega) (by
   have h3:=fZ x.den (2 ^ (-k).toNat);have h4:=nF (-k).toNat;have:=hx.2;show nl _<_;omega)
  rw [nH,aV,dR,← e] at hm;generalize aM x k=r at *
  refine aa.enc Tryz.func332 rfl (fun lv=>fJ lv _ _ _) fun _=>aab ?_;refine aaa fun K hK=>aal hk ?_;refine aai (by simp [hk] <;> omega) (aaa fun K1 hK1=>?_);refine aap mixed (by kernel_rfl) rfl ?_;simp [hw];refine ag.p 2 9 hbot ?_;simp [hw];refine ag.p 2 9 hs ?_;simp [hw];refine ag.p 2 9 hm ?_;simp;refine⟨by kernel_rfl,?_⟩;apply hK1;refine aam ?_;refine bD.cell (κ:=0) (T:=224) (t:=4) (k:=1) (off:=0) (own:=true) (fz:=false) (U:=224) (cs:=[.d (.bool (decide (r.num<0))),nC (cL r.num.natAbs),nC (dP r.den)]) rfl ?_ ?_ ?_
  ·simp
  ·simp [aj]
  ·rw [fQ,bL]
 ·have e:=gW (x:=x) hk;have ht:(k.toNat:Int)=k:=by omega
  have hs:=gw G (cL x.num.natAbs) k.toNat (by rw [iI];have:=hx.1;omega) (by omega)
  have hs':aa Tryz.prog G 326 [.c (nC (cL x.num.natAbs)),.c (.d (.int .i64 k))] (.c (nC (cL (x.num.natAbs*2 ^ k.toNat)))):=by
   simp only [nH] at hs;simp only [lA,ht,kL] at hs
   by_cases h0:x.num.natAbs=0
   ·have:(aI 4294967296 x.num.natAbs)=[]:=by rw [h0];rfl
    rw [if_pos this] at hs;rw [h0,Nat.zero_mul];rw [h0] at hs;exact hs
   ·rw [if_neg (lp h0)] at hs;unfold cL at hs ⊢;rw [if_neg h0] at hs;rw [if_neg h0,if_neg (XY (XC (YA h0) (W3 (by decide))))];exact hs
  have hm:=ye G (decide (x.num<0)) (cL (x.num.natAbs*2 ^ k.toNat)) (some (aI 4294967296 x.den)) (nT _) (gz _) (lp x.den_nz) (by
   rw [iI];have h3:=fZ x.num.natAbs (2 ^ k.toNat);have h4:=nF k.toNat;have:=hx.1;omega) (by have:=hx.2;show nl _<_;omega)
  rw [nH,aV,dR,← e] at hm;generalize aM x k=r at *
  refine aa.enc Tryz.func332 rfl (fun lv=>fJ lv _ _ _) fun _=>aab ?_;refine aaa fun K hK=>aal hk ?_;refine aaj (by simp [hk] <;> omega) (aac (hK _ _ (aaa fun K hK=>?_)));refine aap mixed (by kernel_rfl) rfl ?_;simp;refine ag.p 2 9 hs' ?_;simp;refine ag.p 2 9 hbot ?_;simp;refine ag.p 2 9 hm ?_;simp;refine⟨by kernel_rfl,?_⟩;apply hK;refine aam ?_;refine bD.cell (κ:=0) (T:=224) (t:=4) (k:=1) (off:=0) (own:=true) (fz:=false) (U:=224) (cs:=[.d (.bool (decide (r.num<0))),nC (cL r.num.natAbs),nC (dP r.den)]) rfl ?_ ?_ ?_
  ·simp
  ·simp [aj]
  ·rw [fQ,bL]
theorem CY (lv:Key→LB)(b:Bool)(p q:Option (List Nat))(n:Int):fR lv (.tup [pG b p q,.c (.d (.int .i64 n))])=some (.tup [pG b p q,.c (.d (.int .i64 n))],[]):=by
 cases p <;> cases q <;> rfl
@[simp] theorem MX (b:Bool)(p q:Option (List Nat))(n:Int):(AV.tup [.agg [.d (.bool b),nC p,nC q],.c (.d (.int .i64 n))]).pure=true:=by
 cases p <;> cases q <;> rfl
theorem zo (G:List (List DV))(x:Rat)(k:Int)(hx:jv x 10000000000)(h1:-20000≤k)(h2:k≤20000):aa Tryz.prog G 283 [fL x,.c (.d (.int .i64 k))] (.tup [fL (aM x k),.c (.d (.int .i64 0))]):=by
 have h:=Cr G x k hx (by omega) (by omega);generalize aM x k=r at *
 have i1:¬ k < -20000:=by omega
 have i2:¬ 20000<k:=by omega
 refine aa.enc Tryz.func283 rfl (fun lv=>CY lv _ _ _ _) fun _=>aab ?_;refine aaa fun K hK=>aas i1 i2 ?_;refine aag (aac (hK _ _ (aaq 2 h ?_)));refine aam ?_;refine bD.hO (κ:=0) (T:=224) (t:=4) (u:=5) (k:=1) (off:=0) (own:=true) (fz:=false) (U:=224) (cs:=[.d (.bool (decide (r.num<0))),nC (cL r.num.natAbs),nC (dP r.den)]) rfl ?_ ?_ ?_ ?_ rfl rfl
 ·simp
 ·simp [aj]
 ·rw [fQ,bL]
 ·simp
theorem Nl (G:List (List DV))(k:Int)(h1:-20000≤k)(h2:k≤20000):aa Tryz.prog G 334 [.c (.d (.int .i64 k))] (.tup [fL (aM 1 k),.c (.d (.int .i64 0))]):=by
 have hi:=Gh G 1 (by decide) (by decide);have h:=zo G 1 k ⟨by show nl 1≤_;rw [qh];decide,by show nl 1≤_;rw [qh];decide⟩ h1 h2;change aa _ _ _ _ (fL (1:Rat)) at hi;generalize aM 1 k=r at *
 generalize (1:Rat)=o at *
 refine aa.enc Tryz.func334 rfl (fun lv=>CY lv _ _ _ _) fun _=>aab ?_;refine aak fun K hK=>?_;simp;refine ag.p 1 9 hi ?_;simp;refine ag.p 1 9 h ?_;simp;apply hK;refine aam ?_;refine bD.hO (κ:=0) (T:=224) (t:=2) (u:=3) (k:=0) (off:=0) (own:=true) (fz:=false) (U:=224) (cs:=[.d (.bool (decide (r.num<0))),nC (cL r.num.natAbs),nC (dP r.den)]) rfl ?_ ?_ ?_ ?_ rfl rfl
 ·simp
 ·simp [aj]
 ·rw [fQ,bL]
 ·simp
def fN (x:Rat):Int:=
 let k:=(bh x.num.natAbs:Int) - bh x.den
 if x.num.natAbs*2 ^ (max (-k) 0).toNat<x.den*2 ^ (max k 0).toNat then k - 1 else k
theorem yd(hx:x≠0) {L:Nat}(h:jv x L):-(32*(L:Int))≤fN x∧fN x≤32*L:=by
 have h0:x.num.natAbs≠0:=by intro e;exact hx (Rat.num_eq_zero.1 (by omega))
 have h1:=vO h0;have h2:=vO x.den_nz;have h3:1≤bh x.num.natAbs:=by unfold bh;rw [if_neg h0];omega
 have h4:1≤bh x.den:=by unfold bh;rw [if_neg x.den_nz];omega
 have:=h.1;have:=h.2;unfold fN;simp only;split <;> omega
theorem Mk (G:List (List DV))(x:Rat)(hx:x≠0)(hs:jv x 10000000):aa Tryz.prog G 333 [fL x] (.c (.d (.int .i64 (fN x)))):=by
 have h0:x.num.natAbs≠0:=by intro e;exact hx (Rat.num_eq_zero.1 (by omega))
 have hbot:=dn G (decide (x.num<0)) (cL x.num.natAbs) (dP x.den);rw [BN] at hbot;have l1:=hs.1;have l2:=hs.2;have b1:=vO h0;have b2:=vO x.den_nz;have p1:=pP G (cL x.num.natAbs) (nT _) (by rw [iI];omega);have p2:=pP G (some (aI 4294967296 x.den)) (gz _) (by show nl _≤_;omega);rw [nH] at p1;rw [aV,dR] at p2;have ek:∃ k:Int,(bh x.num.natAbs:Int) - bh x.den=k∧-320000000≤k∧k≤320000000:=⟨_,rfl,by omega,by omega⟩
 obtain⟨k,hk,k1,k2⟩:=ek;have ew:IntKind.i64.wrap ((bh x.num.natAbs:Int) - bh x.den)=k:=by rw [hk];exact bG (by omega) (by omega)
 have ew2:IntKind.i64.wrap (-k) = -k:=bG (by omega) (by omega);have mx1:(List.foldl (fun a b:Int=>if a<b then b else a) (-k) [0])=((max (-k) 0).toNat:Int):=by simp only [List.foldl];split <;> omega
 have mx2:(List.foldl (fun a b:Int=>if a<b then b else a) k [0])=((max k 0).toNat:Int):=by simp only [List.foldl];split <;> omega
 have hlog:fN x=if x.num.natAbs*2 ^ (max (-k) 0).toNat<x.den*2 ^ (max k 0).toNat then k - 1 else k:=by unfold fN;simp only [hk]
 have s1:=gw G (cL x.num.natAbs) (max (-k) 0).toNat (by rw [iI];omega) (by omega);have s2:=gw G (some (aI 4294967296 x.den)) (max k 0).toNat (by show nl _≤_;omega) (by omega);rw [lA,if_neg (lp h0),dR] at s1;rw [aV,if_neg (lp x.den_nz),dR] at s2;have cm:=gx (G:=G) (a:=some (aI 4294967296 (x.num.natAbs*2 ^ (max (-k) 0).toNat))) (b:=some (aI 4294967296 (x.den*2 ^ (max k 0).toNat))) (gz _) (gz _);simp only [aV,dR] at cm;generalize x.num.natAbs*2 ^ (max (-k) 0).toNat=a at *
 generalize x.den*2 ^ (max k 0).toNat=b at *
 generalize (max (-k) 0).toNat=u at *
 generalize (max k 0).toNat=v at *
 simp only [kL] at p1 p2 s1 s2 cm;have ew3:IntKind.i64.wrap (k - 1)=k - 1:=bG (by omega) (by omega);refine aa.en Tryz.func333 rfl fun _=>aab ?_;refine aaq 1 hbot ?_;refine aak fun K hK=>?_;simp;refine ag.p 1 9 p1 ?_;simp;refine ag.p 1 9 p2 ?_;simp [ew];apply hK;refine aaa fun K hK=>aak fun K1 hK1=>?_;simp [ew2,dh,mx1,mx2,-List.foldl_cons,-List.foldl_nil];refine ag.p 1 9 s1 ?_;simp [ew2,dh,mx1,mx2,-List.foldl_cons,-List.foldl_nil];refine ag.p 1 9 s2 ?_;simp [ew2,dh,mx1,mx2,-List.foldl_cons,-List.foldl_nil];refine ag.p 1 9 cm ?_;simp;apply hK1
 by_cases hab:a<b
 ·have hc:=rz.2 hab;rw [if_pos hab] at hlog;refine aai (by simp [hc] <;> omega) (aat ew3 (hK _ _ ?_));refine aab ?_;exact aad (aq.rt rfl 2 (by simp [hlog]))
 ·have hc:¬ dG a b<0:=fun h=>hab (rz.1 h)
  rw [if_neg hab] at hlog;refine aaj (by simp [hc] <;> omega) (aac (hK _ _ (aab ?_)));exact aad (aq.rt rfl 2 (by simp [hlog]))
theorem Kn(hx:x≠0):sY (decide (x.num<0)) (cL x.num.natAbs)≠0:=by
 have h0:x.num.natAbs≠0:=by intro e;exact hx (Rat.num_eq_zero.1 (by omega))
 unfold sY;rw [lA,if_neg (lp h0)];split <;> decide
theorem La(hx:x=0):sY (decide (x.num<0)) (cL x.num.natAbs)=0:=by subst hx;rfl
theorem M4 (G:List (List DV))(x:Rat)(hx:x≠0)(hs:jv x 10000000):aa Tryz.prog G 285 [fL x] (.tup [.c (.d (.int .i64 (fN x))),.c (.d (.int .i64 0))]):=by
 have h:=Mk G x hx hs;have hg:=kZ G (decide (x.num<0)) (cL x.num.natAbs) (dP x.den);have hne:=Kn hx;refine aa.en Tryz.func285 rfl fun _=>aab ?_;refine aaa fun K hK=>aav 1 hg hne ?_;refine aaj (by simp [hne] <;> omega) (aac (hK _ _ (aaq 1 h ?_)));exact aad (aq.t2 rfl 9 (by simp) (by simp))
theorem Fb {y:Rat}:x<y↔dy (decide (x.num<0)) (x.num.natAbs*y.den)<dy (decide (y.num<0)) (y.num.natAbs*x.den):=by
 rw [Rat.lt_iff,← su,← su,th,th]
theorem GO (x y:Rat):PC (decide (x.num<0)) (cL x.num.natAbs) (dP x.den) (decide (y.num<0)) (cL y.num.natAbs) (dP y.den)=ia x y:=by
 unfold ia;simp only [Fb];unfold PC;simp only [nH,s9];have hx:0<x.den:=x.den_pos;have hy:0<y.den:=y.den_pos
 have sx:sY (decide (x.num<0)) (cL x.num.natAbs)=if x.num.natAbs=0 then 0 else if x.num<0 then -1 else 1:=by
  unfold sY;rw [lA];simp only [dI (by decide:2≤4294967296),decide_eq_true_eq]
 have sy:sY (decide (y.num<0)) (cL y.num.natAbs)=if y.num.natAbs=0 then 0 else if y.num<0 then -1 else 1:=by
  unfold sY;rw [lA];simp only [dI (by decide:2≤4294967296),decide_eq_true_eq]
 rw [sx,sy];have ha:x.num.natAbs*y.den=0↔x.num.natAbs=0:=by rw [Nat.mul_eq_zero];omega
 have hb:y.num.natAbs*x.den=0↔y.num.natAbs=0:=by rw [Nat.mul_eq_zero];omega
 generalize x.num.natAbs*y.den=a at *
 generalize y.num.natAbs*x.den=b at *
 unfold dy dG;simp only [decide_eq_true_eq];generalize x.num=u at *
 generalize y.num=v at *
 (repeat' split) <;> omega
theorem G2 (G:List (List DV))(x y:Rat)(hx:jv x 10000000000)(hy:jv y 10000000000):aa Tryz.prog G 161 [fL x,fL y] (.c (.d (.int .i64 (ia x y)))):=by
 have h:=Er G (decide (x.num<0)) (decide (y.num<0)) (cL x.num.natAbs) (dP x.den) (cL y.num.natAbs) (dP y.den)
  (by rw [iI];have:=hx.1;omega) (WN (qX _) (by have:=hx.2;omega)) (by rw [iI];have:=hy.1;omega) (WN (qX _) (by have:=hy.2;omega))
 rw [GO] at h;exact h
end Go.Am
namespace Go.Am
open Go.Proofs
theorem Hq (m:Int):aa Tryz.prog (GG m) 22 [.c (.d (.str [114,101,115,117,108,116,32,121,10]))]
 (.tup [.agg [.d .nilsl,.d (.int .i64 (.ofNat 0)),.d .nilsl,.d .nilsl,.d (.int .i64 (.ofNat 0)),.d (.int .i64 (.ofNat 0)),.d .nilsl,.d (.int .i64 (.ofNat 0))],.c (.d (.int .i64 (.ofNat 1))),.c (.d (.int .i64 (.ofNat 144)))]):=
 aa.CH (AF m 60) (by kernel_rfl)
end Go.Am
namespace Go.Am
open Go.Am.Ty Go.Proofs N
def jy (c:UInt8):Bool:=decide (48≤c.toNat∧c.toNat≤57)
def Ec:List DV:=(List.range 256).map fun c=>.bool (decide (48≤c∧c≤57))
theorem AK:Ec.length=256:=by simp [Ec]
theorem JH (c:UInt8):Ec.drop c.toNat=.bool (jy c)::Ec.drop (c.toNat+1):=by
 have h:c.toNat<Ec.length:=by rw [AK];exact c.toNat_lt
 rw [XG h];congr 1;simp [Ec,jy]
theorem uA (G:List (List DV))(c:UInt8):aa Tryz.prog G 344 [.c (.d (.ptr Ec)),.c (.d (.int .u8 c.toNat))] (.c (.d (.bool (jy c)))):=by
 have hc:=c.toNat_lt;have hl:=AK;have ha:=JH c;refine aa.en Tryz.func344 rfl fun _=>aab ?_;refine aak fun K hK=>?_;simp [ak,ha,hl]
 repeat refine ah ?_
 apply hK;exact aad (aq.rt rfl 4 (by simp))
theorem DX (G:List (List DV))(s:List UInt8):aa Tryz.prog G 308 [.c (.d (.str s)),.c (.d (.ptr Ec))] (.c (.d (.str (s.dropWhile jy)))):=by
 refine aa.en Tryz.func308 rfl fun _=>aab ?_;refine aaa fun K hK=>aaf ?_;refine aao (fun (p:List UInt8)=>⟨bf [(0,.c (.d (.str p))),(1,.c (.d (.ptr Ec)))],fun _=>.hole⟩) 0 (fun p=>p.dropWhile jy=s.dropWhile jy) (fun p=>p.length) s (Le.mk' _ rfl (by intro k own es h;cases h) (by simp)) rfl ?_;rintro p hp;refine aaa fun K3 hK3=>aab ?_
 cases p with
 | nil=>
  refine aag (aan (hK _ _ (aab ?_)));have hp':s.dropWhile jy=[]:=by rw [← hp];rfl
  exact aad (aq.rt rfl 4 (by simp [hp']))
 | cons c l=>
  refine aah (aac (hK3 _ _ (aaf (aaa fun K5 hK5=>aak fun K6 hK6=>?_))));simp;refine ag.pure 0 9 (uA _ c) (by simp) (by simp) rfl ?_;simp;apply hK6
  cases hd:jy c with
  | false=>
   refine aai (by simp [hd] <;> omega) (aan (hK _ _ ?_));simp only [List.dropWhile,hd] at hp;refine aab ?_;exact aad (aq.rt rfl 4 (by simp [hp]))
  | true=>
   refine aaj (by simp [hd] <;> omega) (aac (hK5 _ _ (aae ?_)));simp;simp only [List.dropWhile,hd] at hp;exact⟨by omega,l,Le.mk' _ rfl (by intro k own es h;cases h) (by simp),hp,by simp⟩
def jB (s:List UInt8):List UInt8:=(s.reverse.dropWhile jy).reverse
theorem Bk (G:List (List DV))(s:List UInt8):aa Tryz.prog G 309 [.c (.d (.str s)),.c (.d (.ptr Ec))] (.c (.d (.str (jB s)))):=by
 refine aF.jq 0 (by simp) (fun V v h=>(show s.length≤9223372036854775807 by cases h.1 with|str _ hl=>exact hl)) fun hr=>?_;refine aa.en Tryz.func309 rfl fun _=>aab ?_;refine aaa fun K hK=>aaf ?_;refine aao (fun (p:List UInt8)=>⟨bf [(0,.c (.d (.str p))),(1,.c (.d (.ptr Ec)))],fun _=>.hole⟩) 0 (fun p=>p.reverse.dropWhile jy=s.reverse.dropWhile jy∧p.length≤s.length) (fun p=>p.length) s (Le.mk' _ rfl (by intro k own es h;cases h) (by simp)) ⟨rfl,bg _⟩ ?_;rintro p ⟨hp,hpl⟩;refine aaa fun K3 hK3=>aab ?_;rcases Yx p with rfl|⟨l,c,rfl⟩
 ·refine aag (aan (hK _ _ (aab ?_)));have hp':jB s=[]:=by unfold jB;rw [← hp];rfl
  exact aad (aq.rt rfl 4 (by simp [hp']))
 ·rw [Yy] at *
  have hn:0<(l++[c]).length:=by simp
  have hlen:(l++[c]).length=l.length+1:=by simp
  have e2:IntKind.i64.wrap (l.length:Int)=(l.length:Int):=bG (by omega) (by omega);have hr1:(l++[c]).reverse=c::l.reverse:=by simp
  rw [hr1] at hp;refine aah (aac (hK3 _ _ (aaf (aaa fun K5 hK5=>aak fun K6 hK6=>?_))));simp [e2];refine⟨by omega,?_⟩;refine ag.pure 0 9 (uA _ c) (by simp) (by simp) rfl ?_;simp;apply hK6
  cases hd:jy c with
  | false=>
   refine aai (by simp [hd] <;> omega) (aan (hK _ _ ?_));simp only [List.dropWhile,hd] at hp;refine aab ?_;have hp':jB s=l++[c]:=by unfold jB;rw [← hp];simp
   exact aad (aq.rt rfl 4 (by simp [hp']))
  | true=>
   refine aaj (by simp [hd] <;> omega) (aac (hK5 _ _ (aae ?_)));simp [e2];simp only [List.dropWhile,hd] at hp;exact⟨by omega,l,Le.mk' _ rfl (by intro k own es h;cases h) (by simp),⟨hp,by omega⟩,by simp⟩
end Go.Am
namespace Go.Am
open Go.Proofs
theorem K0 (m:Int):aa Tryz.prog (GG m) 307 [.c (.d (.str [48,49,50,51,52,53,54,55,56,57]))] (.tup [.agg (Ec.map .d),.c (.d (.bool true))]):=
 aa.CH (AF m 60) (by kernel_rfl)
end Go.Am
namespace Go.Am
open Go.Am.Ty Go.Proofs N
variable {s:List UInt8}{c:Ctx}{x y z:AV}{fn:Func}{t u v:Nat}{e:Int}
abbrev Q1:List UInt8:=[48,49,50,51,52,53,54,55,56,57]
def rM (s:List UInt8):List UInt8:=(jB s).dropWhile jy
def CZ:List CV:=List.replicate 256 (.d (.bool false))
def ry:List CV:=Ec.map .d
theorem OS (m:Int):aa Tryz.prog (GG m) 307 [.c (.d (.str Q1))] (.tup [.agg ry,.c (.d (.bool true))]):=K0 m
theorem O8:(AV.tup [.agg ry,.c (.d (.bool true))]).pure=true:=by kernel_rfl
abbrev UO:Key→LB:=aC (fun _=>LB.hole) 0 (.cells true false 342 ry)
theorem N9 (s:List UInt8):jo UO [.c (.d (.str s)),.c (.ptr 0 0)]=some ([.c (.d (.str s)),.c (.d (.ptr Ec))],[0]):=by kernel_rfl
theorem TP:pE UO (.c (.ptr 0 0))=[0]:=by kernel_rfl
theorem VM (s:List UInt8):∀ a∈[AV.c (.d (.str s)),AV.c (.ptr 0 0)],∀ k∈pE UO a,k∈[0]:=by
 intro a ha k hk;simp only [WM,Xh,or_false] at ha;rcases ha with rfl|rfl
 ·cases hk
 ·rw [TP] at hk;exact hk
theorem Wv:br Tryz.prog 342=some CZ:=by kernel_rfl
theorem WB:cV Tryz.prog 342 (aC (fun _=>.hole) 0 (.cells true false 342 CZ)) (.c (.ptr 0 0)) (.agg ry)=some (.undef,[(0,.cells true false 342 ry)],[],True):=by
 have hl:ry.length=256:=by unfold ry;simp [AK]
 have hz:CZ.length=256:=List.length_replicate
 have hs:aj CZ 0 ry=ry:=by
  unfold aj;rw [hl,List.take_zero,X5,W5,Ye (Nat.le_of_eq hz),XD]
 have hi:((Tryz.prog.info? 342).isSome && ry.length == gH Tryz.prog 342)=true:=by kernel_rfl
 have hu:aC (fun _=>LB.hole) 0 (.cells true false 342 CZ) 0=.cells true false 342 (List.replicate 256 (.d (.bool false))):=aA _ _ _;have ht:(0+ry.length≤CZ.length)=True:=by rw [hl,hz];exact eq_true (by decide)
 unfold cV;simp only [hu];show (if ((Tryz.prog.info? 342).isSome && ry.length == gH Tryz.prog 342)=true then some (AV.undef,[(0,LB.cells true false 342 (aj CZ 0 ry))],[],0+ry.length≤CZ.length) else none)=_;rw [if_pos hi,hs,ht]
theorem ag.flat{f:FuncId}{xs us:List AV}{ks rds:List Key}{lv:Key→LB}{K:AV→List (Key × LB)→List Key→Nat→Prop}(κ:Nat) (ha:jo lv xs=some (us,ks)) (hc:aa c.P c.G f us x) (hx:x.flat=true)
 (hr:∀ a∈xs,∀ k∈pE lv a,k∈rds) (hK:K x [] rds κ):ag c f xs lv K:=⟨x,[],rds,κ,bS.flat us ks rds x ha hc hx hr,hK⟩
theorem vW (s:List UInt8):aH Tryz.prog .eql 9 (.c (.d (.str s))) (.c (.d (.str [])))=some (.c (.d (.bool (decide (s=[])))),[],[],True):=by
 cases s with
 | nil=>kernel_rfl
 | cons a l=>exact (show ∀ a l,aH Tryz.prog .eql 9 (.c (.d (.str (a::l)))) (.c (.d (.str [])))=some (.c (.d (.bool false)),[],[],True) from fun a l=>by kernel_rfl) a l
theorem A6 (m:Int)(s:List UInt8):aa Tryz.prog (GG m) 261 [.c (.d (.str s)),.c (.d (.str Q1))] (.c (.d (.str (rM s)))):=by
 refine aa.en Tryz.func261 rfl fun _=>aab ?_;refine aaa fun K hK=>aaa fun K1 hK1=>?_
 by_cases hs:s=[]
 ·refine aau @vW hs (hK1 _ _ ?_);refine aah (aab ?_);exact aad (aq.rt rfl 4 (by simp [hs,rM,jB]))
 refine aau @vW hs (hK1 _ _ ?_);refine aag (aac (hK _ _ (aaa fun K hK=>aab ?_)));refine aag (aac (hK _ _ (aaa fun K hK=>aak fun K1 hK1=>?_)));simp;refine ag.pure 0 9 (OS m) O8 (by simp) rfl ?_;simp [Wv,WB,-cV];apply hK1;refine aab ?_;refine aah (aak fun K1 hK1=>?_);simp;refine ag.flat 2 (us:=[.c (.d (.str s)),.c (.d (.ptr Ec))]) (ks:=[0]) (rds:=[0]) (N9 s) (Bk _ s) rfl (VM s) ?_;simp;refine ag.flat 2 (us:=[.c (.d (.str (jB s))),.c (.d (.ptr Ec))]) (ks:=[0]) (rds:=[0]) (N9 _) (DX _ (jB s)) rfl (VM _) ?_;simp;apply hK1;exact aad (aq.rt rfl 9 (by simp [rM]))
theorem L7 (s t:List UInt8):(s == t)=decide (s=t):=by
 by_cases h:s=t
 ·subst h;simp
 ·rw [decide_eq_false h];exact beq_eq_false_iff_ne.2 h
theorem eqStr (s t:List UInt8):aH Tryz.prog .eql 9 (.c (.d (.str s))) (.c (.d (.str t)))=some (.c (.d (.bool (decide (s=t)))),[],[],True):=by
 rw [← L7];kernel_rfl
theorem uG (s t:List UInt8):aH Tryz.prog .neq 9 (.c (.d (.str s))) (.c (.d (.str t)))=some (.c (.d (.bool (!decide (s=t)))),[],[],True):=by
 rw [← L7];kernel_rfl
def eM (s:List UInt8):Bool:=!decide (s=[]) && decide (rM s=[]) && (decide (s=[48]) || !decide (s.getD 0 0=48))
theorem J7 (m:Int)(s:List UInt8):aa Tryz.prog (GG m) 224 [.c (.d (.str s))] (.c (.d (.bool (eM s)))):=by
 refine aa.en Tryz.func224 rfl fun _=>aab ?_;refine aaa fun K hK=>?_
 cases s with
 | nil=>
  refine aat @uG (hK _ _ ?_);exact aad (aq.rt rfl 2 (by simp [eM]))
 | cons a l=>
  refine aae ?_;simp [uG];refine ag.pure 0 9 (A6 m (a::l)) (by simp) (by simp) rfl ?_
  by_cases ht:rM (a::l)=[]
  ·by_cases h0:a::l=[48]
   ·have ht':rM [48]=[]:=h0 ▸ ht;simp [eqStr,h0,ht'];apply hK;exact aad (aq.rt rfl 2 (by simp [eM,h0,ht']))
   ·simp [eqStr,ht,h0];apply hK
    have ha:((a.toNat:Int)=48)↔a=48:=by
     constructor
     ·intro h;exact UInt8.toNat_inj.1 (by show a.toNat=48;omega)
     ·intro h;subst h;rfl
    have hr:eM (a::l) = !decide ((a.toNat:Int)=48):=by
     have h1:decide ((a.toNat:Int)=48)=decide (a=48):=by simp only [ha]
     rw [h1];simp [eM,ht,h0]
    exact aad (aq.rt rfl 2 (by simp [hr]))
  ·simp [eqStr,ht];apply hK;exact aad (aq.rt rfl 2 (by simp [eM,ht]))
def sn (s p:List UInt8):Bool:=decide (p.length≤s.length) && decide (s.take p.length=p)
def kF (s p:List UInt8):List UInt8:=if sn s p=true then s.drop p.length else s
theorem Bs (G:List (List DV))(s p:List UInt8):aa Tryz.prog G 254 [.c (.d (.str s)),.c (.d (.str p))] (.c (.d (.bool (sn s p)))):=by
 refine aa.en Tryz.func254 rfl fun _=>aab ?_;refine aaa fun K hK=>?_
 by_cases h:p.length≤s.length
 ·have h':(p.length:Int)≤(s.length:Int):=by omega
  refine aaB @eqStr h h' (hK _ _ ?_);exact aad (aq.rt rfl 4 (by simp [sn,h]))
 ·have h':¬ (p.length:Int)≤(s.length:Int):=by omega
  refine aaB @eqStr h h' (hK _ _ ?_);exact aad (aq.rt rfl 4 (by simp [sn,h]))
theorem yU (G:List (List DV))(s p:List UInt8):aa Tryz.prog G 276 [.c (.d (.str s)),.c (.d (.str p))] (.tup [.c (.d (.str (kF s p))),.c (.d (.bool (sn s p)))]):=by
 refine aa.en Tryz.func276 rfl fun _=>aab ?_;refine aaa fun K hK=>aak fun K1 hK1=>?_;simp;refine ag.pure 0 9 (Bs _ s p) (by simp) (by simp) rfl ?_;simp;apply hK1
 by_cases h:sn s p=true
 ·refine aaj (by simp [h] <;> omega) (aac (hK _ _ (aaa fun K hK=>?_)))
  have hl:p.length≤s.length:=by
   unfold sn at h;simp only [cn,decide_eq_true_eq] at h;exact h.1
  refine aat hl (hK _ _ ?_);exact aad (aq.t2 rfl 5 (by simp [kF,h]) (by simp [h]))
 ·refine aai (by simp [h] <;> omega) (aab ?_);exact aad (aq.t2 rfl 5 (by simp [kF,h]) (by simp [h]))
theorem BK (G:List (List DV))(s p:List UInt8):aa Tryz.prog G 222 [.c (.d (.str s)),.c (.d (.str p))] (.tup [.c (.d (.str (kF s p))),.c (.d (.bool (sn s p)))]):=by
 refine aa.en Tryz.func222 rfl fun _=>aab ?_;refine aak fun K hK=>?_;simp;refine ag.pure 0 9 (yU _ s p) rfl (by simp) rfl ?_;simp;apply hK;exact aad (aq.t2 rfl 6 (by simp) (by simp))
theorem aq.UI{s:aB}{κ:Nat}(hr:fn.results=#[.tmp t,.tmp u,.tmp v]) (kh:Key) (hx:s.fr t=x) (hy:s.fr u=y) (hz:s.fr v=z) (hp:x.pure=true) (hq:y.pure=true) (hw:z.pure=true) (hh:s.lv kh=.hole)
 (hn:x.cu=true) (hm:y.cu=true) (hl:z.cu=true) (htu:t≠u) (htv:t≠v) (huv:u≠v):aq c fn (.tup [x,y,z]) .ret s κ:=by
 refine⟨[(t,x),(u,y),(v,z)],kh,by simp [hp,hx,hq,hy,hw,hz],hh,?_⟩;rw [hr];have h1:¬ u=t:=fun h=>htu h.symm
 have h2:¬ v=t:=fun h=>htv h.symm
 have h3:¬ v=u:=fun h=>huv h.symm
 simp [cH,iK,ki,bf,h1,h2,h3,hn,hm,hl]
theorem aq.t3{s:aB}(hr:fn.results=#[.tmp t,.tmp u,.tmp v]) (kh:Key) (hx:s.fr t=x:=by simp) (hy:s.fr u=y:=by simp) (hz:s.fr v=z:=by simp) (hp:x.pure=true:=by first|rfl|simp) (hq:y.pure=true:=by first|rfl|simp) (hw:z.pure=true:=by first|rfl|simp)
 (hh:s.lv kh=.hole:=by first|rfl|simp) (h1:x.cu=true:=by first|rfl|simp) (h2:y.cu=true:=by first|rfl|simp) (h3:z.cu=true:=by first|rfl|simp) (d1:t≠u:=by decide) (d2:t≠v:=by decide) (d3:u≠v:=by decide):aq c fn (.tup [x,y,z]) .ret s 0:=aq.UI hr kh hx hy hz hp hq hw hh h1 h2 h3 d1 d2 d3
def jM (s t:List UInt8):Int:=Lib.index s t
def sW (s t:List UInt8):List UInt8:=if 0≤jM s t then s.take (jM s t).toNat else s
def rZ (s t:List UInt8):List UInt8:=if 0≤jM s t then s.drop ((jM s t).toNat+t.length) else []
theorem Ky (s t:List UInt8)(h:s.length≤9223372036854775807):-9223372036854775808≤Lib.index s t∧Lib.index s t≤9223372036854775807:=by
 have h1:=Lib.index_ge s t
 have h2:Lib.index s t≤s.length:=by
  clear h h1
  induction s with
  | nil=>simp only [Lib.index];split <;> simp
  | cons a s ih=>
   simp only [Lib.index];split
   ·simp;omega
   ·split <;> simp <;> omega
 omega
theorem Hv (G:List (List DV))(s:List UInt8)(c:Nat)(hc:c<256):aa Tryz.prog G 255 [.c (.d (.str s)),.c (.d (.int .u8 (c:Int)))] (.c (.d (.int .i64 (jM s [UInt8.ofNat c])))):=by
 refine aF.jq 0 (by simp) (fun V v h=>(show s.length≤9223372036854775807 by cases h.1 with|str _ hl=>exact hl)) fun hs=>?_;refine aa.yc (X:=.c (.d (.int .i64 (jM s [UInt8.ofNat c])))) (lv':=fun _=>.hole) (ks:=[]) ?_ rfl;refine bP.of_same (by rfl) fun F β w vs hS hl hv=>?_;obtain⟨u,v,rfl,hu,hv⟩:=args2 hl hv;have:=Tryz.stringslite_IndexByte ⟨s.toArray⟩ c w;refine⟨.int .i64 (jM s [UInt8.ofNat c]),Be (Ky s _ hs),?_⟩;rw [Vw.iL hu,Vw.fh hv];simpa [jM,← index_one] using this
theorem KE (c:UInt8):jM [c] [c]=0:=by simp [jM,Lib.index,List.isPrefixOf]
theorem Iz (G:List (List DV))(s:List UInt8)(c:UInt8):aa Tryz.prog G 253 [.c (.d (.str s)),.c (.d (.str [c]))] (.c (.d (.int .i64 (jM s [c])))):=by
 have hb:=Hv G s c.toNat c.toNat_lt;rw [show UInt8.ofNat c.toNat=c from UInt8.ofNat_toNat] at hb;refine aa.en Tryz.func253 rfl fun _=>aab ?_;refine aab ?_;refine aaa fun K hK=>aaf (aaa fun K1 hK1=>?_)
 by_cases hs:[c]=s
 ·have h0:jM s [c]=0:=by rw [← hs];exact KE c
  refine aau @eqStr hs (hK1 _ _ ?_);refine aah (aab ?_);exact aad (aq.rt rfl 4 (by simp [h0]))
 ·refine aau @eqStr hs (hK1 _ _ ?_);refine aag (aab ?_);refine aah (aak fun K1 hK1=>?_);simp;refine ag.pure 0 9 hb (by simp) (by simp) rfl ?_;simp;apply hK1;exact aad (aq.rt rfl 4 (by simp))
theorem LP (m:Int)(s t:List UInt8)(h:s.length≤9223372036854775807)(hix:aa Tryz.prog (GG m) 253 [.c (.d (.str s)),.c (.d (.str t))] (.c (.d (.int .i64 (jM s t))))):aa Tryz.prog (GG m) 277 [.c (.d (.str s)),.c (.d (.str t))] (.tup [.c (.d (.str (sW s t))),.c (.d (.str (rZ s t))),.c (.d (.bool (decide (0≤jM s t))))]):=by
 refine aa.en Tryz.func277 rfl fun _=>aab ?_;refine aaa fun K hK=>aak fun K1 hK1=>?_;simp;refine ag.pure 0 9 hix (by simp) (by simp) rfl ?_;simp;apply hK1;refine aab ?_
 by_cases hi:0≤jM s t
 ·refine aai (by simp [hi] <;> omega) ?_;obtain⟨n,hn⟩:∃ n:Nat,jM s t=n:=⟨(jM s t).toNat,(Int.toNat_of_nonneg hi).symm⟩
  have hr:=Lib.index_room s t (by unfold jM at hi;exact hi);have hr':n+t.length≤s.length:=by unfold jM at hn;rw [hn] at hr;omega
  have hw:IntKind.i64.wrap ((n:Int)+t.length)=((n+t.length:Nat):Int):=by rw [bG (by omega) (by omega)];omega
  have hn1:n≤s.length:=by omega
  refine aaa fun K1 hK1=>?_;refine aaw mixed (by kernel_rfl) rfl rfl ?_;simp [hn,hw,hn1,hr',-Int.natCast_add];apply hK1;exact aad (aq.t3 rfl 9 (by simp [sW,hi,hn]) (by simp [rZ,hi,hn]) (by simp [hi,hn]))
 ·refine aaj (by simp [hi] <;> omega) (aac (hK _ _ (aab ?_)));exact aad (aq.t3 rfl 9 (by simp [sW,hi]) (by simp [rZ,hi]) (by simp [hi]))
theorem Ng (m:Int)(s t:List UInt8)(h:s.length≤9223372036854775807)(hix:aa Tryz.prog (GG m) 253 [.c (.d (.str s)),.c (.d (.str t))] (.c (.d (.int .i64 (jM s t))))):aa Tryz.prog (GG m) 223 [.c (.d (.str s)),.c (.d (.str t))] (.tup [.c (.d (.str (sW s t))),.c (.d (.str (rZ s t))),.c (.d (.bool (decide (0≤jM s t))))]):=by
 refine aa.en Tryz.func223 rfl fun _=>aab ?_;refine aak fun K hK=>?_;simp;refine ag.pure 0 9 (LP m s t h hix) rfl (by simp) rfl ?_;simp;apply hK;exact aad (aq.t3 rfl 9 (by simp) (by simp) (by simp))
theorem NP (m:Int)(s:List UInt8)(c:UInt8):aa Tryz.prog (GG m) 223 [.c (.d (.str s)),.c (.d (.str [c]))] (.tup [.c (.d (.str (sW s [c]))),.c (.d (.str (rZ s [c]))),.c (.d (.bool (decide (0≤jM s [c]))))]):=by
 refine aF.jq 0 (by simp) (fun V v h=>(show s.length≤9223372036854775807 by cases h.1 with|str _ hl=>exact hl)) fun hs=>?_;exact Ng m s [c] hs (Iz (GG m) s c)
theorem KF {p:UInt8→Bool}:∀ {l:List UInt8},l.dropWhile p=[]→∀ x∈l,p x=true
 | [],_,x,hx=>by cases hx
 | a::l,h,x,hx=>by
  simp only [List.dropWhile] at h;split at h
  ·rename_i ha
   rcases List.mem_cons.1 hx with rfl|hx
   ·exact ha
   ·exact KF h x hx
  ·cases h
theorem HM(h:rM s=[]):vI s:=by
 have h1:∀ x∈jB s,jy x=true:=KF h;have h2:∀ x∈s.reverse.dropWhile jy,jy x=true:=fun x hx=>h1 x (by unfold jB;exact List.mem_reverse.2 hx)
 have h3:∀ x∈s.reverse,jy x=true:=by
  intro x hx;rw [← List.takeWhile_append_dropWhile (p:=jy) (l:=s.reverse),XF] at hx;rcases hx with hx|hx
  ·have:=List.all_takeWhile (p:=jy) (l:=s.reverse);exact List.all_eq_true.1 this x hx
  ·exact h2 x hx
 intro c hc;have:=h3 c (List.mem_reverse.2 hc);simpa [jy] using this
theorem nw(h:eM s=true):vI s∧s≠[]:=by
 unfold eM at h;simp only [cn,W8,decide_eq_false_iff_not,decide_eq_true_eq] at h;exact⟨HM h.1.2,h.1.1⟩
abbrev Th:AV:=pG false none none
def iz (neg:Bool)(top bot:List UInt8)(brk:Bool):Bool:=!eM top || (neg && decide (top=[48])) || (brk && (!eM bot || decide (bot=[48]) || decide (bot=[49])))
abbrev oL (s:List UInt8):Option (List Nat):=some (aI 4294967296 (aO s 0))
def eB (neg:Bool)(top bot:List UInt8)(brk:Bool):AV:=
 if iz neg top bot brk=true then .tup [Th,.c (.d (.int .i64 6))]
 else if 2000<max top.length bot.length then .tup [Th,.c (.d (.int .i64 3))]
 else if brk=false then .tup [jC neg (oL top) (some (aI 4294967296 1)),.c (.d (.int .i64 0))]
 else if val 4294967296 (dO (gO (oL top) (oL bot)))=1 then .tup [pG neg (oL top) (oL bot),.c (.d (.int .i64 0))]
 else .tup [Th,.c (.d (.int .i64 6))]
theorem Dt (lv:Key→LB)(neg:Bool)(top bot:List UInt8)(brk:Bool):fR lv (eB neg top bot brk)=some (eB neg top bot brk,[]):=by
 have h1:∀ b p q n,fR lv (.tup [pG b p q,.c (.d (.int .i64 n))])=some (.tup [pG b p q,.c (.d (.int .i64 n))],[]):=by
  intro b p q n;cases p <;> cases q <;> rfl
 unfold eB jC
 (repeat' split) <;> exact h1 ..
theorem Cp (G:List (List DV))(h:eM s=true) (hl:s.length≤2000):aa Tryz.prog G 226 [.c (.d (.str s))] (.c (nC (oL s))):=by
 obtain⟨h1,h2⟩:=nw h;have:=pL G s h1 (by omega)
 have e:oO (!s.isEmpty) (aO s 0)=oL s:=by
  cases s with
  | nil=>exact absurd rfl h2
  | cons a l=>rfl
 rw [e,kL] at this;exact this
theorem DN (m:Int)(r:List UInt8) :
 aa Tryz.prog (GG m) 159 [.c (.d (.str r))] (eB (sn r [45]) (sW (kF r [45]) [47]) (rZ (kF r [45]) [47]) (decide (0≤jM (kF r [45]) [47]))):=by
 refine aF.jq 0 (by simp) (fun V v h=>(show r.length≤9223372036854775807 by cases h.1 with|str _ hl=>exact hl)) fun hr=>?_
 have hcl:(kF r [45]).length≤9223372036854775807:=by
  unfold kF;split
  ·rw [XU];omega
  ·exact hr
 have hcp:=BK (GG m) r [45];have hct:=NP m (kF r [45]) 47
 have hta:(sW (kF r [45]) [47]).length≤9223372036854775807:=by
  unfold sW;split
  ·rw [WR];omega
  ·omega
 have htb:(rZ (kF r [45]) [47]).length≤9223372036854775807:=by
  unfold rZ;split
  ·rw [XU];omega
  ·simp
 generalize sn r [45]=neg at *
 generalize kF r [45]=s at *
 generalize sW s [47]=top at *
 generalize rZ s [47]=bot at *
 generalize decide (0≤jM s [47])=brk at *
 refine aa.enc Tryz.func159 rfl (fun lv=>Dt lv _ _ _ _) fun _=>aab ?_;refine aak fun K hK=>?_;simp;refine ag.pure 1 9 hcp rfl (by simp) (by simp) ?_;simp;apply hK;refine aak fun K hK=>?_;simp;refine ag.pure 1 9 hct rfl (by simp) (by simp) ?_;simp;apply hK;refine aaa fun K hK=>aaf (aaa fun K1 hK1=>?_)
 have row1:=J7 m top;have row2:=J7 m bot
 have hbad:∀ (fr:Nat→AV) (κ:Nat),fr 2=.c (.ptr 0 0)→fr 22=.c (.d (.bool true))→iz neg top bot brk=true →
  K1 ⟨fr,aC (fun _=>.hole) 0 (.cells true false 224 [.d (.bool false),.d .nilsl,.d .nilsl])⟩ κ:=by
  intro fr κ z2 z22 hb;apply hK1;refine aai (by simp [z22] <;> omega) (aas z2 @G7 ?_);refine aam ?_;simp only [eB,if_pos hb];refine bD.hO (κ:=0) (T:=224) (t:=2) (u:=3) (k:=0) (off:=0) (own:=true) (fz:=false) (U:=224) (cs:=[.d (.bool false),.d .nilsl,.d .nilsl]) rfl ?_ ?_ ?_ ?_ rfl rfl
  ·simp [z2]
  ·simp [aj]
  ·rw [fQ,bL];rfl
  ·simp
 have hgood:∀ (fr:Nat→AV) (κ:Nat),fr 2=.c (.ptr 0 0)→fr 5=.c (.d (.bool neg))→fr 6=.c (.d (.str top))→fr 7=.c (.d (.str bot))→fr 8=.c (.d (.bool brk))→fr 22=.c (.d (.bool false)) →
  eM top=true→(brk=true→eM bot=true)→iz neg top bot brk=false →
  K1 ⟨fr,aC (fun _=>.hole) 0 (.cells true false 224 [.d (.bool false),.d .nilsl,.d .nilsl])⟩ κ:=by
  intro fr κ z2 z5 z6 z7 z8 z22 g1 g2 hb;apply hK1;refine aaj (by simp [z22] <;> omega) (aaa fun K2 hK2=>?_)
  have hmx:∀ (a b:Nat),(List.foldl (fun a b:Int=>if a<b then b else a) (a:Int) [(b:Int)])=((max a b:Nat):Int):=by
   intro a b;simp only [List.foldl];split <;> omega
  refine aae ?_;simp [z6,z7,dh,hmx,-List.foldl_cons,-List.foldl_nil];apply hK2;have hbf:¬ iz neg top bot brk=true:=by rw [hb];decide
  by_cases hl:2000<max top.length bot.length
  ·have hl':(2000:Int)<((max top.length bot.length:Nat):Int):=by omega
   refine aai (by simp [hl'] <;> omega) (aas z2 @G7 ?_);refine aam ?_;simp only [eB,if_neg hbf,if_pos hl];refine bD.hO (κ:=0) (T:=224) (t:=2) (u:=3) (k:=0) (off:=0) (own:=true) (fz:=false) (U:=224) (cs:=[.d (.bool false),.d .nilsl,.d .nilsl]) rfl ?_ ?_ ?_ ?_ rfl rfl
   ·simp [z2]
   ·simp [aj]
   ·rw [fQ,bL];rfl
   ·simp
  have hl':¬ (2000:Int)<((max top.length bot.length:Nat):Int):=by omega
  refine aaj (by simp [hl'] <;> omega) (aac (hK _ _ ?_));have ht2:top.length≤2000:=by omega
  have hb2:bot.length≤2000:=by omega
  have rd1:=Cp (GG m) g1 ht2;have hof:=fX (GG m) 1 (by decide);have c1:can 4294967296 (dO (oL top)):=bp (by decide) _;have c2:can 4294967296 (dO (some (aI 4294967296 1))):=bp (by decide) _
  have dlen:∀ (u:List UInt8),vI u→u.length≤2000→(dO (oL u)).length<1000000000000:=by
   intro u hu hlu;have h1:=mO hu;have h2:(10:Nat) ^ u.length≤4294967296 ^ u.length:=YC (by decide) _;have:=cD (B:=4294967296) (n:=aO u 0) (m:=u.length) (by decide) (by omega);simp only [aV];omega
  have l1:=dlen top (nw g1).1 ht2;have l2:(dO (some (aI 4294967296 1))).length<1000000000000:=XV (cD (m:=1) (by decide) (by decide)) (by decide);refine aaa fun K3 hK3=>aal z8 ?_
  cases hk:brk with
  | false=>
   rw [hk] at hbf;have hmade:=pN (GG m) neg (oL top) (some (aI 4294967296 1)) c1 c2 (by intro h;exact absurd ((dI (by decide)).1 h) (by decide)) l1 l2;simp only [kL] at hmade hof;refine aah (aak fun K4 hK4=>?_);simp [z5,z6];refine ag.pure κ 9 rd1 (by simp) (by simp) (by simp) ?_;simp;refine ag.pure κ 9 hof (by simp) (by simp) (by simp) ?_;simp
   by_cases hz:dO (oL top)=[]
   ·simp only [jC,if_pos hz] at hmade;refine ag.pure κ 9 hmade (by simp) (by simp) (by simp) ?_;simp [z2];apply hK4;refine aam ?_;simp only [eB,if_neg hbf,if_neg hl,reduceIte,jC,if_pos hz];refine bD.hO (κ:=0) (T:=224) (t:=2) (u:=3) (k:=0) (off:=0) (own:=true) (fz:=false) (U:=224) (cs:=[.d (.bool false),nC none,nC none]) rfl ?_ ?_ ?_ ?_ rfl rfl
    ·simp [z2]
    ·simp [aj]
    ·rw [fQ,bL]
    ·simp
   ·simp only [jC,if_neg hz] at hmade;refine ag.pure κ 9 hmade (by simp) (by simp) (by simp) ?_;simp [z2];apply hK4;refine aam ?_;simp only [eB,if_neg hbf,if_neg hl,reduceIte,jC,if_neg hz];refine bD.hO (κ:=0) (T:=224) (t:=2) (u:=3) (k:=0) (off:=0) (own:=true) (fz:=false) (U:=224) (cs:=[.d (.bool neg),nC (mP (oL top) (some (aI 4294967296 1))),nC (mQ (oL top) (some (aI 4294967296 1)))]) rfl ?_ ?_ ?_ ?_ rfl rfl
    ·simp [z2]
    ·simp [aj]
    ·rw [fQ,bL]
    ·simp
  | true=>
   rw [hk] at hbf;have g3:=g2 hk;have rd2:=Cp (GG m) g3 hb2;have c3:can 4294967296 (dO (oL bot)):=bp (by decide) _;have l3:=dlen bot (nw g3).1 hb2;have hgcd:=qZ (GG m) (oL top) (oL bot) c1 c3 l1 l3;have his:=jF (GG m) (gO (oL top) (oL bot)) (by unfold gO;rw [yo c1 c3];exact bp (by decide) _);change aa _ _ 229 _ (nK .u32 (gO (oL top) (oL bot))) at hgcd;simp only [kL] at hgcd his;refine aag (aac (hK3 _ _ (aak fun K4 hK4=>?_)));simp [z6,z7];refine ag.pure κ 9 rd1 (by simp) (by simp) (by simp) ?_;simp [z7];refine ag.pure κ 9 rd2 (by simp) (by simp) (by simp) ?_;simp;apply hK4;refine aaa fun K4 hK4=>aak fun K5 hK5=>?_;simp;refine ag.pure κ 9 hgcd (by simp) (by simp) (by simp) ?_;simp;refine ag.pure κ 9 his (by simp) (by simp) (by simp) ?_;simp;apply hK5
   by_cases h1:val 4294967296 (dO (gO (oL top) (oL bot)))=1
   ·refine aaj (by simp [h1] <;> omega) (aac (hK4 _ _ (aay z2 z5 @Fm ?_)));refine aam ?_;have hp:eB neg top bot brk=.tup [pG neg (oL top) (oL bot),.c (.d (.int .i64 0))]:=by rw [hk];unfold eB;rw [if_neg hbf,if_neg hl,if_neg (by decide),if_pos h1]
    rw [hp];refine bD.hO (κ:=0) (T:=224) (t:=2) (u:=3) (k:=0) (off:=0) (own:=true) (fz:=false) (U:=224) (cs:=[.d (.bool neg),nC (oL top),nC (oL bot)]) rfl ?_ ?_ ?_ ?_ rfl rfl
    ·simp [z2]
    ·simp [aj]
    ·rw [fQ,bL]
    ·simp
   ·refine aai (by simp [h1] <;> omega) (aas z2 @G7 ?_);refine aam ?_;have hp:eB neg top bot brk=.tup [Th,.c (.d (.int .i64 6))]:=by rw [hk];unfold eB;rw [if_neg hbf,if_neg hl,if_neg (by decide),if_neg h1]
    rw [hp];refine bD.hO (κ:=0) (T:=224) (t:=2) (u:=3) (k:=0) (off:=0) (own:=true) (fz:=false) (U:=224) (cs:=[.d (.bool false),.d .nilsl,.d .nilsl]) rfl ?_ ?_ ?_ ?_ rfl rfl
    ·simp [z2]
    ·simp [aj]
    ·rw [fQ,bL];rfl
    ·simp
 refine aae ?_;simp;refine ag.pure 1 9 row1 (by simp) (by simp) (by simp) ?_
 cases g1:eM top with
 | false=>
  simp [g1];exact hbad _ _ (by simp) (by simp) (by simp [iz,g1])
 | true=>
  cases hn:neg with
  | true=>
   by_cases h48:top=[48]
   ·have e48:decide (top=[48])=true:=decide_eq_true h48;simp [eqStr,g1,hn,e48];exact hbad _ _ (by simp) (by simp) (by simp [iz,hn,h48])
   ·cases hk:brk with
    | false=>
     simp [eqStr,g1,hn,h48,hk];exact hgood _ _ (by simp) (by simp [hn]) (by simp) (by simp) (by simp [hk]) (by simp) g1 (fun h=>by rw [hk] at h;cases h) (by simp [iz,g1,hn,h48,hk])
    | true=>
     simp [eqStr,g1,hn,h48,hk];refine ag.pure 1 9 row2 (by simp) (by simp) (by simp) ?_
     cases g2:eM bot with
     | false=>
      simp [g2];exact hbad _ _ (by simp) (by simp) (by simp [iz,g2,hk])
     | true=>
      by_cases b48:bot=[48]
      ·have e:decide (bot=[48])=true:=decide_eq_true b48;simp [eqStr,g2,e];exact hbad _ _ (by simp) (by simp) (by simp [iz,e,hk])
      ·by_cases b49:bot=[49]
       ·have e:decide (bot=[49])=true:=decide_eq_true b49;simp [eqStr,g2,b48,e];exact hbad _ _ (by simp) (by simp) (by simp [iz,e,hk])
       ·simp [eqStr,g2,b48,b49];exact hgood _ _ (by simp) (by simp [hn]) (by simp) (by simp) (by simp [hk]) (by simp) g1 (fun _=>g2) (by simp [iz,g1,hn,h48,hk,g2,b48,b49])
  | false=>
   cases hk:brk with
   | false=>
    simp [eqStr,g1,hn,hk];exact hgood _ _ (by simp) (by simp [hn]) (by simp) (by simp) (by simp [hk]) (by simp) g1 (fun h=>by rw [hk] at h;cases h) (by simp [iz,g1,hn,hk])
   | true=>
    simp [eqStr,g1,hn,hk];refine ag.pure 1 9 row2 (by simp) (by simp) (by simp) ?_
    cases g2:eM bot with
    | false=>
     simp [g2];exact hbad _ _ (by simp) (by simp) (by simp [iz,g2,hk])
    | true=>
     by_cases b48:bot=[48]
     ·have e:decide (bot=[48])=true:=decide_eq_true b48;simp [eqStr,g2,e];exact hbad _ _ (by simp) (by simp) (by simp [iz,e,hk])
     ·by_cases b49:bot=[49]
      ·have e:decide (bot=[49])=true:=decide_eq_true b49;simp [eqStr,g2,b48,e];exact hbad _ _ (by simp) (by simp) (by simp [iz,e,hk])
      ·simp [eqStr,g2,b48,b49];exact hgood _ _ (by simp) (by simp [hn]) (by simp) (by simp) (by simp [hk]) (by simp) g1 (fun _=>g2) (by simp [iz,g1,hn,hk,g2,b48,b49])
def dg (neg:Bool)(top bot:List UInt8)(brk:Bool):Int:=
 if iz neg top bot brk=true then 6
 else if 2000<max top.length bot.length then 3
 else if brk=false then 0
 else if val 4294967296 (dO (gO (oL top) (oL bot)))=1 then 0 else 6
theorem Dy (neg:Bool)(top bot:List UInt8)(brk:Bool):∃ b p q,eB neg top bot brk=.tup [pG b p q,.c (.d (.int .i64 (dg neg top bot brk)))]:=by
 unfold eB dg jC
 (repeat' split) <;> exact⟨_,_,_,rfl⟩
theorem yT (m:Int)(r:List UInt8) :
 aa Tryz.prog (GG m) 163 [.c (.d (.str r))] (.c (.d (.int .i64 (dg (sn r [45]) (sW (kF r [45]) [47]) (rZ (kF r [45]) [47]) (decide (0≤jM (kF r [45]) [47])))))):=by
 have hp:=DN m r;obtain⟨b,p,q,e⟩:=Dy (sn r [45]) (sW (kF r [45]) [47]) (rZ (kF r [45]) [47]) (decide (0≤jM (kF r [45]) [47]));rw [e] at hp;generalize dg (sn r [45]) (sW (kF r [45]) [47]) (rZ (kF r [45]) [47]) (decide (0≤jM (kF r [45]) [47]))=n at *
 have hpu:(AV.tup [pG b p q,.c (.d (.int .i64 n))]).pure=true:=by cases p <;> cases q <;> rfl
 refine aa.en Tryz.func163 rfl fun _=>aab ?_;refine aak fun K hK=>?_;simp;refine ag.pure 0 9 hp hpu (by simp) rfl ?_;simp;apply hK;refine aab ?_;exact aad (aq.rt rfl 9 (by simp))
def fF (e p:Int):Int:=if e<2∨11<e∨p<2∨113<p∨e+p<5 then 2 else 0
theorem jS (G:List (List DV))(e p:Int):aa Tryz.prog G 158 [.agg [.d (.int .i64 e),.d (.int .i64 p)]] (.c (.d (.int .i64 (fF e p)))):=by
 refine aa.en Tryz.func158 rfl fun _=>aab ?_;refine aaa fun K hK=>aaa fun K1 hK1=>?_
 have bad:∀ (fr:Nat→AV) (κ:Nat) (lv:Key→LB),lv 9=.hole→fr 28=.c (.d (.bool true))→fF e p=2→K1 ⟨fr,lv⟩ κ:=by
  intro fr κ lv h9 z hf;apply hK1;refine aai (by simp [z] <;> omega) (aab ?_);exact aam (κ:=0) (aq.tmp (κ:=0) rfl 9 (by simp [hf]) rfl (by simp [h9]) rfl)
 by_cases h1:e<2
 ·refine aae ?_;simp [h1];exact bad _ _ _ (by simp) (by simp) (by unfold fF;rw [if_pos (by omega)])
 by_cases h2:11<e
 ·refine aae ?_;simp [h1,h2];exact bad _ _ _ (by simp) (by simp) (by unfold fF;rw [if_pos (by omega)])
 by_cases h3:p<2
 ·refine aae ?_;simp [h1,h2,h3];exact bad _ _ _ (by simp) (by simp) (by unfold fF;rw [if_pos (by omega)])
 by_cases h4:113<p
 ·refine aae ?_;simp [h1,h2,h3,h4];exact bad _ _ _ (by simp) (by simp) (by unfold fF;rw [if_pos (by omega)])
 have hw:IntKind.i64.wrap (e+p)=e+p:=bG (by omega) (by omega)
 by_cases h5:e+p<5
 ·refine aae ?_;simp [h1,h2,h3,h4,hw,h5];exact bad _ _ _ (by simp) (by simp) (by unfold fF;rw [if_pos (by omega)])
 refine aae ?_;simp [h1,h2,h3,h4,hw,h5];apply hK1;refine aag (aac (hK _ _ (aab ?_)));have hf:fF e p=0:=by unfold fF;rw [if_neg (by omega)]
 exact aad (aq.rt rfl 9 (by simp [hf]))
@[simp] theorem Rc (cs:List CV):(AV.agg cs).pure=cs.all CV.pure:=rfl
@[simp] theorem SY (x:DV):(CV.d x).pure=true:=rfl
@[simp] theorem QG (o:Option (List (List DV))):(dL o).pure=true:=by cases o <;> rfl
@[simp] theorem Q2 (l:List AV):(AV.tup l).pure=l.all AV.jZ:=rfl
@[simp] theorem SF (x:CV):(AV.c x).jZ=x.pure:=rfl
@[simp] theorem Qi (cs:List CV):(AV.agg cs).jZ=cs.all CV.pure:=rfl
def bu (e:Int):Int:=(2:Int) ^ (e - 1).toNat - 1
theorem uj(h1:2≤e) (h2:e≤11):1≤bu e∧bu e≤1023∧aH Tryz.prog .shl 3 (.c (.d (.int .i64 1))) (.c (.d (.int .i64 (e - 1))))=some (.c (.d (.int .i64 (bu e+1))),[],[],True):=by
 have h:e=2∨e=3∨e=4∨e=5∨e=6∨e=7∨e=8∨e=9∨e=10∨e=11:=by omega
 rcases h with rfl|rfl|rfl|rfl|rfl|rfl|rfl|rfl|rfl|rfl <;> refine⟨by decide,by decide,?_⟩ <;> rw [Kk] <;> congr 1 <;> congr 1 <;> first|rfl|decide|(congr 1;congr 1;decide)
abbrev fA (e p:Int):AV:=.agg [.d (.int .i64 e),.d (.int .i64 p)]
abbrev P3 (e p m b:Int):AV:=.agg [.d (.int .i64 e),.d (.int .i64 p),.d (.int .i64 m),.d (.int .i64 b)]
theorem QZ:gC Tryz.prog 282 [] []=some (P3 0 0 0 0,[],[],True):=by kernel_rfl
theorem T7 (a b c d:CV):gC Tryz.prog 282 [0,1,2] [.agg [a,b],.c c,.c d]=some (.agg [a,b,c,d],[],[],True):=by kernel_rfl
theorem A9 (a b c d:CV):eN Tryz.prog 282 [a,b,c,d]=some (.agg [a,b,c,d]):=by kernel_rfl
theorem ji {p:Int}(h:fF e p=0):2≤e∧e≤11∧2≤p∧p≤113∧5≤e+p:=by
 unfold fF at h;split at h
 ·cases h
 ·omega
theorem WE (T:TypeId)(h:(eP Tryz.prog T).isSome=true)(lv:Key→LB):eA Tryz.prog T lv (.c (.d .nilsl))=some (.c (.d (.int .i64 0)),[],[],True):=cE (o:=none) h
theorem Nc (G:List (List DV))(e p:Int)(hf:fF e p=0):aa Tryz.prog G 230 [fA e p,.c (.d (.int .i64 0)),.c (.d .nilsl)] (.tup [P3 e p 0 (bu e),.c (.d (.int .i64 0))]):=by
 obtain⟨f1,f2,f3,f4,f5⟩:=ji hf;obtain⟨g1,g2,hsh⟩:=uj f1 f2;have hc:=jS G e p;rw [hf] at hc;have w1:IntKind.i64.wrap (e - 1)=e - 1:=bG (by omega) (by omega);have w2:IntKind.i64.wrap (bu e+1 - 1)=bu e:=by rw [bG (by omega) (by omega)];omega
 have w2':IntKind.i64.wrap (bu e)=bu e:=bG (by omega) (by omega);have lpn:=WE 325 (by simp);generalize bu e=b at *
 refine aa.enc Tryz.func230 rfl (fun lv=>rfl) fun _=>aab ?_;refine aaa fun K hK=>aaq 2 hc ?_;refine aag (aac (hK _ _ (aaa fun K hK=>?_)));refine aap mixed (by kernel_rfl) rfl ?_;simp [w1,hsh,w2,w2',T7,-Kk];refine⟨by kernel_rfl,?_⟩;apply hK;refine aaa fun K hK=>aal lpn ?_;refine aaf ?_
 refine aao (fun (_:Unit)=>⟨bf [(6,.c (.ptr 1 0)),(8,.c (.ptr 2 0)),(32,.c (.d .nilsl)),(33,.c (.d (.int .i64 0))),(34,.c (.d (.int .i64 0)))],
  aC (aC (aC (fun _=>.hole) 0 (.cells true false 81 [.d (.int .i64 e),.d (.int .i64 p)])) 1 (.cells true false 282 [.d (.int .i64 0),.d (.int .i64 0),.d (.int .i64 0),.d (.int .i64 0)])) 2 (.cells true false 282 [.d (.int .i64 e),.d (.int .i64 p),.d (.int .i64 0),.d (.int .i64 b)])⟩) 3
  (fun _=>True) (fun _=>0) () (Le.mW _) trivial ?_
 rintro⟨⟩ _;refine aab ?_;refine aaa fun K3 hK3=>aag (aan (hK _ _ (aas @A9 @aj.eq_1 ?_)))
 refine aam ?_;refine bD.hO (κ:=0) (T:=282) (t:=6) (u:=7) (k:=1) (off:=0) (own:=true) (fz:=false) (U:=282) (cs:=[.d (.int .i64 e),.d (.int .i64 p),.d (.int .i64 0),.d (.int .i64 b)]) rfl ?_ ?_ ?_ ?_ rfl rfl
 ·simp
 ·simp [aj]
 ·rw [fQ,A9]
 ·simp
theorem Jj (G:List (List DV))(e p:Int)(hf:fF e p≠0):aa Tryz.prog G 230 [fA e p,.c (.d (.int .i64 0)),.c (.d .nilsl)] (.tup [P3 0 0 0 0,.c (.d (.int .i64 2))]):=by
 have hc:=jS G e p;refine aa.enc Tryz.func230 rfl (fun lv=>rfl) fun _=>aab ?_;refine aaa fun K hK=>aav 2 hc hf ?_;refine aai (by simp [hf] <;> omega) (aal QZ ?_);refine aam ?_;refine bD.hO (κ:=0) (T:=282) (t:=6) (u:=7) (k:=1) (off:=0) (own:=true) (fz:=false) (U:=282) (cs:=[.d (.int .i64 0),.d (.int .i64 0),.d (.int .i64 0),.d (.int .i64 0)]) rfl ?_ ?_ ?_ ?_ rfl rfl
 ·simp
 ·simp [aj]
 ·rw [fQ,A9]
 ·simp
theorem Iv (G:List (List DV))(k:Int)(h1:-20000≤k)(h2:k≤20000):aa Tryz.prog G 286 [.c (.d (.int .i64 k))] (fL (aM 1 k)):=by
 have h:=Nl G k h1 h2;generalize aM 1 k=r at *
 refine aa.enc Tryz.func286 rfl (fun lv=>fJ lv _ _ _) fun _=>aab ?_;refine aaq 1 h ?_;refine aas @bL @aj.eq_1 ?_;refine aam ?_;refine bD.cell (κ:=0) (T:=224) (t:=2) (k:=0) (off:=0) (own:=true) (fz:=false) (U:=224) (cs:=[.d (.bool (decide (r.num<0))),nC (cL r.num.natAbs),nC (dP r.den)]) rfl ?_ ?_ ?_
 ·simp
 ·simp [aj]
 ·rw [fQ,bL]
theorem ur (G:List (List DV))(x:Rat)(k:Int)(hx:jv x 10000000000)(h1:-20000≤k)(h2:k≤20000):aa Tryz.prog G 232 [fL x,.c (.d (.int .i64 k))] (fL (aM x k)):=by
 have h:=zo G x k hx h1 h2;generalize aM x k=r at *
 refine aa.enc Tryz.func232 rfl (fun lv=>fJ lv _ _ _) fun _=>aab ?_;refine aaq 2 h ?_;refine aas @bL @aj.eq_1 ?_;refine aam ?_;refine bD.cell (κ:=0) (T:=224) (t:=4) (k:=1) (off:=0) (own:=true) (fz:=false) (U:=224) (cs:=[.d (.bool (decide (r.num<0))),nC (cL r.num.natAbs),nC (dP r.den)]) rfl ?_ ?_ ?_
 ·simp
 ·simp [aj]
 ·rw [fQ,bL]
theorem Ik (G:List (List DV))(x:Rat)(hx:x≠0)(hs:jv x 10000000):aa Tryz.prog G 234 [fL x] (.c (.d (.int .i64 (fN x)))):=by
 have h:=M4 G x hx hs;refine aa.en Tryz.func234 rfl fun _=>aab ?_;refine aaq 1 h ?_;refine aab ?_;exact aad (aq.rt rfl 2 (by simp))
theorem Bg (G:List (List DV))(e p m b:Int)(h1:0≤b)(h2:b≤100000):aa Tryz.prog G 284 [P3 e p m b] (.c (.d (.int .i64 (1 - b)))):=by
 have w:IntKind.i64.wrap (1 - b)=1 - b:=bG (by omega) (by omega);refine aa.en Tryz.func284 rfl fun _=>aab ?_;refine aal w ?_;exact aad (aq.rt rfl 2 (by simp))
def jt (p b l:Int):Int:=max l (1 - b) - p+1
theorem EI (G:List (List DV))(e p m b l:Int)(h1:0≤b)(h2:b≤100000)(h3:0≤p)(h4:p≤100000)(h5:-1000000≤l)(h6:l≤1000000):aa Tryz.prog G 233 [P3 e p m b,.c (.d (.int .i64 l))] (.c (.d (.int .i64 (jt p b l)))):=by
 have h:=Bg G e p m b h1 h2;have mx:(List.foldl (fun a b:Int=>if a<b then b else a) l [1 - b])=max l (1 - b):=by simp only [List.foldl];split <;> omega
 have w1:IntKind.i64.wrap (max l (1 - b) - p)=max l (1 - b) - p:=bG (by omega) (by omega);have w2:IntKind.i64.wrap (max l (1 - b) - p+1)=jt p b l:=by unfold jt;exact bG (by omega) (by omega)
 refine aa.en Tryz.func233 rfl fun _=>aab ?_;refine aaa fun K hK=>?_;refine aap mixed (by kernel_rfl) rfl ?_;simp;refine ag.p 1 9 h ?_;simp [dh,mx,w1,w2,-List.foldl_cons,-List.foldl_nil];refine⟨by kernel_rfl,?_⟩;apply hK;exact aad (aq.rt rfl 4 (by simp))
def eL (p b:Int):Rat:=aM (aM 1 p - 1) (b - p+1)
theorem jl (L:Nat)(h:1≤L):jv 1 L:=⟨by show nl 1≤_;rw [qh];exact h,by show nl 1≤_;rw [qh];exact h⟩
theorem qF (p:Int)(h1:0≤p)(h2:p≤10000):jv (aM 1 p - 1) 1000:=by
 rw [Zp];have h:=iZ (jl 1 (bg _)) p;have:=MV (bQ h (show 1+p.natAbs / 32+1≤400 by omega)) (wq (jl 400 (by omega)));exact bQ this (by omega)
theorem zI (p b:Int)(h1:0≤p)(h2:p≤10000)(h3:0≤b)(h4:b≤5000):jv (eL p b) 2000:=by
 refine bQ (iZ (qF p h1 h2) _) (by omega)
theorem yj (G:List (List DV))(e p m b:Int)(h1:0≤b)(h2:b≤5000)(h3:0≤p)(h4:p≤10000):aa Tryz.prog G 237 [P3 e p m b] (fL (eL p b)):=by
 have k1:=Iv G p (by omega) (by omega);have k2:aa Tryz.prog G 263 [.c (.d (.int .i64 1))] (fL (1:Rat)):=Gh G 1 (by decide) (by decide);have k3:=NN G (aM 1 p) 1 (bQ (iZ (jl 1 (bg _)) p) (by omega)) (jl _ (by omega));have k4:=ur G (aM 1 p - 1) (b - p+1) (bQ (qF p h3 h4) (by omega)) (by omega) (by omega);rw [show aM (aM 1 p - 1) (b - p+1)=eL p b from rfl] at k4;have w1:IntKind.i64.wrap (b - p)=b - p:=bG (by omega) (by omega);have w2:IntKind.i64.wrap (b - p+1)=b - p+1:=bG (by omega) (by omega);generalize eL p b=r at *
 generalize aM 1 p - 1=r2 at *
 generalize aM 1 p=r1 at *
 generalize (1:Rat)=r0 at *
 refine aa.enc Tryz.func237 rfl (fun lv=>fJ lv _ _ _) fun _=>aab ?_;refine aaa fun K hK=>?_;refine aap mixed (by kernel_rfl) rfl ?_;simp;refine ag.p 2 9 k1 ?_;simp;refine ag.p 2 9 k2 ?_;simp;refine ag.p 2 9 k3 ?_;simp [w1,w2];refine ag.p 2 9 k4 ?_;simp;refine⟨by kernel_rfl,?_⟩;apply hK;refine aam ?_;refine bD.cell (κ:=0) (T:=224) (t:=2) (k:=1) (off:=0) (own:=true) (fz:=false) (U:=224) (cs:=[.d (.bool (decide (r.num<0))),nC (cL r.num.natAbs),nC (dP r.den)]) rfl ?_ ?_ ?_
 ·simp
 ·simp [aj]
 ·rw [fQ,bL]
def gJ (x:Rat):Rat:=if x<0 then -x else x
theorem O7 (x:Rat):fL (gJ x)=pG false (cL x.num.natAbs) (dP x.den):=by
 unfold gJ;split
 ·rename_i h
  have:x.num<0:=by
   have:=(Rat.lt_iff x 0).1 h;simpa using this
  show pG (decide ((-x).num<0)) (cL (-x).num.natAbs) (dP (-x).den)=_;rw [Rat.neg_num,Rat.neg_den,Int.natAbs_neg,decide_eq_false (by omega)]
 ·rename_i h
  have:¬ x.num<0:=fun hn=>h ((Rat.lt_iff x 0).2 (by simpa using hn))
  show pG (decide (x.num<0)) _ _=_;rw [decide_eq_false this]
theorem NT (G:List (List DV))(x:Rat):aa Tryz.prog G 236 [fL x] (fL (gJ x)):=by
 rw [O7];exact EE _ _ _ _
theorem vX {x:Rat}{L:Nat}(h:jv x L):jv (gJ x) L:=by
 unfold gJ;split
 ·exact wq h
 ·exact h
theorem HI (G:List (List DV))(x:Rat):aa Tryz.prog G 235 [fL x] (.c (.d (.bool (decide (x.den=1))))):=by
 have h:=Aw G (decide (x.num<0)) (cL x.num.natAbs) (dP x.den);have e:(dP x.den).isNone=decide (x.den=1):=by unfold dP;split <;> simp_all
 rw [e] at h;exact h
def hasB (e p:Int)(x:Rat):Bool:=
 decide (fF e p=0) && (decide (x=0) || (decide ((aM x (-(jt p (bu e) (fN x)))).den=1) && decide (ia (gJ x) (eL p (bu e))≤0)))
theorem qY (G:List (List DV))(e p:Int)(x:Rat)(hs:jv x 300):aa Tryz.prog G 160 [fA e p,fL x] (.c (.d (.bool (hasB e p x)))):=by
 by_cases hf:fF e p=0
 rotate_left
 ·have hw:=Jj G e p hf;have hb:hasB e p x=false:=by unfold hasB;rw [decide_eq_false hf];rfl
  refine aa.en Tryz.func160 rfl fun _=>aab ?_;refine aaq 2 hw ?_;refine aaa fun K hK=>aaf (aab ?_)
  refine aah (aab ?_);exact aad (aq.rt rfl 4 (by simp [hb]))
 obtain⟨f1,f2,f3,f4,f5⟩:=ji hf;obtain⟨g1,g2,_⟩:=uj f1 f2;have hw:=Nc G e p hf;have hg:=kZ G (decide (x.num<0)) (cL x.num.natAbs) (dP x.den)
 by_cases hx:x=0
 ·have hb:hasB e p x=true:=by unfold hasB;rw [decide_eq_true hf,decide_eq_true hx];rfl
  have hz:=La hx;refine aa.en Tryz.func160 rfl fun _=>aab ?_;refine aaq 2 hw ?_;refine aaa fun K hK=>aaf (aab ?_)
  refine aag (aav 3 hg hz ?_);refine aai (by simp [hz] <;> omega) (aab ?_);exact aad (aq.rt rfl 4 (by simp [hb]))
 have hne:=Kn hx;have hl:=Ik G x hx (bQ hs (by omega));obtain⟨l1,l2⟩:=yd hx hs;have hst:=EI G e p 0 (bu e) (fN x) (by omega) (by omega) (by omega) (by omega) (by omega) (by omega);have s1:-20000≤-(jt p (bu e) (fN x)):=by unfold jt;omega
 have s2:-(jt p (bu e) (fN x))≤20000:=by unfold jt;omega
 have hsh:=ur G x (-(jt p (bu e) (fN x))) (bQ hs (by omega)) s1 s2;have hin:=HI G (aM x (-(jt p (bu e) (fN x))));have hab:=NT G x;have hgr:=yj G e p 0 (bu e) (by omega) (by omega) (by omega) (by omega);have hcm:=G2 G (gJ x) (eL p (bu e)) (bQ (vX hs) (by omega)) (bQ (zI p (bu e) (by omega) (by omega) (by omega) (by omega)) (by omega))
 have hb:hasB e p x=(decide ((aM x (-(jt p (bu e) (fN x)))).den=1) && decide (ia (gJ x) (eL p (bu e))≤0)):=by
  unfold hasB;rw [decide_eq_true hf,decide_eq_false hx];rfl
 have w:IntKind.i64.wrap (-(jt p (bu e) (fN x))) = -(jt p (bu e) (fN x)):=bG (by omega) (by omega);generalize ia (gJ x) (eL p (bu e))=cm at *
 generalize eL p (bu e)=gr at *
 generalize gJ x=ab at *
 generalize aM x (-(jt p (bu e) (fN x)))=sh at *
 generalize jt p (bu e) (fN x)=st at *
 generalize fN x=lo at *
 generalize bu e=b at *
 by_cases hi:sh.den=1
 ·have hb2:hasB e p x=decide (cm≤0):=by rw [hb,decide_eq_true hi];rfl
  refine aa.en Tryz.func160 rfl fun _=>aab ?_;refine aaq 2 hw ?_;refine aaa fun K hK=>aaf (aab ?_)
  refine aag (aav 3 hg hne ?_);refine aaj (by simp [hne] <;> omega) (aac (hK _ _ (aaa fun K hK=>?_)));refine aap mixed (by kernel_rfl) rfl ?_;simp [aj];refine ag.p 3 9 hl ?_;simp;refine ag.p 3 9 hst ?_;simp [w];refine ag.p 3 9 hsh ?_;simp;refine ag.p 3 9 hin ?_;simp [hi];refine ag.p 3 9 hab ?_;simp;refine ag.p 3 9 hgr ?_;simp;refine ag.p 3 9 hcm ?_;simp;refine⟨by kernel_rfl,?_⟩;apply hK;exact aad (aq.rt rfl 4 (by simp [hb2]))
 ·have hb2:hasB e p x=false:=by rw [hb,decide_eq_false hi];rfl
  refine aa.en Tryz.func160 rfl fun _=>aab ?_;refine aaq 2 hw ?_;refine aaa fun K hK=>aaf (aab ?_)
  refine aag (aav 3 hg hne ?_);refine aaj (by simp [hne] <;> omega) (aac (hK _ _ (aaa fun K hK=>?_)));refine aap mixed (by kernel_rfl) rfl ?_;simp [aj];refine ag.p 3 9 hl ?_;simp;refine ag.p 3 9 hst ?_;simp [w];refine ag.p 3 9 hsh ?_;simp;refine ag.p 3 9 hin ?_;simp [hi];refine⟨by kernel_rfl,?_⟩;apply hK;exact aad (aq.rt rfl 4 (by simp [hb2]))
theorem we(h:eM s=true) (h0:s≠[48]) (h1:s≠[49]):2≤aO s 0:=by
 obtain⟨hD,hne⟩:=nw h;unfold eM at h;simp only [cn,Xl,W8,decide_eq_true_eq,decide_eq_false_iff_not] at h
 have h4:s.getD 0 0≠48:=by
  rcases h.2 with h3|h3
  ·exact absurd h3 h0
  ·exact h3
 cases s with
 | nil=>exact absurd rfl hne
 | cons c l=>
  have hc:=hD c (by simp);have hc48:c≠48:=h4;have hcn:c.toNat≠48:=fun e=>hc48 (UInt8.toNat_inj.1 (by rw [e];rfl))
  have e:aO (c::l) 0=(c.toNat - 48)*10 ^ l.length+aO l 0:=by
   show aO l (10*0+(c.toNat - 48))=_;rw [ff,XI,W5]
  rw [e]
  cases l with
  | nil=>
   have hc49:c.toNat≠49:=fun e=>h1 (by rw [UInt8.toNat_inj.1 (show c.toNat=(49:UInt8).toNat by rw [e];rfl)])
   show 2≤(c.toNat - 48)*10 ^ 0+0;omega
  | cons d l=>
   have h10:10≤10 ^ (d::l).length:=by
    rw [Xi,WU];have:=W3 (a:=10) (n:=l.length) (by decide);omega
   have:1*10≤(c.toNat - 48)*10 ^ (d::l).length:=X7 (by omega) h10;omega
def oE (neg:Bool)(top bot:List UInt8)(brk:Bool):Rat:=if dg neg top bot brk=0 then mkRat (dy neg (aO top 0)) (if brk=true then aO bot 0 else 1) else 0
theorem I6 (s:List UInt8):(val 4294967296 (dO (oL s)))=aO s 0:=by show val 4294967296 (aI 4294967296 (aO s 0))=_;rw [dR]
theorem Bz (s:List UInt8):can 4294967296 (dO (oL s)):=gz _
theorem R3 (s t:List UInt8):(val 4294967296 (dO (gO (oL s) (oL t))))=Nat.gcd (aO s 0) (aO t 0):=by
 unfold gO;rw [yo (Bz s) (Bz t),dR,I6,I6]
theorem E2 {neg:Bool}{top bot:List UInt8}{brk:Bool}(h:iz neg top bot brk=false):eM top=true∧(brk=true→eM bot=true∧bot≠[48]∧bot≠[49]):=by
 unfold iz at h;simp only [Bool.or_eq_false_iff,Bool.not_eq_false',Bool.and_eq_false_iff,decide_eq_false_iff_not] at h;obtain⟨⟨h1,_⟩,h3⟩:=h;refine⟨h1,fun hb=>?_⟩;rcases h3 with h3|h3
 ·rw [hb] at h3;cases h3
 ·exact⟨h3.1.1,h3.1.2,h3.2⟩
theorem Ep (neg:Bool)(top bot:List UInt8)(brk:Bool):eB neg top bot brk=.tup [fL (oE neg top bot brk),.c (.d (.int .i64 (dg neg top bot brk)))]:=by
 by_cases h1:iz neg top bot brk=true
 ·have e:dg neg top bot brk=6:=by unfold dg;rw [if_pos h1]
  have e2:oE neg top bot brk=0:=by unfold oE;rw [e,if_neg (by decide)]
  rw [e,e2];unfold eB;rw [if_pos h1];rfl
 by_cases h2:2000<max top.length bot.length
 ·have e:dg neg top bot brk=3:=by unfold dg;rw [if_neg h1,if_pos h2]
  have e2:oE neg top bot brk=0:=by unfold oE;rw [e,if_neg (by decide)]
  rw [e,e2];unfold eB;rw [if_neg h1,if_pos h2];rfl
 obtain⟨g1,g2⟩:=E2 (by simpa using h1)
 by_cases h3:brk=false
 ·have e:dg neg top bot brk=0:=by unfold dg;rw [if_neg h1,if_neg h2,if_pos h3]
  have e2:oE neg top bot brk=mkRat (dy neg (aO top 0)) 1:=by unfold oE;rw [e,if_pos rfl,h3];rfl
  rw [e,e2];unfold eB;rw [if_neg h1,if_neg h2,if_pos h3];rw [zZ neg (Bz top) (q:=some (aI 4294967296 1)) (gz 1) (lp (by decide)),I6,aV,dR]
 have hb:brk=true:=by simpa using h3
 obtain⟨r1,r2,r3⟩:=g2 hb;have hge:=we r1 r2 r3
 by_cases h4:(val 4294967296 (dO (gO (oL top) (oL bot))))=1
 ·have e:dg neg top bot brk=0:=by unfold dg;rw [if_neg h1,if_neg h2,if_neg h3,if_pos h4]
  have e2:oE neg top bot brk=mkRat (dy neg (aO top 0)) (aO bot 0):=by unfold oE;rw [e,if_pos rfl,hb];rfl
  rw [e,e2];unfold eB;rw [if_neg h1,if_neg h2,if_neg h3,if_pos h4];rw [R3] at h4;have ha:aO top 0≠0:=by intro h0;rw [h0,Zq] at h4;omega
  obtain⟨n1,n2⟩:=iw neg (a:=aO top 0) (b:=aO bot 0) (by omega);rw [h4,X0] at n1 n2;show AV.tup [pG neg (some (aI 4294967296 (aO top 0))) (some (aI 4294967296 (aO bot 0))),_]=AV.tup [pG (decide ((mkRat (dy neg (aO top 0)) (aO bot 0)).num<0)) (cL (mkRat (dy neg (aO top 0)) (aO bot 0)).num.natAbs) (dP (mkRat (dy neg (aO top 0)) (aO bot 0)).den),_];rw [n1,n2,sE,FY neg ha];unfold cL dP;rw [if_neg ha,if_neg (by omega)]
 ·have e:dg neg top bot brk=6:=by unfold dg;rw [if_neg h1,if_neg h2,if_neg h3,if_neg h4]
  have e2:oE neg top bot brk=0:=by unfold oE;rw [e,if_neg (by decide)]
  rw [e,e2];unfold eB;rw [if_neg h1,if_neg h2,if_neg h3,if_neg h4];rfl
theorem IY (L:Nat)(h:1≤L):jv 0 L:=⟨by show nl 0≤_;exact W2 _,by show nl 1≤_;rw [qh];exact h⟩
theorem rm(h:vI s) (hl:s.length≤2000):nl (aO s 0)≤300:=by
 have:=Ot (mO h);omega
theorem NI (neg:Bool)(top bot:List UInt8)(brk:Bool):jv (oE neg top bot brk) 300:=by
 unfold oE;split
 ·rename_i h
  have h1:¬ iz neg top bot brk=true:=by
   intro hb;unfold dg at h;rw [if_pos hb] at h;cases h
  have h2:¬ 2000<max top.length bot.length:=by
   intro hb;unfold dg at h;rw [if_neg h1,if_pos hb] at h;cases h
  obtain⟨g1,g2⟩:=E2 (by simpa using h1);split
  ·rename_i hb
   obtain⟨r1,r2,r3⟩:=g2 hb;have hge:=we r1 r2 r3;exact nQ _ (by omega) (rm (nw g1).1 (by omega)) (rm (nw r1).1 (by omega))
  ·exact nQ _ (by decide) (rm (nw g1).1 (by omega)) (by rw [qh];decide)
 ·exact IY _ (by decide)
def ez (r:List UInt8):Int:=dg (sn r [45]) (sW (kF r [45]) [47]) (rZ (kF r [45]) [47]) (decide (0≤jM (kF r [45]) [47]))
def fj (r:List UInt8):Rat:=oE (sn r [45]) (sW (kF r [45]) [47]) (rZ (kF r [45]) [47]) (decide (0≤jM (kF r [45]) [47]))
theorem vK (r:List UInt8):jv (fj r) 300:=NI ..
theorem zk (m:Int)(r:List UInt8):aa Tryz.prog (GG m) 159 [.c (.d (.str r))] (.tup [fL (fj r),.c (.d (.int .i64 (ez r)))]):=by
 have h:=DN m r;rw [Ep] at h;exact h
theorem Ic (m:Int)(r:List UInt8):aa Tryz.prog (GG m) 163 [.c (.d (.str r))] (.c (.d (.int .i64 (ez r)))):=yT m r
theorem gy (G:List (List DV))(n m:Int):aa Tryz.prog G 87 [.c (.d (.int .i64 n)),.c (.d (.int .i64 m))] (.c (.d (.bool (decide (0≤n∧n<m))))):=by
 refine aa.en Tryz.func87 rfl fun _=>aab ?_;refine aaa fun K hK=>?_
 by_cases h:0≤n
 ·refine aat h (hK _ _ ?_);exact aad (aq.rt rfl 4 (by simp [h]))
 ·refine aat h (hK _ _ ?_);exact aad (aq.rt rfl 4 (by simp [h]))
theorem CJ (G:List (List DV))(n:Int):aa Tryz.prog G 96 [.c (.d (.int .i64 n))] (.c (.d (.bool (decide (1≤n∧n≤15))))):=by
 refine aa.en Tryz.func96 rfl fun _=>aab ?_;refine aaa fun K hK=>?_
 by_cases h:1≤n
 ·refine aat h (hK _ _ ?_);exact aad (aq.rt rfl 2 (by simp [h]))
 ·refine aat h (hK _ _ ?_);exact aad (aq.rt rfl 2 (by simp [h]))
def iQ (p:PD)(i:Int):Int:=if i<p.head then 0 else if i<p.tail then 1 else 2
theorem mL (G:List (List DV))(p:PD)(i:Int):aa Tryz.prog G 88 [p.A,.c (.d (.int .i64 i))] (.c (.d (.int .i64 (iQ p i)))):=by
 refine aa.en Tryz.func88 rfl fun _=>aab ?_;refine aaa fun K hK=>aaf (aab ?_)
 by_cases h:i<p.head
 ·refine aai (by simp [h] <;> omega) (aab ?_);exact aad (aq.rt rfl 4 (by simp [iQ,h]))
 ·refine aaj (by simp [h] <;> omega) (aab ?_)
  by_cases h2:i<p.tail
  ·refine aai (by simp [h2] <;> omega) (aab ?_);exact aad (aq.rt rfl 4 (by simp [iQ,h,h2]))
  ·refine aaj (by simp [h2] <;> omega) (aac (hK _ _ (aab ?_)));exact aad (aq.rt rfl 4 (by simp [iQ,h,h2]))
@[simp] theorem PD.VO (p:PD):(AV.agg [dL p.f,.d (.int .i64 p.mode),dL p.ins,dL p.nodes,.d (.int .i64 p.head),.d (.int .i64 p.tail),dL p.states,.d (.int .i64 p.res)]).pure=true:=by
 obtain⟨f,a,i,n,b,c,s,d⟩:=p
 cases f <;> cases i <;> cases n <;> cases s <;> rfl
def dQ (p:PD)(i k:Int):Bool:=decide (0≤k∧k<i) && (decide (iQ p k=0) || decide (iQ p k=iQ p i))
theorem NW (G:List (List DV))(p:PD)(i k:Int):aa Tryz.prog G 164 [p.A,.c (.d (.int .i64 i)),.c (.d (.int .i64 k))] (.c (.d (.bool (dQ p i k)))):=by
 refine aa.en Tryz.func164 rfl fun _=>aab ?_;refine aaa fun K hK=>aaa fun K1 hK1=>?_
 by_cases h1:k<0
 ·have h1':¬ 0≤k:=by omega
  refine aat h1 (hK1 _ _ ?_);refine aah (aab ?_);exact aad (aq.rt rfl 6 (by simp [dQ,h1']))
 have h0:0≤k:=by omega
 by_cases h2:i≤k
 ·have h2':¬ k<i:=by omega
  refine aau h1 h2 (hK1 _ _ ?_);refine aah (aab ?_);exact aad (aq.rt rfl 6 (by simp [dQ,h2']))
 have h2':k<i:=by omega
 refine aau h1 h2 (hK1 _ _ ?_);refine aag (aac (hK _ _ (aak fun K hK=>?_)));simp;refine ag.pure 1 9 (mL _ p k) (by simp) (by simp) rfl ?_;simp;apply hK;refine aaa fun K hK=>?_
 by_cases h3:iQ p k=0
 ·refine aat h3 (hK _ _ ?_);exact aad (aq.rt rfl 6 (by simp [dQ,h0,h2',h3]))
 ·refine aae ?_;simp [h3];refine ag.pure 1 9 (mL _ p i) (by simp) (by simp) rfl ?_;simp;apply hK;exact aad (aq.rt rfl 6 (by simp [dQ,h0,h2',h3]))
def dH (p:PD):Int:=
 if 6<(sO p.f).length∨6<(sO p.ins).length∨64<(sO p.nodes).length∨4<(sO p.states).length then 3
 else if (sO p.f).length=0∨(sO p.nodes).length=0∨p.mode<0∨4<p.mode then 2
 else if p.head<0∨p.tail<p.head∨((sO p.nodes).length:Int)<p.tail then 2
 else if (sO p.states).length=0∧p.head≠(sO p.nodes).length then 2 else 0
theorem Fj (G:List (List DV))(p:PD):aa Tryz.prog G 82 [p.A] (.c (.d (.int .i64 (dH p)))):=by
 have lp0:∀ (lv:Key→LB) (o:Option (List (List DV))),eA Tryz.prog 22 lv (nt o)=some (.c (.d (.int .i64 (sO o).length)),[],[],True):=fun lv o=>cE (by simp)
 have lp2:∀ (lv:Key→LB) (o:Option (List (List DV))),eA Tryz.prog 23 lv (nt o)=some (.c (.d (.int .i64 (sO o).length)),[],[],True):=fun lv o=>cE (by simp)
 have lp3:∀ (lv:Key→LB) (o:Option (List (List DV))),eA Tryz.prog 24 lv (nt o)=some (.c (.d (.int .i64 (sO o).length)),[],[],True):=fun lv o=>cE (by simp)
 have lp6:∀ (lv:Key→LB) (o:Option (List (List DV))),eA Tryz.prog 25 lv (nt o)=some (.c (.d (.int .i64 (sO o).length)),[],[],True):=fun lv o=>cE (by simp)
 refine aa.en Tryz.func82 rfl fun _=>aab ?_;refine aal lp3 ?_;refine aaa fun K hK=>aaf (aaa fun K1 hK1=>?_)
 have toK1:∀ (fr:Nat→AV) (κ:Nat) (b:Bool),fr 1=.c (.ptr 0 0)→fr 3=.c (.d (.int .i64 (sO p.nodes).length))→fr 8=.c (.d (.bool b)) →
  (b=decide (6<(sO p.f).length∨6<(sO p.ins).length∨64<(sO p.nodes).length∨4<(sO p.states).length)) →
  K1 ⟨fr,aC (fun _=>.hole) 0 (.cells true false 154 p.cs)⟩ κ:=by
  intro fr κ b z1 z3 z8 hb;apply hK1
  cases b with
  | true=>
   have h:=of_decide_eq_true hb.symm;refine aai (by simp [z8] <;> omega) (aab ?_);exact aad (aq.rt rfl 9 (by simp [dH,if_pos h]))
  | false=>
   have h:=of_decide_eq_false hb.symm;refine aaj (by simp [z8] <;> omega) (aaa fun K2 hK2=>?_)
   have toK2:∀ (fr:Nat→AV) (κ:Nat) (b:Bool),fr 1=.c (.ptr 0 0)→fr 3=.c (.d (.int .i64 (sO p.nodes).length))→fr 26=.c (.d (.bool b)) →
    (b=decide ((sO p.f).length=0∨(sO p.nodes).length=0∨p.mode<0∨4<p.mode)) →
    K2 ⟨fr,aC (fun _=>.hole) 0 (.cells true false 154 p.cs)⟩ κ:=by
    intro fr κ b y1 y3 y26 hb2;apply hK2
    cases b with
    | true=>
     have h2:=of_decide_eq_true hb2.symm;refine aai (by simp [y26] <;> omega) (aab ?_);have hg:dH p=2:=by unfold dH;rw [if_neg h,if_pos h2]
     exact aad (aq.rt rfl 9 (by simp [hg]))
    | false=>
     have h2:=of_decide_eq_false hb2.symm;refine aaj (by simp [y26] <;> omega) (aaa fun K3 hK3=>?_)
     have toK3:∀ (fr:Nat→AV) (κ:Nat) (b:Bool),fr 1=.c (.ptr 0 0)→fr 3=.c (.d (.int .i64 (sO p.nodes).length))→fr 42=.c (.d (.bool b)) →
      (b=decide (p.head<0∨p.tail<p.head∨((sO p.nodes).length:Int)<p.tail)) →
      K3 ⟨fr,aC (fun _=>.hole) 0 (.cells true false 154 p.cs)⟩ κ:=by
      intro fr κ b x1 x3 x42 hb3;apply hK3
      cases b with
      | true=>
       have h3:=of_decide_eq_true hb3.symm;refine aai (by simp [x42] <;> omega) (aab ?_);have hg:dH p=2:=by unfold dH;rw [if_neg h,if_neg h2,if_pos h3]
       exact aad (aq.rt rfl 9 (by simp [hg]))
      | false=>
       have h3:=of_decide_eq_false hb3.symm;refine aaj (by simp [x42] <;> omega) (aaa fun K4 hK4=>?_)
       have fin0:dH p=0→∀ (fr:Nat→AV) (κ:Nat) (lv:Key→LB),lv 9=.hole→K ⟨fr,lv⟩ κ:=by
        intro hg fr κ lv h9;apply hK;refine aab ?_;exact aam (κ:=0) (aq.tmp (κ:=0) rfl 9 (by simp [hg]) rfl (by simp [h9]) rfl)
       by_cases e1:sO p.states=[]
       ·by_cases e2:p.head=((sO p.nodes).length:Int)
        ·have hg:dH p=0:=by unfold dH;rw [if_neg h,if_neg h2,if_neg h3,if_neg (fun hh=>hh.2 e2)]
         refine aae ?_;simp [x1,x3,lp6,e1,e2];apply hK4;refine aag (aac ?_);simp;exact fin0 hg _ _ _ (by simp)
        ·have hg:dH p=2:=by unfold dH;rw [if_neg h,if_neg h2,if_neg h3,if_pos ⟨by rw [e1];rfl,e2⟩]
         refine aae ?_;simp [x1,x3,lp6,e1,e2];apply hK4;refine aah (aab ?_);exact aad (aq.rt rfl 9 (by simp [hg]))
       ·have hg:dH p=0:=by unfold dH;rw [if_neg h,if_neg h2,if_neg h3,if_neg (fun hh=>e1 (List.length_eq_zero_iff.1 hh.1))]
        refine aaE x1 x3 lp6 e1 (hK4 _ _ ?_);refine aag (aac ?_);simp;exact fin0 hg _ _ _ (by simp)
     refine aal y1 ?_
     by_cases f1:p.head<0
     ·refine aai (by simp [f1] <;> omega) (aac ?_);simp;exact toK3 _ _ true (by simp [y1]) (by simp [y3]) (by simp [f1]) (by simp [f1])
     refine aaj (by simp [f1] <;> omega) (aal y1 ?_)
     by_cases f2:p.tail<p.head
     ·refine aai (by simp [f2] <;> omega) (aac ?_);simp;exact toK3 _ _ true (by simp [y1]) (by simp [y3]) (by simp [f2]) (by simp [f2])
     refine aaj (by simp [f2] <;> omega) (aae ?_);simp [y1,y3];exact toK3 _ _ (decide (((sO p.nodes).length:Int)<p.tail)) (by simp [y1]) (by simp [y3]) (by simp) (by simp [f1,f2])
   refine aas z1 lp0 ?_
   by_cases c1:(sO p.f).length=0
   ·have c1l:sO p.f=[]:=List.length_eq_zero_iff.1 c1;refine aai (by simp [c1l] <;> omega) (aac ?_);simp;exact toK2 _ _ true (by simp [z1]) (by simp [z3]) (by simp [c1l]) (by simp [c1l])
   have c1l:¬ sO p.f=[]:=fun e=>c1 (by rw [e];rfl)
   refine aaj (by simp [c1l] <;> omega) (aal z3 ?_)
   by_cases c2:(sO p.nodes).length=0
   ·have c2l:sO p.nodes=[]:=List.length_eq_zero_iff.1 c2;refine aai (by simp [c2l] <;> omega) (aac ?_);simp;exact toK2 _ _ true (by simp [z1]) (by simp [z3]) (by simp [c2l]) (by simp [c2l])
   have c2l:¬ sO p.nodes=[]:=fun e=>c2 (by rw [e];rfl)
   refine aaj (by simp [c2l] <;> omega) (aal z1 ?_)
   by_cases c3:p.mode<0
   ·refine aai (by simp [c3] <;> omega) (aac ?_);simp;exact toK2 _ _ true (by simp [z1]) (by simp [z3]) (by simp [c3]) (by simp [c3])
   refine aaj (by simp [c3] <;> omega) (aae ?_);simp [z1];exact toK2 _ _ (decide (4<p.mode)) (by simp [z1]) (by simp [z3]) (by simp) (by simp [c1l,c2l,c3])
 refine aal lp0 ?_
 by_cases d1:6<(sO p.f).length
 ·have d1':(6:Int)<((sO p.f).length:Int):=by omega
  refine aai (by simp [d1'] <;> omega) (aac ?_);simp;exact toK1 _ _ true (by simp) (by simp) (by simp [d1']) (by simp [d1])
 have d1':¬ (6:Int)<((sO p.f).length:Int):=by omega
 refine aaj (by simp [d1'] <;> omega) (aal lp2 ?_)
 by_cases d2:6<(sO p.ins).length
 ·have d2':(6:Int)<((sO p.ins).length:Int):=by omega
  refine aai (by simp [d2'] <;> omega) (aac ?_);simp;exact toK1 _ _ true (by simp) (by simp) (by simp [d2']) (by simp [d2])
 have d2':¬ (6:Int)<((sO p.ins).length:Int):=by omega
 refine aaj (by simp [d2'] <;> omega) (aab ?_)
 by_cases d3:64<(sO p.nodes).length
 ·have d3':(64:Int)<((sO p.nodes).length:Int):=by omega
  refine aai (by simp [d3'] <;> omega) (aac ?_);simp;exact toK1 _ _ true (by simp) (by simp) (by simp [d3']) (by simp [d3])
 have d3':¬ (64:Int)<((sO p.nodes).length:Int):=by omega
 refine aaj (by simp [d3'] <;> omega) (aae ?_);simp [lp6];have d4:((4:Int)<((sO p.states).length:Int))↔4<(sO p.states).length:=by omega
 exact toK1 _ _ (decide (4<(sO p.states).length)) (by simp) (by simp) (by simp [d4]) (by simp [d1,d2,d3])
end Go.Am
namespace Go.Am
variable {fn:Func}{x X:AV}{c:Ctx}{t κ k off sz:Nat}{s:aB}{ks:List Key}{T U:TypeId}{own fz:Bool}{cs:List CV}{lv:Key→LB}{es:List (List DV)}
theorem aa.ed {P:Program}{G:List (List DV)}{f:FuncId}{code:Code}{args:List AV}(hf:P.funcs[f]?=some fn) (hb:fn.body=some code)
 (h:∀ z:Ev,AW ⟨P,G,z.w,z.F,z.W,fn.ntmps,fun _=>.hole,z.b⟩ none code ⟨fun t=>args.getD t .undef,fun _=>.hole⟩ 0 (jr ⟨P,G,z.w,z.F,z.W,fn.ntmps,fun _=>.hole,z.b⟩ fn x)) (hl:Nat.ble args.length fn.ntmps=true:=by kernel_rfl):aa P G f args x:=
 aa.KA hf hb (W9 hl) fun⟨_,_,w,F,W,_,q,b⟩ h1 h2 h3 h4=>by cases h1;cases h2;cases h3;cases h4;exact h ⟨w,F,W,fun _=>.hole,b⟩
theorem sV {lv:Key→LB}{n:Nat}:∀ (l:List DV),fU (cU lv n) (l.map CV.d)=some (l,[])
 | []=>rfl
 | x::l=>by
  have ih:=sV (lv:=lv) (n:=n) l;simp only [WX,fU] at ih ⊢;rw [ih]
  cases n <;> rfl
theorem qo {α:Type}{sz:Nat}:∀ (es:List (List α)),(∀ e∈es,e.length=sz)→chunk sz es.length es.flatten=es
 | [],_=>rfl
 | e::es,h=>by
  have he:e.length=sz:=h e (by simp);have ih:=qo es fun x hx=>h x (by simp [hx])
  have hlen:es.flatten.length=es.length*sz:=by
   rw [List.length_flatten]
   have:∀ l:List (List α),(∀ e∈l,e.length=sz)→(l.map List.length).sum=l.length*sz:=by
    intro l
    induction l with
    | nil=>intro _;simp
    | cons a l ih=>intro h;simp [ih fun x hx=>h x (by simp [hx]),h a (by simp),Nat.succ_mul];omega
   exact this es fun x hx=>h x (by simp [hx])
  unfold chunk at ih ⊢;rw [Xi,List.range_succ_eq_map,WX,Xc];congr 1
  ·simp [List.take_left' he]
  ·conv=>rhs;rw [← ih]
   apply Xj;intro i _;simp only [Function.comp,Yb];have:(i+1)*sz=e.length+i*sz:=by rw [he,Nat.succ_mul];omega
   rw [Nat.succ_eq_add_one,this,List.drop_append,Ye (by omega),XN,X5]
theorem jr.tmp(hr:fn.results=#[.tmp t]) (hx:s.fr t=X) (hd:fR s.lv X=some (x,ks)):jr c fn x .ret s κ:=
 ⟨X,ks,by rw [hr];simp [cH,iK,ki,hx],hd⟩
theorem jr.cell(hr:fn.results=#[.cell t T]) (ht:s.fr t=.c (.ptr k off)) (hk:s.lv k=.cells own fz U cs)
 (hx:eN c.P T (cs.drop off)=some X) (hd:fR s.lv X=some (x,ks)):jr c fn x .ret s κ:=
 ⟨X,ks,by rw [hr];simp [cH,iK,ki,ht,hk,hx],hd⟩
theorem jr.hO{y:AV}{u:Nat}(hr:fn.results=#[.cell t T,.tmp u]) (ht:s.fr t=.c (.ptr k off)) (hk:s.lv k=.cells own fz U cs)
 (hx:eN c.P T (cs.drop off)=some X) (hy:s.fr u=y) (hn:X.cu=true) (hm:y.cu=true) (hd:fR s.lv (.tup [X,y])=some (x,ks)):jr c fn x .ret s κ:=
 ⟨.tup [X,y],ks,by rw [hr];simp [cH,iK,ki,ht,hk,hx,hy,hn,hm],hd⟩
theorem oK{k:Key}(h:lv k=.cells own fz T (es.flatten.map CV.d)) (hs:∀ e∈es,e.length=sz) (hl:es.length≤9223372036854775807) :
 fR lv (.c (.aR k 0 es.length sz))=some (.c (.d (.sl es)),[k]):=by
 have hlen:es.flatten.length=es.length*sz:=by
  rw [List.length_flatten]
  have:∀ l:List (List DV),(∀ e∈l,e.length=sz)→(l.map List.length).sum=l.length*sz:=by
   intro l
   induction l with
   | nil=>intro _;simp
   | cons a l ih=>intro h;simp [ih fun x hx=>h x (by simp [hx]),h a (by simp),Nat.succ_mul];omega
  exact this es hs
 have ht:(es.flatten.map CV.d).take (es.length*sz)=es.flatten.map CV.d:=X6 (by rw [W6,hlen];exact bg _);simp only [fR,eC,cU,h,W6,hlen,W5,bg,hl,and_self,if_true,fQ,ht,sV,W4,qo es hs]
theorem jj(h:∀ e∈es,e.length=sz):dY lv sz (.c (.d (.sl es)))=some (es.length,es.flatten.map CV.d):=by
 have h1:es.all (fun e=>e.length == sz)=true:=by rw [E5];intro e he;simp [h e he]
 simp [dY,h1]
end Go.Am
namespace Go.Am
open Go.Am.Ty Go.Proofs N
variable {T:TypeId}{i n:Nat}{P:Program}{op:Int}
structure Nd where
 op:Int
 a:Int
 b:Int
 c:Int
 d:Int
 f:Int
 v:List UInt8
 deriving DecidableEq,Inhabited
structure In where
 f:Int
 lo:List UInt8
 hi:List UInt8
 deriving DecidableEq,Inhabited
@[simp] def Nd.e (n:Nd):List DV:=[.int .i64 n.op,.int .i64 n.a,.int .i64 n.b,.int .i64 n.c,.int .i64 n.d,.int .i64 n.f,.str n.v]
@[simp] def In.e (n:In):List DV:=[.int .i64 n.f,.str n.lo,.str n.hi]
@[simp] def Tv (n:Int × Int):List DV:=[.int .i64 n.1,.int .i64 n.2]
abbrev Nd.A (n:Nd):AV:=.agg [.d (.int .i64 n.op),.d (.int .i64 n.a),.d (.int .i64 n.b),.d (.int .i64 n.c),.d (.int .i64 n.d),.d (.int .i64 n.f),.d (.str n.v)]
def O3:List DV→Nd
 | [.int _ o,.int _ a,.int _ b,.int _ c,.int _ d,.int _ f,.str v]=>⟨o,a,b,c,d,f,v⟩
 | _=>default
def Pg:List DV→In
 | [.int _ f,.str a,.str b]=>⟨f,a,b⟩
 | _=>default
def Pe:List DV→Int × Int
 | [.int _ a,.int _ b]=>(a,b)
 | _=>(0,0)
theorem IQ {e:List DV}(h:MT e):e=(O3 e).e:=by obtain⟨a1,a2,a3,a4,a5,a6,s,rfl⟩:=h;rfl
theorem J5 {e:List DV}(h:MI e):e=(Pg e).e:=by obtain⟨a,s,t,rfl⟩:=h;rfl
theorem Je {e:List DV}(h:IN e):e=Tv (Pe e):=by obtain⟨a,b,rfl⟩:=h;rfl
theorem QO (n:Nd):MT n.e:=⟨_,_,_,_,_,_,_,rfl⟩
theorem Sv (n:In):MI n.e:=⟨_,_,_,rfl⟩
def PD.nf (p:PD):Nat:=(sO p.f).length
def PD.ni (p:PD):Nat:=(sO p.ins).length
def PD.nn (p:PD):Nat:=(sO p.nodes).length
def PD.ns (p:PD):Nat:=(sO p.states).length
def PD.fm (p:PD)(i:Nat):Int × Int:=Pe ((sO p.f).getD i [])
def PD.HL (p:PD)(i:Nat):In:=Pg ((sO p.ins).getD i [])
def PD.nd (p:PD)(i:Nat):Nd:=O3 ((sO p.nodes).getD i [])
def PD.st (p:PD)(i:Nat):Int × Int:=Pe ((sO p.states).getD i [])
section
variable {p:PD}(hp:p.ok) (lv:Key→LB) (k:Int) (h0:0≤k)
theorem SA{lv:Key→LB}{o:Option (List (List DV))}{k:Int}{sz:Nat}{e:List DV}(h:(eP P T).map (·.2)=some sz) (h0:0≤k) (hi:k<(sO o).length) (he:(sO o).getD k.toNat []=e) (hs:e.length=sz) :
 ak P T lv (nt o) (.c (.d (.int .i64 k)))=some (.c (.d (.ptr e)),[],[],True):=by
 obtain⟨i,rfl⟩:∃ i:Nat,k=i:=⟨k.toNat,by omega⟩
 have hi':i<(sO o).length:=by omega
 have e1:(sO o)[i]=e:=by rw [← he,XH,WO,rP hi'];rfl
 rw [jf h hi' (by rw [e1];exact hs),e1]
theorem gD {l:List (List DV)}{q:List DV→Prop}(h:∀ e∈l,q e)(hi:i<l.length):q (l.getD i []):=by
 rw [WO,rP hi];exact h _ (aW hi)
include hp h0
theorem Tm (hi:k<p.nf):ak Tryz.prog 22 lv (.c (dL p.f)) (.c (.d (.int .i64 k)))=some (.c (.d (.ptr (Tv (p.fm k.toNat)))),[],[],True):=
 SA (by simp) h0 hi (Je (gD hp.f (by unfold PD.nf at hi;omega))) rfl
theorem Tj (hi:k<p.ni):ak Tryz.prog 23 lv (.c (dL p.ins)) (.c (.d (.int .i64 k)))=some (.c (.d (.ptr (p.HL k.toNat).e)),[],[],True):=
 SA (by simp) h0 hi (J5 (gD hp.ins (by unfold PD.ni at hi;omega))) rfl
theorem Rq (hi:k<p.nn):ak Tryz.prog 24 lv (.c (dL p.nodes)) (.c (.d (.int .i64 k)))=some (.c (.d (.ptr (p.nd k.toNat).e)),[],[],True):=
 SA (by simp) h0 hi (IQ (gD hp.nodes (by unfold PD.nn at hi;omega))) rfl
theorem VE (hi:k<p.ns):ak Tryz.prog 25 lv (.c (dL p.states)) (.c (.d (.int .i64 k)))=some (.c (.d (.ptr (Tv (p.st k.toNat)))),[],[],True):=
 SA (by simp) h0 hi (Je (gD hp.states (by unfold PD.ns at hi;omega))) rfl
end
theorem qM (p:PD)(lv:Key→LB):eA Tryz.prog 22 lv (.c (dL p.f))=some (.c (.d (.int .i64 p.nf)),[],[],True):=cE (by simp)
theorem sX (p:PD)(lv:Key→LB):eA Tryz.prog 23 lv (.c (dL p.ins))=some (.c (.d (.int .i64 p.ni)),[],[],True):=cE (by simp)
theorem fC (p:PD)(lv:Key→LB):eA Tryz.prog 24 lv (.c (dL p.nodes))=some (.c (.d (.int .i64 p.nn)),[],[],True):=cE (by simp)
theorem yD (p:PD)(lv:Key→LB):eA Tryz.prog 25 lv (.c (dL p.states))=some (.c (.d (.int .i64 p.ns)),[],[],True):=cE (by simp)
def kA (op:Int):Nat:=if op≤3 then 0 else if op≤7 then 1 else if op≤13 then 2 else if op=14 then 3 else 4
def iO (op:Int):Nat:=if op=1∨op=2 then 1 else kA op
def D4:List DV:=[.int .i64 0,.int .i64 0,.int .i64 0,.int .i64 1,.int .i64 0,.int .i64 1,.int .i64 0,.int .i64 0,.int .i64 1,.int .i64 1,.int .i64 1,.int .i64 1,.int .i64 1,.int .i64 1,.int .i64 1,.int .i64 1,.int .i64 2,.int .i64 2,.int .i64 2,.int .i64 2,.int .i64 2,.int .i64 2,.int .i64 2,.int .i64 2,.int .i64 2,.int .i64 2,.int .i64 2,.int .i64 2,.int .i64 3,.int .i64 3,.int .i64 4,.int .i64 4]
theorem UL (m:Int):(GG m)[1]?=some D4:=rfl
theorem Ui(h1:1≤op) (h2:op≤15):op=1∨op=2∨op=3∨op=4∨op=5∨op=6∨op=7∨op=8∨op=9∨op=10∨op=11∨op=12∨op=13∨op=14∨op=15:=by omega
theorem VW(h1:1≤op) (h2:op≤15):∃ rest,∀ lv:Key→LB,ak Tryz.prog 169 lv (.c (.d (.ptr D4))) (.c (.d (.int .i64 op)))=some (.c (.d (.ptr (.int .i64 (kA op)::.int .i64 (iO op)::rest))),[],[],True):=by
 have ha:sZ Tryz.prog 169=some (16,168,2):=by kernel_rfl
 have key:∀ (op:Int) (rest:List DV),0≤op→op<16→D4.drop (op.toNat*2)=.int .i64 (kA op)::.int .i64 (iO op)::rest→op.toNat*2≤D4.length→∃ rest,∀ lv:Key→LB,ak Tryz.prog 169 lv (.c (.d (.ptr D4))) (.c (.d (.int .i64 op)))=some (.c (.d (.ptr (.int .i64 (kA op)::.int .i64 (iO op)::rest))),[],[],True):=by
  intro op rest g1 g2 g3 g4;refine⟨rest,fun lv=>?_⟩;unfold ak;rw [ha];show some (AV.c (.d (.ptr (D4.drop (op.toNat*2)))),([]:List (Key × LB)),([]:List Key),(0≤op∧op<((16:Nat):Int)∧op.toNat*2≤D4.length))=_;rw [g3,eq_true (show 0≤op∧op<((16:Nat):Int)∧op.toNat*2≤D4.length from ⟨g1,by omega,g4⟩)]
 rcases Ui h1 h2 with rfl|rfl|rfl|rfl|rfl|rfl|rfl|rfl|rfl|rfl|rfl|rfl|rfl|rfl|rfl <;> exact key _ _ (by decide) (by decide) rfl (by decide)
def Nd.l4 (n:Nd):List Int:=[n.a,n.b,n.c,n.d]
def bJ (n:Nd):List Int:=if 1≤n.op∧n.op≤15 then n.l4.take (kA n.op) else []
def pQ (n:Nd):Option (List Int):=if 1≤n.op∧n.op≤15 then some (n.l4.take (kA n.op)) else none
def lE (n:Nd):Bool:=(n.l4.drop (iO n.op)).all (fun x=>decide (x=0)) && (decide (n.v=[]) || decide (n.op=3))
def zD (l:List Int):List (List DV):=l.map fun x=>[DV.int .i64 x]
def zC:Option (List Int)→CV
 | none=>.d .nilsl
 | some l=>.d (.sl (zD l))
def zL (o:Option (List Int)):List Int:=o.getD []
theorem Eo (o:Option (List Int)):zC o=dL (o.map zD):=by cases o <;> rfl
@[simp] theorem Ni (o:Option (List Int)):(AV.c (zC o)).pure=true:=by cases o <;> rfl
@[simp] theorem Du (o:Option (List Int)):(AV.c (zC o)).bY=true:=by cases o <;> rfl
@[simp] theorem Vq (o:Option (List Int))(g:Key→Key):(zC o).bU g=zC o:=by cases o <;> rfl
@[simp] theorem Tz (o:Option (List (List DV)))(g:Key→Key):(dL o).bU g=dL o:=by cases o <;> rfl
@[simp] theorem U9 (o:Option (List Nat))(g:Key→Key):(nC o).bU g=nC o:=by cases o <;> rfl
def zK (l:List Int):List CV:=l.map fun x=>CV.d (.int .i64 x)
@[simp] theorem J0 (l:List Int):(zK l).length=l.length:=by simp [zK]
theorem Bp(ha:cY P T=some false) {l:List Int}(h:i<l.length):eN P T ((zK l).drop i)=some (.c (.d (.int .i64 l[i]))):=by
 have:(zK l).drop i=CV.d (.int .i64 l[i])::(zK l).drop (i+1):=by
  rw [XG (by simpa using h)];simp [zK]
 rw [this];simp [ha]
theorem Bb (l:List Int):zK l=(l.map fun x=>DV.int .i64 x).map CV.d:=by simp [zK]
theorem KZ {lv:Key→LB}(l:List Int):fU (cU lv n) (zK l)=some (l.map fun x=>DV.int .i64 x,[]):=by rw [Bb];exact sV _
theorem Ql(h:(eP Tryz.prog T).isSome=true) (lv:Key→LB) (o:Option (List Int)):eA Tryz.prog T lv (.c (zC o))=some (.c (.d (.int .i64 (zL o).length)),[],[],True):=by
 rw [Eo];rw [cE h]
 cases o <;> simp [sO,zL,zD]
theorem SB(h:(eP Tryz.prog T).map (·.2)=some 1) (lv:Key→LB) (o:Option (List Int))(hi:i<(zL o).length):ak Tryz.prog T lv (.c (zC o)) (.c (.d (.int .i64 (i:Int))))=some (.c (.d (.ptr [.int .i64 (zL o)[i]])),[],[],True):=by
 cases o with
 | none=>cases hi
 | some l=>
  rw [Eo];have hi0:i<l.length:=hi;have hi':i<(sO (Option.map zD (some l))).length:=by show i<(zD l).length;unfold zD;rw [W6];exact hi0
  have e:(sO (Option.map zD (some l)))[i]=[.int .i64 (zL (some l))[i]]:=by simp [sO,zD,zL]
  rw [jf h hi' (by rw [e];rfl),e];rfl
def tO (p:PD)(x:In):Int:=
 if ¬ (0≤x.f∧x.f<p.nf) then 7
 else if ez x.lo≠0 then ez x.lo
 else if ez x.hi≠0 then ez x.hi
 else if hasB (p.fm x.f.toNat).1 (p.fm x.f.toNat).2 (fj x.lo)=false then 7
 else if hasB (p.fm x.f.toNat).1 (p.fm x.f.toNat).2 (fj x.hi)=false then 7
 else if 0<ia (fj x.lo) (fj x.hi) then 7 else 0
def kj (p:PD)(i:Int)(n:Nd):Int:=
 if ¬ (1≤n.op∧n.op≤15) then 2
 else if lE n=false then 2
 else if ¬ (0≤n.f∧n.f<p.nf) then 7
 else if n.op=1∧¬ (0≤n.a∧n.a<p.ni) then 7
 else if n.op=1∧(p.HL n.a.toNat).f≠n.f then 143
 else if n.op=2∧(i<p.head∨¬ (0≤n.a∧n.a<p.ns)) then 7
 else if n.op=3 then ez n.v
 else if (bJ n).all (dQ p i) then 0 else 7
def iC (i f:Int)(n:Nd):Bool:=decide (n.op=2) && decide (n.a=i) && !decide (n.f=f)
def wC (p:PD)(i:Int)(s:Int × Int):Int:=
 if ¬ (0≤s.1∧s.1<p.head) then 7
 else if ¬ (0≤s.2∧s.2<p.tail) then 7
 else if (p.nd s.2.toNat).f≠(p.nd s.1.toNat).f then 143
 else if (List.range p.nn).any (fun j=>iC i (p.nd s.1.toNat).f (p.nd j)) then 143 else 0
def mZ (e:Nat→Int)(n:Nat):Option Nat:=(List.range n).find? fun i=>decide (e i≠0)
theorem uK {e:Nat→Int}(h:∀ j,j<n→e j=0):mZ e n=none:=by
 unfold mZ;rw [Zl];intro x hx;simp [h x (List.mem_range.1 hx)]
theorem uw {e:Nat→Int}(hi:i<n) (h:e i≠0) (h0:∀ j,j<i→e j=0):mZ e n=some i:=by
 unfold mZ;rw [List.find?_range_eq_some];exact⟨by simpa using h,List.mem_range.2 hi,fun j hj=>by simp [h0 j hj]⟩
def ku (p:PD):Nat→Nat
 | 0=>p.nf
 | 1=>p.ni
 | 2=>p.nn
 | _=>p.ns
def cx (p:PD):Nat→Nat→Int
 | 0,i=>fF (p.fm i).1 (p.fm i).2
 | 1,i=>tO p (p.HL i)
 | 2,i=>kj p i (p.nd i)
 | _,i=>wC p i (p.st i)
def eI (p:PD):Nat→Nat→Int × Int × Int
 | 0,_=>if 0≤p.res∧p.res<p.nn∧iQ p p.res≠1 then (0,0,0) else (5,0,7)
 | n+1,k=>match mZ (cx p k) (ku p k) with
  | some i=>(k+1,i,cx p k i)
  | none=>eI p n (k+1)
def bK (p:PD):Int × Int × Int:=if dH p≠0 then (0,0,dH p) else eI p 4 0
end Go.Am
namespace Go.Am
open Go.Am.Ty Go.Proofs N
variable {lv:Key→LB}{p:PD}{k:Key}{T:TypeId}{l:List Nat}{B n t V vb sz X:Nat}{f:FuncId}{x a:AV}{own fz:Bool}{c:Ctx}{K:AV→List (Key × LB)→List Key→Nat→Prop}{P:Program}{G:List (List DV)}{o:Option (List (List DV))}
theorem ED (G:List (List DV))(o:Option (List (List DV)))(h:∀ e∈sO o,e.length=2)(hl:(sO o).length≤1000000):aa Tryz.prog G 47 [.c (dL o)] (.c (dL o)):=by
 have e1:aH Tryz.prog .eql 22 (.c (.d .nilsl)) (.c (.d .nilsl))=some (.c (.d (.bool true)),[],[],True):=by kernel_rfl
 have e2:∀ es,aH Tryz.prog .eql 22 (.c (.d (.sl es))) (.c (.d .nilsl))=some (.c (.d (.bool false)),[],[],True):=fun es=>by kernel_rfl
 cases o with
 | none=>
  show aa Tryz.prog G 47 [.c (.d .nilsl)] (.c (.d .nilsl));refine aa.ed Tryz.func47 rfl fun _=>aab ?_;refine aaa fun K hK=>aal e1 ?_;refine aah (aab ?_);exact aam (κ:=0) (jr.tmp (κ:=0) (X:=.c (.d .nilsl)) (ks:=[]) rfl (by simp) rfl)
 | some es=>
  have h:∀ e∈es,e.length=2:=h;have hl:es.length≤1000000:=hl;show aa Tryz.prog G 47 [.c (.d (.sl es))] (.c (.d (.sl es)));have hsrc:∀ lv,dY lv 2 (.c (.d (.sl es)))=some (es.length,es.flatten.map CV.d):=fun lv=>jj h
  refine aa.ed Tryz.func47 rfl fun _=>aab ?_;refine aaa fun K hK=>aal e2 ?_;refine aag (aac (hK _ _ (aak fun K hK=>?_)));simp [hsrc,iJ,eR,keyOf]
  repeat refine ah ?_
  apply hK;refine aam (κ:=0) (jr.tmp (κ:=0) (X:=.c (.aR 1 0 es.length 2)) (ks:=[1]) rfl (by simp) ?_);exact oK (own:=true) (fz:=false) (T:=81) (by simp) h (by omega)
theorem E3 (G:List (List DV))(o:Option (List (List DV)))(h:∀ e∈sO o,e.length=3)(hl:(sO o).length≤1000000):aa Tryz.prog G 48 [.c (dL o)] (.c (dL o)):=by
 have e1:aH Tryz.prog .eql 23 (.c (.d .nilsl)) (.c (.d .nilsl))=some (.c (.d (.bool true)),[],[],True):=by kernel_rfl
 have e2:∀ es,aH Tryz.prog .eql 23 (.c (.d (.sl es))) (.c (.d .nilsl))=some (.c (.d (.bool false)),[],[],True):=fun es=>by kernel_rfl
 cases o with
 | none=>
  show aa Tryz.prog G 48 [.c (.d .nilsl)] (.c (.d .nilsl));refine aa.ed Tryz.func48 rfl fun _=>aab ?_;refine aaa fun K hK=>aal e1 ?_;refine aah (aab ?_);exact aam (κ:=0) (jr.tmp (κ:=0) (X:=.c (.d .nilsl)) (ks:=[]) rfl (by simp) rfl)
 | some es=>
  have h:∀ e∈es,e.length=3:=h;have hl:es.length≤1000000:=hl;show aa Tryz.prog G 48 [.c (.d (.sl es))] (.c (.d (.sl es)));have hsrc:∀ lv,dY lv 3 (.c (.d (.sl es)))=some (es.length,es.flatten.map CV.d):=fun lv=>jj h
  refine aa.ed Tryz.func48 rfl fun _=>aab ?_;refine aaa fun K hK=>aal e2 ?_;refine aag (aac (hK _ _ (aak fun K hK=>?_)));simp [hsrc,iJ,eR,keyOf]
  repeat refine ah ?_
  apply hK;refine aam (κ:=0) (jr.tmp (κ:=0) (X:=.c (.aR 1 0 es.length 3)) (ks:=[1]) rfl (by simp) ?_);exact oK (own:=true) (fz:=false) (T:=67) (by simp) h (by omega)
theorem DQ (G:List (List DV))(o:Option (List (List DV)))(h:∀ e∈sO o,e.length=7)(hl:(sO o).length≤1000000):aa Tryz.prog G 156 [.c (dL o)] (.c (dL o)):=by
 have e1:aH Tryz.prog .eql 24 (.c (.d .nilsl)) (.c (.d .nilsl))=some (.c (.d (.bool true)),[],[],True):=by kernel_rfl
 have e2:∀ es,aH Tryz.prog .eql 24 (.c (.d (.sl es))) (.c (.d .nilsl))=some (.c (.d (.bool false)),[],[],True):=fun es=>by kernel_rfl
 cases o with
 | none=>
  show aa Tryz.prog G 156 [.c (.d .nilsl)] (.c (.d .nilsl));refine aa.ed Tryz.func156 rfl fun _=>aab ?_;refine aaa fun K hK=>aal e1 ?_;refine aah (aab ?_);exact aam (κ:=0) (jr.tmp (κ:=0) (X:=.c (.d .nilsl)) (ks:=[]) rfl (by simp) rfl)
 | some es=>
  have h:∀ e∈es,e.length=7:=h;have hl:es.length≤1000000:=hl;show aa Tryz.prog G 156 [.c (.d (.sl es))] (.c (.d (.sl es)));have hsrc:∀ lv,dY lv 7 (.c (.d (.sl es)))=some (es.length,es.flatten.map CV.d):=fun lv=>jj h
  refine aa.ed Tryz.func156 rfl fun _=>aab ?_;refine aaa fun K hK=>aal e2 ?_;refine aag (aac (hK _ _ (aak fun K hK=>?_)));simp [hsrc,iJ,eR,keyOf]
  repeat refine ah ?_
  apply hK;refine aam (κ:=0) (jr.tmp (κ:=0) (X:=.c (.aR 1 0 es.length 7)) (ks:=[1]) rfl (by simp) ?_);exact oK (own:=true) (fz:=false) (T:=55) (by simp) h (by omega)
theorem DE (G:List (List DV))(o:Option (List (List DV)))(h:∀ e∈sO o,e.length=2)(hl:(sO o).length≤1000000):aa Tryz.prog G 157 [.c (dL o)] (.c (dL o)):=by
 have e1:aH Tryz.prog .eql 25 (.c (.d .nilsl)) (.c (.d .nilsl))=some (.c (.d (.bool true)),[],[],True):=by kernel_rfl
 have e2:∀ es,aH Tryz.prog .eql 25 (.c (.d (.sl es))) (.c (.d .nilsl))=some (.c (.d (.bool false)),[],[],True):=fun es=>by kernel_rfl
 cases o with
 | none=>
  show aa Tryz.prog G 157 [.c (.d .nilsl)] (.c (.d .nilsl));refine aa.ed Tryz.func157 rfl fun _=>aab ?_;refine aaa fun K hK=>aal e1 ?_;refine aah (aab ?_);exact aam (κ:=0) (jr.tmp (κ:=0) (X:=.c (.d .nilsl)) (ks:=[]) rfl (by simp) rfl)
 | some es=>
  have h:∀ e∈es,e.length=2:=h;have hl:es.length≤1000000:=hl;show aa Tryz.prog G 157 [.c (.d (.sl es))] (.c (.d (.sl es)));have hsrc:∀ lv,dY lv 2 (.c (.d (.sl es)))=some (es.length,es.flatten.map CV.d):=fun lv=>jj h
  refine aa.ed Tryz.func157 rfl fun _=>aab ?_;refine aaa fun K hK=>aal e2 ?_;refine aag (aac (hK _ _ (aak fun K hK=>?_)));simp [hsrc,iJ,eR,keyOf]
  repeat refine ah ?_
  apply hK;refine aam (κ:=0) (jr.tmp (κ:=0) (X:=.c (.aR 1 0 es.length 2)) (ks:=[1]) rfl (by simp) ?_);exact oK (own:=true) (fz:=false) (T:=69) (by simp) h (by omega)
theorem Fc (G:List (List DV))(o:Option (List (List DV)))(h:∀ e∈sO o,e.length=1)(hl:(sO o).length≤1000000):aa Tryz.prog G 97 [.c (dL o)] (.c (dL o)):=by
 have e1:aH Tryz.prog .eql 30 (.c (.d .nilsl)) (.c (.d .nilsl))=some (.c (.d (.bool true)),[],[],True):=by kernel_rfl
 have e2:∀ es,aH Tryz.prog .eql 30 (.c (.d (.sl es))) (.c (.d .nilsl))=some (.c (.d (.bool false)),[],[],True):=fun es=>by kernel_rfl
 cases o with
 | none=>
  show aa Tryz.prog G 97 [.c (.d .nilsl)] (.c (.d .nilsl));refine aa.ed Tryz.func97 rfl fun _=>aab ?_;refine aaa fun K hK=>aal e1 ?_;refine aah (aab ?_);exact aam (κ:=0) (jr.tmp (κ:=0) (X:=.c (.d .nilsl)) (ks:=[]) rfl (by simp) rfl)
 | some es=>
  have h:∀ e∈es,e.length=1:=h;have hl:es.length≤1000000:=hl;show aa Tryz.prog G 97 [.c (.d (.sl es))] (.c (.d (.sl es)));have hsrc:∀ lv,dY lv 1 (.c (.d (.sl es)))=some (es.length,es.flatten.map CV.d):=fun lv=>jj h
  refine aa.ed Tryz.func97 rfl fun _=>aab ?_;refine aaa fun K hK=>aal e2 ?_;refine aag (aac (hK _ _ (aak fun K hK=>?_)));simp [hsrc,iJ,eR,keyOf]
  repeat refine ah ?_
  apply hK;refine aam (κ:=0) (jr.tmp (κ:=0) (X:=.c (.aR 1 0 es.length 1)) (ks:=[1]) rfl (by simp) ?_);exact oK (own:=true) (fz:=false) (T:=3) (by simp) h (by omega)
def c6 (E:TypeId):Option (List (List DV))→LB
 | none=>.nils
 | some es=>.cells true false E (es.flatten.map CV.d)
theorem CC (es:List (List DV))(g:Key→Key):(es.flatten.map CV.d).map (CV.bU g)=es.flatten.map CV.d:=by
 rw [Xc];rfl
theorem fk (E:TypeId)(es:List (List DV))(g:Key→Key):(LB.cells true false E (es.flatten.map CV.d)).like (.cells true false E (es.flatten.map CV.d)) g:=LB.mF.2 ⟨rfl,rfl,(CC es g).symm,id⟩
theorem Cs (G:List (List DV))(o:Option (List (List DV)))(h:∀ e∈sO o,e.length=2)(hl:(sO o).length≤1000000):aF Tryz.prog G 47 [.c (dL o)] [] (.ret (.c (.aR 1000 0 (sO o).length 2)) [] [c6 81 o]):=by
 cases o with
 | none=>exact aF.vL (ED G none h hl)
 | some es=>
  have e2:∀ es,aH Tryz.prog .eql 22 (.c (.d (.sl es))) (.c (.d .nilsl))=some (.c (.d (.bool false)),[],[],True):=fun es=>by kernel_rfl
  have h:∀ e∈es,e.length=2:=h;have hl:es.length≤1000000:=hl;show aF Tryz.prog G 47 [.c (.d (.sl es))] [] (.ret (.c (.aR 1000 0 es.length 2)) [] [.cells true false 81 (es.flatten.map CV.d)]);have hsrc:∀ lv,dY lv 2 (.c (.d (.sl es)))=some (es.length,es.flatten.map CV.d):=fun lv=>jj h
  refine aF.Pv Tryz.func47 rfl fun _=>aab ?_;refine aaa fun K hK=>aal e2 ?_;refine aag (aac (hK _ _ (aak fun K hK=>?_)));simp [hsrc,iJ,eR,keyOf,-List.map_flatten]
  repeat refine ah ?_
  apply hK;refine aam (κ:=0) ⟨[(1000,1,.cells true false 81 (es.flatten.map CV.d))],9,mD _,by simp,by simp,by simp,?_,rfl,?_⟩
  ·intro e he;rw [List.mem_singleton.1 he];exact fk 81 es _
  ·show cH _ _ [.tmp 2]=_;simp [cH,iK,ki,c7]
theorem Dr (G:List (List DV))(o:Option (List (List DV)))(h:∀ e∈sO o,e.length=3)(hl:(sO o).length≤1000000):aF Tryz.prog G 48 [.c (dL o)] [] (.ret (.c (.aR 1000 0 (sO o).length 3)) [] [c6 67 o]):=by
 cases o with
 | none=>exact aF.vL (E3 G none h hl)
 | some es=>
  have e2:∀ es,aH Tryz.prog .eql 23 (.c (.d (.sl es))) (.c (.d .nilsl))=some (.c (.d (.bool false)),[],[],True):=fun es=>by kernel_rfl
  have h:∀ e∈es,e.length=3:=h;have hl:es.length≤1000000:=hl;show aF Tryz.prog G 48 [.c (.d (.sl es))] [] (.ret (.c (.aR 1000 0 es.length 3)) [] [.cells true false 67 (es.flatten.map CV.d)]);have hsrc:∀ lv,dY lv 3 (.c (.d (.sl es)))=some (es.length,es.flatten.map CV.d):=fun lv=>jj h
  refine aF.Pv Tryz.func48 rfl fun _=>aab ?_;refine aaa fun K hK=>aal e2 ?_;refine aag (aac (hK _ _ (aak fun K hK=>?_)));simp [hsrc,iJ,eR,keyOf,-List.map_flatten]
  repeat refine ah ?_
  apply hK;refine aam (κ:=0) ⟨[(1000,1,.cells true false 67 (es.flatten.map CV.d))],9,mD _,by simp,by simp,by simp,?_,rfl,?_⟩
  ·intro e he;rw [List.mem_singleton.1 he];exact fk 67 es _
  ·show cH _ _ [.tmp 2]=_;simp [cH,iK,ki,c7]
theorem A3 (G:List (List DV))(o:Option (List (List DV)))(h:∀ e∈sO o,e.length=7)(hl:(sO o).length≤1000000):aF Tryz.prog G 156 [.c (dL o)] [] (.ret (.c (.aR 1000 0 (sO o).length 7)) [] [c6 55 o]):=by
 cases o with
 | none=>exact aF.vL (DQ G none h hl)
 | some es=>
  have e2:∀ es,aH Tryz.prog .eql 24 (.c (.d (.sl es))) (.c (.d .nilsl))=some (.c (.d (.bool false)),[],[],True):=fun es=>by kernel_rfl
  have h:∀ e∈es,e.length=7:=h;have hl:es.length≤1000000:=hl;show aF Tryz.prog G 156 [.c (.d (.sl es))] [] (.ret (.c (.aR 1000 0 es.length 7)) [] [.cells true false 55 (es.flatten.map CV.d)]);have hsrc:∀ lv,dY lv 7 (.c (.d (.sl es)))=some (es.length,es.flatten.map CV.d):=fun lv=>jj h
  refine aF.Pv Tryz.func156 rfl fun _=>aab ?_;refine aaa fun K hK=>aal e2 ?_;refine aag (aac (hK _ _ (aak fun K hK=>?_)));simp [hsrc,iJ,eR,keyOf,-List.map_flatten]
  repeat refine ah ?_
  apply hK;refine aam (κ:=0) ⟨[(1000,1,.cells true false 55 (es.flatten.map CV.d))],9,mD _,by simp,by simp,by simp,?_,rfl,?_⟩
  ·intro e he;rw [List.mem_singleton.1 he];exact fk 55 es _
  ·show cH _ _ [.tmp 2]=_;simp [cH,iK,ki,c7]
theorem BH (G:List (List DV))(o:Option (List (List DV)))(h:∀ e∈sO o,e.length=2)(hl:(sO o).length≤1000000):aF Tryz.prog G 157 [.c (dL o)] [] (.ret (.c (.aR 1000 0 (sO o).length 2)) [] [c6 69 o]):=by
 cases o with
 | none=>exact aF.vL (DE G none h hl)
 | some es=>
  have e2:∀ es,aH Tryz.prog .eql 25 (.c (.d (.sl es))) (.c (.d .nilsl))=some (.c (.d (.bool false)),[],[],True):=fun es=>by kernel_rfl
  have h:∀ e∈es,e.length=2:=h;have hl:es.length≤1000000:=hl;show aF Tryz.prog G 157 [.c (.d (.sl es))] [] (.ret (.c (.aR 1000 0 es.length 2)) [] [.cells true false 69 (es.flatten.map CV.d)]);have hsrc:∀ lv,dY lv 2 (.c (.d (.sl es)))=some (es.length,es.flatten.map CV.d):=fun lv=>jj h
  refine aF.Pv Tryz.func157 rfl fun _=>aab ?_;refine aaa fun K hK=>aal e2 ?_;refine aag (aac (hK _ _ (aak fun K hK=>?_)));simp [hsrc,iJ,eR,keyOf,-List.map_flatten]
  repeat refine ah ?_
  apply hK;refine aam (κ:=0) ⟨[(1000,1,.cells true false 69 (es.flatten.map CV.d))],9,mD _,by simp,by simp,by simp,?_,rfl,?_⟩
  ·intro e he;rw [List.mem_singleton.1 he];exact fk 69 es _
  ·show cH _ _ [.tmp 2]=_;simp [cH,iK,ki,c7]
theorem Ku (T:TypeId)(s t:List UInt8):aH Tryz.prog .eql T (.c (.d (.str s))) (.c (.d (.str t)))=some (.c (.d (.bool (decide (s=t)))),[],[],True):=by
 rw [← L7];rfl
theorem T6 (a b c d:CV):gC Tryz.prog 85 [0,1,2,3] [.c a,.c b,.c c,.c d]=some (.agg [a,b,c,d],[],[],True):=by kernel_rfl
theorem HS:sZ Tryz.prog 85=some (4,3,1):=by kernel_rfl
theorem ag.UP(κ' kh κb:Key){l:List Int}(n:Nat) (hn:n≤l.length) (hl:l.length≤100) (hk:lv κb=.cells true false T (zK l))
 (hc:aa c.P c.G f [.c (zC (some (l.take n)))] x) (hx:x.pure=true) (hh:lv kh=.hole) (hkh:kh≠κb) (hK:K x [(κb,.cells true true T (zK l))] [kh] κ'):ag c f [.c (.aR κb 0 n 1)] lv K:=by
 refine ag.U3 κ' kh κb T (zK l) [kh] hc hx hk hh hkh rfl (fun i p q=>?_) (fun a ha j hj=>?_) (by simp) hK
 ·have hi:i=0:=by simp at p;omega
  subst hi;right;have h1:(zK l).take n=zK (l.take n):=by simp [zK,List.map_take]
  have hln:(l.take n).length=n:=by rw [WR];omega
  simp only [Xo,eC,cU,aA,J0,XB,W5,fQ,h1,KZ,W4];rw [if_pos ⟨hn,by omega⟩];have h2:=oP ((l.take n).map fun (x:Int)=>DV.int .i64 x);rw [W6,hln] at h2;simp only [W4,h2];simp [zC,zD];rfl
 ·simp only [Xx] at ha;subst ha;simp only [pE,lY,WM,aA] at hj;rcases hj with rfl|hj
  ·exact .inr rfl
  ·simp only [XQ] at hj;obtain⟨y,hy,hj⟩:=hj;simp only [zK,Xp] at hy;obtain⟨z,_,rfl⟩:=hy
   cases hj
theorem IA (G:List (List DV))(o:Option (List Int))(hl:(zL o).length≤1000000):aa Tryz.prog G 97 [.c (zC o)] (.c (zC o)):=by
 rw [Eo];refine Fc G _ ?_ ?_
 ·cases o with
  | none=>intro e he;cases he
  | some l=>intro e he;simp only [sO,W4,Yt,zD,Xp] at he;obtain⟨x,_,rfl⟩:=he;rfl
 ·cases o with
  | none=>simp [sO]
  | some l=>simpa [sO,zD,zL] using hl
theorem sJ (op:Int):kA op≤4:=by unfold kA;(repeat' split) <;> omega
theorem D8 (op:Int):iO op≤4:=by have:=sJ op;unfold iO;split <;> omega
theorem Nd.kq (n:Nd):n.l4.length=4:=rfl
theorem Bl (n:Nd):zL (pQ n)=bJ n:=by unfold pQ bJ;split <;> rfl
theorem Mf (m:Int)(n:Nd):aa Tryz.prog (GG m) 35 [n.A] (.c (zC (pQ n))):=by
 have hkn:=CJ (GG m) n.op
 by_cases hk:1≤n.op∧n.op≤15
 ·obtain⟨rest,hix⟩:=VW hk.1 hk.2;have hcl:=IA (GG m) (some (n.l4.take (kA n.op))) (by simp only [zL,Yt,WR,Nd.kq];omega);have hko:pQ n=some (n.l4.take (kA n.op)):=by unfold pQ;rw [if_pos hk]
  have hle:=sJ n.op;rw [hko];have hd:decide (1≤n.op∧n.op≤15)=true:=decide_eq_true hk;rw [hd] at hkn;generalize kA n.op=kk at *
  refine aa.en Tryz.func35 rfl fun _=>aab ?_;refine aaa fun K hK=>aaq 1 hkn ?_;refine aag (aac (hK _ _ (aas @T6 @aj.eq_1 ?_)));refine aaa fun K hK=>?_;refine AW.wj ?_;refine nq.run 5 rfl ?_;simp [UL,hix];refine nq.gL (x:=.c (.aR 1 0 kk 1)) (us:=[]) (rds:=[1]) 2 rfl rfl ?_ ?_
  ·simp [Am.gL,Op.operands,vj,qm,HS];omega
  refine nq.run 2 rfl ?_;simp [];refine ag.UP (l:=n.l4) (T:=85) 2 9 1 kk hle (by simp [Nd.kq]) rfl hcl (by simp) (by simp) (by decide) ?_;simp;refine nq.done ?_;apply hK;exact aad (aq.rt rfl 2 (by simp))
 ·have hko:pQ n=none:=by unfold pQ;rw [if_neg hk]
  have hd:decide (1≤n.op∧n.op≤15)=false:=decide_eq_false hk;rw [hd] at hkn;rw [hko];refine aa.en Tryz.func35 rfl fun _=>aab ?_;refine aaa fun K hK=>aaq 1 hkn ?_;refine aah (aab ?_);exact aad (aq.rt rfl 2 (by simp [zC]))
theorem Ms (m:Int)(n:Nd)(h1:1≤n.op)(h2:n.op≤15):aa Tryz.prog (GG m) 162 [n.A] (.c (.d (.bool (lE n)))):=by
 obtain⟨rest,hix⟩:=VW h1 h2;have hle:=D8 n.op;have hib:lE n=((n.l4.drop (iO n.op)).all (fun x=>decide (x=0)) && (decide (n.v=[]) || decide (n.op=3))):=rfl;have hzk:[CV.d (.int .i64 n.a),.d (.int .i64 n.b),.d (.int .i64 n.c),.d (.int .i64 n.d)]=zK n.l4:=rfl;have fin:(n.l4.drop (iO n.op)).all (fun x=>decide (x=0))=true→lE n=(decide (n.v=[]) || decide (n.op=3)):=by intro h;rw [hib,h];rfl
 have lp0:∀ lv,eA Tryz.prog 30 lv (.c (.d (.sl [])))=some (.c (.d (.int .i64 0)),[],[],True):=fun lv=>Ql (T:=30) (by simp) lv (some [])
 refine aa.en Tryz.func162 rfl fun _=>aab ?_;refine aas @T6 @aj.eq_1 ?_;refine aaa fun K hK=>?_
 have tail:∀ (fr:Nat→AV) (κ:Nat) (lv:Key→LB),fr 1=.c (.ptr 0 0)→lv 0=.cells true false 55 [.d (.int .i64 n.op),.d (.int .i64 n.a),.d (.int .i64 n.b),.d (.int .i64 n.c),.d (.int .i64 n.d),.d (.int .i64 n.f),.d (.str n.v)]→lv 9=.hole →
  (n.l4.drop (iO n.op)).all (fun x=>decide (x=0))=true→K ⟨fr,lv⟩ κ:=by
  intro fr κ lv z1 hl0 h9 hall;have hf:=fin hall;apply hK
  by_cases hv:n.v=[]
  ·refine aaD z1 hl0 @Ku hv ?_;exact aam (κ:=0) (aq.tmp (κ:=0) rfl 9 (by simp [hf,hv]) rfl (by simp [h9]) rfl)
  ·refine aaD z1 hl0 @Ku hv ?_;exact aam (κ:=0) (aq.tmp (κ:=0) rfl 9 (by simp [hf,hv]) rfl (by simp [h9]) rfl)
 refine aaa fun K1 hK1=>?_
 by_cases hu:iO n.op=4
 ·refine AW.wj ?_;refine nq.run 5 rfl ?_;simp [UL,hix];refine nq.Ey (κ:=1) (off:=0) (n:=4) (e:=3) (sz:=1) (l:=4) (own:=true) (fz:=false) (T':=85) 2 rfl rfl rfl (by simp) (by simp;rfl) HS (by simp [hu]) (by simp) (by decide) (by decide) ?_;refine nq.run 2 rfl ?_;simp [lp0];refine nq.done ?_;apply hK1;refine aaf ?_
  refine aao (fun (_:Unit)=>⟨bf [(1,.c (.ptr 0 0)),(20,.c (.d (.sl []))),(21,.c (.d (.int .i64 0))),(22,.c (.d (.int .i64 0)))],
   aC (aC (fun _=>.hole) 0 (.cells true false 55 [.d (.int .i64 n.op),.d (.int .i64 n.a),.d (.int .i64 n.b),.d (.int .i64 n.c),.d (.int .i64 n.d),.d (.int .i64 n.f),.d (.str n.v)])) 1 (.cells true false 85 (zK n.l4))⟩) 2
   (fun _=>True) (fun _=>0) () (Le.mW _) trivial ?_
  rintro⟨⟩ _;refine aab ?_;refine aaa fun K3 hK3=>aag (aan ?_)
  simp;exact tail _ _ _ (by simp) (by simp) (by simp) (by rw [hu];rfl)
 have hu4:iO n.op<4:=by omega
 have hdrop:∀ i,i<4 - iO n.op→iO n.op+i<n.l4.length:=by intro i hi;rw [Nd.kq];omega
 generalize hue:iO n.op=u at *
 refine AW.wj ?_;refine nq.run 5 rfl ?_;simp [UL,hix];refine nq.gL (x:=.c (.aR 1 u (4 - u) 1)) (us:=[]) (rds:=[1]) 2 rfl rfl ?_ ?_
 ·simp [Am.gL,Op.operands,vj,qm,HS];omega
 have e4:((4 - u:Nat):Int)≤9223372036854775807:=by omega
 refine nq.run 2 rfl ?_;simp [e4];refine nq.done ?_;apply hK1;refine aaf ?_
 refine aao (fun (i:Nat)=>⟨bf [(1,.c (.ptr 0 0)),(20,.c (.aR 1 u (4 - u) 1)),(21,.c (.d (.int .i64 (4 - u:Nat)))),(22,.c (.d (.int .i64 i)))],
  aC (aC (fun _=>.hole) 0 (.cells true false 55 [.d (.int .i64 n.op),.d (.int .i64 n.a),.d (.int .i64 n.b),.d (.int .i64 n.c),.d (.int .i64 n.d),.d (.int .i64 n.f),.d (.str n.v)])) 1 (.cells true false 85 (zK n.l4))⟩) 2
  (fun i=>i≤4 - u∧∀ j (hj:j<i) (h:u+j<n.l4.length),n.l4[u+j]=0) (fun i=>4 - u - i) 0 (Le.mW _) ⟨by omega,fun j hj=>absurd hj (Xf j)⟩ ?_
 rintro i ⟨hi,hall⟩
 try simp only at hi hall
 refine aab ?_;refine aaa fun K2 hK2=>?_
 by_cases hlt:i<4 - u
 ·have hlt':(i:Int)<((4 - u:Nat):Int):=by omega
  refine aai (by simp [hlt'] <;> omega) (aac (hK2 _ _ (aaa fun K3 hK3=>aaf (aaa fun K4 hK4=>?_))));have hx:=Bp (P:=Tryz.prog) (T:=3) (by simp) (hdrop i hlt);refine aau hlt' hx (hK4 _ _ ?_);refine aab ?_
  by_cases h0:n.l4[u+i]'(hdrop i hlt)=0
  ·refine aaj (by simp [h0] <;> omega) (aac (hK3 _ _ ?_));have f12:=bG (n:=(i:Int)+1) (by omega) (by omega);refine aae ?_;simp [f12];refine⟨i+1,Le.mW _,⟨by omega,fun j hj h=>?_⟩,by omega⟩
   by_cases hji:j=i
   ·subst hji;exact h0
   ·exact hall j (by omega) h
  ·refine aai (by simp [h0] <;> omega) (aab ?_)
   have hb:lE n=false:=by
    rw [hib]
    have:(n.l4.drop u).all (fun x=>decide (x=0))=false:=by
     rw [Zb];refine⟨n.l4[u+i]'(hdrop i hlt),?_,by simpa using h0⟩;rw [List.mem_iff_getElem];exact⟨i,by rw [XU,Nd.kq];omega,by simp⟩
    rw [this];rfl
   exact aad (aq.rt rfl 2 (by simp [hb]))
 ·have hlt':¬ (i:Int)<((4 - u:Nat):Int):=by omega
  refine aaj (by simp [hlt'] <;> omega) (aan ?_);simp;refine tail _ _ _ (by simp) (by simp) (by simp) ?_;rw [E5];intro x hx;obtain⟨j,hj,rfl⟩:=List.mem_iff_getElem.1 hx;rw [XU,Nd.kq] at hj;have:=hall j (by omega) (by rw [Nd.kq];omega);simpa using this
theorem Hi (G:List (List DV))(p:PD)(hp:p.ok)(i:Nat)(hi:i<p.nf):aa Tryz.prog G 83 [p.A,.c (.d (.int .i64 i))] (.c (.d (.int .i64 (cx p 0 i)))):=by
 have hx:=fun lv=>Tm hp lv (i:Int) (by omega) (by omega)
 have hc:=jS G (p.fm i).1 (p.fm i).2;simp only [XH] at hx;refine aa.en Tryz.func83 rfl fun _=>aab ?_;refine aav 1 hc hx ?_;exact aad (aq.rt rfl 4 (by simp [cx]))
theorem ug (n:Nd):(bJ n).length≤4:=by
 have:=sJ n.op;unfold bJ;split
 ·rw [WR,Nd.kq];omega
 ·exact W2 _
theorem Nk (p:PD)(lv:Key→LB)(hp:p.ok)(i:Nat)(hi:i<p.nn):ak Tryz.prog 24 lv (.c (dL p.nodes)) (.c (.d (.int .i64 (i:Int))))=some (.c (.d (.ptr (p.nd i).e)),[],[],True):=by
 have:=Rq hp lv (i:Int) (by omega) (by omega)
 rwa [XH] at this
theorem Nw (m:Int)(p:PD)(hp:p.ok)(i:Nat)(hi:i<p.nn)(hn2:p.nn≤1000):aa Tryz.prog (GG m) 85 [p.A,.c (.d (.int .i64 i))] (.c (.d (.int .i64 (cx p 2 i)))):=by
 have hx:=fun lv=>Nk p lv hp i hi
 have hE:cx p 2 i=kj p i (p.nd i):=rfl;rw [hE];obtain⟨n,hn⟩:∃ n,p.nd i=n:=⟨_,rfl⟩
 simp only [hn] at hx ⊢;have hkn:=CJ (GG m) n.op;have hwf:=gy (GG m) n.f p.nf;have hwa:=gy (GG m) n.a p.ni;have hws:=gy (GG m) n.a p.ns;have lvN:List CV:=[.d (.int .i64 n.op),.d (.int .i64 n.a),.d (.int .i64 n.b),.d (.int .i64 n.c),.d (.int .i64 n.d),.d (.int .i64 n.f),.d (.str n.v)]
 refine aa.en Tryz.func85 rfl fun _=>aab ?_;refine aas hx @aj.eq_1 ?_;refine aaa fun K hK=>aaf (aaa fun K1 hK1=>?_)
 by_cases h1:1≤n.op∧n.op≤15
 rotate_left
 ·have hd:decide (1≤n.op∧n.op≤15)=false:=decide_eq_false h1;have hr:kj p i n=2:=by unfold kj;rw [if_pos h1]
  rw [hd] at hkn;refine AW.m0 2 hkn (hK1 _ _ ?_);refine aah (aab ?_);exact aad (aq.rt rfl 4 (by simp [hr]))
 have hid:=Ms m n h1.1 h1.2;have hd:decide (1≤n.op∧n.op≤15)=true:=decide_eq_true h1;rw [hd] at hkn
 cases hib:lE n with
 | false=>
  have hr:kj p i n=2:=by unfold kj;rw [if_neg (not_not_intro h1),if_pos hib]
  rw [hib] at hid;refine aae ?_;simp;refine ag.p 2 9 hkn ?_;simp;refine ag.p 2 9 hid ?_;simp;apply hK1;refine aah (aab ?_);exact aad (aq.rt rfl 4 (by simp [hr]))
 | true=>
 rw [hib] at hid;have ib:¬ lE n=false:=by rw [hib];decide
 refine aae ?_;simp;refine ag.p 2 9 hkn ?_;simp;refine ag.p 2 9 hid ?_;simp;apply hK1;refine aag (aaa fun K1 hK1=>?_)
 by_cases h2:0≤n.f∧n.f<p.nf
 rotate_left
 ·have hd2:decide (0≤n.f∧n.f<(p.nf:Int))=false:=decide_eq_false h2;have hr:kj p i n=7:=by unfold kj;rw [if_neg (not_not_intro h1),if_neg ib,if_pos h2]
  rw [hd2] at hwf;refine aax 2 hwf @qM (hK1 _ _ ?_);refine aah (aab ?_);exact aad (aq.rt rfl 4 (by simp [hr]))
 have hd2:decide (0≤n.f∧n.f<(p.nf:Int))=true:=decide_eq_true h2;rw [hd2] at hwf;refine aax 2 hwf @qM (hK1 _ _ ?_);refine aag ?_
 have r2:kj p i n=if n.op=1∧¬ (0≤n.a∧n.a<p.ni) then 7 else if n.op=1∧(p.HL n.a.toNat).f≠n.f then 143 else if n.op=2∧((i:Int)<p.head∨¬ (0≤n.a∧n.a<p.ns)) then 7 else if n.op=3 then ez n.v else if (bJ n).all (dQ p i) then 0 else 7:=by
  unfold kj;rw [if_neg (not_not_intro h1),if_neg ib,if_neg (not_not_intro h2)]
 have tail:∀ (fr:Nat→AV) (κ:Nat),fr 1=.c (.d (.int .i64 i))→fr 2=.c (.ptr 0 0)→fr 5=.c (.ptr 1 0)→(kj p i n=if (bJ n).all (dQ p i) then 0 else 7) →
  K ⟨fr,aC (aC (fun _=>.hole) 0 (.cells true false 154 p.cs)) 1 (.cells true false 55 [.d (.int .i64 n.op),.d (.int .i64 n.a),.d (.int .i64 n.b),.d (.int .i64 n.c),.d (.int .i64 n.d),.d (.int .i64 n.f),.d (.str n.v)])⟩ κ:=by
  intro fr κ z1 z2 z5 hr;have hks:=Mf m n;have hkl:=ug n;have lpk:∀ lv,eA Tryz.prog 30 lv (.c (zC (pQ n)))=some (.c (.d (.int .i64 (bJ n).length)),[],[],True):=fun lv=>by rw [Ql (by simp),Bl]
  have ixk:∀ lv (j:Nat) (hj:j<(bJ n).length),ak Tryz.prog 30 lv (.c (zC (pQ n))) (.c (.d (.int .i64 (j:Int))))=some (.c (.d (.ptr [.int .i64 (bJ n)[j]])),[],[],True):=fun lv j hj=>by
   rw [SB (by simp) lv _ (by rw [Bl];exact hj)];simp only [Bl]
  generalize pQ n=ko at *
  generalize bJ n=kl at *
  apply hK;refine aaa fun K3 hK3=>AW.c2 2 hks z5 lpk ?_;refine aaf ?_
  refine aao (fun (j:Nat)=>⟨bf [(1,.c (.d (.int .i64 i))),(2,.c (.ptr 0 0)),(93,.c (zC ko)),(94,.c (.d (.int .i64 kl.length))),(95,.c (.d (.int .i64 j)))],
   aC (aC (fun _=>.hole) 0 (.cells true false 154 p.cs)) 1 (.cells true false 55 [.d (.int .i64 n.op),.d (.int .i64 n.a),.d (.int .i64 n.b),.d (.int .i64 n.c),.d (.int .i64 n.d),.d (.int .i64 n.f),.d (.str n.v)])⟩) 2
   (fun j=>j≤kl.length∧∀ q (hq:q<j) (h:q<kl.length),dQ p i kl[q]=true) (fun j=>kl.length - j) 0 (Le.mW _ (by simp) (by simp [z1,z2])) ⟨W2 _,fun q hq=>absurd hq (Xf q)⟩ ?_
  rintro j ⟨hj,hall⟩
  try simp only at hj hall
  refine aab ?_;refine aaa fun K6 hK6=>?_
  by_cases hlt:j<kl.length
  ·have hlt':(j:Int)<(kl.length:Int):=by omega
   refine aai (by simp [hlt'] <;> omega) (aac (hK6 _ _ (aaa fun K7 hK7=>aaf (aaa fun K8 hK8=>?_))));have hxk:=fun lv=>ixk lv j hlt
   refine aat hxk (hK8 _ _ ?_);refine aaa fun K8 hK8=>?_;have hse:=NW (GG m) p i kl[j];refine AW.m0 2 hse (hK8 _ _ ?_)
   cases hs:dQ p i kl[j] with
   | true=>
    refine aag (aac (hK7 _ _ ?_));have f12:=bG (n:=(j:Int)+1) (by omega) (by omega);refine aae ?_;simp [f12];refine⟨j+1,Le.mW _,⟨by omega,fun q hq h=>?_⟩,by omega⟩
    by_cases hji:q=j
    ·subst hji;exact hs
    ·exact hall q (by omega) h
   | false=>
    refine aah (aab ?_)
    have hb:kj p i n=7:=by
     rw [hr,if_neg];rw [Bool.not_eq_true,Zb];exact⟨kl[j],aW hlt,by rw [hs];decide⟩
    exact aad (aq.rt rfl 4 (by simp [hb]))
  ·have hlt':¬ (j:Int)<(kl.length:Int):=by omega
   refine aaj (by simp [hlt'] <;> omega) (aan (hK3 _ _ ?_))
   have hb:kj p i n=0:=by
    rw [hr,if_pos];rw [E5];intro x hx;obtain⟨q,hq,rfl⟩:=List.mem_iff_getElem.1 hx;exact hall q (by omega) hq
   refine aab ?_;exact aad (aq.rt rfl 4 (by simp [hb]))
 by_cases h3:n.op=1
 ·have n2:¬ n.op=2:=by omega
  have n3:¬ n.op=3:=by omega
  have t3:(n.op=1)=True:=eq_true h3
  by_cases h4:0≤n.a∧n.a<p.ni
  rotate_left
  ·have hd4:decide (0≤n.a∧n.a<(p.ni:Int))=false:=decide_eq_false h4;have hr:kj p i n=7:=by rw [r2,if_pos ⟨h3,h4⟩]
   rw [hd4] at hwa;refine AW.c2 2 hwa t3 @sX ?_;refine aah (aab ?_);exact aad (aq.rt rfl 4 (by simp [hr]))
  have hd4:decide (0≤n.a∧n.a<(p.ni:Int))=true:=decide_eq_true h4;rw [hd4] at hwa;have hxi:=fun lv=>Tj hp lv n.a h4.1 h4.2
  refine AW.c2 2 hwa t3 @sX ?_;refine aag (aaa fun K1 hK1=>?_)
  by_cases h5:(p.HL n.a.toNat).f=n.f
  ·have hr:kj p i n=if (bJ n).all (dQ p i) then 0 else 7:=by
    rw [r2,if_neg (fun h=>h.2 h4),if_neg (fun h=>h.2 h5),if_neg (fun h=>n2 h.1),if_neg n3]
   refine AW.Wb mixed t3 hxi h5 (hK1 _ _ ?_);refine aag (aal n2 ?_);refine aag (aal n3 ?_);refine aag (aac ?_);simp;exact tail _ _ (by simp) (by simp) (by simp) hr
  ·have hr:kj p i n=143:=by rw [r2,if_neg (fun h=>h.2 h4),if_pos ⟨h3,h5⟩]
   refine AW.Wb mixed t3 hxi h5 (hK1 _ _ ?_);refine aah (aab ?_);exact aad (aq.rt rfl 4 (by simp [hr]))
 refine aal h3 ?_;refine aag (AW.e1 mixed h3 ?_);refine aag ?_
 have r3:kj p i n=if n.op=2∧((i:Int)<p.head∨¬ (0≤n.a∧n.a<p.ns)) then 7 else if n.op=3 then ez n.v else if (bJ n).all (dQ p i) then 0 else 7:=by
  rw [r2,if_neg (fun h=>h3 h.1),if_neg (fun h=>h3 h.1)]
 refine aaa fun K1 hK1=>?_
 by_cases h6:n.op=2
 ·have n3:¬ n.op=3:=by omega
  have t6:(n.op=2)=True:=eq_true h6
  by_cases h7:(i:Int)<p.head
  ·have hr:kj p i n=7:=by rw [r3,if_pos ⟨h6,.inl h7⟩]
   refine aau t6 h7 (hK1 _ _ ?_);refine aah (aab ?_);exact aad (aq.rt rfl 4 (by simp [hr]))
  by_cases h8:0≤n.a∧n.a<p.ns
  ·have hd8:decide (0≤n.a∧n.a<(p.ns:Int))=true:=decide_eq_true h8;rw [hd8] at hws
   have hr:kj p i n=if (bJ n).all (dQ p i) then 0 else 7:=by
    rw [r3,if_neg (fun h=>h.2.elim h7 (fun h=>h h8)),if_neg n3]
   refine aae ?_;simp [t6,h7,yD];refine ag.p 2 9 hws ?_;simp [t6,h7];apply hK1;refine aag (aal n3 ?_);refine aag (aac ?_);simp;exact tail _ _ (by simp) (by simp) (by simp) hr
  ·have hd8:decide (0≤n.a∧n.a<(p.ns:Int))=false:=decide_eq_false h8;rw [hd8] at hws;have hr:kj p i n=7:=by rw [r3,if_pos ⟨h6,.inr h8⟩]
   refine aae ?_;simp [t6,h7,yD];refine ag.p 2 9 hws ?_;simp [t6,h7];apply hK1;refine aah (aab ?_);exact aad (aq.rt rfl 4 (by simp [hr]))
 refine aat h6 (hK1 _ _ ?_);refine aag (aaa fun K1 hK1=>?_)
 have r4:kj p i n=if n.op=3 then ez n.v else if (bJ n).all (dQ p i) then 0 else 7:=by
  rw [r3,if_neg (fun h=>h6 h.1)]
 by_cases h9:n.op=3
 ·have hr:kj p i n=ez n.v:=by rw [r4,if_pos h9]
  have hck:=Ic m n.v;rw [← hr] at hck;refine aat h9 (hK1 _ _ ?_);refine aah (aaq 2 hck ?_);exact aad (aq.rt rfl 4 (by simp))
 ·have hr:kj p i n=if (bJ n).all (dQ p i) then 0 else 7:=by rw [r4,if_neg h9]
  refine aat h9 (hK1 _ _ ?_);refine aag (aac ?_);simp;exact tail _ _ (by simp) (by simp) (by simp) hr
@[simp] def Se (x:Rat):List CV:=[.d (.bool (decide (x.num<0))),nC (cL x.num.natAbs),nC (dP x.den)]
theorem nR:sZ Tryz.prog 225=some (2,224,3):=by kernel_rfl
theorem Vk (lv:Key→LB)(κ:Key)(h:lv κ=.hole)(a b:CV):au Tryz.prog 59 2 [0,1] lv κ [.c a,.c b]=some (.c (.aR κ 0 2 1),[(κ,.cells true false 53 [a,b])],[],True):=by
 unfold au;rw [h];kernel_rfl
theorem KI (m:Int)(p:PD)(hp:p.ok)(i:Nat)(hi:i<p.ni):aa Tryz.prog (GG m) 84 [p.A,.c (.d (.int .i64 i))] (.c (.d (.int .i64 (cx p 1 i)))):=by
 have hx:=fun lv=>Tj hp lv (i:Int) (by omega) (by omega)
 simp only [XH] at hx;have hE:cx p 1 i=tO p (p.HL i):=rfl;rw [hE];generalize p.HL i=x at *
 have hwf:=gy (GG m) x.f p.nf;have hP1:=zk m x.lo;have hP2:=zk m x.hi;have q1:IntKind.i64.wrap 1=1:=by decide
 have q2:IntKind.i64.wrap 2=2:=by decide
 have z1:=vK x.lo;have z2:=vK x.hi;refine aa.Ol Tryz.func84 rfl fun _=>aab ?_;refine aas hx @aj.eq_1 ?_;refine aaa fun K hK=>aaa fun K1 hK1=>?_
 by_cases h1:0≤x.f∧x.f<p.nf
 rotate_left
 ·have hd:decide (0≤x.f∧x.f<(p.nf:Int))=false:=decide_eq_false h1;have hr:tO p x=7:=by unfold tO;rw [if_pos h1]
  rw [hd] at hwf;refine aax 2 hwf @qM (hK1 _ _ ?_);refine aah (aab ?_);exact aad (aq.rt (t:=4) rfl 9 (by simp [hr]))
 have hd:decide (0≤x.f∧x.f<(p.nf:Int))=true:=decide_eq_true h1;rw [hd] at hwf
 have r1:tO p x=if ez x.lo≠0 then ez x.lo else if ez x.hi≠0 then ez x.hi else if hasB (p.fm x.f.toNat).1 (p.fm x.f.toNat).2 (fj x.lo)=false then 7
  else if hasB (p.fm x.f.toNat).1 (p.fm x.f.toNat).2 (fj x.hi)=false then 7 else if 0<ia (fj x.lo) (fj x.hi) then 7 else 0:=by
  unfold tO;rw [if_neg (not_not_intro h1)]
 refine aax 2 hwf @qM (hK1 _ _ ?_);refine aag (aac (hK _ _ (aab ?_)));refine aaa fun K hK=>aaa fun K1 hK1=>?_;have hbs:∀ (lv:Key→LB) (h:lv 3=.hole),au Tryz.prog 59 2 [0,1] lv 3 [.c (.d (.str x.lo)),.c (.d (.str x.hi))]=some (.c (.aR 3 0 2 1),[(3,.cells true false 53 [.d (.str x.lo),.d (.str x.hi)])],[],True):=fun lv h=>Vk lv 3 h _ _
 refine aae ?_;simp [hbs,-au];apply hK1;refine aaf ?_
 refine aao (fun (k:Nat)=>⟨bf [(2,.c (.ptr 0 0)),(5,.c (.ptr 1 0)),(6,.c (.ptr 2 0)),(30,.c (.aR 3 0 2 1)),(31,.c (.d (.int .i64 2))),(32,.c (.d (.int .i64 k)))],
  aC (aC (aC (aC (fun _=>.hole) 0 (.cells true false 154 p.cs)) 1 (.cells true false 67 [.d (.int .i64 x.f),.d (.str x.lo),.d (.str x.hi)])) 2 (.cells true false 225 (Se (if 0<k then fj x.lo else 0)++Se (if 1<k then fj x.hi else 0)))) 3 (.cells true false 53 [.d (.str x.lo),.d (.str x.hi)])⟩) 4
  (fun k=>k≤2∧(0<k→ez x.lo=0)∧(1<k→ez x.hi=0)) (fun k=>2 - k) 0 (Le.mW _ (by simp [nC,cL,dP])) ⟨by omega,fun h=>absurd h (by omega),fun h=>absurd h (by omega)⟩ ?_
 rintro k ⟨hk,k1,k2⟩
 try simp only at hk k1 k2
 refine aab ?_;refine aaa fun K2 hK2=>?_;have hkc:k=0∨k=1∨k=2:=by omega
 rcases hkc with rfl|rfl|rfl
 ·refine aah (aac (hK2 _ _ (aaa fun K3 hK3=>aaf (aab ?_))));refine aav 4 hP1 @aj.eq_1 ?_;refine aaa fun K4 hK4=>aab ?_
  by_cases he:ez x.lo=0
  ·refine aaj (by simp [he] <;> omega) (aac (hK4 _ _ (aaB nR @bL @aj.eq_1 (hK3 _ _ ?_))));refine aae ?_;simp [q1];exact⟨1,(Le.zM [4] 9),⟨by omega,fun _=>he,fun h=>absurd h (by omega)⟩,by omega⟩
  ·have hr:tO p x=ez x.lo:=by rw [r1,if_pos he]
   refine aai (by simp [he] <;> omega) (aab ?_);exact aad (aq.rt (t:=4) rfl 9 (by simp [hr]))
 ·refine aah (aac (hK2 _ _ (aaa fun K3 hK3=>aaf (aab ?_))));refine aav 4 hP2 @aj.eq_1 ?_;refine aaa fun K4 hK4=>aab ?_
  by_cases he:ez x.hi=0
  ·refine aaj (by simp [he] <;> omega) (aac (hK4 _ _ (aaB nR @bL @aj.eq_1 (hK3 _ _ ?_))));refine aae ?_;simp [q2];exact⟨2,(Le.zM [4] 9),⟨by omega,fun _=>k1 (by omega),fun _=>he⟩,by omega⟩
  ·have hr:tO p x=ez x.hi:=by rw [r1,if_neg (not_not_intro (k1 (by omega))),if_pos he]
   refine aai (by simp [he] <;> omega) (aab ?_);exact aad (aq.rt (t:=4) rfl 9 (by simp [hr]))
 ·have r2:tO p x=if hasB (p.fm x.f.toNat).1 (p.fm x.f.toNat).2 (fj x.lo)=false then 7
   else if hasB (p.fm x.f.toNat).1 (p.fm x.f.toNat).2 (fj x.hi)=false then 7 else if 0<ia (fj x.lo) (fj x.hi) then 7 else 0:=by
   rw [r1,if_neg (not_not_intro (k1 (by omega))),if_neg (not_not_intro (k2 (by omega)))]
  refine aag (aan (hK _ _ ?_));have hxf:=fun lv=>Tm hp lv x.f h1.1 h1.2
  generalize p.fm x.f.toNat=fe at *
  have hb1:=qY (GG m) fe.1 fe.2 (fj x.lo) z1;have hb2:=qY (GG m) fe.1 fe.2 (fj x.hi) z2;have hcm:=G2 (GG m) (fj x.lo) (fj x.hi) (bQ z1 (by omega)) (bQ z2 (by omega));generalize fj x.lo=a at *
  generalize fj x.hi=b at *
  refine aas hxf @aj.eq_1 ?_;refine aaa fun K3 hK3=>aaa fun K4 hK4=>?_
  cases g1:hasB fe.1 fe.2 a with
  | false=>
   have hr:tO p x=7:=by rw [r2,if_pos g1]
   rw [g1] at hb1;refine aax 5 hb1 nR (hK4 _ _ ?_);refine aah (aab ?_);exact aad (aq.rt (t:=4) rfl 9 (by simp [hr]))
  | true=>
  rw [g1] at hb1
  cases g2:hasB fe.1 fe.2 b with
  | false=>
   have hr:tO p x=7:=by rw [r2,g1,if_neg (by decide),if_pos g2]
   rw [g2] at hb2;refine aae ?_;simp [nR];refine ag.p 5 9 hb1 ?_;simp [nR];refine ag.p 5 9 hb2 ?_;simp;apply hK4;refine aah (aab ?_);exact aad (aq.rt (t:=4) rfl 9 (by simp [hr]))
  | true=>
  rw [g2] at hb2
  by_cases g3:0<ia a b
  ·have hr:tO p x=7:=by rw [r2,g1,if_neg (by decide),g2,if_neg (by decide),if_pos g3]
   refine aae ?_;simp [nR];refine ag.p 5 9 hb1 ?_;simp [nR];refine ag.p 5 9 hb2 ?_;simp [nR];refine ag.p 5 9 hcm ?_;simp;apply hK4;refine aai (by simp [g3] <;> omega) (aab ?_);exact aad (aq.rt (t:=4) rfl 9 (by simp [hr]))
  ·have hr:tO p x=0:=by rw [r2,g1,if_neg (by decide),g2,if_neg (by decide),if_neg g3]
   refine aae ?_;simp [nR];refine ag.p 5 9 hb1 ?_;simp [nR];refine ag.p 5 9 hb2 ?_;simp [nR];refine ag.p 5 9 hcm ?_;simp;apply hK4;refine aaj (by simp [g3] <;> omega) (aac (hK3 _ _ (aab ?_)));exact aad (aq.rt (t:=4) rfl 9 (by simp [hr]))
@[simp] theorem OL{k0 k1:Key}{b0 b1:LB}(h0:lv k0=b0) (h1:lv k1=b1):aS lv [(k0,b0),(k1,b1)]=lv:=by
 subst h0;subst h1;funext k;simp only [aS,List.foldl,aC];split
 ·rename_i h;rw [h]
 ·split
  ·rename_i h;rw [h]
  ·rfl
abbrev cI (i:Int):List CV:=[.d (.int .i64 i)]
abbrev bI (i:Int):LB:=.cells false false 3 (cI i)
theorem J6 (G:List (List DV))(n:Nd)(i f:Int):aF Tryz.prog G 165 [n.A,.c (.ptr 0 0),.c (.ptr 1 0)] [bI i,bI f] (.ret (.c (.d (.bool (iC i f n)))) [bI i,bI f] []):=by
 refine aF.Vc Tryz.func165 rfl (by simp) (by simp) (fun r hr=>⟨_,List.mem_singleton.1 hr⟩) fun _=>aab ?_;refine aaa fun K hK=>?_
 by_cases h1:n.op=2
 ·by_cases h2:n.a=i
  ·by_cases h3:n.f=f
   ·refine aaB h1 h2 h3 (hK _ _ ?_);exact aam (κ:=0) (yu.tmp (κ:=0) rfl 9 (by simp [iC,h1,h2,h3]) rfl (by simp) (by simp) (by simp) rfl)
   ·refine aaB h1 h2 h3 (hK _ _ ?_);exact aam (κ:=0) (yu.tmp (κ:=0) rfl 9 (by simp [iC,h1,h2,h3]) rfl (by simp) (by simp) (by simp) rfl)
  ·refine aau h1 h2 (hK _ _ ?_);exact aam (κ:=0) (yu.tmp (κ:=0) rfl 9 (by simp [iC,h1,h2]) rfl (by simp) (by simp) (by simp) rfl)
 ·refine aat h1 (hK _ _ ?_);exact aam (κ:=0) (yu.tmp (κ:=0) rfl 9 (by simp [iC,h1]) rfl (by simp) (by simp) (by simp) rfl)
def Cz (i f:Int)(p:PD):Int:=match (List.range p.nn).find? (fun j=>iC i f (p.nd j)) with
 | some j=>j
 | none=>-1
theorem Ke (i f:Int)(p:PD):decide (0≤Cz i f p)=(List.range p.nn).any (fun j=>iC i f (p.nd j)):=by
 unfold Cz
 cases h:(List.range p.nn).find? (fun j=>iC i f (p.nd j)) with
 | none=>
  rw [Zl] at h
  have:(List.range p.nn).any (fun j=>iC i f (p.nd j))=false:=by
   rw [Ze];exact h
  rw [this];rfl
 | some j=>
  have h1:=List.find?_some h;have h2:=Y3 h;have:(List.range p.nn).any (fun j=>iC i f (p.nd j))=true:=List.any_eq_true.2 ⟨j,h2,h1⟩;rw [this];exact decide_eq_true (XW j)
abbrev TW:AV:=.c (.func (.func 165) [] [.ptr 0 0,.ptr 1 0])
theorem JD(n:Nd) {i f:Int}(h0:lv 0=bI i) (h1:lv 1=bI f)(ha:a∈[n.A,.c (.ptr 0 0),.c (.ptr 1 0)]) (hk:k∈pE lv a):k∈[9,0,1]:=by
 simp only [WM,Xh,or_false] at ha;rcases ha with rfl|rfl|rfl
 ·rw [lR rfl] at hk;cases hk
 ·simp [pE,lY,h0] at hk;simp [hk]
 ·simp [pE,lY,h1] at hk;simp [hk]
theorem Kw(p:PD){fn:Fn}{fs cs:List Ref}{R:List Key}(ha:a∈[AV.c (dL p.nodes),.c (.func fn fs cs)]) (hk:k∈pE lv a):k∈R:=by
 simp only [WM,Xh,or_false] at ha;rcases ha with rfl|rfl
 ·rw [lR (by simp)] at hk;cases hk
 ·cases hk
theorem Nt (G:List (List DV))(p:PD)(hp:p.ok)(hn:p.nn≤1000)(i f:Int):aF Tryz.prog G 241 [.c (dL p.nodes),TW] [bI i,bI f] (.ret (.c (.d (.int .i64 (Cz i f p)))) [bI i,bI f] []):=by
 have ho:=fun j=>J6 G (p.nd j) i f
 refine aF.Vc Tryz.func241 rfl (by simp) (by simp) (fun r hr=>⟨_,List.mem_singleton.1 hr⟩) fun _=>aab ?_;refine aaa fun K hK=>aal @fC ?_;refine aaf ?_
 refine aao (fun (j:Nat)=>⟨bf [(0,.c (dL p.nodes)),(1,TW),(7,.c (.d (.int .i64 p.nn))),(8,.c (.d (.int .i64 j)))],aC (aC (fun _=>.hole) 0 (bI i)) 1 (bI f)⟩) 1000
  (fun j=>j≤p.nn∧∀ q,q<j→iC i f (p.nd q)=false) (fun j=>p.nn - j) 0 (Le.mW _) ⟨by omega,fun q hq=>absurd hq (Xf q)⟩ ?_
 rintro j ⟨hj,hall⟩
 try simp only at hj hall
 refine aab ?_;refine aaa fun K2 hK2=>?_
 by_cases hlt:j<p.nn
 ·have hlt':(j:Int)<(p.nn:Int):=by omega
  refine aai (by simp [hlt'] <;> omega) (aac (hK2 _ _ (aaa fun K3 hK3=>aaf (aab ?_))));refine aaa fun K4 hK4=>?_;have hx:=fun lv=>Nk p lv hp j hlt
  refine aae ?_;simp [hx,Ih,y8,sL];refine ag.Jm (T0:=3) (T1:=3) (cs0:=cI i) (cs1:=cI f) 1000 9 0 1 false [9,0,1] (ho j) rfl rfl rfl (by simp) (by simp) (by decide) rfl rfl ?_ ?_ (by simp) ?_
  ·intro a b c;have:a=0∨a=1∨a=2:=by simp at b;omega
   rcases this with rfl|rfl|rfl <;> exact⟨rfl,rfl⟩
  ·intro a ha k hk;exact JD (p.nd j) (i:=i) (f:=f) (by simp) (by simp) ha hk
  simp;apply hK4
  cases hs:iC i f (p.nd j) with
  | true=>
   refine aah (aab ?_)
   have hr:Cz i f p=j:=by
    unfold Cz
    have:(List.range p.nn).find? (fun j=>iC i f (p.nd j))=some j:=by
     rw [List.find?_range_eq_some];exact⟨hs,List.mem_range.2 hlt,fun q hq=>by rw [hall q hq];rfl⟩
    rw [this]
   exact aam (κ:=0) (yu.tmp (κ:=0) rfl 9 (by simp [hr]) rfl (by simp) (by simp) (by simp) rfl)
  | false=>
   refine aag (aac (hK3 _ _ ?_));have f12:=bG (n:=(j:Int)+1) (by omega) (by omega);refine aae ?_;simp [f12];refine⟨j+1,Le.mW _,⟨by omega,fun q hq=>?_⟩,by omega⟩
   by_cases hji:q=j
   ·subst hji;exact hs
   ·exact hall q (by omega)
 ·have hlt':¬ (j:Int)<(p.nn:Int):=by omega
  refine aaj (by simp [hlt'] <;> omega) (aan (hK _ _ (aab ?_)))
  have hr:Cz i f p = -1:=by
   unfold Cz
   have:(List.range p.nn).find? (fun j=>iC i f (p.nd j))=none:=by
    rw [Zl];intro q hq;rw [hall q (by have:=List.mem_range.1 hq;omega)];decide
   rw [this]
  exact aam (κ:=0) (yu.tmp (κ:=0) rfl 9 (by simp [hr]) rfl (by simp) (by simp) (by simp) rfl)
theorem Lm (G:List (List DV))(p:PD)(hp:p.ok)(hn:p.nn≤1000)(i f:Int):aF Tryz.prog G 166 [.c (dL p.nodes),TW] [bI i,bI f] (.ret (.c (.d (.bool ((List.range p.nn).any fun j=>iC i f (p.nd j))))) [bI i,bI f] []):=by
 have hx:=Nt G p hp hn i f;rw [← Ke];generalize Cz i f p=r at *
 refine aF.Vc Tryz.func166 rfl (by simp) (by simp) (fun r hr=>⟨_,List.mem_singleton.1 hr⟩) fun _=>aab ?_;refine aak fun K hK=>?_;simp;refine ag.Jm (T0:=3) (T1:=3) (cs0:=cI i) (cs1:=cI f) 1000 9 0 1 false [9] hx rfl rfl rfl (by simp) (by simp) (by decide) rfl rfl ?_ ?_ (by simp) ?_
 ·intro a b c;have:a=0∨a=1:=by simp at b;omega
  rcases this with rfl|rfl
  ·exact⟨by simp,by simp⟩
  ·exact⟨rfl,rfl⟩
 ·intro a ha k hk;exact Kw p ha hk
 simp;apply hK;exact aam (κ:=0) (yu.tmp (κ:=0) rfl 9 (by simp) rfl (by simp) (by simp) (by simp) rfl)
theorem oT(h:dH p=0):0≤p.head∧p.head≤p.tail∧p.tail≤p.nn∧p.nf≤6∧p.ni≤6∧p.nn≤64∧p.ns≤4:=by
 unfold dH at h;unfold PD.nf PD.ni PD.nn PD.ns
 (repeat' split at h) <;> first|omega|cases h
theorem LM (m:Int)(p:PD)(hp:p.ok)(hg:dH p=0)(i:Nat)(hi:i<p.ns):aa Tryz.prog (GG m) 86 [p.A,.c (.d (.int .i64 i))] (.c (.d (.int .i64 (cx p 3 i)))):=by
 obtain⟨g1,g2,g3,_,_,g4,_⟩:=oT hg;have hx:=fun lv=>VE hp lv (i:Int) (by omega) (by omega)
 simp only [XH] at hx;have hE:cx p 3 i=wC p i (p.st i):=rfl;rw [hE];generalize p.st i=s at *
 have hw1:=gy (GG m) s.1 p.head;have hw2:=gy (GG m) s.2 p.tail;refine aa.en Tryz.func86 rfl fun _=>aab ?_;refine aas hx @aj.eq_1 ?_;refine aaa fun K hK=>aaa fun K1 hK1=>?_
 by_cases h1:0≤s.1∧s.1<p.head
 rotate_left
 ·have hd:decide (0≤s.1∧s.1<p.head)=false:=decide_eq_false h1;have hr:wC p i s=7:=by unfold wC;rw [if_pos h1]
  rw [hd] at hw1;refine AW.m0 3 hw1 (hK1 _ _ ?_);refine aah (aab ?_);exact aad (aq.rt rfl 4 (by simp [hr]))
 have hd:decide (0≤s.1∧s.1<p.head)=true:=decide_eq_true h1;rw [hd] at hw1
 by_cases h2:0≤s.2∧s.2<p.tail
 rotate_left
 ·have hd2:decide (0≤s.2∧s.2<p.tail)=false:=decide_eq_false h2;have hr:wC p i s=7:=by unfold wC;rw [if_neg (not_not_intro h1),if_pos h2]
  rw [hd2] at hw2;refine aae ?_;simp;refine ag.p 3 9 hw1 ?_;simp;refine ag.p 3 9 hw2 ?_;simp;apply hK1;refine aah (aab ?_);exact aad (aq.rt rfl 4 (by simp [hr]))
 have hd2:decide (0≤s.2∧s.2<p.tail)=true:=decide_eq_true h2;rw [hd2] at hw2;refine aae ?_;simp;refine ag.p 3 9 hw1 ?_;simp;refine ag.p 3 9 hw2 ?_;simp;apply hK1;refine aag (aac (hK _ _ (aaa fun K hK=>?_)));have x1:=fun lv=>Rq hp lv s.1 h1.1 (by omega)
 have x2:=fun lv=>Rq hp lv s.2 h2.1 (by omega)
 have hr:wC p i s=if (p.nd s.2.toNat).f≠(p.nd s.1.toNat).f then 143 else if (List.range p.nn).any (fun j=>iC i (p.nd s.1.toNat).f (p.nd j)) then 143 else 0:=by
  unfold wC;rw [if_neg (not_not_intro h1),if_neg (not_not_intro h2)]
 generalize p.nd s.1.toNat=n1 at *
 generalize p.nd s.2.toNat=n2 at *
 refine aau x1 @aj.eq_1 (hK _ _ ?_);refine aak fun K hK=>?_;simp [Hf,rY,xX,y4,iy];apply hK;refine aaa fun K hK=>aaa fun K1 hK1=>?_
 by_cases h3:n2.f=n1.f
 ·have hc:=Lm (GG m) p hp (by omega) i n1.f;refine aap mixed (by kernel_rfl) rfl ?_;simp [x2,h3];refine ag.Jm (T0:=3) (T1:=3) (cs0:=cI i) (cs1:=cI n1.f) 4 9 1 3 true [9] hc rfl rfl rfl (by simp) (by simp) (by decide) rfl rfl ?_ ?_ (by simp) ?_
  ·intro a b c;have:a=0∨a=1:=by simp at b;omega
   rcases this with rfl|rfl
   ·exact⟨by simp,by simp⟩
   ·exact⟨rfl,rfl⟩
  ·intro a ha k hk;exact Kw p ha hk
  simp;refine⟨by kernel_rfl,?_⟩;apply hK1
  cases hs:(List.range p.nn).any (fun j=>iC i n1.f (p.nd j)) with
  | true=>
   have hr2:wC p i s=143:=by rw [hr,if_neg (not_not_intro h3),if_pos hs]
   refine aah (aab ?_);exact aad (aq.rt rfl 4 (by simp [hr2]))
  | false=>
   have hr2:wC p i s=0:=by rw [hr,if_neg (not_not_intro h3),hs,if_neg (by decide)]
   refine aag (aac (hK _ _ (aab ?_)));exact aad (aq.rt rfl 4 (by simp [hr2]))
 ·have hr2:wC p i s=143:=by rw [hr,if_pos h3]
  refine AW.Wk mixed x2 h3 (hK1 _ _ ?_);refine aah (aab ?_);exact aad (aq.rt rfl 4 (by simp [hr2]))
def sD:Option (List (List DV))→DV
 | none=>.nilsl
 | some es=>.sl es
theorem O0 (o:Option (List (List DV))):dL o=.d (sD o):=by cases o <;> rfl
def PD.Gx (p:PD):List DV:=[sD p.f,.int .i64 p.mode,sD p.ins,sD p.nodes,.int .i64 p.head,.int .i64 p.tail,sD p.states,.int .i64 p.res]
theorem FP (p:PD):p.Gx.map CV.d=p.cs:=by simp [PD.Gx,O0]
theorem Lc (p:PD):Li (.agg p.Gx)=p.A:=by show AV.agg (p.Gx.map CV.d)=_;rw [FP]
theorem IZ (p:PD):pU p.cs=some p.Gx:=by
 obtain⟨f,a,i,n,b,c,s,d⟩:=p
 cases f <;> cases i <;> cases n <;> cases s <;> rfl
theorem JS (p:PD)(f:FuncId):Hf (.func f) [.agg [dL p.f,.d (.int .i64 p.mode),dL p.ins,dL p.nodes,.d (.int .i64 p.head),.d (.int .i64 p.tail),dL p.states,.d (.int .i64 p.res)]] []=some (.c (.d (.func (.func f) [.agg p.Gx] [])),[],[],True):=by
 have h:=IZ p;simp only [PD.cs] at h;simp only [Hf,rY,xX,h,y4,iy];rfl
theorem TY (a b:CV):gC Tryz.prog 157 [0,1] [.c a,.c b]=some (.agg [a,b],[],[],True):=by kernel_rfl
theorem Rt (lv:Key→LB)(κ:Key)(h:lv κ=.hole)(a b c d e f g i:CV):au Tryz.prog 158 4 [0,1,2,3] lv κ [.agg [a,b],.agg [c,d],.agg [e,f],.agg [g,i]]=some (.c (.aR κ 0 4 2),[(κ,.cells true false 157 [a,b,c,d,e,f,g,i])],[],True):=by
 unfold au;rw [h];kernel_rfl
theorem MC (p:PD):gC Tryz.prog 154 [0] [.agg [dL p.f,.d (.int .i64 p.mode),dL p.ins,dL p.nodes,.d (.int .i64 p.head),.d (.int .i64 p.tail),dL p.states,.d (.int .i64 p.res)]]=some (.agg [dL p.f,.d (.int .i64 p.mode),dL p.ins,dL p.nodes,.d (.int .i64 p.head),.d (.int .i64 p.tail),dL p.states,.d (.int .i64 p.res)],[],[],True):=
 (show ∀ a b c d e f g h:CV,gC Tryz.prog 154 [0] [.agg [a,b,c,d,e,f,g,h]]=some (.agg [a,b,c,d,e,f,g,h],[],[],True) from fun a b c d e f g h=>by kernel_rfl) _ _ _ _ _ _ _ _
def OD (p:PD):List CV:=[.d (.int .i64 p.nf),.d (.func (.func 83) [.agg p.Gx] []),.d (.int .i64 p.ni),.d (.func (.func 84) [.agg p.Gx] []),.d (.int .i64 p.nn),.d (.func (.func 85) [.agg p.Gx] []),.d (.int .i64 p.ns),.d (.func (.func 86) [.agg p.Gx] [])]
@[simp] theorem TH (p:PD)(g:Key→Key):(OD p).map (CV.bU g)=OD p:=rfl
theorem Lw (p:PD)(k:Nat)(hk:k<4):eN Tryz.prog 157 ((OD p).drop (k*2))=some (.agg [.d (.int .i64 (ku p k)),.d (.func (.func (83+k)) [.agg p.Gx] [])]):=by
 have h:k=0∨k=1∨k=2∨k=3:=by omega
 rcases h with rfl|rfl|rfl|rfl <;> simp [OD,ku]
theorem ME (m:Int)(p:PD)(hp:p.ok)(hg:dH p=0)(k:Nat)(hk:k<4)(i:Nat)(hi:i<ku p k):aa Tryz.prog (GG m) (83+k) [p.A,.c (.d (.int .i64 i))] (.c (.d (.int .i64 (cx p k i)))):=by
 have h:k=0∨k=1∨k=2∨k=3:=by omega
 have hr:=oT hg;rcases h with rfl|rfl|rfl|rfl
 ·exact Hi _ p hp i hi
 ·exact KI m p hp i hi
 ·exact Nw m p hp i hi (by omega)
 ·exact LM m p hp hg i hi
theorem L6 (k:Nat)(hk:k<4):aG Tryz.prog (83+k)=true:=by
 have h:k=0∨k=1∨k=2∨k=3:=by omega
 rcases h with rfl|rfl|rfl|rfl <;> simp
theorem MB(hg:dH p=0) (k:Nat) (hk:k<4):ku p k≤64:=by
 have h:k=0∨k=1∨k=2∨k=3:=by omega
 have hr:=oT hg;rcases h with rfl|rfl|rfl|rfl <;> simp only [ku] <;> omega
theorem Kb (m:Int)(p:PD)(hp:p.ok):aa Tryz.prog (GG m) 31 [p.A] (.tup [.c (.d (.int .i64 (bK p).1)),.c (.d (.int .i64 (bK p).2.1)),.c (.d (.int .i64 (bK p).2.2))]):=by
 have hge:=Fj (GG m) p;have hbl:∀ lv (h:lv 2=.hole) (a b c d e f g i:CV),au Tryz.prog 158 4 [0,1,2,3] lv 2 [.agg [a,b],.agg [c,d],.agg [e,f],.agg [g,i]]=some (.c (.aR 2 0 4 2),[(2,.cells true false 157 [a,b,c,d,e,f,g,i])],[],True):=fun lv h=>Rt lv 2 h
 by_cases hg:dH p=0
 rotate_left
 ·have hr:bK p=(0,0,dH p):=by unfold bK;rw [if_pos hg]
  rw [hr];refine aa.en Tryz.func31 rfl fun _=>aab ?_;refine aas @MC @aj.eq_1 ?_;refine aaa fun K hK=>aaq 2 hge ?_;refine aab ?_;refine aai (by simp [hg] <;> omega) (aab ?_);exact aad (aq.t3 rfl 9 (by simp) (by simp) (by simp))
 have hr:bK p=eI p 4 0:=by unfold bK;rw [if_neg (not_not_intro hg)]
 rw [hr];rw [hg] at hge;have hwi:=gy (GG m) p.res p.nn;have hse:=mL (GG m) p p.res;refine aa.Ol Tryz.func31 rfl fun _=>aab ?_;refine aas @MC @aj.eq_1 ?_;refine aaa fun K hK=>aaq 2 hge ?_;refine aab ?_;refine aag (aac (hK _ _ (aak fun K hK=>?_)));simp [qM,sX,fC,yD,JS,TY,hbl,-au];apply hK;refine aaa fun K hK=>aab ?_;refine aaf ?_
 refine aao (fun (k:Nat)=>⟨bf [(1,.c (.ptr 0 0)),(5,.c (.ptr 1 0)),(44,.c (.aR 2 0 4 2)),(45,.c (.d (.int .i64 4))),(46,.c (.d (.int .i64 k)))],
  aC (aC (aC (fun _=>.hole) 0 (.cells true false 27 p.cs)) 1 (.cells true false 154 p.cs)) 2 (.cells true false 157 (OD p))⟩) 3
  (fun k=>k≤4∧eI p (4 - k) k=eI p 4 0) (fun k=>4 - k) 0 (Le.mW _ (by simp [OD])) ⟨by omega,rfl⟩ ?_
 rintro k ⟨hk,hpv⟩
 try simp only at hk hpv
 refine aab ?_;refine aaa fun K2 hK2=>?_
 by_cases hlt:k<4
 ·have hlt':(k:Int)<4:=by omega
  have hld:=Lw p k hlt;have hle:=MB hg k hlt;have hfn:=L6 k hlt;have hca:=ME m p hp hg k hlt
  have hstep:∀ i,i<ku p k→cx p k i≠0→(∀ j,j<i→cx p k j=0)→eI p 4 0=((k:Int)+1,(i:Int),cx p k i):=by
   intro i hi h0 h1;rw [← hpv,show 4 - k=(4 - (k+1))+1 by omega];show (match mZ (cx p k) (ku p k) with|some i=>((k:Int)+1,(i:Int),cx p k i)|none=>eI p (4 - (k+1)) (k+1))=_;rw [uw hi h0 h1]
  have hnext:(∀ j,j<ku p k→cx p k j=0)→eI p (4 - (k+1)) (k+1)=eI p 4 0:=by
   intro h1;rw [← hpv,show 4 - k=(4 - (k+1))+1 by omega];show _=(match mZ (cx p k) (ku p k) with|some i=>((k:Int)+1,(i:Int),cx p k i)|none=>eI p (4 - (k+1)) (k+1))
   rw [uK h1]
  generalize ku p k=N at *
  generalize cx p k=E at *
  refine aai (by simp [hlt'] <;> omega) (aac (hK2 _ _ (aaa fun K3 hK3=>aaf (aak fun K4 hK4=>?_))));simp [hlt',hld,aj,-ID];apply hK4;refine aab ?_;refine aaf ?_
  refine aao (fun (i:Nat)=>⟨bf [(1,.c (.ptr 0 0)),(5,.c (.ptr 1 0)),(8,.c (.d (.int .i64 k))),(9,.c (.ptr 3 0)),(44,.c (.aR 2 0 4 2)),(45,.c (.d (.int .i64 4))),(46,.c (.d (.int .i64 k))),(52,.c (.d (.int .i64 N))),(53,.c (.d (.int .i64 i)))],
   aC (aC (aC (aC (fun _=>.hole) 0 (.cells true false 27 p.cs)) 1 (.cells true false 154 p.cs)) 2 (.cells true false 157 (OD p))) 3 (.cells true false 157 [.d (.int .i64 N),.d (.func (.func (83+k)) [.agg p.Gx] [])])⟩) 4
   (fun i=>i≤N∧∀ j,j<i→E j=0) (fun i=>N - i) 0 (Le.mW _ (by simp [aj])) ⟨by omega,fun j hj=>absurd hj (Xf j)⟩ ?_
  rintro i ⟨hi,hall⟩
  try simp only at hi hall
  refine aab ?_;refine aaa fun K6 hK6=>?_
  by_cases hlt2:i<N
  ·have hlt2':(i:Int)<(N:Int):=by omega
   have hc:=hca i hlt2;refine aai (by simp [hlt2'] <;> omega) (aac (hK6 _ _ (aaa fun K7 hK7=>aaf (aab ?_))));refine AW.c4 4 hc @HG @y8 @Lc hfn ?_;refine aab ?_
   by_cases h0:E i=0
   ·refine aaj (by simp [h0] <;> omega) (aac (hK7 _ _ ?_));have f12:=bG (n:=(i:Int)+1) (by omega) (by omega);refine aae ?_;simp [f12];refine⟨i+1,Le.mW _,⟨by omega,fun j hj=>?_⟩,by omega⟩
    by_cases hji:j=i
    ·subst hji;exact h0
    ·exact hall j (by omega)
   ·have hres:=hstep i hlt2 h0 hall;have f12:=bG (n:=(k:Int)+1) (by omega) (by omega);refine aai (by simp [h0] <;> omega) (aal f12 ?_);exact aad (aq.t3 rfl 9 (by simp [hres]) (by simp [hres]) (by simp [hres]))
  ·have hlt2':¬ (i:Int)<(N:Int):=by omega
   refine aaj (by simp [hlt2'] <;> omega) (aan (hK3 _ _ ?_));have f12:=bG (n:=(k:Int)+1) (by omega) (by omega);refine aae ?_;simp [f12];exact⟨k+1,(Le.zM [3] 9),⟨by omega,hnext fun j hj=>hall j (by omega)⟩,by omega⟩
 ·have hlt':¬ (k:Int)<4:=by omega
  have hk4:k=4:=by omega
  subst hk4;have hfin:eI p 4 0=if 0≤p.res∧p.res<p.nn∧iQ p p.res≠1 then (0,0,0) else (5,0,7):=by rw [← hpv];rfl
  refine aaj (by simp [hlt'] <;> omega) (aan (hK _ _ (aaa fun K hK=>aaa fun K1 hK1=>?_)))
  by_cases h1:0≤p.res∧p.res<p.nn
  rotate_left
  ·have hd:decide (0≤p.res∧p.res<(p.nn:Int))=false:=decide_eq_false h1;have hres:eI p 4 0=(5,0,7):=by rw [hfin,if_neg (fun h=>h1 ⟨h.1,h.2.1⟩)]
   rw [hd] at hwi;refine aax 3 hwi @fC (hK1 _ _ ?_);refine aah (aab ?_);exact aad (aq.t3 rfl 9 (by simp [hres]) (by simp [hres]) (by simp [hres]))
  have hd:decide (0≤p.res∧p.res<(p.nn:Int))=true:=decide_eq_true h1;rw [hd] at hwi
  by_cases h2:iQ p p.res=1
  ·have hres:eI p 4 0=(5,0,7):=by rw [hfin,if_neg (fun h=>h.2.2 h2)]
   rw [h2] at hse;refine aae ?_;simp [fC];refine ag.p 3 9 hwi ?_;simp;refine ag.p 3 9 hse ?_;simp;apply hK1;refine aah (aab ?_);exact aad (aq.t3 rfl 9 (by simp [hres]) (by simp [hres]) (by simp [hres]))
  ·have hres:eI p 4 0=(0,0,0):=by rw [hfin,if_pos ⟨h1.1,h1.2,h2⟩]
   refine aae ?_;simp [fC];refine ag.p 3 9 hwi ?_;simp;refine ag.p 3 9 hse ?_;simp [h2];apply hK1;refine aaj (by simp [h2] <;> omega) (aac (hK _ _ (aab ?_)));exact aad (aq.t3 rfl 9 (by simp [hres]) (by simp [hres]) (by simp [hres]))
theorem sG (m:Int)(p:PD)(hp:p.ok):aa Tryz.prog (GG m) 45 [p.A] (.c (.d (.int .i64 (bK p).2.2))):=by
 have h:=Kb m p hp;generalize bK p=v at *
 refine aa.en Tryz.func45 rfl fun _=>aab ?_;refine aaq 1 h ?_;refine aab ?_;exact aad (aq.rt rfl 2 (by simp))
theorem Od (own fz:Bool)(T:TypeId)(l:List DV)(g:Key→Key):(LB.cells own fz T (l.map CV.d)).like (.cells own fz T (l.map CV.d)) g:=LB.mF.2 ⟨rfl,rfl,by rw [Xc];rfl,id⟩
theorem Jh (l:List Int)(g:Key→Key):(LB.cells true false 3 (zK l)).like (.cells true false 3 (zK l)) g:=by
 rw [Bb];exact Od ..
theorem Jz(h:lv k=.hole):aC lv k .hole=lv:=by
 funext j;unfold aC;split
 ·rename_i e;rw [e,h]
 ·rfl
def zB (l:List Int):LB:=if l=[] then .hole else .cells true false 3 (zK l)
def NZ (k:Key)(l:List Int):AV:=if l=[] then .c (.d .nilsl) else .c (.aR k 0 l.length 1)
theorem UT (lv:Key→LB)(κ:Key)(h:lv κ=.hole)(a:CV):au Tryz.prog 30 1 [0] lv κ [.c a]=some (.c (.aR κ 0 1 1),[(κ,.cells true false 3 [a])],[],True):=by
 unfold au;rw [h];kernel_rfl
theorem PX{l:List DV}(h:lv k=.cells own fz T (l.map CV.d)) (hl:l.length≤1000):eC lv (.c (.aR k 0 l.length 1))=some (.c (.d (.sl (l.map fun x=>[x]))),[k]):=by
 have h1:((l.map CV.d).drop 0).take (l.length*1)=l.map CV.d:=by rw [fQ,XB];exact X6 (by simp)
 have h2:0+l.length*1≤(l.map CV.d).length∧l.length≤9223372036854775807:=⟨by simp,by omega⟩
 show (cU lv 8 (.aR k 0 l.length 1)).map _=_;simp only [cU,h];rw [if_pos h2,h1,sV];simp only [W4,oP]
theorem Mp{l:List Int}(h:lv k=.cells own fz T (zK l)) (hl:l.length≤1000):eC lv (.c (.aR k 0 l.length 1))=some (.c (zC (some l)),[k]):=by
 have:=PX (l:=l.map fun x=>DV.int .i64 x) (by rw [← Bb];exact h) (by simpa using hl);rw [W6,Xc] at this;exact this
theorem UF (p:PD)(lv:Key→LB)(hp:p.ok)(i:Nat)(hi:i<p.ni):ak Tryz.prog 23 lv (.c (dL p.ins)) (.c (.d (.int .i64 (i:Int))))=some (.c (.d (.ptr (p.HL i).e)),[],[],True):=by
 have:=Tj hp lv (i:Int) (by omega) (by omega)
 rwa [XH] at this
theorem Gl (l:List Int)(x:Int):zB (l++[x])=.cells true false 3 (zK l++[.d (.int .i64 x)]):=by
 unfold zB;rw [if_neg (by simp)];simp [zK]
theorem F4 (k:Key)(l:List Int)(x:Int):NZ k (l++[x])=.c (.aR k 0 (l.length+1) 1):=by
 unfold NZ;rw [if_neg (by simp)];simp
theorem AR(h:(bK p).2.2=0):dH p=0:=by
 unfold bK at h
 by_cases hg:dH p=0
 ·exact hg
 ·rw [if_pos hg] at h;exact absurd h hg
structure PD.good (p:PD):Prop where
 ok:p.ok
 gen:dH p=0
 Wz:∀ i,i<p.nf→fF (p.fm i).1 (p.fm i).2=0
 ins:∀ i,i<p.ni→tO p (p.HL i)=0
 nodes:∀ i,i<p.nn→kj p i (p.nd i)=0
 states:∀ i,i<p.ns→wC p i (p.st i)=0
 res:0≤p.res∧p.res<p.nn∧iQ p p.res≠1
@[simp] theorem Sy (E:TypeId)(o:Option (List (List DV)))(g:Key→Key):(c6 E o).bU g=c6 E o:=by
 cases o with
 | none=>rfl
 | some es=>simp only [c6,LB.lI,CC]
@[simp] theorem SV (E:TypeId)(o:Option (List (List DV)))(b:Bool):(c6 E o).fix b=c6 E o:=by cases o <;> rfl
theorem mj (E:TypeId)(o:Option (List (List DV))):c6 E o≠.hole:=by cases o <;> (intro h;cases h)
theorem PG (E:TypeId)(o:Option (List (List DV)))(g:Key→Key):(c6 E o).like (c6 E o) g:=by
 cases o with
 | none=>rfl
 | some es=>exact fk E es g
abbrev lP (p:PD)(a b c d:Key):List CV:=[.aR a 0 p.nf 2,.d (.int .i64 p.mode),.aR b 0 p.ni 3,.aR c 0 p.nn 7,.d (.int .i64 p.head),.d (.int .i64 p.tail),.aR d 0 p.ns 2,.d (.int .i64 p.res)]
structure PD.nh (p:PD):Prop where
 f:p.nf≤1000
 i:p.ni≤1000
 n:p.nn≤1000
 s:p.ns≤1000
theorem qJ (a b c d e f g h:CV):eN Tryz.prog 27 [a,b,c,d,e,f,g,h]=some (.agg [a,b,c,d,e,f,g,h]):=by kernel_rfl
theorem s8 (G:List (List DV))(p:PD)(hp:p.ok)(ht:p.nh):aF Tryz.prog G 78 [p.A] [] (.ret (.agg (lP p 1000 1001 1002 1003)) [] [c6 81 p.f,c6 67 p.ins,c6 55 p.nodes,c6 69 p.states]):=by
 have c1:=Cs G p.f (fun e he=>gQ (hp.f e he)) (WN ht.f (by decide));have c2:=Dr G p.ins (fun e he=>oY (hp.ins e he)) (WN ht.i (by decide));have c3:=A3 G p.nodes (fun e he=>o8 (hp.nodes e he)) (WN ht.n (by decide));have c4:=BH G p.states (fun e he=>gQ (hp.states e he)) (WN ht.s (by decide));refine aF.Pv Tryz.func78 rfl fun _=>aab ?_;refine aaa fun K hK=>?_;refine aap mixed (by kernel_rfl) rfl ?_;simp;refine ag.A4 3 19 [2] [c6 81 p.f] c1 (by simp) (by simp) (by simp) rfl (by simp) (by simp) (by simp [mj]) ?_;simp [cj,aJ];refine ag.A4 4 19 [3] [c6 67 p.ins] c2 (by simp) (by simp) (by simp) rfl (by simp) (by simp) (by simp [mj]) ?_;simp [cj,aJ,aj];refine⟨by kernel_rfl,?_⟩;apply hK;refine aaa fun K hK=>?_;refine aap mixed (by kernel_rfl) rfl ?_;simp;refine ag.A4 5 19 [4] [c6 55 p.nodes] c3 (by simp) (by simp) (by simp) rfl (by simp) (by simp) (by simp [mj]) ?_;simp [cj,aJ];refine ag.A4 6 19 [5] [c6 69 p.states] c4 (by simp) (by simp) (by simp) rfl (by simp) (by simp) (by simp [mj]) ?_;simp [cj,aJ,aj];refine⟨by kernel_rfl,?_⟩;apply hK;refine aab ?_;refine aam (κ:=0) ⟨[(1000,2,c6 81 p.f),(1001,3,c6 67 p.ins),(1002,4,c6 55 p.nodes),(1003,5,c6 69 p.states)],19,jg _ _ _ _,by simp,by simp,by simp,?_,rfl,?_⟩
 ·simp [PG]
 ·show cH _ _ [.cell 2 27]=_;simp [cH,iK,ki,c7,aj,PD.nf,PD.ni,PD.nn,PD.ns]
theorem aa.Jc{us:List AV}{X:AV}{ν:List LB}{ks:List Key}(h:aF P G f us [] (.ret X [] ν)) (hd:fR (bz [] ν) X=some (x,ks)):aa P G f us x:=by
 refine aa.yc (lv':=bz [] ν) (fun F β w vs hS hl hv=>?_) hd;have hlv:bz [] []=fun _=>LB.hole:=gp
 have h2:=h F β w vs (by rw [hlv];exact hS) hl (by rw [hlv];exact hv);refine h2.mono fun e w' he=>?_;obtain⟨v,F',β',h3,h4,h5⟩:=he;exact⟨v,F',β',h3,by rw [hlv] at h4;exact h4,h5⟩
theorem lJ{E:TypeId}(h:lv k=c6 E o) (hs:∀ e∈sO o,e.length=sz) (hl:(sO o).length≤1000) :
 cU lv (n+1) (.aR k 0 (sO o).length sz)=some (sD o,if o.isSome then [k] else []):=by
 cases o with
 | none=>simp only [c6] at h;simp only [cU,h];rfl
 | some es=>
  simp only [c6] at h;have hs:∀ e∈es,e.length=sz:=hs;have hl:es.length≤1000:=hl;have h1:=oK (sz:=sz) h hs (by omega);show cU lv (n+1) (.aR k 0 es.length sz)=some (.sl es,[k])
  have hlen:es.flatten.length=es.length*sz:=by
   rw [List.length_flatten]
   have:∀ l:List (List DV),(∀ e∈l,e.length=sz)→(l.map List.length).sum=l.length*sz:=by
    intro l
    induction l with
    | nil=>intro _;simp
    | cons a l ih=>intro h;simp [ih fun x hx=>h x (by simp [hx]),h a (by simp),Nat.succ_mul];omega
   exact this es hs
  have ht:(es.flatten.map CV.d).take (es.length*sz)=es.flatten.map CV.d:=X6 (by rw [W6,hlen];exact bg _);have hl2:es.length≤9223372036854775807:=by omega
  simp only [cU,h,W6,hlen,W5,bg,hl2,and_self,if_true,fQ,ht,sV,W4,qo es hs]
theorem Ap{a b c d:Key}(hp:p.ok) (ht:p.nh) (h1:lv a=c6 81 p.f) (h2:lv b=c6 67 p.ins) (h3:lv c=c6 55 p.nodes) (h4:lv d=c6 69 p.states) :
 eC lv (.agg (lP p a b c d))=some (p.A,(if p.f.isSome then [a] else [])++((if p.ins.isSome then [b] else [])++((if p.nodes.isSome then [c] else [])++(if p.states.isSome then [d] else [])))):=by
 have e1:=lJ (n:=7) h1 (fun e he=>gQ (hp.f e he)) ht.f;have e2:=lJ (n:=7) h2 (fun e he=>oY (hp.ins e he)) ht.i;have e3:=lJ (n:=7) h3 (fun e he=>o8 (hp.nodes e he)) ht.n;have e4:=lJ (n:=7) h4 (fun e he=>gQ (hp.states e he)) ht.s;have f1:∀ n:Int,cU lv 8 (.d (.int .i64 n))=some (.int .i64 n,[]):=fun n=>rfl
 simp only [eC,PD.nf,PD.ni,PD.nn,PD.ns,fU,e1,e2,e3,e4,f1,W4,XD,X5];show some (AV.agg (p.Gx.map CV.d),_)=_;rw [FP]
theorem Im (G:List (List DV))(p:PD)(hp:p.ok)(ht:p.nh):aa Tryz.prog G 78 [p.A] p.A:=
 aa.Jc (s8 G p hp ht) (Ap hp ht (by rw [jg];simp) (by rw [jg];simp) (by rw [jg];simp) (by rw [jg];simp))
def iD:PD:=⟨none,0,none,none,0,0,none,0⟩
theorem zv:gC Tryz.prog 27 [] []=some (.agg iD.cs,[],[],True):=by kernel_rfl
theorem de (lv:Key→LB)(p:PD)(n:Int):fR lv (.tup [p.A,.c (.d (.int .i64 n))])=some (.tup [p.A,.c (.d (.int .i64 n))],[]):=by
 obtain⟨f,a,i,nn,b,c,s,d⟩:=p
 cases f <;> cases i <;> cases nn <;> cases s <;> rfl
@[simp] theorem PD.V6 (p:PD)(n:Int):(AV.tup [.agg [dL p.f,.d (.int .i64 p.mode),dL p.ins,dL p.nodes,.d (.int .i64 p.head),.d (.int .i64 p.tail),dL p.states,.d (.int .i64 p.res)],.c (.d (.int .i64 n))]).pure=true:=by
 obtain⟨f,a,i,nn,b,c,s,d⟩:=p
 cases f <;> cases i <;> cases nn <;> cases s <;> rfl
theorem lD(h:(bK p).2.2=0):p.nh:=by
 have:=oT (AR h);exact⟨by omega,by omega,by omega,by omega⟩
theorem kW{w:World}{F W:Nat→Prop}{lf:Key→LB}{b:Key→Nat}{fn:Func}{q:PD}{e:Int}{u:Nat}{s:aB}(hP:P=Tryz.prog) (hr:fn.results=#[.cell t 27,.tmp u]) (k:Key) (ht:s.fr t=.c (.ptr k 0):=by simp) (hk:s.lv k=.cells true false 27 q.cs:=by simp [aj]) (hu:s.fr u=.c (.d (.int .i64 e)):=by simp) :
 bD ⟨P,G,w,F,W,n,lf,b⟩ fn (.tup [q.A,.c (.d (.int .i64 e))]) .ret s 0:=by
 subst hP;refine bD.hO (κ:=0) (T:=27) (k:=k) (off:=0) (own:=true) (fz:=false) (U:=27) (cs:=q.cs) hr ht hk ?_ hu rfl rfl;rw [fQ];exact qJ ..
def nj (p:PD):PD:=if (bK p).2.2=0 then p else iD
theorem xC (m:Int)(p:PD)(hp:p.ok):aa Tryz.prog (GG m) 105 [p.A] (.tup [(nj p).A,.c (.d (.int .i64 (bK p).2.2))]):=by
 have h:=sG m p hp
 by_cases h0:(bK p).2.2=0
 ·have e:nj p=p:=if_pos h0;rw [e];rw [h0] at h ⊢;refine aa.enc Tryz.func105 rfl (fun lv=>de lv _ _) fun _=>aab ?_;refine aaa fun K hK=>aaq 2 h ?_;refine aab ?_;refine aag (aac (hK _ _ (aab ?_)));refine aam ?_;refine bD.hO (κ:=0) (T:=27) (t:=2) (u:=3) (k:=1) (off:=0) (own:=true) (fz:=false) (U:=27) (cs:=p.cs) rfl ?_ ?_ ?_ ?_ rfl rfl
  ·simp
  ·simp [aj]
  ·rw [fQ];exact qJ ..
  ·simp
 ·have e:nj p=iD:=if_neg h0;rw [e];refine aa.enc Tryz.func105 rfl (fun lv=>de lv _ _) fun _=>aab ?_;refine aaa fun K hK=>aav 2 h h0 ?_;refine aab ?_;refine aai (by simp [h0] <;> omega) (aal zv ?_);exact aad (kW rfl rfl 1)
def PD.oy (p:PD)(n:Int):PD:=⟨p.f,p.mode,p.ins,p.nodes,p.head,p.tail,p.states,n⟩
def lH (p:PD)(n:Int):PD × Int:=if (bK p).2.2≠0 then (iD,(bK p).2.2) else if 0≤n∧n<p.nn∧iQ p n≠1 then (p.oy n,0) else (iD,7)
theorem PI (m:Int)(p:PD)(hp:p.ok)(n:Int):aa Tryz.prog (GG m) 39 [p.A,.c (.d (.int .i64 n))] (.tup [(lH p n).1.A,.c (.d (.int .i64 (lH p n).2))]):=by
 have h:=sG m p hp
 by_cases h0:(bK p).2.2=0
 rotate_left
 ·have e:lH p n=(iD,(bK p).2.2):=if_pos h0;rw [e];refine aa.enc Tryz.func39 rfl (fun lv=>de lv _ _) fun _=>aab ?_;refine aaa fun K hK=>aav 2 h h0 ?_;refine aab ?_;refine aai (by simp [h0] <;> omega) (aal zv ?_);exact aad (kW rfl rfl 1)
 have ht:=lD h0;have hcl:=Im (GG m) p hp ht;have hwi:=gy (GG m) n p.nn;have hse:=mL (GG m) p n;rw [h0] at h;have e0:lH p n=if 0≤n∧n<p.nn∧iQ p n≠1 then (p.oy n,0) else (iD,7):=if_neg (not_not_intro h0)
 by_cases h1:0≤n∧n<p.nn
 rotate_left
 ·have e:lH p n=(iD,7):=by rw [e0,if_neg (fun h=>h1 ⟨h.1,h.2.1⟩)]
  have hd:decide (0≤n∧n<(p.nn:Int))=false:=decide_eq_false h1;rw [hd] at hwi;rw [e];refine aa.enc Tryz.func39 rfl (fun lv=>de lv _ _) fun _=>aab ?_;refine aaa fun K hK=>aaq 2 h ?_;refine aab ?_;refine aag (aac (hK _ _ (aaa fun K hK=>aav 2 hwi @fC ?_)));refine aah (aal zv ?_);exact aad (kW rfl rfl 1)
 have hd:decide (0≤n∧n<(p.nn:Int))=true:=decide_eq_true h1;rw [hd] at hwi
 by_cases h2:iQ p n=1
 ·have e:lH p n=(iD,7):=by rw [e0,if_neg (fun h=>h.2.2 h2)]
  rw [h2] at hse;rw [e];refine aa.enc Tryz.func39 rfl (fun lv=>de lv _ _) fun _=>aab ?_;refine aaa fun K hK=>aaq 2 h ?_;refine aab ?_;refine aag (aac (hK _ _ (aaa fun K hK=>aak fun K1 hK1=>?_)));simp [fC];refine ag.p 2 9 hwi ?_;simp [MC];refine ag.p 2 9 hse ?_;simp;apply hK1;refine aah (aal zv ?_);exact aad (kW rfl rfl 1)
 ·have e:lH p n=(p.oy n,0):=by rw [e0,if_pos ⟨h1.1,h1.2,h2⟩]
  rw [e];refine aa.enc Tryz.func39 rfl (fun lv=>de lv _ _) fun _=>aab ?_;refine aaa fun K hK=>aaq 2 h ?_;refine aab ?_;refine aag (aac (hK _ _ (aaa fun K hK=>aak fun K1 hK1=>?_)));simp [fC];refine ag.p 2 9 hwi ?_;simp [MC];refine ag.p 2 9 hse ?_;simp [h2];apply hK1;refine aaj (by simp [h2] <;> omega) (aac (hK _ _ (aaq 2 hcl ?_)));refine aal @aj.eq_1 ?_;refine aab ?_;refine aam ?_;refine bD.hO (κ:=0) (T:=27) (t:=4) (u:=5) (k:=1) (off:=0) (own:=true) (fz:=false) (U:=27) (cs:=(p.oy n).cs) rfl ?_ ?_ ?_ ?_ rfl rfl
  ·simp
  ·simp [aj,PD.oy]
  ·rw [fQ];exact qJ ..
  ·simp
def yb (l:List Nd):List CV:=(l.flatMap Nd.e).map CV.d
def vD (l:List In):List CV:=(l.flatMap In.e).map CV.d
theorem qz {α:Type}(a b xs:List α) (k:Nat):aj (a++b) (a.length+k) xs=a++aj b k xs:=by
 have e1:(a++b).take (a.length+k)=a++b.take k:=by rw [List.take_append,X6 (by omega),XN]
 have e2:(a++b).drop (a.length+k+xs.length)=b.drop (k+xs.length):=by rw [List.drop_append,Ye (by omega),X5,XK,XN]
 simp only [aj,e1,e2,WY]
theorem rJ (n:Nd)(l:List Nd):yb (n::l)=[CV.d (.int .i64 n.op),.d (.int .i64 n.a),.d (.int .i64 n.b),.d (.int .i64 n.c),.d (.int .i64 n.d),.d (.int .i64 n.f),.d (.str n.v)]++yb l:=by
 simp [yb]
theorem r9 (n:In)(l:List In):vD (n::l)=[CV.d (.int .i64 n.f),.d (.str n.lo),.d (.str n.hi)]++vD l:=by
 simp [vD]
def Nd.OY (n:Nd)(x:Int):Nd:=⟨n.op,n.a,n.b,n.c,n.d,x,n.v⟩
def In.OU (n:In)(a b:List UInt8):In:=⟨n.f,a,b⟩
theorem G5:∀ (l:List Nd) (i:Nat) (x:Int) (n:Nd),l[i]?=some n→aj (yb l) (i*7+5) [CV.d (.int .i64 x)]=yb (l.set i (n.OY x))
 | [],i,x,n,h=>by cases h
 | a::l,0,x,n,h=>by
  simp only [Yl,ai] at h;subst h;simp [rJ,aj,Nd.OY]
 | a::l,i+1,x,n,h=>by
  have ih:=G5 l i x n (by simpa using h);rw [rJ,show (i+1)*7+5=[CV.d (.int .i64 a.op),.d (.int .i64 a.a),.d (.int .i64 a.b),.d (.int .i64 a.c),.d (.int .i64 a.d),.d (.int .i64 a.f),.d (.str a.v)].length+(i*7+5) by simp;omega,qz,ih,List.set_cons_succ,rJ]
theorem F5:∀ (l:List In) (i:Nat) (x y:List UInt8) (n:In),l[i]?=some n→aj (aj (vD l) (i*3+1) [CV.d (.str x)]) (i*3+2) [CV.d (.str y)]=vD (l.set i (n.OU x y))
 | [],i,x,y,n,h=>by cases h
 | a::l,0,x,y,n,h=>by
  simp only [Yl,ai] at h;subst h;simp [r9,aj,In.OU]
 | a::l,i+1,x,y,n,h=>by
  have ih:=F5 l i x y n (by simpa using h)
  rw [r9,show (i+1)*3+1=[CV.d (.int .i64 a.f),.d (.str a.lo),.d (.str a.hi)].length+(i*3+1) by simp;omega,qz,
   show (i+1)*3+2=[CV.d (.int .i64 a.f),.d (.str a.lo),.d (.str a.hi)].length+(i*3+2) by simp;omega,qz,ih,List.set_cons_succ,r9]
theorem GY (l:List Nd):(yb l).length=l.length*7:=by
 induction l with
 | nil=>rfl
 | cons a l ih=>rw [rJ,WW,ih];simp;omega
theorem vQ (l:List In):(vD l).length=l.length*3:=by
 induction l with
 | nil=>rfl
 | cons a l ih=>rw [r9,WW,ih];simp;omega
def PD.N (p:PD):List Nd:=(sO p.nodes).map O3
def PD.I (p:PD):List In:=(sO p.ins).map Pg
theorem PD.Ws(hp:p.ok):p.N.map Nd.e=sO p.nodes:=by
 unfold PD.N;rw [Xc]
 conv=>rhs;rw [← Yw (sO p.nodes)]
 exact Xj fun e he=>(IQ (hp.nodes e he)).symm
theorem PD.WA(hp:p.ok):p.I.map In.e=sO p.ins:=by
 unfold PD.I;rw [Xc]
 conv=>rhs;rw [← Yw (sO p.ins)]
 exact Xj fun e he=>(J5 (hp.ins e he)).symm
theorem PD.So(hp:p.ok):(sO p.nodes).flatten.map CV.d=yb p.N:=by
 unfold yb;rw [← PD.Ws hp,YS]
theorem PD.Rn(hp:p.ok):(sO p.ins).flatten.map CV.d=vD p.I:=by
 unfold vD;rw [← PD.WA hp,YS]
theorem PD.Af (p:PD):p.N.length=p.nn:=by simp [PD.N,PD.nn]
theorem PD.uq (p:PD):p.I.length=p.ni:=by simp [PD.I,PD.ni]
theorem NG (a b:LB):bz [] [a,b]=aC (aC (fun _=>.hole) 1000 a) 1001 b:=by
 have h:=Ls [] [a] b;rw [show [a]++[b]=[a,b] from rfl,mD] at h;exact h
def PD.nz (p:PD):PD:=⟨some (sO p.f),p.mode,some (sO p.ins),some (sO p.nodes),p.head,p.tail,some (sO p.states),p.res⟩
theorem PD.F9(hp:p.ok):p.nz.ok:=⟨hp.f,hp.ins,hp.nodes,hp.states⟩
theorem Pr (p:PD):bK p.nz=bK p:=rfl
theorem PD.ND(h:p.nh):p.nz.nh:=⟨h.f,h.i,h.n,h.s⟩
theorem BX (o:Option (List (List DV))):keyOf (.c (dL o))=[]:=by cases o <;> rfl
theorem wu(h:∀ e∈sO o,e.length=sz):dY lv sz (.c (dL o))=some ((sO o).length,(sO o).flatten.map CV.d):=by
 cases o with
 | none=>rfl
 | some es=>exact jj h
theorem Mb (G:List (List DV))(p:PD)(hp:p.ok)(ht:p.nh):aF Tryz.prog G 53 [p.A] [] (.ret (.agg [.aR 1000 0 p.nf 2,.d (.int .i64 p.mode),.aR 1001 0 p.ni 3,.d .nilsl,.d (.int .i64 0),.d (.int .i64 0),.d .nilsl,.d (.int .i64 0)]) [] [c6 81 p.nz.f,c6 67 p.nz.ins]):=by
 have s1:∀ lv,dY lv 2 (.c (dL p.f))=some (p.nf,(sO p.f).flatten.map CV.d):=fun lv=>wu fun e he=>gQ (hp.f e he)
 have s2:∀ lv,dY lv 3 (.c (dL p.ins))=some (p.ni,(sO p.ins).flatten.map CV.d):=fun lv=>wu fun e he=>oY (hp.ins e he)
 have t1:=ht.f;have t2:=ht.i;have b27':∀ a b c:CV,gC Tryz.prog 27 [0,1,2] [.c a,.c b,.c c]=some (.agg [a,b,c,.d .nilsl,.d (.int .i64 0),.d (.int .i64 0),.d .nilsl,.d (.int .i64 0)],[],[],True):=fun a b c=>by kernel_rfl
 refine aF.Pv Tryz.func53 rfl fun _=>aab ?_;refine aaa fun K hK=>?_;refine aap mixed (by kernel_rfl) rfl ?_;simp [s1,s2,b27',iJ,eR,BX,aj,-List.map_flatten]
 repeat refine ah ?_
 refine⟨by kernel_rfl,?_⟩;apply hK;refine aam (κ:=0) ⟨[(1000,3,c6 81 p.nz.f),(1001,5,c6 67 p.nz.ins)],19,NG _ _,by simp,by simp,by simp,?_,rfl,?_⟩
 ·simp [c6,PD.nz,fk,-List.map_flatten]
 ·show cH _ _ [.cell 2 27]=_;simp [cH,iK,ki,c7]
theorem AP (G:List (List DV))(p:PD)(hp:p.ok)(ht:p.nh):aF Tryz.prog G 104 [p.A] [] (.ret (.agg (lP p 1000 1001 1002 1003)) [] [c6 81 p.nz.f,c6 67 p.nz.ins,c6 55 p.nz.nodes,c6 69 p.nz.states]):=by
 have hb:=Mb G p hp ht;have s1:∀ lv,dY lv 7 (.c (dL p.nodes))=some (p.nn,(sO p.nodes).flatten.map CV.d):=fun lv=>wu fun e he=>o8 (hp.nodes e he)
 have s2:∀ lv,dY lv 2 (.c (dL p.states))=some (p.ns,(sO p.states).flatten.map CV.d):=fun lv=>wu fun e he=>gQ (hp.states e he)
 have t1:=ht.n;have t2:=ht.s;refine aF.Pv Tryz.func104 rfl fun _=>aab ?_;refine aak fun K hK=>?_;simp;refine ag.A4 4 19 [2,3] [c6 81 p.nz.f,c6 67 p.nz.ins] hb (by simp) (by simp) (by simp) rfl (by simp) (by simp) (by simp [mj]) ?_;simp [cj,aJ,aS,aj];apply hK;refine aaa fun K hK=>?_;refine aap mixed (by kernel_rfl) rfl ?_;simp [s1,s2,iJ,eR,BX,aj,-List.map_flatten]
 repeat refine ah ?_
 refine⟨by kernel_rfl,?_⟩;apply hK;refine AW.d1 mixed @aj.eq_1 ?_;refine aal @aj.eq_1 ?_;refine aam (κ:=0) ⟨[(1000,2,c6 81 p.nz.f),(1001,3,c6 67 p.nz.ins),(1002,7,c6 55 p.nz.nodes),(1003,9,c6 69 p.nz.states)],19,jg _ _ _ _,by simp,by simp,by simp,?_,rfl,?_⟩
 ·intro e he;simp only [WM,Xh,or_false] at he;rcases he with rfl|rfl|rfl|rfl
  ·exact fk 81 _ _
  ·exact fk 67 _ _
  ·show LB.like (.cells true false 55 ((sO p.nodes).map (List.map CV.d)).flatten) _ _;rw [← List.map_flatten];exact fk 55 _ _
  ·show LB.like (.cells true false 69 ((sO p.states).map (List.map CV.d)).flatten) _ _;rw [← List.map_flatten];exact fk 69 _ _
 ·show cH _ _ [.cell 2 27]=_;simp [cH,iK,ki,c7]
theorem NB(h:ok B l) (ht:l=[]∨B ^ (l.length - 1)≤val B l):can B l:=by
 refine⟨h,fun x hx=>?_⟩;rcases Yx l with rfl|⟨xs,y,rfl⟩
 ·cases hx
 ·rw [Yy] at *
  simp only [List.getLast?_append,List.getLast?_singleton,Option.some_or,ai] at hx;subst hx;intro h0;subst h0;rcases ht with e|ht
  ·simp at e
  ·rw [eK] at ht;simp only [WW,Xy,Y8,XI,Xn] at ht;have:=eY (b8.1 h).1;omega
theorem FJ(h:can B l) (h0:l≠[]):B ^ (l.length - 1)≤val B l:=by
 rcases Yx l with rfl|⟨xs,y,rfl⟩
 ·exact absurd rfl h0
 ·rw [Yy] at *
  have hy:y≠0:=h.2 y (by simp);rw [eK];simp only [WW,Xy,Y8];have:B ^ xs.length*1≤B ^ xs.length*y:=Xd _ (by omega);omega
def rC:Option (List Nat)→CV
 | none=>.d .nilsl
 | some l=>.d (.sl (dK .i64 l))
theorem fG (o:Option (List Nat)):nK .i64 o=.c (rC o):=by cases o <;> rfl
@[simp] theorem eW (lv:Key→LB)(s:Int)(p q:Option (List Nat)):fR lv (.agg [.d (.int .i64 s),rC p,rC q])=some (.agg [.d (.int .i64 s),rC p,rC q],[]):=by
 cases p <;> cases q <;> rfl
@[simp] theorem SM (o:Option (List Nat)):(rC o).pure=true:=by cases o <;> rfl
@[simp] theorem Rh (o:Option (List Nat)):(AV.c (rC o)).bY=true:=by cases o <;> rfl
@[simp] theorem RS (o:Option (List Nat)):(AV.c (rC o)).pure=true:=by cases o <;> rfl
@[simp] theorem Vf (o:Option (List Nat))(g:Key→Key):(rC o).bU g=rC o:=by cases o <;> rfl
abbrev rA (s:Int)(p q:Option (List Nat)):AV:=.agg [.d (.int .i64 s),rC p,rC q]
@[simp] theorem SO (s:Int)(p q:Option (List Nat)):(AV.agg [.d (.int .i64 s),rC p,rC q]).pure=true:=by cases p <;> cases q <;> rfl
theorem Sk:gC Tryz.prog 215 [] []=some (.agg [.d (.int .i64 0),.d .nilsl,.d .nilsl],[],[],True):=by kernel_rfl
theorem bR (b p q:CV):gC Tryz.prog 215 [0,1,2] [.c b,.c p,.c q]=some (.agg [b,p,q],[],[],True):=by kernel_rfl
theorem iN (b p q:CV):eN Tryz.prog 215 [b,p,q]=some (.agg [b,p,q]):=by kernel_rfl
theorem CL (lv:Key→LB)(κ:Key)(h:lv κ=.hole)(a:CV):au Tryz.prog 213 1 [0] lv κ [.c a]=some (.c (.aR κ 0 1 1),[(κ,.cells true false 2 [a])],[],True):=by
 unfold au;rw [h];kernel_rfl
theorem tN (x k:Nat):(x:Int).tmod (k:Int)=((x % k:Nat):Int):=by rw [Y6 (by omega)];omega
theorem mM (x k:Nat):(x:Int).tdiv (k:Int)=((x / k:Nat):Int):=by rw [Y5 (by omega)];omega
theorem GC{κ:Key}{k:IntKind}(h:lv κ=.cells own fz T (wK k l)) (hl:l.length≤9223372036854775807):fR lv (.c (.aR κ 0 l.length 1))=some (nK k (some l),[κ]):=By h hl
theorem Ds (G:List (List DV)):aa Tryz.prog G 221 [] (nK .i64 (some [1])):=by
 refine aa.ed Tryz.func221 rfl fun _=>aab ?_;refine aak fun K hK=>?_;simp [CL,-au];apply hK;refine aam (κ:=0) (jr.tmp (κ:=0) (X:=.c (.aR 0 0 1 1)) (ks:=[0]) rfl (by simp) ?_);exact GC (own:=true) (fz:=false) (T:=2) (l:=[1]) (by simp [wK]) (by simp)
def KY (s:Int)(q:Option (List Nat)):Option (List Nat):=if s=0 then some [1] else q
theorem B6 (G:List (List DV))(s:Int)(p q:Option (List Nat)):aa Tryz.prog G 249 [rA s p q] (.c (rC (KY s q))):=by
 have h1:=Ds G;rw [fG] at h1;refine aa.en Tryz.func249 rfl fun _=>aab ?_;refine aaa fun K hK=>aab ?_
 by_cases hs:s=0
 ·refine aai (by simp [hs] <;> omega) (aaq 1 h1 ?_);exact aad (aq.rt (t:=2) rfl 9 (by simp [KY,hs]))
 ·refine aaj (by simp [hs] <;> omega) (aac (hK _ _ (aab ?_)));exact aad (aq.rt (t:=2) rfl 9 (by simp [KY,hs]))
theorem iY (G:List (List DV))(l:List Nat)(hl:l.length≤1000000000000):aa Tryz.prog G 289 [nK .i64 (some l)] (nK .i64 (some (cS l))):=by
 have dKl:∀ (l:List Nat),∀ e∈dK .i64 l,e.length=1:=by
  intro l e he;obtain⟨x,_,rfl⟩:=List.mem_map.1 he;rfl
 refine aa.en Tryz.func289 rfl fun _=>aab ?_;refine aaa fun K hK=>aaf ?_;refine aao (fun l'=>⟨bf [(0,nK .i64 (some l'))],fun _=>.hole⟩) 0 (fun l'=>l'.length≤l.length∧N.cS l'=N.cS l) (fun l'=>l'.length) l (Le.slots _ (by simp) (by simp)) (by simp) ?_;rintro l' ⟨h0,h1⟩
 have fin:∀ (fr:Nat→AV) (κ:Nat),fr 0=nK .i64 (some (N.cS l))→K ⟨fr,fun _=>.hole⟩ κ:=by
  intro fr κ h;apply hK;refine aab ?_;exact aam (aq.tmp rfl 0 (by simp [h]) rfl rfl (by simp))
 refine aaa fun K2 hK2=>aaa fun K3 hK3=>?_;refine aar rfl ?_;rcases Yx l' with rfl|⟨xs,x,rfl⟩
 ·simp;apply hK3;refine aag (aan ?_);simp;apply fin;simp [← h1]
 ·rw [Yy] at *
  have h3:xs.length+1≤1000000000000:=by simp at h0;omega
  have h4:IntKind.i64.wrap ((xs.length:Int))=xs.length:=bG (by omega) (by omega);have h2:(0:Int)<(xs.length:Int)+1:=by omega
  by_cases hx:x=0
  ·subst hx;simp [nK,dK,eA,kH,Bx,KV,h2,h4]
   repeat refine ah ?_
   apply hK3;refine aah (aac (hK2 _ _ (aaf (aae ?_))));simp [nK,dK,eA,kH,Bx,h2,h4];refine⟨⟨by omega,fun e he=>?_⟩,?_⟩
   ·rcases he with ⟨y,_,rfl⟩|rfl <;> rfl
   refine⟨xs,Le.slots [(0,nK .i64 (some xs))] (by simp [nK,dK]) (by simp),⟨by simp at h0;omega,by rw [← h1,hJ]⟩,by omega⟩
  ·have hx':¬ ((x:Int)=0):=by omega
   simp [nK,dK,eA,kH,Bx,KV,h2,h4,hx']
   repeat refine ah ?_
   apply hK3;refine aaj (by simp [hx] <;> omega) (aan ?_);simp;apply fin;simp [nK,dK,← h1,je hx]
theorem m4 (G:List (List DV)){a b:Option (List Nat)}(ha:can 1000000000 (dO a)) (hb:can 1000000000 (dO b)):aa Tryz.prog G 247 [nK .i64 a,nK .i64 b] (.c (.d (.int .i64 (dG (val 1000000000 (dO a)) (val 1000000000 (dO b)))))):=by
 refine aF.jq 0 (by simp) (fun V v h=>gY h) fun hra=>?_;refine aF.jq 1 (by simp) (fun V v h=>gY h) fun hrb=>?_;refine aa.en Tryz.func247 rfl fun _=>aab ?_;refine aaa fun K hK=>aab ?_
 by_cases hl:(dO a).length=(dO b).length
 ·refine aaj (by simp [hl] <;> omega) (aac (hK _ _ (aaa fun K hK=>aak fun K1 hK1=>?_)));simp;have e1:=bG (n:=((dO a).length:Int) - 1) (by omega) (by omega);simp only [e1];apply hK1;refine aaf ?_;refine aao (fun (k:Nat)=>⟨bf [(0,nK .i64 a),(1,nK .i64 b),(5,.c (.d (.int .i64 ((k:Int) - 1))))],fun _=>.hole⟩) 0 (fun k=>k≤(dO a).length∧(dO a).drop k=(dO b).drop k) (fun k=>k) (dO a).length (Le.mk' _ rfl aX (by simp)) ⟨bg _,by rw [List.drop_length,hl,List.drop_length]⟩ ?_;rintro k ⟨h1,h2⟩;refine aaa fun K3 hK3=>aab ?_
  cases k with
  | zero=>
   refine aag (aan (hK _ _ (aab ?_)));simp only [fQ] at h2;exact aad (aq.rt rfl 0 (by simp [mo (congrArg (val 1000000000) h2)]))
  | succ k=>
   have h3:k<(dO b).length:=by omega
   have h4:k<(dO a).length:=by omega
   have e2:((k+1:Nat):Int) - 1=k:=by omega
   simp only [e2];refine aah (aac (hK3 _ _ (aaa fun K5 hK5=>aaf (aaa fun K6 hK6=>aaa fun K7 hK7=>?_))));refine aaw mixed (by kernel_rfl) rfl rfl ?_;simp [h3,h4];apply hK7
   by_cases hlt:(dO a)[k]<(dO b)[k]
   ·refine aai (by simp [hlt] <;> omega) (aaa fun K7 hK7=>aaA (hK7 _ _ ?_));have:=oQ ha.1 h4 h3 h2 hlt;exact aad (aq.rt rfl 0 (by simp [jh this]))
   ·refine aaj (by simp [hlt] <;> omega) (aac (hK6 _ _ (aaa fun K7 hK7=>?_)));refine aaw mixed (by kernel_rfl) rfl rfl ?_;simp [h3,h4];apply hK7
    by_cases hgt:(dO b)[k]<(dO a)[k]
    ·refine aai (by simp [hgt] <;> omega) (aaa fun K7 hK7=>aaA (hK7 _ _ ?_));have:=oQ hb.1 h3 h4 h2.symm hgt;exact aad (aq.rt rfl 0 (by simp [jI this]))
    ·refine aaj (by simp [hgt] <;> omega) (aac (hK5 _ _ (aae ?_)));simp;have e3:=bG (n:=(k:Int) - 1) (by omega) (by omega);simp [e3];have he:(dO a)[k]=(dO b)[k]:=by omega
     refine⟨k,Le.mk' _ (by simp) (by simp) (by simp [e3]),⟨by omega,?_⟩,by omega⟩;rw [XG h4,XG h3,he,h2]
 ·refine aai (by simp [hl] <;> omega) (aaa fun K2 hK2=>aab ?_)
  by_cases hlt:(dO a).length<(dO b).length
  ·refine aai (by simp [hlt] <;> omega) (aab ?_);exact aad (aq.rt rfl 0 (by simp [jh (j6 (by omega) ha hb hlt)]))
  ·refine aaj (by simp [hlt] <;> omega) (aac (hK2 _ _ (aab ?_)));exact aad (aq.rt rfl 0 (by simp [jI (j6 (by omega) hb ha (by omega))]))
theorem LI (G:List (List DV))(a:Option (List Nat)):aa Tryz.prog G 321 [nK .i64 a] (.c (.d (.bool (decide (val 1000000000 (dO a) % 2=1))))):=by
 refine aa.en Tryz.func321 rfl fun _=>aab ?_;refine aaa fun K hK=>?_
 cases hd:dO a with
 | nil=>
  have h1:(dO a).length=0:=by rw [hd];rfl
  refine aat h1 (hK _ _ ?_);exact aad (aq.rt rfl 0 (by simp [hd]))
 | cons x l=>
  have h1:0<(dO a).length:=by rw [hd];simp
  have h1':(0:Int)<((dO a).length:Int):=by omega
  have h2:(dO a)[0]=x:=by simp [hd]
  have h4:=fV (P:=Tryz.prog) (T:=213) (lv:=fun _=>.hole) (k:=.i64) (k':=.i64) (o:=a) (i:=0) (by simp) h1;simp only [Y7,h2] at h4;have h5:(x:Int).tmod 2=((x % 2:Nat):Int):=tN x 2;have h6:val 1000000000 (dO a) % 2=x % 2:=by rw [hd,bH];omega
  refine aaE h1 h1' h4 h5 (hK _ _ ?_);rw [h6];have h7:(x:Int) % 2=1↔x % 2=1:=by omega
  exact aad (aq.rt rfl 0 (by simp [h7]))
theorem AY (k:IntKind)(l:List Nat)(x:Nat):wK k l++[CV.d (.int k (x:Int))]=wK k (l++[x]):=by simp [wK]
theorem PL (k:IntKind)(l:List Nat)(g:Key→Key):(wK k l).map (CV.bU g)=wK k l:=by unfold wK;rw [Xc];rfl
theorem j9 (k:IntKind)(T:TypeId)(l:List Nat)(g:Key→Key):(LB.cells true false T (wK k l)).like (.cells true false T (wK k l)) g:=LB.mF.2 ⟨rfl,rfl,(PL k l g).symm,id⟩
theorem I8 (G:List (List DV))(a b:Option (List Nat))(ha:can 1000000000 (dO a))(hb:can 1000000000 (dO b))(hal:(dO a).length≤1000000)(hbl:(dO b).length≤1000000) :
 aa Tryz.prog G 324 [nK .i64 a,nK .i64 b] (nK .i64 (some (aI 1000000000 (val 1000000000 (dO a)+val 1000000000 (dO b))))):=by
 have hbs:∀ (lv:Key→LB) (h:lv 1=.hole) (a:CV),au Tryz.prog 213 1 [0] lv 1 [.c a]=some (.c (.aR 1 0 1 1),[(1,.cells true false 2 [a])],[],True):=fun lv h a=>CL lv 1 h a
 obtain⟨M,hM⟩:∃ M,M=max (dO a).length (dO b).length:=⟨_,rfl⟩
 have hmx:(if ((dO a).length:Int)<((dO b).length:Int) then ((dO b).length:Int) else ((dO a).length:Int))=(M:Int):=by split <;> omega
 have hmx':(if (dO a).length<(dO b).length then ((dO b).length:Int) else ((dO a).length:Int))=(M:Int):=by split <;> omega
 have hM6:M≤1000000:=by omega
 have e0:=bG (n:=(M:Int)+1) (by omega) (by omega);refine aa.ed Tryz.func324 rfl fun _=>aab ?_;refine aak fun K hK=>?_;simp [dh,hmx,hmx',e0]
 repeat refine ah ?_
 apply hK;refine aab ?_;refine aaa fun K hK=>aab ?_;refine aaf ?_
 refine aao (fun (p:List Nat × Nat)=>⟨bf [(0,nK .i64 a),(1,nK .i64 b),(5,.c (.aR 0 0 p.1.length 1)),(6,.c (.d (.int .i64 p.2))),(7,.c (.d (.int .i64 p.1.length)))],
  aC (fun _=>.hole) 0 (.cells true false 2 (wK .i64 p.1))⟩) 1
  (fun p=>ok 1000000000 p.1∧p.2≤1∧val 1000000000 p.1+1000000000 ^ p.1.length*p.2=val 1000000000 ((dO a).take p.1.length)+val 1000000000 ((dO b).take p.1.length)∧(p.1.length≤M∨(p.1.length=M+1∧p.2=0∧1000000000 ^ M≤val 1000000000 (dO a)+val 1000000000 (dO b))))
  (fun p=>M+2 - p.1.length) ([],0) (Le.mk' _ (by simp [wK]) (by simp) (by simp)) (by simp [b9]) ?_
 rintro⟨pre,c⟩ ⟨h1,h2,h3,h4⟩;simp only at h1 h2 h3 h4;have w7:=bG (n:=(pre.length:Int)+1) (by omega) (by omega);refine aaa fun K3 hK3=>aaa fun K4 hK4=>?_
 have body:(pre.length<(dO a).length∨pre.length<(dO b).length∨0<c)→∀ (fr:Nat→AV) (κ:Nat),fr 0=nK .i64 a→fr 1=nK .i64 b→fr 5=.c (.aR 0 0 pre.length 1)→fr 6=.c (.d (.int .i64 c))→fr 7=.c (.d (.int .i64 pre.length)) →
  K3 ⟨fr,aC (fun _=>.hole) 0 (.cells true false 2 (wK .i64 pre))⟩ κ:=by
  intro hgo fr κ z0 z1 z5 z6 z7;apply hK3;refine aaa fun K5 hK5=>aaf (aaa fun K6 hK6=>?_)
  have g2:∀ (x:Nat) (fr:Nat→AV) (κ:Nat),x<1000000000→val 1000000000 ((dO a).take (pre.length+1))=val 1000000000 ((dO a).take pre.length)+1000000000 ^ pre.length*x→fr 0=nK .i64 a→fr 1=nK .i64 b→fr 5=.c (.aR 0 0 pre.length 1)→fr 6=.c (.d (.int .i64 ((c+x:Nat):Int)))→fr 7=.c (.d (.int .i64 pre.length)) →
   K6 ⟨fr,aC (fun _=>.hole) 0 (.cells true false 2 (wK .i64 pre))⟩ κ:=by
   intro x fr κ hx hxv z0 z1 z5 z6 z7;apply hK6;refine aaa fun K8 hK8=>?_
   have g3:∀ (y:Nat) (fr:Nat→AV) (κ:Nat),y<1000000000→val 1000000000 ((dO b).take (pre.length+1))=val 1000000000 ((dO b).take pre.length)+1000000000 ^ pre.length*y→fr 0=nK .i64 a→fr 1=nK .i64 b→fr 5=.c (.aR 0 0 pre.length 1)→fr 6=.c (.d (.int .i64 ((c+x+y:Nat):Int)))→fr 7=.c (.d (.int .i64 pre.length)) →
    K8 ⟨fr,aC (fun _=>.hole) 0 (.cells true false 2 (wK .i64 pre))⟩ κ:=by
    intro y fr κ hy hyv z0 z1 z5 z6 z7;apply hK8;refine aaz 1 ?_;have e1:(((c+x+y:Nat):Int)).tmod 1000000000=(((c+x+y) % 1000000000:Nat):Int):=tN _ _;have e2:(((c+x+y:Nat):Int)).tdiv 1000000000=(((c+x+y) / 1000000000:Nat):Int):=mM _ _;have e3:=bG (n:=(((c+x+y) / 1000000000:Nat):Int)) (by omega) (by omega);generalize hm:c+x+y=m at *
    have hlen:pre.length+1≤9223372036854775807∧(pre.length+1)*8≤140737488355328:=by omega
    refine aak fun K9 hK9=>?_;simp [z5,z6,hbs,dY,keyOf,e1,AY,-au,-Int.natCast_emod,-Int.natCast_ediv,-Int.natCast_add]
    repeat refine ah ?_
    apply hK9;refine aae ?_;simp [z6,e2,e3,-Int.natCast_emod,-Int.natCast_ediv];apply hK5;refine aae ?_;simp [z7,w7]
    have hM2:pre.length≤M:=by
     rcases h4 with h4|⟨h4,h5,_⟩
     ·exact h4
     ·omega
    refine⟨pre++[m % 1000000000],m / 1000000000,Le.keys [(0,2,.cells true false 2 (wK .i64 (pre++[m % 1000000000])))] 19 _ rfl rfl (by simp) (by simp) (by simp) ?_ ?_,⟨b8.2 ⟨h1,bx.2 ⟨by omega,b9 _⟩⟩,by omega,?_,?_⟩,by simp;omega⟩
    ·intro e he;simp only [WM,Xh,or_false] at he;subst he;simpa using j9 .i64 2 (pre++[m % 1000000000]) _
    ·simp [c7,z0,z1]
    ·have:=mh 1000000000 pre m;rw [WW,Xy,this,hxv,hyv,← hm,WL,WL];omega
    ·simp only [WW,Xy]
     by_cases hlt:pre.length<M
     ·exact .inl (by omega)
     ·right;have hx0:pre.length=M:=by omega
      have c1:c=1:=by omega
      have ea:val 1000000000 ((dO a).take pre.length)=val 1000000000 (dO a):=aL (by omega);have eb:val 1000000000 ((dO b).take pre.length)=val 1000000000 (dO b):=aL (by omega);have ea2:val 1000000000 ((dO a).take (pre.length+1))=val 1000000000 (dO a):=aL (by omega);have eb2:val 1000000000 ((dO b).take (pre.length+1))=val 1000000000 (dO b):=aL (by omega);have hp:0<1000000000 ^ pre.length:=W3 (by decide);rw [ea,ea2] at hxv;rw [eb,eb2] at hyv
      have hx00:x=0:=by
       rcases Yo x with h|h
       ·exact h
       ·have:=XC hp h;omega
      have hy00:y=0:=by
       rcases Yo y with h|h
       ·exact h
       ·have:=XC hp h;omega
      rw [ea,eb,c1,XB] at h3;refine⟨by omega,by omega,?_⟩;rw [← hx0];omega
   refine aas z1 z7 ?_
   by_cases hlb:pre.length<(dO b).length
   ·have hy:(dO b)[pre.length]<1000000000:=hb.1 _ (aW hlb);have hyv:=bq (B:=1000000000) hlb;have e5:IntKind.i64.wrap (((c+x:Nat):Int)+((dO b)[pre.length]:Nat))=((c+x+(dO b)[pre.length]:Nat):Int):=by rw [bG (by omega) (by omega)];omega
    refine aai (by simp [hlb] <;> omega) (aae ?_);simp [z1,z6,z7,hlb,e5,-Int.natCast_add];exact g3 _ _ _ hy hyv (by simp [z0]) (by simp [z1]) (by simp [z5]) (by simp) (by simp [z7])
   ·refine aaj (by simp [hlb] <;> omega) (aac ?_);simp;exact g3 0 _ _ (by omega) (by rw [aL (by omega),aL (by omega)];rfl) (by simp [z0]) (by simp [z1]) (by simp [z5]) (by simp [z6]) (by simp [z7])
  refine aas z0 z7 ?_
  by_cases hla:pre.length<(dO a).length
  ·have hx:(dO a)[pre.length]<1000000000:=ha.1 _ (aW hla);have hxv:=bq (B:=1000000000) hla;have e5:IntKind.i64.wrap ((c:Int)+((dO a)[pre.length]:Nat))=((c+(dO a)[pre.length]:Nat):Int):=by rw [bG (by omega) (by omega)];omega
   refine aai (by simp [hla] <;> omega) (aae ?_);simp [z0,z6,z7,hla,e5,-Int.natCast_add];exact g2 _ _ _ hx hxv (by simp [z0]) (by simp [z1]) (by simp [z5]) (by simp) (by simp [z7])
  ·refine aaj (by simp [hla] <;> omega) (aac ?_);simp;exact g2 0 _ _ (by omega) (by rw [aL (by omega),aL (by omega)];rfl) (by simp [z0]) (by simp [z1]) (by simp [z5]) (by simp [z6]) (by simp [z7])
 by_cases c1:pre.length<(dO a).length
 ·refine aat c1 (hK4 _ _ ?_);refine aai (by simp [c1] <;> omega) (aac ?_);simp;exact body (.inl c1) _ _ (by simp) (by simp) (by simp) (by simp) (by simp)
 by_cases c2:pre.length<(dO b).length
 ·refine aau c1 c2 (hK4 _ _ ?_);refine aai (by simp [c2] <;> omega) (aac ?_);simp;exact body (.inr (.inl c2)) _ _ (by simp) (by simp) (by simp) (by simp) (by simp)
 by_cases c3:0<c
 ·have c3':(0:Int)<(c:Int):=by omega
  refine aaE c1 c2 c3 c3' (hK4 _ _ ?_);refine aah (aac ?_);simp;exact body (.inr (.inr c3)) _ _ (by simp) (by simp) (by simp) (by simp) (by simp)
 obtain rfl:c=0:=by omega
 refine aau c1 c2 (hK4 _ _ ?_);refine aag (aan (hK _ _ (aab ?_)));rw [XI,Xn,aL (by omega),aL (by omega)] at h3
 have hc:can 1000000000 pre:=by
  refine NB h1 ?_;rcases h4 with h4|⟨h4,_,h5⟩
  ·by_cases hM0:M=0
   ·exact .inl (Yd (by omega))
   ·right;have hpm:pre.length=M:=by omega
    rw [h3,hpm]
    by_cases hq:(dO a).length=M
    ·have:=FJ ha (fun e=>hM0 (by rw [← hq,e];rfl));rw [hq] at this;omega
    ·have hq2:(dO b).length=M:=by omega
     have:=FJ hb (fun e=>hM0 (by rw [← hq2,e];rfl));rw [hq2] at this;omega
  ·right;rw [h3,h4];exact h5
 have hout:=gB (by decide:2≤1000000000) hc h3;refine aam (κ:=0) (jr.tmp (κ:=0) (X:=.c (.aR 0 0 pre.length 1)) (ks:=[0]) rfl (by simp) ?_);rw [← hout];exact GC (own:=true) (fz:=false) (T:=2) (l:=pre) (by simp) (by omega)
theorem m7 (G:List (List DV))(a b:Option (List Nat))(oka:ok 1000000000 (dO a))(okb:ok 1000000000 (dO b))(hal:(dO a).length≤1000000)(hbl:(dO b).length≤1000000)(hv:val 1000000000 (dO b)≤val 1000000000 (dO a)) :
 aa Tryz.prog G 323 [nK .i64 a,nK .i64 b] (nK .i64 (some (aI 1000000000 (val 1000000000 (dO a) - val 1000000000 (dO b))))):=by
 have hbs:∀ (lv:Key→LB) (h:lv 1=.hole) (a:CV),au Tryz.prog 213 1 [0] lv 1 [.c a]=some (.c (.aR 1 0 1 1),[(1,.cells true false 2 [a])],[],True):=fun lv h a=>CL lv 1 h a
 refine aa.Ol Tryz.func323 rfl fun _=>aab ?_;refine aak fun K hK=>?_;simp
 repeat refine ah ?_
 apply hK;refine aab ?_;refine aaa fun K hK=>aab ?_;refine aaf ?_
 refine aao (fun (p:List Nat × Nat)=>⟨bf [(0,nK .i64 a),(1,nK .i64 b),(5,.c (.aR 0 0 p.1.length 1)),(6,.c (.d (.int .i64 p.2))),(7,.c (.d (.int .i64 p.1.length)))],
  aC (fun _=>.hole) 0 (.cells true false 2 (wK .i64 p.1))⟩) 1
  (fun p=>ok 1000000000 p.1∧p.1.length≤(dO a).length∧p.2≤1∧val 1000000000 p.1+val 1000000000 ((dO b).take p.1.length)=val 1000000000 ((dO a).take p.1.length)+1000000000 ^ p.1.length*p.2)
  (fun p=>(dO a).length - p.1.length) ([],0) (Le.mk' _ (by simp [wK]) (by simp) (by simp)) (by simp [b9]) ?_
 rintro⟨pre,c⟩ ⟨h2,h1,h3,h4⟩;simp only at h1 h2 h3 h4;have w7:=bG (n:=(pre.length:Int)+1) (by omega) (by omega);refine aaa fun K3 hK3=>aab ?_
 by_cases hlt:pre.length<(dO a).length
 ·have hx:(dO a)[pre.length]<1000000000:=oka _ (aW hlt);have hxv:=bq (B:=1000000000) hlt;obtain⟨x,hxe⟩:∃ x,(dO a)[pre.length]=x:=⟨_,rfl⟩
  rw [hxe] at hx hxv;have w1:=bG (n:=(x:Int) - c) (by omega) (by omega);refine aai (by simp [hlt] <;> omega) (aac (hK3 _ _ (aaa fun K5 hK5=>aaf (aay hlt hxe w1 ?_))));refine aaa fun K6 hK6=>?_
  have g3:∀ (y:Nat) (fr:Nat→AV) (κ:Nat),y<1000000000→val 1000000000 ((dO b).take (pre.length+1))=val 1000000000 ((dO b).take pre.length)+1000000000 ^ pre.length*y→fr 0=nK .i64 a→fr 1=nK .i64 b→fr 5=.c (.aR 0 0 pre.length 1)→fr 8=.c (.d (.int .i64 ((x:Int) - c - y)))→fr 7=.c (.d (.int .i64 pre.length)) →
   K6 ⟨fr,aC (fun _=>.hole) 0 (.cells true false 2 (wK .i64 pre))⟩ κ:=by
   intro y fr κ hy hyv z0 z1 z5 z8 z7;apply hK6;refine aaz 1 ?_;refine aab ?_;refine aaa fun K7 hK7=>?_
   have g4:∀ (v bb:Nat) (fr:Nat→AV) (κ:Nat),v<1000000000→bb≤1→v+c+y=x+1000000000*bb→fr 0=nK .i64 a→fr 1=nK .i64 b→fr 5=.c (.aR 0 0 pre.length 1)→fr 6=.c (.d (.int .i64 (bb:Int)))→fr 8=.c (.d (.int .i64 (v:Int)))→fr 7=.c (.d (.int .i64 pre.length)) →
    K7 ⟨fr,aC (fun _=>.hole) 0 (.cells true false 2 (wK .i64 pre))⟩ κ:=by
    intro v bb fr κ hv0 hb0 hs z0 z1 z5 z6 z8 z7;apply hK7;refine aaz 1 ?_;refine aae ?_;simp [z5,z8,hbs,dY,keyOf,AY,-au]
    repeat refine ah ?_
    apply hK5;refine aae ?_;simp [z7,w7];refine⟨pre++[v],bb,Le.keys [(0,2,.cells true false 2 (wK .i64 (pre++[v])))] 19 _ rfl rfl (by simp) (by simp) (by simp) ?_ ?_,⟨b8.2 ⟨h2,bx.2 ⟨hv0,b9 _⟩⟩,by simp;omega,hb0,?_⟩,by simp;omega⟩
    ·intro e he;simp only [WM,Xh,or_false] at he;subst he;simpa using j9 .i64 2 (pre++[v]) _
    ·simp [c7,z0,z1,z6]
    ·rw [WW,Xy,eK,hxv,hyv,WU];have g6:1000000000 ^ pre.length*(v+c+y)=1000000000 ^ pre.length*(x+1000000000*bb):=by rw [hs]
     rw [WL,WL,WL,← WV] at g6;omega
   refine aal z8 ?_
   by_cases hn:(x:Int) - c - y<0
   ·have w2:IntKind.i64.wrap ((x:Int) - c - y+1000000000)=((x+1000000000 - c - y:Nat):Int):=by rw [bG (by omega) (by omega)];omega
    refine aai (by simp [hn] <;> omega) (aas z8 w2 ?_);refine aae ?_;simp;exact g4 (x+1000000000 - c - y) 1 _ _ (by omega) (by omega) (by omega) (by simp [z0]) (by simp [z1]) (by simp [z5]) (by simp) (by simp) (by simp [z7])
   ·have w2:(x:Int) - c - y=((x - c - y:Nat):Int):=by omega
    refine aaj (by simp [hn] <;> omega) (aac ?_);simp;exact g4 (x - c - y) 0 _ _ (by omega) (by omega) (by omega) (by simp [z0]) (by simp [z1]) (by simp [z5]) (by simp) (by simp [z8,w2]) (by simp [z7])
  refine aab ?_
  by_cases hlb:pre.length<(dO b).length
  ·have hy:(dO b)[pre.length]<1000000000:=okb _ (aW hlb);have hyv:=bq (B:=1000000000) hlb;have w2:=bG (n:=(x:Int) - c - ((dO b)[pre.length]:Nat)) (by omega) (by omega);refine aai (by simp [hlb] <;> omega) (aae ?_);simp [hlb,w2];exact g3 _ _ _ hy hyv (by simp) (by simp) (by simp) (by simp) (by simp)
  ·refine aaj (by simp [hlb] <;> omega) (aac ?_);simp;exact g3 0 _ _ (by omega) (by rw [aL (by omega),aL (by omega)];rfl) (by simp) (by simp) (by simp) (by simp) (by simp)
 ·refine aaj (by simp [hlt] <;> omega) (aan ?_);simp;have e2:pre.length=(dO a).length:=by omega
  apply hK;refine aak fun K hK=>?_;simp
  have hlb:val 1000000000 ((dO b).take pre.length)=val 1000000000 (dO b):=by
   by_cases hb:(dO b).length≤pre.length
   ·exact aL hb
   ·have g1:=bW (B:=1000000000) (dO b) pre.length (by omega);have g2:=eY oka;rw [← e2] at g2
    have g3:val 1000000000 ((dO b).drop pre.length)=0:=by
     apply Xq;intro hne;have:1000000000 ^ pre.length*1≤1000000000 ^ pre.length*val 1000000000 ((dO b).drop pre.length):=Xd _ (by omega);omega
    rw [g3] at g1;omega
  have hva:val 1000000000 ((dO a).take pre.length)=val 1000000000 (dO a):=aL (by omega)
  have hc:c=0:=by
   apply Xq;intro hne;have:c=1:=by omega
   subst this;have:=eY h2;rw [hlb,hva] at h4;omega
  subst hc
  have hout:cS pre=aI 1000000000 (val 1000000000 (dO a) - val 1000000000 (dO b)):=by
   refine dB (by decide) h2 ?_;rw [hlb,hva] at h4;omega
  refine fS.pz (k:=.i64) (l:=pre) 0 1 0 (by simp;rfl) (by omega) (iY _ _ (by omega)) (by simp) (by simp) (by simp) ?_;simp;apply hK;exact aad (aq.rt rfl 1 (by simp [hout]))
theorem qW (G:List (List DV))(a b:Option (List Nat))(oka:ok 1000000000 (dO a))(okb:ok 1000000000 (dO b))(ha:(dO a).length≤1000000)(hb:(dO b).length≤1000000) :
 aa Tryz.prog G 248 [nK .i64 a,nK .i64 b] (nK .i64 (some (aI 1000000000 (val 1000000000 (dO a)*val 1000000000 (dO b))))):=by
 refine aa.en Tryz.func248 rfl fun _=>aab ?_;refine aaa fun K hK=>?_;have e0:IntKind.i64.wrap (((dO a).length:Int)+(dO b).length)=(((dO a).length+(dO b).length:Nat):Int):=by rw [bG (by omega) (by omega)];omega
 refine aae ?_;simp [e0,-Int.natCast_add]
 repeat refine ah ?_
 apply hK;refine aaa fun K hK=>aab ?_;refine aaf ?_
 refine aao (fun (p:Nat × List Nat)=>⟨bf [(0,nK .i64 a),(1,nK .i64 b),(5,.c (.aR 0 0 ((dO a).length+(dO b).length) 1)),(6,.c (.d (.int .i64 p.1)))],
  aC (fun _=>.hole) 0 (.cells true false 2 (wK .i64 (p.2++List.replicate ((dO a).length - p.1) 0)))⟩) 1
  (fun p=>p.1≤(dO a).length∧p.2.length=p.1+(dO b).length∧ok 1000000000 p.2∧val 1000000000 p.2=val 1000000000 ((dO a).take p.1)*val 1000000000 (dO b))
  (fun p=>(dO a).length - p.1) (0,List.replicate (dO b).length 0) (Le.mk' _ (by simp [fO,XL]) (by simp) (by simp)) ⟨by simp,by simp,qU (by omega) _,by simp [oG]⟩ ?_
 rintro⟨i,lo⟩ ⟨h1,h2,h3,h4⟩;simp only at h1 h2 h3 h4;refine aaa fun K3 hK3=>aab ?_
 by_cases hlt:i<(dO a).length
 ·refine aai (by simp [hlt] <;> omega) (aac (hK3 _ _ (aaa fun K3 hK3=>aaf ?_)));have hx:(dO a)[i]<1000000000:=oka _ (aW hlt);obtain⟨x,hxe⟩:∃ x,(dO a)[i]=x:=⟨_,rfl⟩
  rw [hxe] at hx;refine aab ?_;refine aaa fun K4 hK4=>aab ?_;refine aaf ?_
  refine aao (fun (p:Nat × List Nat × Nat)=>⟨bf [(0,nK .i64 a),(1,nK .i64 b),(5,.c (.aR 0 0 ((dO a).length+(dO b).length) 1)),(6,.c (.d (.int .i64 i))),(7,.c (.d (.int .i64 p.2.2))),(8,.c (.d (.int .i64 p.1)))],
   aC (fun _=>.hole) 0 (.cells true false 2 (wK .i64 (p.2.1++List.replicate ((dO a).length - i) 0)))⟩) 2
   (fun p=>p.1≤(dO b).length∧p.2.1.length=i+(dO b).length∧ok 1000000000 p.2.1∧p.2.2<1000000000∧val 1000000000 p.2.1+1000000000 ^ (i+p.1)*p.2.2=val 1000000000 ((dO a).take i)*val 1000000000 (dO b)+1000000000 ^ i*(x*val 1000000000 ((dO b).take p.1)))
   (fun p=>(dO b).length - p.1) (0,lo,0) (Le.mk' _ (by simp) (by simp) (by simp)) ⟨by simp,h2,h3,by simp,by simp [h4]⟩ ?_
  rintro⟨j,lo2,c⟩ ⟨g1,g2,g3,g4,g5⟩;simp only at g1 g2 g3 g4 g5;refine aaa fun K6 hK6=>aab ?_
  by_cases hlj:j<(dO b).length
  ·refine aai (by simp [hlj] <;> omega) (aac (hK6 _ _ (aaa fun K8 hK8=>aaf (aaa fun K9 hK9=>?_))));have hy:(dO b)[j]<1000000000:=okb _ (aW hlj);have hij:i+j<lo2.length:=by omega
   have hij2:i+j<(lo2++List.replicate ((dO a).length - i) 0).length:=by simp;omega
   have hij3:i+j<lo2.length+((dO a).length - i):=by omega
   have ho:lo2[i+j]<1000000000:=g3 _ (aW hij);have ho2:(lo2++List.replicate ((dO a).length - i) 0)[i+j]=lo2[i+j]:=Xt hij;have hb2:val 1000000000 ((dO b).take (j+1))=val 1000000000 ((dO b).take j)+1000000000 ^ j*(dO b)[j]:=bq hlj;have hset:=wh (B:=1000000000) hij;generalize hye:(dO b)[j]=y at hy hb2;generalize hoe:lo2[i+j]=o at ho ho2 hset;have hxy:x*y≤999999999*999999999:=X7 (by omega) (by omega);have e1:IntKind.i64.wrap ((i:Int)+j)=((i+j:Nat):Int):=by rw [bG (by omega) (by omega)];omega
   have e4:IntKind.i64.wrap ((x:Int)*y)=((x*y:Nat):Int):=by
    rw [← Int.natCast_mul];generalize x*y=p at hxy;exact bG (by omega) (by omega)
   have e5:IntKind.i64.wrap ((c:Int)+o)=((c+o:Nat):Int):=by rw [bG (by omega) (by omega)];omega
   have e6:IntKind.i64.wrap (((c+o:Nat):Int)+((x*y:Nat):Int))=((c+(x*y+o):Nat):Int):=by
    generalize x*y=p at hxy;rw [bG (by omega) (by omega)];omega
   refine aaw mixed (by kernel_rfl) rfl rfl ?_;simp [e1,e4,e5,e6,hij3,ho2,hxe,hye,hlt,hlj,-Int.natCast_add,-Int.natCast_mul]
   repeat refine ah ?_
   apply hK9;have hbd:c+(x*y+o)<1000000000000000000:=by generalize x*y=p at hxy;omega
   generalize hm:c+(x*y+o)=m at hbd;have f1:((m:Nat):Int).tmod 1000000000=((m % 1000000000:Nat):Int):=tN _ _
   have f2:aj (wK .i64 (lo2++List.replicate ((dO a).length - i) 0)) (i+j) [CV.d (.int .i64 ((m % 1000000000:Nat):Int))]=wK .i64 (lo2.set (i+j) (m % 1000000000)++List.replicate ((dO a).length - i) 0):=by
    rw [fB _ hij2,Zk _ _ hij]
   have f3:((m:Nat):Int).tdiv 1000000000=((m / 1000000000:Nat):Int):=mM _ _;have f3':=bG (n:=((m / 1000000000:Nat):Int)) (by omega) (by omega);have f4:(i+j:Int)<(dO a).length+(dO b).length:=by omega
   refine aak fun K9 hK9=>?_;simp [e1,f1,f2,hij3,-Int.natCast_add,-Int.natCast_emod]
   repeat refine ah ?_
   apply hK9;refine aae ?_;simp [f3,f3',-Int.natCast_ediv];apply hK8;have f5:=bG (n:=(j:Int)+1) (by omega) (by omega);refine aae ?_;simp [f5];refine⟨j+1,lo2.set (i+j) (m % 1000000000),m / 1000000000,Le.mk' _ (by simp) (by simp) (by simp),⟨by omega,by simp [g2],Fu g3 _ (Xa _ (by omega)),?_,?_⟩,by omega⟩
   ·have hm2:m<1000000000*1000000000:=by generalize x*y=p at hxy hm;omega
    omega
   ·rw [hb2,← hm,← XK i j 1];exact Ci g5 (by rw [hm];exact hset _)
  ·refine aaj (by simp [hlj] <;> omega) (aan (hK4 _ _ ?_));have ej:j=(dO b).length:=by omega
   subst ej;rw [aL (bg _)] at g5;have e1:IntKind.i64.wrap ((i:Int)+(dO b).length)=((i+(dO b).length:Nat):Int):=by rw [bG (by omega) (by omega)];omega
   have hz:(dO a).length - i=((dO a).length - i - 1)+1:=by omega
   have f2:aj (wK .i64 (lo2++List.replicate ((dO a).length - i) 0)) (i+(dO b).length) [CV.d (.int .i64 (c:Int))]=wK .i64 (lo2++[c]++List.replicate ((dO a).length - i - 1) 0):=by
    rw [fB _ (by simp;omega),hz,← g2,jN];simp
   have f6:i+(dO b).length<lo2.length+((dO a).length - i):=by omega
   refine aae ?_;simp [e1,f2,f6,-Int.natCast_add]
   repeat refine ah ?_
   apply hK3;have f5:=bG (n:=(i:Int)+1) (by omega) (by omega);refine aae ?_;simp [f5];have f7:(dO a).length - (i+1)=(dO a).length - i - 1:=by omega
   refine⟨i+1,lo2++[c],Le.mk' _ (by simp [f7]) (by simp) (by simp),⟨by omega,by simp;omega,b8.2 ⟨g3,bx.2 ⟨g4,b9 _⟩⟩,?_⟩,by omega⟩;rw [eK,g2,g5,bq hlt,hxe,WQ,WV]
 ·refine aaj (by simp [hlt] <;> omega) (aan (hK _ _ ?_));have e2:i=(dO a).length:=by omega
  subst e2;refine aak fun K hK=>?_;simp;rw [← h2]
  have hout:cS lo=aI 1000000000 (val 1000000000 (dO a)*val 1000000000 (dO b)):=by
   refine dB (by decide) h3 ?_;rw [h4,aL (bg _)]
  refine fS.pz (k:=.i64) (l:=lo) 0 1 0 (by simp;rfl) (by omega) (iY _ _ (by omega)) (by simp) (by simp) (by simp) ?_;simp;apply hK;exact aad (aq.rt rfl 1 (by simp [hout]))
theorem Ht (G:List (List DV))(a:Option (List Nat))(oka:ok 1000000000 (dO a))(ha:(dO a).length≤1000000) :
 aa Tryz.prog G 322 [nK .i64 a] (nK .i64 (some (aI 1000000000 (val 1000000000 (dO a) / 2)))):=by
 refine aa.en Tryz.func322 rfl fun _=>aab ?_;refine aak fun K hK=>?_;simp
 repeat refine ah ?_
 apply hK;refine aab ?_;have w0:=bG (n:=((dO a).length:Int) - 1) (by omega) (by omega);refine aaa fun K hK=>aal w0 ?_;refine aaf ?_
 refine aao (fun (p:Nat × List Nat × Nat)=>⟨bf [(0,nK .i64 a),(3,.c (.aR 0 0 (dO a).length 1)),(4,.c (.d (.int .i64 p.2.2))),(5,.c (.d (.int .i64 ((p.1:Int) - 1))))],
  aC (fun _=>.hole) 0 (.cells true false 2 (wK .i64 (List.replicate p.1 0++p.2.1)))⟩) 1
  (fun p=>p.1+p.2.1.length=(dO a).length∧ok 1000000000 p.2.1∧p.2.2≤1∧2*val 1000000000 p.2.1+p.2.2=val 1000000000 ((dO a).drop p.1))
  (fun p=>p.1) ((dO a).length,[],0) (Le.mk' _ (by simp [fO]) (by simp) (by simp)) ⟨by simp,b9 _,by simp,by simp⟩ ?_
 rintro⟨k,qs,c⟩ ⟨h1,h2,h3,h4⟩;simp only at h1 h2 h3 h4;refine aaa fun K3 hK3=>aab ?_
 cases k with
 | zero=>
  refine aag (aan (hK _ _ (aaa fun K hK=>?_)));have hl:qs.length=(dO a).length:=by omega
  refine aae ?_;simp;rw [← hl]
  have hout:cS qs=aI 1000000000 (val 1000000000 (dO a) / 2):=by
   refine dB (by decide) h2 ?_;rw [fQ] at h4;omega
  refine fS.pz (k:=.i64) (l:=qs) 0 1 0 (by simp;rfl) (by omega) (iY _ _ (by omega)) (by simp) (by simp) (by simp) ?_;simp;apply hK;exact aad (aq.rt rfl 1 (by simp [hout]))
 | succ k=>
  have hk:k<(dO a).length:=by omega
  have e2:((k+1:Nat):Int) - 1=k:=by omega
  simp only [e2];have hx:(dO a)[k]<1000000000:=oka _ (aW hk);have hxv:=cB (B:=1000000000) hk;obtain⟨x,hxe⟩:∃ x,(dO a)[k]=x:=⟨_,rfl⟩
  rw [hxe] at hx hxv;obtain⟨m,hm⟩:∃ m,1000000000*c+x=m:=⟨_,rfl⟩
  have w1:IntKind.i64.wrap ((c:Int)*1000000000)=(m:Int) - x:=by rw [bG (by omega) (by omega)];omega
  have w2:IntKind.i64.wrap ((m:Int) - x+x)=(m:Int):=by rw [bG (by omega) (by omega)];omega
  refine aah (aac (hK3 _ _ (aaa fun K5 hK5=>aaf (aak fun K6 hK6=>?_))));simp [hk,hxe,w1,w2,-Int.sub_add_cancel,-Int.natCast_add,-Int.natCast_mul];apply hK6;clear w1 w2;have f3:((m:Nat):Int).tdiv 2=((m / 2:Nat):Int):=mM _ 2;have f3':=bG (n:=((m / 2:Nat):Int)) (by omega) (by omega);have f4:((m:Nat):Int).tmod 2=((m % 2:Nat):Int):=tN _ 2
  have f5:aj (wK .i64 (List.replicate (k+1) 0++qs)) k [CV.d (.int .i64 ((m / 2:Nat):Int))]=wK .i64 (List.replicate k 0++((m / 2)::qs)):=by
   rw [fB _ (by simp;omega),oF]
  have hk2:(k:Int)<((dO a).length:Int):=by omega
  have hk3:k<k+1+qs.length:=by omega
  refine aak fun K6 hK6=>?_;simp [f3,f3',f5,hk,hk2,hk3,-Int.natCast_ediv];apply hK6;refine aae ?_;simp [f4,-Int.natCast_emod];apply hK5;have w3:=bG (n:=(k:Int) - 1) (by omega) (by omega);refine aae ?_;simp [w3];refine⟨k,(m / 2)::qs,m % 2,Le.mk' _ (by simp) (by simp) (by simp),⟨by simp;omega,bx.2 ⟨by omega,h2⟩,by omega,?_⟩,by omega⟩;rw [hxv,bH];omega
theorem NL (k:IntKind)(l:List Nat):(dK k l).flatten.map CV.d=wK k l:=by
 have:(dK k l).flatten=l.map fun (x:Nat)=>DV.int k (x:Int):=by
  unfold dK;induction l with
  | nil=>rfl
  | cons a l ih=>simp only [WX,Yb,ih];rfl
 rw [this,Xc];rfl
theorem OZ{k:IntKind}(o:Option (List Nat)):dY lv 1 (nK k o)=some ((dO o).length,wK k (dO o)):=by
 cases o with
 | none=>rfl
 | some l=>
  have h1:(dK k l).all (fun e=>e.length == 1)=true:=by rw [E5];intro e he;obtain⟨x,_,rfl⟩:=List.mem_map.1 he;rfl
  show dY lv 1 (.c (.d (.sl (dK k l))))=_;simp only [dY,h1,if_true,NL];simp [dK]
theorem Nx (k:IntKind):nK k none=.c (.d .nilsl):=rfl
theorem GW (k:IntKind)(x:Nat)(l:List Nat):CV.d (.int k (x:Int))::wK k l=wK k (x::l):=rfl
theorem ag.Lq(κ' kh κb:Key){k:IntKind}{x0:AV}(hk:lv κb=.cells true false T (wK k l)) (hl:l.length≤1000)
 (hc:aa c.P c.G f [x0,nK k (some l)] x) (hx0:x0.pure=true) (hx:x.pure=true) (hh:lv kh=.hole) (hK:K x [(κb,.cells true true T (wK k l))] [kh,κb] κ'):ag c f [x0,.c (.aR κb 0 l.length 1)] lv K:=by
 have e:aS lv (dJ [(κb,T,wK k l)]) κb=.cells true true T (wK k l):=by simp [dJ,aS,aC]
 refine ag.Ra (us:=[x0,nK k (some l)]) κ' kh [(κb,T,wK k l)] [kh,κb] hc hx (by simpa using hk) (by simp) hh rfl (fun i p' q'=>?_) (fun a ha j hj=>?_) (by simp) hK
 ·have hi:i=0∨i=1:=by simp at p';omega
  rcases hi with rfl|rfl
  ·exact .inl ⟨hx0,rfl⟩
  ·exact .inr ⟨[κb],By e (by omega),by simp⟩
 ·simp only [WM,Xh,or_false] at ha;rcases ha with rfl|rfl
  ·rw [lR hx0] at hj;cases hj
  ·left;simp only [pE,lY,e,WM] at hj;rcases hj with rfl|hj
   ·simp
   ·simp only [XQ] at hj;obtain⟨y,hy,hj⟩:=hj;simp only [wK,Xp] at hy;obtain⟨z,_,rfl⟩:=hy
    cases hj
theorem qI (o o':Option (List Nat)):(AV.tup [nK .i64 o,nK .i64 o']).pure=true:=by
 cases o <;> cases o' <;> rfl
theorem Sa(hB:0<B) (h:ok B l) (h1:1≤n) (h2:n≤l.length) (h3:l.length≤n+1):val B l / B ^ (n - 1)=l.getD (n - 1) 0+B*l.getD n 0:=by
 have e1:=bW (B:=B) l (n - 1) (by omega);have e2:=cB (B:=B) (l:=l) (i:=n - 1) (by omega);rw [show n - 1+1=n by omega] at e2
 have e3:val B (l.drop n)=l.getD n 0:=by
  by_cases h4:n<l.length
  ·rw [cB h4,eS (by omega),XI,Xn,WO,rP h4];rfl
  ·rw [eS (by omega),WO,Yc (by omega)];rfl
 have e4:l.getD (n - 1) 0=l[n - 1]'(by omega):=by rw [WO,rP (by omega)];rfl
 have e5:=eY (kU h (n - 1));rw [WR,Xu (by omega)] at e5;rw [e1,e2,e3,e4];generalize l[n - 1]+B*l.getD n 0=q;exact Nat.div_eq_of_lt_le (by rw [WT];omega) (by rw [WQ,Xv,WT q];omega)
theorem R9 {P:Nat}(h1:X*P≤V) (h2:vb<(t+1)*P) (hb:0<vb):X / (t+1)≤V / vb:=by
 rw [YM hb]
 calc X / (t+1)*vb≤X / (t+1)*((t+1)*P):=Xd _ (XZ h2)
  _=(X / (t+1)*(t+1))*P:=by rw [WV]
  _≤X*P:=WZ _ (YO _ _)
  _≤V:=h1
theorem RN {P:Nat}(h1:V<(X+1)*P) (h2:t*P≤vb) (ht:0<t):V / vb≤(X+1) / t:=by
 have hP:0<P:=by
  rcases Yo P with h|h
  ·subst h;omega
  ·exact h
 have hb:0<vb:=Xe (XC ht hP) h2;rw [YM ht];have h3:V / vb*(t*P)≤V:=WN (Xd _ h2) (YO _ _);rw [← WV] at h3;have h4:=Zu (XV h3 h1);omega
theorem M1 {k R x qs:Nat}(hV:x+B*R=V) (h:vb*qs+R=k):vb*(V / vb+B*qs)+V % vb=x+B*k:=by
 have h1:=Y4 V vb;rw [← h,WL,WL,← hV,Nat.mul_left_comm] at *
 omega
def I9 (a b:Option (List Nat)):Option (List Nat):=if dO a=[] then none else some (aI 1000000000 (val 1000000000 (dO a) % val 1000000000 (dO b)))
theorem OQ:aI 1000000000 0=[]:=(dI (by decide)).2 rfl
theorem r7 (G:List (List DV))(a b:Option (List Nat))(oka:ok 1000000000 (dO a))(hb:can 1000000000 (dO b))(hb0:dO b≠[])(hal:(dO a).length≤100000)(hbl:(dO b).length≤100000) :
 aa Tryz.prog G 275 [nK .i64 a,nK .i64 b] (.tup [nK .i64 (some (aI 1000000000 (val 1000000000 (dO a) / val 1000000000 (dO b)))),nK .i64 (I9 a b)]):=by
 have hbs:∀ (lv:Key→LB) (h:lv 1=.hole) (a:CV),au Tryz.prog 213 1 [0] lv 1 [.c a]=some (.c (.aR 1 0 1 1),[(1,.cells true false 2 [a])],[],True):=fun lv h a=>CL lv 1 h a
 obtain⟨n,hn⟩:∃ n,(dO b).length=n:=⟨_,rfl⟩
 obtain⟨vb,hvb⟩:∃ vb,val 1000000000 (dO b)=vb:=⟨_,rfl⟩
 have hn1:1≤n:=by rw [← hn];exact List.length_pos_iff.2 hb0
 have hvp:0<vb:=by rw [← hvb];exact gN hb hb0
 have hdb:dO b=aI 1000000000 vb:=gB (by decide) hb hvb;have hvl:vb<1000000000 ^ n:=by rw [← hvb,← hn];exact eY hb.1
 obtain⟨t,ht⟩:∃ t,(dO b)[n - 1]?=some t:=⟨_,rP (by omega)⟩
 have ht1:(dO b)[n - 1]'(by omega)=t:=(List.getElem?_eq_some_iff.1 ht).2;have htB:t<1000000000:=by rw [← ht1];exact hb.1 _ (aW _)
 have ht0:0<t:=by
  have:=hb.2 t (by rw [Zf,hn];exact ht);omega
 have htop:=Sa (B:=1000000000) (by decide) hb.1 hn1 (by omega) (by omega);rw [hvb,WO,ht,WO,Yc (by omega)] at htop;simp only [Yt,Option.getD_none,XI,Xn] at htop;have hPp:0<1000000000 ^ (n - 1):=W3 (by decide);have hb1:t*1000000000 ^ (n - 1)≤vb:=by rw [← htop];exact YO _ _
 have hb2:vb<(t+1)*1000000000 ^ (n - 1):=by rw [← htop];exact Nat.lt_mul_of_div_lt (Nat.lt_succ_self _) hPp
 have cmpG:∀ V,aa Tryz.prog G 247 [(nK .i64 (some (aI 1000000000 (V)))),nK .i64 b] (.c (.d (.int .i64 (dG V vb)))):=fun V=>by
  have hcmp:=m4 G (a:=some (aI 1000000000 V)) (b:=b) (bp (by decide) V) hb;simp only [aV,bk (by decide:2≤1000000000),hvb] at hcmp;exact hcmp
 have cmG:∀ W V,aa Tryz.prog G 247 [(nK .i64 (some (aI 1000000000 (W)))),(nK .i64 (some (aI 1000000000 (V))))] (.c (.d (.int .i64 (dG W V)))):=fun W V=>by
  have hcm:=m4 G (a:=some (aI 1000000000 W)) (b:=some (aI 1000000000 V)) (bp (by decide) _) (bp (by decide) _);simp only [aV,bk (by decide:2≤1000000000)] at hcm;exact hcm
 have prG:∀ mi,mi<1000000000→aa Tryz.prog G 248 [nK .i64 b,nK .i64 (some [mi])] (nK .i64 (some (aI 1000000000 (vb*mi)))):=fun mi hmi=>by
  have hpr:=qW G b (some [mi]) hb.1 (bx.2 ⟨hmi,b9 _⟩) (by omega) (by simp);have hval:val 1000000000 (dO (some [mi]))=mi:=by simp
  rw [hval,hvb] at hpr;exact hpr
 have dfG:∀ V W,(aI 1000000000 V).length≤1000000→W≤V→aa Tryz.prog G 323 [(nK .i64 (some (aI 1000000000 (V)))),(nK .i64 (some (aI 1000000000 (W))))] (nK .i64 (some (aI 1000000000 (V - W)))):=fun V W hl hle=>by
  have hdl:(aI 1000000000 W).length≤(aI 1000000000 V).length:=cR (by decide) hle;have hdf:=m7 G (some (aI 1000000000 V)) (some (aI 1000000000 W)) (bp (by decide) _).1 (bp (by decide) _).1 (by simp;omega) (by simp;omega) (by simp only [aV,bk (by decide:2≤1000000000)];exact hle);simp only [aV,bk (by decide:2≤1000000000)] at hdf;exact hdf
 refine aa.Ol Tryz.func275 rfl fun _=>aab ?_;refine aak fun K hK=>?_;simp
 repeat refine ah ?_
 apply hK;refine aal hn ?_;refine aab ?_;have w0:=bG (n:=((dO a).length:Int) - 1) (by omega) (by omega);refine aaa fun K hK=>aal w0 ?_;refine aaf ?_
 refine aao (fun (p:Nat × List Nat × Nat)=>⟨bf [(0,nK .i64 a),(1,nK .i64 b),(6,.c (.aR 0 0 (dO a).length 1)),(7,.c (.d (.int .i64 n))),(8,nK .i64 (if p.1=(dO a).length then none else some (aI 1000000000 p.2.2))),(9,.c (.d (.int .i64 ((p.1:Int) - 1))))],
  aC (fun _=>.hole) 0 (.cells true false 2 (wK .i64 (List.replicate p.1 0++p.2.1)))⟩) 1
  (fun p=>p.1+p.2.1.length=(dO a).length∧ok 1000000000 p.2.1∧p.2.2<vb∧(p.1=(dO a).length→p.2.2=0)∧vb*val 1000000000 p.2.1+p.2.2=val 1000000000 ((dO a).drop p.1))
  (fun p=>p.1) ((dO a).length,[],0) (Le.mk' _ (by simp [fO]) (by simp) (by simp [Nx])) ⟨by simp,b9 _,hvp,fun _=>rfl,by simp⟩ ?_
 rintro⟨k,qs,R⟩ ⟨h1,h2,h3,h5,h4⟩;simp only at h1 h2 h3 h4 h5;obtain⟨ro,hro⟩:∃ ro,(if k=(dO a).length then none else some (aI 1000000000 R))=ro:=⟨_,rfl⟩
 have hdr:dO ro=aI 1000000000 R:=by
  rw [← hro];split
  ·rename_i h;rw [h5 h,OQ];rfl
  ·rfl
 simp only [hro];refine aaa fun K3 hK3=>aab ?_
 cases k with
 | zero=>
  refine aag (aan (hK _ _ (aaa fun K hK=>?_)));have hl:qs.length=(dO a).length:=by omega
  rw [fQ] at h4
  have hq:val 1000000000 qs=val 1000000000 (dO a) / vb:=by
   rw [← h4,Nat.mul_add_div hvp,Yn h3,Xn]
  have hr:R=val 1000000000 (dO a) % vb:=by
   rw [← h4,Nat.mul_add_mod,Xk h3]
  have hout:cS qs=aI 1000000000 (val 1000000000 (dO a) / vb):=dB (by decide) h2 hq
  have hrem:I9 a b=ro:=by
   unfold I9;rw [← hro,hvb,← hr]
   by_cases h:dO a=[]
   ·rw [if_pos h,if_pos (by rw [h];rfl)]
   ·rw [if_neg h,if_neg (fun e=>h (Yd e.symm))]
  refine aae ?_;simp;rw [← hl];refine fS.pz (T:=2) (k:=.i64) (l:=qs) 1 9 0 (by simp) (by omega) (iY _ _ (by omega)) (by simp) (by simp) (by simp) ?_;simp;apply hK;exact aam (κ:=0) (aq.R8 (κ:=0) (t:=4) (u:=5) rfl 9 (by simp [hout,hvb]) (by simp [hrem]) (by simp) (by simp) (by simp) (by simp) (by simp) (by decide))
 | succ k=>
  have hk:k<(dO a).length:=by omega
  have e2:((k+1:Nat):Int) - 1=k:=by omega
  simp only [e2];have hx:(dO a)[k]<1000000000:=oka _ (aW hk);have hxv:=cB (B:=1000000000) hk;obtain⟨x,hxe⟩:∃ x,(dO a)[k]=x:=⟨_,rfl⟩
  rw [hxe] at hx hxv;obtain⟨V,hV⟩:∃ V,x+1000000000*R=V:=⟨_,rfl⟩
  have hRV:V<1000000000*vb:=by
   have:1000000000*(R+1)≤1000000000*vb:=Xd _ h3;omega
  have hRl:(aI 1000000000 R).length≤n:=by rw [← hn,hdb];exact cR (by decide) (XZ h3)
  have htr:cS (x::aI 1000000000 R)=aI 1000000000 V:=dB (by decide) (bx.2 ⟨hx,(bp (by decide) R).1⟩) (by rw [bH,bk (by decide),hV]);have hsr:∀ lv:Key→LB,dY lv 1 (nK .i64 ro)=some ((aI 1000000000 R).length,wK .i64 (aI 1000000000 R)):=fun lv=>by rw [OZ,hdr]
  have hcmp:=cmpG V;have w9:=bG (n:=(k:Int) - 1) (by omega) (by omega);have hkn:¬ k=(dO a).length:=by omega
  have hnext:vb*val 1000000000 ((V / vb)::qs)+V % vb=val 1000000000 ((dO a).drop k):=by rw [hxv,bH];exact M1 hV h4
  have hqB:V / vb<1000000000:=by rw [Yf hvp];exact hRV
  refine aah (aac (hK3 _ _ (aaa fun K5 hK5=>aaf (aak fun K6 hK6=>?_))));simp [hk,hxe,hbs,hsr,keyOf,GW,-au]
  repeat refine ah ?_
  have hc1:(x::aI 1000000000 R).length=1+(aI 1000000000 R).length:=by simp;omega
  rw [← hc1];refine fS.pz (k:=.i64) (T:=2) (l:=x::aI 1000000000 R) 3 9 2 (by simp [GW]) (by simp;omega) (iY _ _ (by simp;omega)) (by simp) (by simp) (by simp) ?_;simp [htr];apply hK6;refine aaa fun K6 hK6=>aaa fun K7 hK7=>?_
  by_cases hlt:V<vb
  ·have hc:=jh hlt;have hq0:V / vb=0:=Yn hlt;rw [hq0,Xk hlt] at hnext;refine aax 3 hcmp hc (hK7 _ _ ?_);refine aah (aan (hK5 _ _ (aae ?_)));simp [w9];refine⟨k,0::qs,V,Le.keys [(0,0,.cells true false 2 (wK .i64 (List.replicate k 0++0::qs)))] 19 _ rfl rfl (by simp) (by simp) (by simp) ?_ ?_,⟨by simp;omega,bx.2 ⟨by omega,h2⟩,hlt,fun h=>absurd h hkn,hnext⟩,by omega⟩
   ·intro e he;simp only [WM,Xh,or_false] at he;subst he;have e:List.replicate k 0++0::qs=List.replicate (k+1) 0++qs:=by rw [List.replicate_succ',WY];rfl
    rw [e];simpa using j9 .i64 2 (List.replicate (k+1) 0++qs) _
   ·simp [c7,hkn]
  ·have hge:vb≤V:=by omega
   have hlen1:n≤(aI 1000000000 V).length:=by rw [← hn,hdb];exact cR (by decide) hge
   have hlen2:(aI 1000000000 V).length≤n+1:=by
    refine cD (by decide) ?_;rw [WU,WT];exact Xe hRV (Xd _ (XZ hvl))
   have hX:=Sa (B:=1000000000) (by decide) (bp (by decide) V).1 hn1 hlen1 hlen2;rw [bk (by decide)] at hX;obtain⟨X,hXe⟩:∃ X,V / 1000000000 ^ (n - 1)=X:=⟨_,rfl⟩
   rw [hXe] at hX;have hX1:X*1000000000 ^ (n - 1)≤V:=by rw [← hXe];exact YO _ _
   have hX2:V<(X+1)*1000000000 ^ (n - 1):=by rw [← hXe];exact Nat.lt_mul_of_div_lt (Nat.lt_succ_self _) hPp
   have hlo:=R9 hX1 hb2 hvp;have hhi:=RN hX2 hb1 ht0;obtain⟨Q,hQ⟩:∃ Q,V / vb=Q:=⟨_,rfl⟩
   rw [hQ] at hlo hhi hnext hqB
   have hcne:¬ dG V vb<0:=by
    by_cases e:V=vb
    ·rw [mo e];omega
    ·rw [jI (by omega)];omega
   have hokV:=(bp (B:=1000000000) (by decide) V).1;obtain⟨r1,hr1⟩:∃ r1,(aI 1000000000 V)[n - 1]'(by omega)=r1:=⟨_,rfl⟩
   have hr1B:r1<1000000000:=by rw [← hr1];exact hokV _ (aW _)
   have hr1g:(aI 1000000000 V).getD (n - 1) 0=r1:=by rw [WO,rP (by omega),hr1];rfl
   rw [hr1g] at hX;have wn:IntKind.i64.wrap ((n:Int) - 1)=((n - 1:Nat):Int):=by rw [bG (by omega) (by omega)];omega
   have hix1:∀ lv,ak Tryz.prog 213 lv (nK .i64 (some (aI 1000000000 V))) (.c (.d (.int .i64 ((n - 1:Nat):Int))))=some (.c (.d (.ptr [DV.int .i64 (r1:Int)])),[],[],True):=fun lv=>by
    have:=fV (P:=Tryz.prog) (T:=213) (lv:=lv) (k:=.i64) (k':=.i64) (o:=some (aI 1000000000 V)) (i:=n - 1) (by simp) (by simp;omega);rw [this];simp only [aV,hr1]
   have hixb:∀ lv,ak Tryz.prog 213 lv (nK .i64 b) (.c (.d (.int .i64 ((n - 1:Nat):Int))))=some (.c (.d (.ptr [DV.int .i64 (t:Int)])),[],[],True):=fun lv=>by
    have:=fV (P:=Tryz.prog) (T:=213) (lv:=lv) (k:=.i64) (k':=.i64) (o:=b) (i:=n - 1) (by simp) (by omega);rw [this];simp only [ht1]
   refine aax 3 hcmp hcne (hK7 _ _ ?_);refine aaj (by simp [hcne] <;> omega) (aac (hK6 _ _ (aak fun K6 hK6=>?_)));simp [wn,hix1,-fV];apply hK6;refine aaa fun K6 hK6=>?_
   have g1:∀ (fr:Nat→AV) (κ:Nat),fr 0=nK .i64 a→fr 1=nK .i64 b→fr 6=.c (.aR 0 0 (dO a).length 1)→fr 7=.c (.d (.int .i64 n))→fr 8=nK .i64 (some (aI 1000000000 V))→fr 9=.c (.d (.int .i64 (k:Int)))→fr 10=.c (.d (.int .i64 (X:Int)))→∀ lv:Key→LB,lv 0=.cells true false 2 (wK .i64 (List.replicate (k+1) 0++qs))→lv 19=.hole →
    K6 ⟨fr,lv⟩ κ:=by
    intro fr κ z0 z1 z6 z7 z8 z9 z10 lv l0 l19
    have hX3:X≤1000000000000000000:=by
     have:V / 1000000000 ^ (n - 1)<1000000000*1000000000:=by
      rw [Yf hPp]
      have e:1000000000*1000000000*1000000000 ^ (n - 1)=1000000000*1000000000 ^ n:=by
       obtain⟨n',rfl⟩:∃ n',n=n'+1:=⟨n - 1,by omega⟩
       rw [Y8,WU,WT (1000000000 ^ n') 1000000000,WV]
      rw [e];exact Xe hRV (Xd _ (XZ hvl))
     omega
    apply hK6;refine aaa fun K7 hK7=>?_;have f1:=bG (n:=(t:Int)+1) (by omega) (by omega);have f2:=bG (n:=(X:Int)+1) (by omega) (by omega)
    have f3:(X:Int).tdiv ((t:Int)+1)=((X / (t+1):Nat):Int):=by
     have:=mM X (t+1);rwa [Int.natCast_add,Int.natCast_one] at this
    have f4:((X:Int)+1).tdiv (t:Int)=(((X+1) / t:Nat):Int):=by
     have:=mM (X+1) t;rwa [Int.natCast_add,Int.natCast_one] at this
    have hle1:X / (t+1)≤X:=YP _ _;have hle2:(X+1) / t≤X+1:=YP _ _;obtain⟨D1,hD1⟩:∃ D,X / (t+1)=D:=⟨_,rfl⟩
    obtain⟨D2,hD2⟩:∃ D,(X+1) / t=D:=⟨_,rfl⟩
    rw [hD1] at hlo f3 hle1;rw [hD2] at hhi f4 hle2;have f5:=bG (n:=(D1:Int)) (by omega) (by omega);have f6:=bG (n:=(D2:Int)) (by omega) (by omega);have t1:¬ (t:Int)+1=0:=by omega
    have t2:¬ (t:Int)=0:=by omega
    have t3:¬ t=0:=by omega
    have hmin:(if (999999999:Int)<(D2:Int) then (999999999:Int) else (D2:Int))=((min D2 999999999:Nat):Int):=by split <;> omega
    have hmin':(if 999999999<D2 then (999999999:Int) else (D2:Int))=((min D2 999999999:Nat):Int):=by split <;> omega
    have hhi2:Q≤min D2 999999999:=by omega
    have hhB:min D2 999999999≤999999999:=by omega
    obtain⟨H,hH⟩:∃ H,min D2 999999999=H:=⟨_,rfl⟩
    rw [hH] at hmin hmin' hhi2 hhB;refine aaw mixed (by kernel_rfl) rfl rfl ?_;simp [dh,z0,z1,z7,z10,wn,hixb,f1,f2,f3,f4,f5,f6,t1,t2,t3,hmin,hmin',-fV];apply hK7;refine aaa fun K7 hK7=>aaf ?_
    refine aao (fun (p:Nat × Nat)=>⟨bf [(0,nK .i64 a),(1,nK .i64 b),(6,.c (.aR 0 0 (dO a).length 1)),(7,.c (.d (.int .i64 n))),(8,nK .i64 (some (aI 1000000000 V))),(9,.c (.d (.int .i64 (k:Int)))),(11,.c (.d (.int .i64 (p.1:Int)))),(12,.c (.d (.int .i64 (p.2:Int))))],
     aC (fun _=>.hole) 0 (.cells true false 2 (wK .i64 (List.replicate (k+1) 0++qs)))⟩) 1
     (fun p=>p.1≤Q∧Q≤p.2∧p.2≤999999999) (fun p=>p.2 - p.1) (D1,H) (Le.keys [(0,0,.cells true false 2 (wK .i64 (List.replicate (k+1) 0++qs)))] 19 _ rfl rfl (by simp) (by simp) (by simp [l19]) ?_ ?_) ⟨hlo,hhi2,hhB⟩ ?_
    ·intro e he;simp only [WM,Xh,or_false] at he;subst he;simpa [l0] using j9 .i64 2 (List.replicate (k+1) 0++qs) _
    ·simp [c7,z0,z1,z6,z7,z8,z9]
    rintro⟨lo,hi⟩ ⟨q1,q2,q3⟩;simp only at q1 q2 q3;refine aaa fun K8 hK8=>aab ?_
    by_cases hlh:lo<hi
    ·have u1:IntKind.i64.wrap ((lo:Int)+hi)=((lo+hi:Nat):Int):=by rw [bG (by omega) (by omega)];omega
     have u2:IntKind.i64.wrap (((lo+hi:Nat):Int)+1)=((lo+hi+1:Nat):Int):=by rw [bG (by omega) (by omega)];omega
     have u3:(((lo+hi+1:Nat):Int)).tdiv 2=(((lo+hi+1) / 2:Nat):Int):=mM _ 2;obtain⟨mi,hmi⟩:∃ mi,(lo+hi+1) / 2=mi:=⟨_,rfl⟩
     rw [hmi] at u3;have u4:=bG (n:=(mi:Int)) (by omega) (by omega);have u5:=bG (n:=(mi:Int) - 1) (by omega) (by omega);have hpr:=prG mi (by omega);have hcm:=cmG (vb*mi) V;refine aai (by simp [hlh] <;> omega) (aac (hK8 _ _ (aaf (aak fun K9 hK9=>?_))));simp [u1,u2,u3,u4,-Int.natCast_add];apply hK9;refine aaa fun K9 hK9=>?_
     by_cases hle:vb*mi≤V
     ·have hc:dG (vb*mi) V≤0:=by
       by_cases e:vb*mi=V
       ·rw [mo e];omega
       ·rw [jh (by omega)];omega
      have hmQ:mi≤Q:=by rw [← hQ,YM hvp,WT];exact hle
      refine aae ?_;simp [hbs,-au];refine ag.Lq (T:=2) (l:=[mi]) 2 9 1 (by simp [wK]) (by simp) hpr (by simp) (by simp) (by simp) ?_;simp;refine ag.p 2 9 hcm ?_;simp [hc];apply hK9;refine aah (aae ?_);simp;refine⟨mi,hi,Le.keys [(0,0,.cells true false 2 (wK .i64 (List.replicate (k+1) 0++qs)))] 19 _ rfl rfl (by simp) (by simp) (by simp) ?_ (by simp [c7]),⟨hmQ,q2,q3⟩,by omega⟩;intro e he;simp only [WM,Xh,or_false] at he;subst he;simpa using j9 .i64 2 (List.replicate (k+1) 0++qs) _
     ·have hc:¬ dG (vb*mi) V≤0:=by rw [jI (by omega)];omega
      have hmQ:Q≤mi - 1:=by
       have:¬ mi≤Q:=by rw [← hQ,YM hvp,WT];exact hle
       omega
      have u6:(mi:Int) - 1=((mi - 1:Nat):Int):=by omega
      refine aae ?_;simp [hbs,-au];refine ag.Lq (T:=2) (l:=[mi]) 2 9 1 (by simp [wK]) (by simp) hpr (by simp) (by simp) (by simp) ?_;simp;refine ag.p 2 9 hcm ?_;simp [hc];apply hK9;refine aag (aae ?_);simp [u5];refine⟨lo,mi - 1,Le.keys [(0,0,.cells true false 2 (wK .i64 (List.replicate (k+1) 0++qs)))] 19 _ rfl rfl (by simp) (by simp) (by simp) ?_ (by simp [c7,u6]),⟨q1,hmQ,by omega⟩,by omega⟩;intro e he;simp only [WM,Xh,or_false] at he;subst he;simpa using j9 .i64 2 (List.replicate (k+1) 0++qs) _
    ·refine aaj (by simp [hlh] <;> omega) (aan (hK7 _ _ ?_));obtain rfl:lo=Q:=by omega
     have f5:aj (wK .i64 (List.replicate (k+1) 0++qs)) k [CV.d (.int .i64 (lo:Int))]=wK .i64 (List.replicate k 0++(lo::qs)):=by
      rw [fB _ (by simp;omega),oF]
     have hk2:(k:Int)<((dO a).length:Int):=by omega
     have hk3:k<k+1+qs.length:=by omega
     refine aak fun K8 hK8=>?_;simp [f5,hk,hk2,hk3];apply hK8;refine aaz 1 ?_;have hpr:=prG lo (by omega);have hle:vb*lo≤V:=by rw [← hQ];exact Nat.mul_div_le _ _
     have hdf:=dfG V (vb*lo) (by omega) hle
     have hmod:V - vb*lo=V % vb:=by
      have:=Y4 V vb;rw [hQ] at this;omega
     rw [hmod] at hdf;refine aae ?_;simp [hbs,-au];refine ag.Lq (T:=2) (l:=[lo]) 2 9 1 (by simp [wK]) (by simp) hpr (by simp) (by simp) (by simp) ?_;simp;refine ag.p 2 9 hdf ?_;simp;apply hK5;refine aae ?_;simp [w9];refine⟨k,lo::qs,V % vb,Le.keys [(0,0,.cells true false 2 (wK .i64 (List.replicate k 0++lo::qs)))] 19 _ rfl rfl (by simp) (by simp) (by simp) ?_ ?_,⟨by simp;omega,bx.2 ⟨by omega,h2⟩,Xa _ hvp,fun h=>absurd h hkn,hnext⟩,by omega⟩
     ·intro e he;simp only [WM,Xh,or_false] at he;subst he;simpa using j9 .i64 2 (List.replicate k 0++lo::qs) _
     ·simp [c7,hkn]
   refine aab ?_
   by_cases hln:n<(aI 1000000000 V).length
   ·obtain⟨r2,hr2⟩:∃ r2,(aI 1000000000 V)[n]=r2:=⟨_,rfl⟩
    have hr2B:r2<1000000000:=by rw [← hr2];exact hokV _ (aW _)
    have hr2g:(aI 1000000000 V).getD n 0=r2:=by rw [WO,rP hln,hr2];rfl
    rw [hr2g] at hX
    have hix2:∀ lv,ak Tryz.prog 213 lv (nK .i64 (some (aI 1000000000 V))) (.c (.d (.int .i64 ((n:Nat):Int))))=some (.c (.d (.ptr [DV.int .i64 (r2:Int)])),[],[],True):=fun lv=>by
     have:=fV (P:=Tryz.prog) (T:=213) (lv:=lv) (k:=.i64) (k':=.i64) (o:=some (aI 1000000000 V)) (i:=n) (by simp) (by simpa using hln);rw [this];simp only [aV,hr2]
    have v1:IntKind.i64.wrap (1000000000*(r2:Int))=((1000000000*r2:Nat):Int):=by rw [bG (by omega) (by omega)];omega
    have v2:IntKind.i64.wrap ((r1:Int)+((1000000000*r2:Nat):Int))=(X:Int):=by rw [bG (by omega) (by omega)];omega
    refine aai (by simp [hln] <;> omega) (aae ?_);simp [hix2,v1,v2,-fV,-Int.natCast_mul];exact g1 _ _ (by simp) (by simp) (by simp) (by simp) (by simp) (by simp) (by simp) _ (by simp) (by simp)
   ·have hX0:X=r1:=by
     rw [WO,Yc (by omega)] at hX;simpa using hX
    refine aaj (by simp [hln] <;> omega) (aac ?_);simp;exact g1 _ _ (by simp) (by simp) (by simp) (by simp) (by simp) (by simp) (by simp [hX0]) _ (by simp) (by simp)
end Go.Am
