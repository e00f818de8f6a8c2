/- Helpers: an abstract machine for Go functions, and walks of functions of the program. -/
import Derived.Test.YtfkfimmphlpllaaGreatDoorHn08
import Derived.Lib.IndexMore

set_option linter.all false
set_option maxHeartbeats 8000000
set_option maxRecDepth 100000
namespace Go.Am
variable {x:Rat}
abbrev abH:=@List.flatMap_map
open Go.Am.Ty Go.Proofs N
theorem QS (a b:Bool):aJ Tryz.prog .eql 4 (.c (.d (.bool a))) (.c (.d (.bool b)))=some (.c (.d (.bool (a == b))),[],[],True):=by
 cases a <;> cases b <;> kernel_rfl
theorem xD (G:List (List DV))(neg:Bool)(p q:Option (List Nat))(hp:can 4294967296 (dO p))(hq:can 4294967296 (dO q))(hq0:dO q≠[])(hl:(dO p).length<1000000000000)(hl':(dO q).length<1000000000000) :
 aa Tryz.prog G 225 [.c (.d (.bool neg)),.c (nC p),.c (nC q)] (fS (mkRat (gL neg (val 4294967296 (dO p))) (val 4294967296 (dO q)))):=by
 have:=pP G neg p q hp hq hq0 hl hl';rw [AB neg hp hq hq0] at this;simp only [kZ] at this;exact this
theorem AN (G:List (List DV))(neg:Bool)(a b:Nat)(hb:b≠0)(hl:nl a<1000000000000)(hl':nl b<1000000000000) :
 aa Tryz.prog G 225 [.c (.d (.bool neg)),.c (nC (some (cz 4294967296 a))),.c (nC (some (cz 4294967296 b)))] (fS (mkRat (gL neg a) b)):=by
 have:=xD G neg (some (cz 4294967296 a)) (some (cz 4294967296 b)) (gj a) (gj b) (lJ hb) hl hl';simp only [dB,eu] at this;exact this
theorem EU (G:List (List DV))(neg:Bool)(p q:Option (List Nat)):aa Tryz.prog G 198 [pJ neg p q] (pJ (!neg && decide (dO p≠[])) p q):=by
 cases neg with
 | true=>
  show aa Tryz.prog G 198 [pJ true p q] (pJ false p q);refine aa.enc Tryz.func198 rfl (fun lv=>fQ lv _ _ _) fun _=>aab ?_;refine aal @FJ ?_;refine aam ?_;refine dA.cell (κ:=0) (T:=224) (t:=2) (k:=1) (off:=0) (own:=true) (fz:=false) (U:=224) (cs:=[.d (.bool false),nC p,nC q]) rfl ?_ ?_ ?_
  ·simp
  ·simp [aj]
  ·rw [YV,bE]
 | false=>
  by_cases hp:dO p=[]
  ·rw [show (!false && decide (dO p≠[]))=false by simp [hp]];refine aa.enc Tryz.func198 rfl (fun lv=>fQ lv _ _ _) fun _=>aab ?_;refine aaC @FJ @Wu hp ?_;refine aam ?_;refine dA.cell (κ:=0) (T:=224) (t:=2) (k:=1) (off:=0) (own:=true) (fz:=false) (U:=224) (cs:=[.d (.bool false),nC p,nC q]) rfl ?_ ?_ ?_
   ·simp
   ·simp [aj]
   ·rw [YV,bE]
  ·rw [show (!false && decide (dO p≠[]))=true by simp [hp]];refine aa.enc Tryz.func198 rfl (fun lv=>fQ lv _ _ _) fun _=>aab ?_;refine aaa fun K hK=>?_;have hp':=List.length_pos_iff.2 hp;refine aaB @FJ @Wu hp hp' (hK _ _ ?_);refine aam ?_;refine dA.cell (κ:=0) (T:=224) (t:=2) (k:=1) (off:=0) (own:=true) (fz:=false) (U:=224) (cs:=[.d (.bool true),nC p,nC q]) rfl ?_ ?_ ?_
   ·simp
   ·simp [aj]
   ·rw [YV,bE]
theorem MV (G:List (List DV))(x:Rat):aa Tryz.prog G 198 [fS x] (fS (-x)):=by
 have h:=EU G (decide (x.num<0)) (cX x.num.natAbs) (eA x.den)
 have e:(!decide (x.num<0) && decide (dO (cX x.num.natAbs)≠[]))=decide ((-x).num<0):=by
  rw [Rat.neg_num,nr]
  by_cases h0:x.num=0
  ·rw [h0];rfl
  ·have h1:(cz 4294967296 x.num.natAbs)≠[]:=lJ (by omega);rw [decide_eq_true h1,aa7]
   by_cases h2:x.num<0
   ·rw [decide_eq_true h2,decide_eq_false (by omega)];rfl
   ·rw [decide_eq_false h2,decide_eq_true (by omega)];rfl
 rw [e] at h;show aa _ _ _ _ (pJ (decide ((-x).num<0)) (cX (-x).num.natAbs) (eA (-x).den));rw [show (-x).num.natAbs=x.num.natAbs by rw [Rat.neg_num,Int.natAbs_neg],Rat.neg_den];exact h
theorem Ii (neg:Bool)(a:Nat):mkRat (gL neg a) 1=((gL neg a:Int):Rat):=by
 rw [Rat.mkRat_one]
theorem G4 (G:List (List DV))(n:Int)(h1:-9223372036854775808≤n)(h2:n≤9223372036854775807):aa Tryz.prog G 263 [.c (.d (.int .i64 n))] (fS (n:Rat)):=by
 have hof1:=fW G 1 (by decide);have hofn:=fW G n.natAbs (by omega)
 have hl:nl n.natAbs<1000000000000:=by
  have e2:(4294967296:Nat) ^ 2=18446744073709551616:=by decide
  have:=DB (n:=n.natAbs) (m:=2) (by omega);omega
 have hm:=fun neg=>AN G neg n.natAbs 1 (by decide) hl (by rw [qc];decide)
 simp only [kZ] at hof1 hofn;simp only [Ii] at hm
 by_cases hn:n<0
 ·have e:gL true n.natAbs=n:=by unfold gL;rw [if_pos rfl];omega
  have CD:=hm true;rw [e] at CD;have ew:IntKind.u64.wrap (-IntKind.u64.wrap n)=(n.natAbs:Int):=by rw [Ap,Ap];omega
  refine aa.enc Tryz.func263 rfl (fun lv=>fQ lv _ _ _) fun _=>aab ?_;refine aaa fun K hK=>aal hn ?_;refine aaf (by simp [hn] <;> omega) (aai fun K1 hK1=>?_);simp [ew];refine ag.p 1 9 hofn ?_;simp;refine ag.p 1 9 hof1 ?_;simp;refine ag.p 1 9 CD ?_;simp
  repeat refine ah ?_
  apply hK1;refine aam ?_;refine dA.cell (κ:=0) (T:=224) (t:=2) (k:=0) (off:=0) (own:=true) (fz:=false) (U:=224) (cs:=[.d (.bool (decide ((n:Rat).num<0))),nC (cX (n:Rat).num.natAbs),nC (eA (n:Rat).den)]) rfl ?_ ?_ ?_
  ·simp
  ·simp [aj]
  ·rw [YV,bE]
 ·have e:gL false n.natAbs=n:=by unfold gL;rw [if_neg (by decide)];omega
  have CD:=hm false;rw [e] at CD;have ew:IntKind.u64.wrap n=(n.natAbs:Int):=by rw [Ap];omega
  refine aa.enc Tryz.func263 rfl (fun lv=>fQ lv _ _ _) fun _=>aab ?_;refine aaa fun K hK=>aal hn ?_;refine aah (by simp [hn] <;> omega) (aac (hK _ _ (aai fun K hK=>?_)));simp [ew];refine ag.p 1 9 hofn ?_;simp;refine ag.p 1 9 hof1 ?_;simp;refine ag.p 1 9 CD ?_;simp
  repeat refine ah ?_
  apply hK;refine aam ?_;refine dA.cell (κ:=0) (T:=224) (t:=2) (k:=0) (off:=0) (own:=true) (fz:=false) (U:=224) (cs:=[.d (.bool (decide ((n:Rat).num<0))),nC (cX (n:Rat).num.natAbs),nC (eA (n:Rat).den)]) rfl ?_ ?_ ?_
  ·simp
  ·simp [aj]
  ·rw [YV,bE]
def Ck (neg:Bool)(a:Nat)(neg':Bool)(b q:Nat):Rat:=
 if neg=neg' then mkRat (gL neg (a+b)) q else if a<b then mkRat (gL neg' (b - a)) q else mkRat (gL neg (a - b)) q
theorem rK {a b:Nat}:(kK a b<0)↔a<b:=by unfold kK;(repeat' split) <;> omega
theorem E1 (G:List (List DV))(neg neg':Bool)(p q p' q':Option (List Nat))(h1:(dO p).length≤10000000000)(h2:(dO q).length≤10000000000)(h3:(dO p').length≤10000000000)(h4:(dO q').length≤10000000000)
 (c1:can 4294967296 (dO p)) (c2:can 4294967296 (dO (fc q))) (c3:can 4294967296 (dO p')) (c4:can 4294967296 (dO (fc q'))) (z2:(val 4294967296 (dO (fc q)))≠0) (z4:(val 4294967296 (dO (fc q')))≠0) :
 aa Tryz.prog G 335 [pJ neg p q,pJ neg' p' q'] (fS (Ck neg ((val 4294967296 (dO p))*(val 4294967296 (dO (fc q')))) neg' ((val 4294967296 (dO p'))*(val 4294967296 (dO (fc q)))) ((val 4294967296 (dO (fc q)))*(val 4294967296 (dO (fc q')))))):=by
 have b1:=rZ h2 (by decide);have b2:=rZ h4 (by decide);have m1:=gy G p (fc q') (by omega) (by omega);have m2:=gy G p' (fc q) (by omega) (by omega);have m3:=gy G (fc q) (fc q') (by omega) (by omega);have hQ:(val 4294967296 (dO (fc q)))*(val 4294967296 (dO (fc q')))≠0:=aaP (aaN (abV z2) (abV z4));have lv:∀ {o:Option (List Nat)},can 4294967296 (dO o)→nl (val 4294967296 (dO o))=(dO o).length:=fun {o} hc=>by unfold nl;rw [← jC (by decide) hc rfl]
 have l1:nl ((val 4294967296 (dO p))*(val 4294967296 (dO (fc q'))))≤20000000000:=by
  have:=lC (val 4294967296 (dO p)) (val 4294967296 (dO (fc q')));rw [lv c1,lv c4] at this;omega
 have l2:nl ((val 4294967296 (dO p'))*(val 4294967296 (dO (fc q))))≤20000000000:=by
  have:=lC (val 4294967296 (dO p')) (val 4294967296 (dO (fc q)));rw [lv c3,lv c2] at this;omega
 have l3:nl ((val 4294967296 (dO (fc q)))*(val 4294967296 (dO (fc q'))))≤20000000000:=by
  have:=lC (val 4294967296 (dO (fc q))) (val 4294967296 (dO (fc q')));rw [lv c2,lv c4] at this;omega
 generalize (val 4294967296 (dO p))*(val 4294967296 (dO (fc q')))=a at *
 generalize (val 4294967296 (dO p'))*(val 4294967296 (dO (fc q)))=b at *
 generalize (val 4294967296 (dO (fc q)))*(val 4294967296 (dO (fc q')))=Q at *
 have la:(dO (some (cz 4294967296 a))).length≤20000000000:=l1;have lb:(dO (some (cz 4294967296 b))).length≤20000000000:=l2;have k1:=sR G (some (cz 4294967296 a)) (some (cz 4294967296 b)) (by omega) (by omega);have k2:=gu (G:=G) (a:=some (cz 4294967296 a)) (b:=some (cz 4294967296 b)) (gj _) (gj _);have k3:=fun h=>th G (some (cz 4294967296 a)) (some (cz 4294967296 b)) (by omega) h
 have k4:=fun h=>th G (some (cz 4294967296 b)) (some (cz 4294967296 a)) (by omega) h
 simp only [dB,eu] at k1 k2 k3 k4;simp only [kZ,F7] at m1 m2 m3 k1 k2 k3 k4;have mk1:=fun neg n (h:nl n≤20000000001)=>AN G neg n Q hQ (by omega) (by omega)
 have hsum:nl (a+b)≤20000000001:=by have:=KF a b;omega
 have hs1:nl (a - b)≤20000000001:=by have:=oP (Nat.sub_le a b);omega
 have hs2:nl (b - a)≤20000000001:=by have:=oP (Nat.sub_le b a);omega
 refine aa.enc Tryz.func335 rfl (fun lv=>fQ lv _ _ _) fun _=>aab ?_;refine aaa fun K hK=>?_;refine aaq mixed (by kernel_rfl) rfl ?_;simp;refine ag.p 3 9 (dD _ neg' p' q') ?_;simp;refine ag.p 3 9 m1 ?_;simp;refine ag.p 3 9 (dD _ neg p q) ?_;simp;refine ag.p 3 9 m2 ?_;simp;refine ag.p 3 9 (dD _ neg p q) ?_;simp;refine ag.p 3 9 (dD _ neg' p' q') ?_;simp;refine ag.p 3 9 m3 ?_;simp;refine⟨by kernel_rfl,?_⟩
 repeat refine ah ?_
 apply hK;refine aaa fun K hK=>aag (aal @QS ?_)
 by_cases hn:neg=neg'
 ·subst hn;have e:Ck neg a neg b Q=mkRat (gL neg (a+b)) Q:=by unfold Ck;rw [if_pos rfl]
  rw [e];refine aak (aaa fun K1 hK1=>?_);refine aaq mixed (by kernel_rfl) rfl ?_;simp;refine ag.p 3 9 k1 ?_;simp;refine ag.p 3 9 (mk1 neg _ hsum) ?_;simp;refine⟨by kernel_rfl,?_⟩
  repeat refine ah ?_
  apply hK1;refine aam ?_;refine dA.cell (κ:=0) (T:=224) (t:=4) (k:=2) (off:=0) (own:=true) (fz:=false) (U:=224) (cs:=[.d (.bool (decide ((mkRat (gL neg (a+b)) Q).num<0))),nC (cX (mkRat (gL neg (a+b)) Q).num.natAbs),nC (eA (mkRat (gL neg (a+b)) Q).den)]) rfl ?_ ?_ ?_
  ·simp
  ·simp [aj]
  ·rw [YV,bE]
 have hn':(neg == neg')=false:=by cases neg <;> cases neg' <;> simp_all
 refine aah (by simp [hn'] <;> omega) (aas 3 k2 ?_)
 by_cases hab:a<b
 ·have e:Ck neg a neg' b Q=mkRat (gL neg' (b - a)) Q:=by unfold Ck;rw [if_neg hn,if_pos hab]
  rw [e];have hc:=rK.2 hab;refine aaf (by simp [hc] <;> omega) (aaa fun K1 hK1=>?_);refine aaq mixed (by kernel_rfl) rfl ?_;simp;refine ag.p 3 9 (k4 (by omega)) ?_;simp;refine ag.p 3 9 (mk1 neg' _ hs2) ?_;simp;refine⟨by kernel_rfl,?_⟩
  repeat refine ah ?_
  apply hK1;refine aam ?_;refine dA.cell (κ:=0) (T:=224) (t:=4) (k:=2) (off:=0) (own:=true) (fz:=false) (U:=224) (cs:=[.d (.bool (decide ((mkRat (gL neg' (b - a)) Q).num<0))),nC (cX (mkRat (gL neg' (b - a)) Q).num.natAbs),nC (eA (mkRat (gL neg' (b - a)) Q).den)]) rfl ?_ ?_ ?_
  ·simp
  ·simp [aj]
  ·rw [YV,bE]
 ·have e:Ck neg a neg' b Q=mkRat (gL neg (a - b)) Q:=by unfold Ck;rw [if_neg hn,if_neg hab]
  have hc:¬ kK a b<0:=fun h=>hab (rK.1 h)
  refine aah (by simp [hc] <;> omega) (aac (hK _ _ (aaa fun K hK=>?_)));refine aaq mixed (by kernel_rfl) rfl ?_;simp;refine ag.p 3 9 (k3 (by omega)) ?_;simp;refine ag.p 3 9 (mk1 neg _ hs1) ?_;simp;refine⟨by kernel_rfl,?_⟩
  repeat refine ah ?_
  apply hK;refine aam ?_;refine dA.cell (κ:=0) (T:=224) (t:=4) (k:=2) (off:=0) (own:=true) (fz:=false) (U:=224) (cs:=[.d (.bool (decide ((mkRat (gL neg (a - b)) Q).num<0))),nC (cX (mkRat (gL neg (a - b)) Q).num.natAbs),nC (eA (mkRat (gL neg (a - b)) Q).den)]) rfl ?_ ?_ ?_
  ·simp
  ·simp [aj]
  ·rw [YV,bE,e]
theorem iH (n:Nat):(dO (cX n)).length=nl n:=by rw [nr];rfl
theorem rJ (n:Nat):(dO (eA n)).length≤nl n:=by
 unfold eA;split
 ·exact Y4 _
 ·exact aW _
theorem Nk (G:List (List DV))(x y:Rat)(hx:oS x 10000000000)(hy:oS y 10000000000):aa Tryz.prog G 335 [fS x,fS y] (fS (x+y)):=by
 have h:=E1 G (decide (x.num<0)) (decide (y.num<0)) (cX x.num.natAbs) (eA x.den) (cX y.num.natAbs) (eA y.den)
  (by rw [iH];exact hx.1) (Za (rJ _) hx.2) (by rw [iH];exact hy.1) (Za (rJ _) hy.2) (n9 _) (EE _) (n9 _) (EE _) (by rw [Bw];exact x.den_nz) (by rw [Bw];exact y.den_nz)
 simp only [uP,Bw] at h
 have e:Ck (decide (x.num<0)) (x.num.natAbs*y.den) (decide (y.num<0)) (y.num.natAbs*x.den) (x.den*y.den)=x+y:=by
  rw [JP];unfold Ck;split
  ·rename_i hh;rw [hh,HF]
  ·split
   ·rename_i hh hl;rw [LY hh hl]
   ·rename_i hh hl;rw [Mv hh hl]
 rw [e] at h;exact h
theorem OD (G:List (List DV))(x y:Rat)(hx:oS x 10000000000)(hy:oS y 10000000000):aa Tryz.prog G 287 [fS x,fS y] (fS (x - y)):=by
 have h1:=MV G y;have h2:=Nk G x (-y) hx (Ba hy);rw [← Rat.sub_eq_add_neg] at h2;refine aa.enc Tryz.func287 rfl (fun lv=>fQ lv _ _ _) fun _=>aab ?_;refine aaa fun K hK=>?_;refine aaq mixed (by kernel_rfl) rfl ?_;simp;refine ag.p 3 9 h1 ?_;simp;refine ag.p 3 9 h2 ?_;simp;refine⟨by kernel_rfl,?_⟩
 repeat refine ah ?_
 apply hK;refine aam ?_;refine dA.cell (κ:=0) (T:=224) (t:=4) (k:=2) (off:=0) (own:=true) (fz:=false) (U:=224) (cs:=[.d (.bool (decide ((x - y).num<0))),nC (cX (x - y).num.natAbs),nC (eA (x - y).den)]) rfl ?_ ?_ ?_
 ·simp
 ·simp [aj]
 ·rw [YV,bE]
theorem Ek (G:List (List DV))(x:Rat)(k:Int)(hx:oS x 10000000000)(h1:-1000000≤k)(h2:k≤1000000):aa Tryz.prog G 332 [fS x,.c (.d (.int .i64 k))] (fS (cE x k)):=by
 have hbot:=dD G (decide (x.num<0)) (cX x.num.natAbs) (eA x.den);rw [BV] at hbot;have hw:IntKind.i64.wrap (-k) = -k:=dF (by omega) (by omega)
 by_cases hk:k<0
 ·have e:=za (x:=x) hk;have ht:((-k).toNat:Int) = -k:=by omega
  have hs:=gw G (some (cz 4294967296 x.den)) (-k).toNat (by have:=hx.2;show nl _≤_;omega) (by omega);simp only [dB,lJ x.den_nz,if_false,eu,kZ,ht] at hs
  have hm:=xD G (decide (x.num<0)) (cX x.num.natAbs) (some (cz 4294967296 (x.den*2 ^ (-k).toNat))) (n9 _) (gj _) (lJ (yV _ _)) (by rw [iH];have:=hx.1;omega) (by
   have h3:=lC x.den (2 ^ (-k).toNat);have h4:=Cx (-k).toNat;have:=hx.2;show nl _<_;omega)
  rw [uP,dB,eu,← e] at hm;generalize cE x k=r at *
  refine aa.enc Tryz.func332 rfl (fun lv=>fQ lv _ _ _) fun _=>aab ?_;refine aaa fun K hK=>aal hk ?_;refine aaf (by simp [hk] <;> omega) (aaa fun K1 hK1=>?_);refine aaq mixed (by kernel_rfl) rfl ?_;simp [hw];refine ag.p 2 9 hbot ?_;simp [hw];refine ag.p 2 9 hs ?_;simp [hw];refine ag.p 2 9 hm ?_;simp;refine⟨by kernel_rfl,?_⟩
  repeat refine ah ?_
  apply hK1;refine aam ?_;refine dA.cell (κ:=0) (T:=224) (t:=4) (k:=1) (off:=0) (own:=true) (fz:=false) (U:=224) (cs:=[.d (.bool (decide (r.num<0))),nC (cX r.num.natAbs),nC (eA r.den)]) rfl ?_ ?_ ?_
  ·simp
  ·simp [aj]
  ·rw [YV,bE]
 ·have e:=xF (x:=x) hk;have ht:(k.toNat:Int)=k:=by omega
  have hs:=gw G (cX x.num.natAbs) k.toNat (by rw [iH];have:=hx.1;omega) (by omega)
  have hs':aa Tryz.prog G 326 [.c (nC (cX x.num.natAbs)),.c (.d (.int .i64 k))] (.c (nC (cX (x.num.natAbs*2 ^ k.toNat)))):=by
   simp only [uP] at hs;simp only [nr,ht,kZ] at hs
   by_cases h0:x.num.natAbs=0
   ·have:(cz 4294967296 x.num.natAbs)=[]:=by rw [h0];rfl
    rw [if_pos this] at hs;rw [h0,Nat.zero_mul];rw [h0] at hs;exact hs
   ·rw [if_neg (lJ h0)] at hs;unfold cX at hs ⊢;rw [if_neg h0] at hs;rw [if_neg h0,if_neg (aaP (aaN (abV h0) (Zv (by decide))))];exact hs
  have hm:=xD G (decide (x.num<0)) (cX (x.num.natAbs*2 ^ k.toNat)) (some (cz 4294967296 x.den)) (n9 _) (gj _) (lJ x.den_nz) (by
   rw [iH];have h3:=lC x.num.natAbs (2 ^ k.toNat);have h4:=Cx k.toNat;have:=hx.1;omega) (by have:=hx.2;show nl _<_;omega)
  rw [uP,dB,eu,← e] at hm;generalize cE x k=r at *
  refine aa.enc Tryz.func332 rfl (fun lv=>fQ lv _ _ _) fun _=>aab ?_;refine aaa fun K hK=>aal hk ?_;refine aah (by simp [hk] <;> omega) (aac (hK _ _ (aaa fun K hK=>?_)));refine aaq mixed (by kernel_rfl) rfl ?_;simp;refine ag.p 2 9 hs' ?_;simp;refine ag.p 2 9 hbot ?_;simp;refine ag.p 2 9 hm ?_;simp;refine⟨by kernel_rfl,?_⟩
  repeat refine ah ?_
  apply hK;refine aam ?_;refine dA.cell (κ:=0) (T:=224) (t:=4) (k:=1) (off:=0) (own:=true) (fz:=false) (U:=224) (cs:=[.d (.bool (decide (r.num<0))),nC (cX r.num.natAbs),nC (eA r.den)]) rfl ?_ ?_ ?_
  ·simp
  ·simp [aj]
  ·rw [YV,bE]
theorem Eg (lv:Key→LB)(b:Bool)(p q:Option (List Nat))(n:Int):fT lv (.tup [pJ b p q,.c (.d (.int .i64 n))])=some (.tup [pJ b p q,.c (.d (.int .i64 n))],[]):=by
 cases p <;> cases q <;> rfl
@[simp] theorem Ol (b:Bool)(p q:Option (List Nat))(n:Int):(AV.tup [.agg [.d (.bool b),nC p,nC q],.c (.d (.int .i64 n))]).pure=true:=by
 cases p <;> cases q <;> rfl
theorem AH (G:List (List DV))(x:Rat)(k:Int)(hx:oS x 10000000000)(h1:-20000≤k)(h2:k≤20000):aa Tryz.prog G 283 [fS x,.c (.d (.int .i64 k))] (.tup [fS (cE x k),.c (.d (.int .i64 0))]):=by
 have h:=Ek G x k hx (by omega) (by omega);generalize cE x k=r at *
 have i1:¬ k < -20000:=by omega
 have i2:¬ 20000<k:=by omega
 refine aa.enc Tryz.func283 rfl (fun lv=>Eg lv _ _ _ _) fun _=>aab ?_;refine aaa fun K hK=>aar i1 i2 ?_;refine aaj (aac (hK _ _ (aas 2 h ?_)));refine aam ?_;refine dA.nU (κ:=0) (T:=224) (t:=4) (u:=5) (k:=1) (off:=0) (own:=true) (fz:=false) (U:=224) (cs:=[.d (.bool (decide (r.num<0))),nC (cX r.num.natAbs),nC (eA r.den)]) rfl ?_ ?_ ?_ ?_ rfl rfl
 ·simp
 ·simp [aj]
 ·rw [YV,bE]
 ·simp
theorem MS (G:List (List DV))(k:Int)(h1:-20000≤k)(h2:k≤20000):aa Tryz.prog G 334 [.c (.d (.int .i64 k))] (.tup [fS (cE 1 k),.c (.d (.int .i64 0))]):=by
 have hi:=G4 G 1 (by decide) (by decide);have h:=AH G 1 k ⟨by show nl 1≤_;rw [qc];decide,by show nl 1≤_;rw [qc];decide⟩ h1 h2;change aa _ _ _ _ (fS (1:Rat)) at hi;generalize cE 1 k=r at *
 generalize (1:Rat)=o at *
 refine aa.enc Tryz.func334 rfl (fun lv=>Eg lv _ _ _ _) fun _=>aab ?_;refine aai fun K hK=>?_;simp;refine ag.p 1 9 hi ?_;simp;refine ag.p 1 9 h ?_;simp
 repeat refine ah ?_
 apply hK;refine aam ?_;refine dA.nU (κ:=0) (T:=224) (t:=2) (u:=3) (k:=0) (off:=0) (own:=true) (fz:=false) (U:=224) (cs:=[.d (.bool (decide (r.num<0))),nC (cX r.num.natAbs),nC (eA r.den)]) rfl ?_ ?_ ?_ ?_ rfl rfl
 ·simp
 ·simp [aj]
 ·rw [YV,bE]
 ·simp
def lM (x:Rat):Int:=
 let k:=(bS x.num.natAbs:Int) - bS x.den
 if x.num.natAbs*2 ^ (max (-k) 0).toNat<x.den*2 ^ (max k 0).toNat then k - 1 else k
theorem Lv(hx:x≠0) {L:Nat}(h:oS x L):-(32*(L:Int))≤lM x∧lM x≤32*L:=by
 have h0:x.num.natAbs≠0:=by intro e;exact hx (Rat.num_eq_zero.1 (by omega))
 have h1:=wD h0;have h2:=wD x.den_nz;have h3:1≤bS x.num.natAbs:=by unfold bS;rw [if_neg h0];omega
 have h4:1≤bS x.den:=by unfold bS;rw [if_neg x.den_nz];omega
 have:=h.1;have:=h.2;unfold lM;simp only;split <;> omega
theorem Nl (G:List (List DV))(x:Rat)(hx:x≠0)(hs:oS x 10000000):aa Tryz.prog G 333 [fS x] (.c (.d (.int .i64 (lM x)))):=by
 have h0:x.num.natAbs≠0:=by intro e;exact hx (Rat.num_eq_zero.1 (by omega))
 have hbot:=dD G (decide (x.num<0)) (cX x.num.natAbs) (eA x.den);rw [BV] at hbot;have l1:=hs.1;have l2:=hs.2;have b1:=wD h0;have b2:=wD x.den_nz;have p1:=p6 G (cX x.num.natAbs) (n9 _) (by rw [iH];omega);have p2:=p6 G (some (cz 4294967296 x.den)) (gj _) (by show nl _≤_;omega);rw [uP] at p1;rw [dB,eu] at p2;have ek:∃ k:Int,(bS x.num.natAbs:Int) - bS x.den=k∧-320000000≤k∧k≤320000000:=⟨_,rfl,by omega,by omega⟩
 obtain⟨k,hk,k1,k2⟩:=ek;have ew:IntKind.i64.wrap ((bS x.num.natAbs:Int) - bS x.den)=k:=by rw [hk];exact dF (by omega) (by omega)
 have ew2:IntKind.i64.wrap (-k) = -k:=dF (by omega) (by omega);have mx1:(List.foldl (fun a b:Int=>if a<b then b else a) (-k) [0])=((max (-k) 0).toNat:Int):=by simp only [List.foldl];split <;> omega
 have mx2:(List.foldl (fun a b:Int=>if a<b then b else a) k [0])=((max k 0).toNat:Int):=by simp only [List.foldl];split <;> omega
 have hlog:lM x=if x.num.natAbs*2 ^ (max (-k) 0).toNat<x.den*2 ^ (max k 0).toNat then k - 1 else k:=by unfold lM;simp only [hk]
 have s1:=gw G (cX x.num.natAbs) (max (-k) 0).toNat (by rw [iH];omega) (by omega);have s2:=gw G (some (cz 4294967296 x.den)) (max k 0).toNat (by show nl _≤_;omega) (by omega);rw [nr,if_neg (lJ h0),eu] at s1;rw [dB,if_neg (lJ x.den_nz),eu] at s2;have cm:=gu (G:=G) (a:=some (cz 4294967296 (x.num.natAbs*2 ^ (max (-k) 0).toNat))) (b:=some (cz 4294967296 (x.den*2 ^ (max k 0).toNat))) (gj _) (gj _);simp only [dB,eu] at cm;generalize x.num.natAbs*2 ^ (max (-k) 0).toNat=a at *
 generalize x.den*2 ^ (max k 0).toNat=b at *
 generalize (max (-k) 0).toNat=u at *
 generalize (max k 0).toNat=v at *
 simp only [kZ] at p1 p2 s1 s2 cm;have ew3:IntKind.i64.wrap (k - 1)=k - 1:=dF (by omega) (by omega);refine aa.en Tryz.func333 rfl fun _=>aab ?_;refine aas 1 hbot ?_;refine aai fun K hK=>?_;simp;refine ag.p 1 9 p1 ?_;simp;refine ag.p 1 9 p2 ?_;simp [ew]
 repeat refine ah ?_
 apply hK;refine aaa fun K hK=>aai fun K1 hK1=>?_;simp [ew2,eN,mx1,mx2,-List.foldl_cons,-List.foldl_nil];refine ag.p 1 9 s1 ?_;simp [ew2,eN,mx1,mx2,-List.foldl_cons,-List.foldl_nil];refine ag.p 1 9 s2 ?_;simp [ew2,eN,mx1,mx2,-List.foldl_cons,-List.foldl_nil];refine ag.p 1 9 cm ?_;simp
 repeat refine ah ?_
 apply hK1
 by_cases hab:a<b
 ·have hc:=rK.2 hab;rw [if_pos hab] at hlog;refine aaf (by simp [hc] <;> omega) (aat ew3 (hK _ _ ?_));refine aab ?_;exact aad (aH.rt rfl 2 (by simp [hlog]))
 ·have hc:¬ kK a b<0:=fun h=>hab (rK.1 h)
  rw [if_neg hab] at hlog;refine aah (by simp [hc] <;> omega) (aac (hK _ _ (aab ?_)));exact aad (aH.rt rfl 2 (by simp [hlog]))
theorem LU(hx:x≠0):vn (decide (x.num<0)) (cX x.num.natAbs)≠0:=by
 have h0:x.num.natAbs≠0:=by intro e;exact hx (Rat.num_eq_zero.1 (by omega))
 unfold vn;rw [nr,if_neg (lJ h0)];split <;> decide
theorem Kk(hx:x=0):vn (decide (x.num<0)) (cX x.num.natAbs)=0:=by subst hx;rfl
theorem N8 (G:List (List DV))(x:Rat)(hx:x≠0)(hs:oS x 10000000):aa Tryz.prog G 285 [fS x] (.tup [.c (.d (.int .i64 (lM x))),.c (.d (.int .i64 0))]):=by
 have h:=Nl G x hx hs;have hg:=lz G (decide (x.num<0)) (cX x.num.natAbs) (eA x.den);have hne:=LU hx;refine aa.en Tryz.func285 rfl fun _=>aab ?_;refine aaa fun K hK=>aaA 1 hg hne ?_;refine aah (by simp [hne] <;> omega) (aac (hK _ _ (aas 1 h ?_)));exact aad (aH.t2 rfl 9 (by simp) (by simp))
theorem QJ {y:Rat}:x<y↔gL (decide (x.num<0)) (x.num.natAbs*y.den)<gL (decide (y.num<0)) (y.num.natAbs*x.den):=by
 rw [Rat.lt_iff,← tr,← tr,uh,uh]
theorem NA (x y:Rat):Ri (decide (x.num<0)) (cX x.num.natAbs) (eA x.den) (decide (y.num<0)) (cX y.num.natAbs) (eA y.den)=xh x y:=by
 unfold xh;simp only [QJ];unfold Ri;simp only [uP,Bw];have hx:0<x.den:=x.den_pos;have hy:0<y.den:=y.den_pos
 have sx:vn (decide (x.num<0)) (cX x.num.natAbs)=if x.num.natAbs=0 then 0 else if x.num<0 then -1 else 1:=by
  unfold vn;rw [nr];simp only [lq (by decide:2≤4294967296),decide_eq_true_eq]
 have sy:vn (decide (y.num<0)) (cX y.num.natAbs)=if y.num.natAbs=0 then 0 else if y.num<0 then -1 else 1:=by
  unfold vn;rw [nr];simp only [lq (by decide:2≤4294967296),decide_eq_true_eq]
 rw [sx,sy];have ha:x.num.natAbs*y.den=0↔x.num.natAbs=0:=by rw [Nat.mul_eq_zero];omega
 have hb:y.num.natAbs*x.den=0↔y.num.natAbs=0:=by rw [Nat.mul_eq_zero];omega
 generalize x.num.natAbs*y.den=a at *
 generalize y.num.natAbs*x.den=b at *
 unfold gL kK;simp only [decide_eq_true_eq];generalize x.num=u at *
 generalize y.num=v at *
 (repeat' split) <;> omega
theorem Hr (G:List (List DV))(x y:Rat)(hx:oS x 10000000000)(hy:oS y 10000000000):aa Tryz.prog G 161 [fS x,fS y] (.c (.d (.int .i64 (xh x y)))):=by
 have h:=FR G (decide (x.num<0)) (decide (y.num<0)) (cX x.num.natAbs) (eA x.den) (cX y.num.natAbs) (eA y.den)
  (by rw [iH];have:=hx.1;omega) (Za (rJ _) (by have:=hx.2;omega)) (by rw [iH];have:=hy.1;omega) (Za (rJ _) (by have:=hy.2;omega))
 rw [NA] at h;exact h
end Go.Am
namespace Go.Am
open Go.Proofs
theorem I7 (m:Int):aa Tryz.prog (GG m) 22 [.c (.d (.str [114,101,115,117,108,116,32,121,10]))]
 (.tup [.agg [.d .nilsl,.d (.int .i64 (.ofNat 0)),.d .nilsl,.d .nilsl,.d (.int .i64 (.ofNat 0)),.d (.int .i64 (.ofNat 0)),.d .nilsl,.d (.int .i64 (.ofNat 0))],.c (.d (.int .i64 (.ofNat 1))),.c (.d (.int .i64 (.ofNat 144)))]):=
 aa.G1 (Gp m 60) (by kernel_rfl)
end Go.Am
namespace Go.Am
open Go.Am.Ty Go.Proofs N
def lX (c:UInt8):Bool:=decide (48≤c.toNat∧c.toNat≤57)
def EP:List DV:=(List.range 256).map fun c=>.bool (decide (48≤c∧c≤57))
theorem Bo:EP.length=256:=by simp [EP]
theorem JD (c:UInt8):EP.drop c.toNat=.bool (lX c)::EP.drop (c.toNat+1):=by
 have h:c.toNat<EP.length:=by rw [Bo];exact c.toNat_lt
 rw [ZR h];congr 1;simp [EP,lX]
theorem vu (G:List (List DV))(c:UInt8):aa Tryz.prog G 344 [.c (.d (.ptr EP)),.c (.d (.int .u8 c.toNat))] (.c (.d (.bool (lX c)))):=by
 have hc:=c.toNat_lt;have hl:=Bo;have ha:=JD c;refine aa.en Tryz.func344 rfl fun _=>aab ?_;refine aai fun K hK=>?_;simp [aq,ha,hl]
 repeat refine ah ?_
 apply hK;exact aad (aH.rt rfl 4 (by simp))
theorem CY (G:List (List DV))(s:List UInt8):aa Tryz.prog G 308 [.c (.d (.str s)),.c (.d (.ptr EP))] (.c (.d (.str (s.dropWhile lX)))):=by
 refine aa.en Tryz.func308 rfl fun _=>aab ?_;refine aaa fun K hK=>aag ?_;refine aap (fun (p:List UInt8)=>⟨bq [(0,.c (.d (.str p))),(1,.c (.d (.ptr EP)))],fun _=>.hole⟩) 0 (fun p=>p.dropWhile lX=s.dropWhile lX) (fun p=>p.length) s (Le.mk' _ rfl (by intro k own es h;cases h) (by simp)) rfl ?_;rintro p hp;refine aaa fun K3 hK3=>aab ?_
 cases p with
 | nil=>
  refine aaj (aan (hK _ _ (aab ?_)));have hp':s.dropWhile lX=[]:=by rw [← hp];rfl
  exact aad (aH.rt rfl 4 (by simp [hp']))
 | cons c l=>
  refine aak (aac (hK3 _ _ (aag (aaa fun K5 hK5=>aai fun K6 hK6=>?_))));simp;refine ag.pure 0 9 (vu _ c) (by simp) (by simp) rfl ?_;simp
  repeat refine ah ?_
  apply hK6
  cases hd:lX c with
  | false=>
   refine aaf (by simp [hd] <;> omega) (aan (hK _ _ ?_));simp only [List.dropWhile,hd] at hp;refine aab ?_;exact aad (aH.rt rfl 4 (by simp [hp]))
  | true=>
   refine aah (by simp [hd] <;> omega) (aac (hK5 _ _ (aae ?_)));simp;simp only [List.dropWhile,hd] at hp;exact⟨by omega,l,Le.mk' _ rfl (by intro k own es h;cases h) (by simp),hp,by simp⟩
def j6 (s:List UInt8):List UInt8:=(s.reverse.dropWhile lX).reverse
theorem Bl (G:List (List DV))(s:List UInt8):aa Tryz.prog G 309 [.c (.d (.str s)),.c (.d (.ptr EP))] (.c (.d (.str (j6 s)))):=by
 refine aG.iL 0 (by simp) (fun V v h=>(show s.length≤9223372036854775807 by cases h.1 with|str _ hl=>exact hl)) fun hr=>?_;refine aa.en Tryz.func309 rfl fun _=>aab ?_;refine aaa fun K hK=>aag ?_;refine aap (fun (p:List UInt8)=>⟨bq [(0,.c (.d (.str p))),(1,.c (.d (.ptr EP)))],fun _=>.hole⟩) 0 (fun p=>p.reverse.dropWhile lX=s.reverse.dropWhile lX∧p.length≤s.length) (fun p=>p.length) s (Le.mk' _ rfl (by intro k own es h;cases h) (by simp)) ⟨rfl,aW _⟩ ?_;rintro p ⟨hp,hpl⟩;refine aaa fun K3 hK3=>aab ?_;rcases List.eq_nil_or_concat p with rfl|⟨l,c,rfl⟩
 ·refine aaj (aan (hK _ _ (aab ?_)));have hp':j6 s=[]:=by unfold j6;rw [← hp];rfl
  exact aad (aH.rt rfl 4 (by simp [hp']))
 ·rw [List.concat_eq_append] at *
  have hn:0<(l++[c]).length:=by simp
  have hlen:(l++[c]).length=l.length+1:=by simp
  have e2:IntKind.i64.wrap (l.length:Int)=(l.length:Int):=dF (by omega) (by omega);have hr1:(l++[c]).reverse=c::l.reverse:=by simp
  rw [hr1] at hp;refine aak (aac (hK3 _ _ (aag (aaa fun K5 hK5=>aai fun K6 hK6=>?_))));simp [e2];refine⟨by omega,?_⟩;refine ag.pure 0 9 (vu _ c) (by simp) (by simp) rfl ?_;simp
  repeat refine ah ?_
  apply hK6
  cases hd:lX c with
  | false=>
   refine aaf (by simp [hd] <;> omega) (aan (hK _ _ ?_));simp only [List.dropWhile,hd] at hp;refine aab ?_;have hp':j6 s=l++[c]:=by unfold j6;rw [← hp];simp
   exact aad (aH.rt rfl 4 (by simp [hp']))
  | true=>
   refine aah (by simp [hd] <;> omega) (aac (hK5 _ _ (aae ?_)));simp [e2];simp only [List.dropWhile,hd] at hp;exact⟨by omega,l,Le.mk' _ rfl (by intro k own es h;cases h) (by simp),⟨hp,by omega⟩,by simp⟩
end Go.Am
namespace Go.Am
open Go.Proofs
theorem LI (m:Int):aa Tryz.prog (GG m) 307 [.c (.d (.str [48,49,50,51,52,53,54,55,56,57]))] (.tup [.agg (EP.map .d),.c (.d (.bool true))]):=
 aa.G1 (Gp m 60) (by kernel_rfl)
end Go.Am
namespace Go.Am
open Go.Am.Ty Go.Proofs N
variable {s:List UInt8}{c:Ctx}{x y z:AV}{fn:Func}{t u v:Nat}{e:Int}
abbrev R5:List UInt8:=[48,49,50,51,52,53,54,55,56,57]
def yl (s:List UInt8):List UInt8:=(j6 s).dropWhile lX
def Ei:List CV:=List.replicate 256 (.d (.bool false))
def rq:List CV:=EP.map .d
theorem PJ (m:Int):aa Tryz.prog (GG m) 307 [.c (.d (.str R5))] (.tup [.agg rq,.c (.d (.bool true))]):=LI m
theorem Qq:(AV.tup [.agg rq,.c (.d (.bool true))]).pure=true:=by kernel_rfl
abbrev W5:Key→LB:=aD (fun _=>LB.hole) 0 (.cells true false 342 rq)
theorem Pj (s:List UInt8):jn W5 [.c (.d (.str s)),.c (.ptr 0 0)]=some ([.c (.d (.str s)),.c (.d (.ptr EP))],[0]):=by kernel_rfl
theorem U3:jo W5 (.c (.ptr 0 0))=[0]:=by kernel_rfl
theorem XX (s:List UInt8):∀ a∈[AV.c (.d (.str s)),AV.c (.ptr 0 0)],∀ k∈jo W5 a,k∈[0]:=by
 intro a ha k hk;simp only [YT,Y6,or_false] at ha;rcases ha with rfl|rfl
 ·cases hk
 ·rw [U3] at hk;exact hk
theorem YB:aY Tryz.prog 342=some Ei:=by kernel_rfl
theorem Yw:dh Tryz.prog 342 (aD (fun _=>.hole) 0 (.cells true false 342 Ei)) (.c (.ptr 0 0)) (.agg rq)=some (.undef,[(0,.cells true false 342 rq)],[],True):=by
 have hl:rq.length=256:=by unfold rq;simp [Bo]
 have hz:Ei.length=256:=List.length_replicate
 have hs:aj Ei 0 rq=rq:=by
  unfold aj;rw [hl,List.take_zero,Zt,Y5,aa6 (Z8 hz),Zr]
 have hi:((Tryz.prog.info? 342).isSome && rq.length == gb Tryz.prog 342)=true:=by kernel_rfl
 have hu:aD (fun _=>LB.hole) 0 (.cells true false 342 Ei) 0=.cells true false 342 (List.replicate 256 (.d (.bool false))):=az _ _ _;have ht:(0+rq.length≤Ei.length)=True:=by rw [hl,hz];exact eq_true (by decide)
 unfold dh;simp only [hu];show (if ((Tryz.prog.info? 342).isSome && rq.length == gb Tryz.prog 342)=true then some (AV.undef,[(0,LB.cells true false 342 (aj Ei 0 rq))],[],0+rq.length≤Ei.length) else none)=_;rw [if_pos hi,hs,ht]
theorem ag.flat{f:FuncId}{xs us:List AV}{ks rds:List Key}{lv:Key→LB}{K:AV→List (Key × LB)→List Key→Nat→Prop}(κ:Nat) (ha:jn lv xs=some (us,ks)) (hc:aa c.P c.G f us x) (hx:x.flat=true)
 (hr:∀ a∈xs,∀ k∈jo lv a,k∈rds) (hK:K x [] rds κ):ag c f xs lv K:=⟨x,[],rds,κ,bM.flat us ks rds x ha hc hx hr,hK⟩
theorem GU (s:List UInt8):aJ Tryz.prog .eql 9 (.c (.d (.str s))) (.c (.d (.str [])))=some (.c (.d (.bool (decide (s=[])))),[],[],True):=by
 cases s with
 | nil=>kernel_rfl
 | cons a l=>exact (show ∀ a l,aJ Tryz.prog .eql 9 (.c (.d (.str (a::l)))) (.c (.d (.str [])))=some (.c (.d (.bool false)),[],[],True) from fun a l=>by kernel_rfl) a l
theorem Bj (m:Int)(s:List UInt8):aa Tryz.prog (GG m) 261 [.c (.d (.str s)),.c (.d (.str R5))] (.c (.d (.str (yl s)))):=by
 refine aa.en Tryz.func261 rfl fun _=>aab ?_;refine aaa fun K hK=>aaa fun K1 hK1=>?_
 by_cases hs:s=[]
 ·refine aaw @GU hs (hK1 _ _ ?_);refine aak (aab ?_);exact aad (aH.rt rfl 4 (by simp [hs,yl,j6]))
 refine aaw @GU hs (hK1 _ _ ?_);refine aaj (aac (hK _ _ (aaa fun K hK=>aab ?_)));refine aaj (aac (hK _ _ (aaa fun K hK=>aai fun K1 hK1=>?_)));simp;refine ag.pure 0 9 (PJ m) Qq (by simp) rfl ?_;simp [YB,Yw,-dh]
 repeat refine ah ?_
 apply hK1;refine aab ?_;refine aak (aai fun K1 hK1=>?_);simp;refine ag.flat 2 (us:=[.c (.d (.str s)),.c (.d (.ptr EP))]) (ks:=[0]) (rds:=[0]) (Pj s) (Bl _ s) rfl (XX s) ?_;simp;refine ag.flat 2 (us:=[.c (.d (.str (j6 s))),.c (.d (.ptr EP))]) (ks:=[0]) (rds:=[0]) (Pj _) (CY _ (j6 s)) rfl (XX _) ?_;simp
 repeat refine ah ?_
 apply hK1;exact aad (aH.rt rfl 9 (by simp [yl]))
theorem PA (s t:List UInt8):(s == t)=decide (s=t):=by
 by_cases h:s=t
 ·subst h;simp
 ·rw [decide_eq_false h];exact beq_eq_false_iff_ne.2 h
theorem eqStr (s t:List UInt8):aJ Tryz.prog .eql 9 (.c (.d (.str s))) (.c (.d (.str t)))=some (.c (.d (.bool (decide (s=t)))),[],[],True):=by
 rw [← PA];kernel_rfl
theorem OZ (s t:List UInt8):aJ Tryz.prog .neq 9 (.c (.d (.str s))) (.c (.d (.str t)))=some (.c (.d (.bool (!decide (s=t)))),[],[],True):=by
 rw [← PA];kernel_rfl
def lY (s:List UInt8):Bool:=!decide (s=[]) && decide (yl s=[]) && (decide (s=[48]) || !decide (s.getD 0 0=48))
theorem L5 (m:Int)(s:List UInt8):aa Tryz.prog (GG m) 224 [.c (.d (.str s))] (.c (.d (.bool (lY s)))):=by
 refine aa.en Tryz.func224 rfl fun _=>aab ?_;refine aaa fun K hK=>?_
 cases s with
 | nil=>
  refine aat @OZ (hK _ _ ?_);exact aad (aH.rt rfl 2 (by simp [lY]))
 | cons a l=>
  refine aae ?_;simp [OZ];refine ag.pure 0 9 (Bj m (a::l)) (by simp) (by simp) rfl ?_
  by_cases ht:yl (a::l)=[]
  ·by_cases h0:a::l=[48]
   ·have ht':yl [48]=[]:=h0 ▸ ht;simp [eqStr,h0,ht']
    repeat refine ah ?_
    apply hK;exact aad (aH.rt rfl 2 (by simp [lY,h0,ht']))
   ·simp [eqStr,ht,h0]
    repeat refine ah ?_
    apply hK
    have ha:((a.toNat:Int)=48)↔a=48:=by
     constructor
     ·intro h;exact UInt8.toNat_inj.1 (by show a.toNat=48;omega)
     ·intro h;subst h;rfl
    have hr:lY (a::l) = !decide ((a.toNat:Int)=48):=by
     have h1:decide ((a.toNat:Int)=48)=decide (a=48):=by simp only [ha]
     rw [h1];simp [lY,ht,h0]
    exact aad (aH.rt rfl 2 (by simp [hr]))
  ·simp [eqStr,ht]
   repeat refine ah ?_
   apply hK;exact aad (aH.rt rfl 2 (by simp [lY,ht]))
def E9 (s p:List UInt8):Bool:=decide (p.length≤s.length) && decide (s.take p.length=p)
def tE (s p:List UInt8):List UInt8:=if E9 s p=true then s.drop p.length else s
theorem BN (G:List (List DV))(s p:List UInt8):aa Tryz.prog G 254 [.c (.d (.str s)),.c (.d (.str p))] (.c (.d (.bool (E9 s p)))):=by
 refine aa.en Tryz.func254 rfl fun _=>aab ?_;refine aaa fun K hK=>?_
 by_cases h:p.length≤s.length
 ·have h':(p.length:Int)≤(s.length:Int):=by omega
  refine aav @eqStr h h' (hK _ _ ?_);exact aad (aH.rt rfl 4 (by simp [E9,h]))
 ·have h':¬ (p.length:Int)≤(s.length:Int):=by omega
  refine aav @eqStr h h' (hK _ _ ?_);exact aad (aH.rt rfl 4 (by simp [E9,h]))
theorem zv (G:List (List DV))(s p:List UInt8):aa Tryz.prog G 276 [.c (.d (.str s)),.c (.d (.str p))] (.tup [.c (.d (.str (tE s p))),.c (.d (.bool (E9 s p)))]):=by
 refine aa.en Tryz.func276 rfl fun _=>aab ?_;refine aaa fun K hK=>aai fun K1 hK1=>?_;simp;refine ag.pure 0 9 (BN _ s p) (by simp) (by simp) rfl ?_;simp
 repeat refine ah ?_
 apply hK1
 by_cases h:E9 s p=true
 ·refine aah (by simp [h] <;> omega) (aac (hK _ _ (aaa fun K hK=>?_)))
  have hl:p.length≤s.length:=by
   unfold E9 at h;simp only [cy,decide_eq_true_eq] at h;exact h.1
  refine aat hl (hK _ _ ?_);exact aad (aH.t2 rfl 5 (by simp [tE,h]) (by simp [h]))
 ·refine aaf (by simp [h] <;> omega) (aab ?_);exact aad (aH.t2 rfl 5 (by simp [tE,h]) (by simp [h]))
theorem BO (G:List (List DV))(s p:List UInt8):aa Tryz.prog G 222 [.c (.d (.str s)),.c (.d (.str p))] (.tup [.c (.d (.str (tE s p))),.c (.d (.bool (E9 s p)))]):=by
 refine aa.en Tryz.func222 rfl fun _=>aab ?_;refine aai fun K hK=>?_;simp;refine ag.pure 0 9 (zv _ s p) rfl (by simp) rfl ?_;simp
 repeat refine ah ?_
 apply hK;exact aad (aH.t2 rfl 6 (by simp) (by simp))
theorem aH.Wc{s:au}{κ:Nat}(hr:fn.results=#[.tmp t,.tmp u,.tmp v]) (kh:Key) (hx:s.fr t=x) (hy:s.fr u=y) (hz:s.fr v=z) (hp:x.pure=true) (hq:y.pure=true) (hw:z.pure=true) (hh:s.lv kh=.hole)
 (hn:x.bV=true) (hm:y.bV=true) (hl:z.bV=true) (htu:t≠u) (htv:t≠v) (huv:u≠v):aH c fn (.tup [x,y,z]) .ret s κ:=by
 refine⟨[(t,x),(u,y),(v,z)],kh,by simp [hp,hx,hq,hy,hw,hz],hh,?_⟩;rw [hr];have h1:¬ u=t:=fun h=>htu h.symm
 have h2:¬ v=t:=fun h=>htv h.symm
 have h3:¬ v=u:=fun h=>huv h.symm
 simp [cM,gz,iB,bq,h1,h2,h3,hn,hm,hl]
theorem aH.t3{s:au}(hr:fn.results=#[.tmp t,.tmp u,.tmp v]) (kh:Key) (hx:s.fr t=x:=by simp) (hy:s.fr u=y:=by simp) (hz:s.fr v=z:=by simp) (hp:x.pure=true:=by first|rfl|simp) (hq:y.pure=true:=by first|rfl|simp) (hw:z.pure=true:=by first|rfl|simp)
 (hh:s.lv kh=.hole:=by first|rfl|simp) (h1:x.bV=true:=by first|rfl|simp) (h2:y.bV=true:=by first|rfl|simp) (h3:z.bV=true:=by first|rfl|simp) (d1:t≠u:=by decide) (d2:t≠v:=by decide) (d3:u≠v:=by decide):aH c fn (.tup [x,y,z]) .ret s 0:=aH.Wc hr kh hx hy hz hp hq hw hh h1 h2 h3 d1 d2 d3
def qx (s t:List UInt8):Int:=Lib.index s t
def EM (s t:List UInt8):List UInt8:=if 0≤qx s t then s.take (qx s t).toNat else s
def EN (s t:List UInt8):List UInt8:=if 0≤qx s t then s.drop ((qx s t).toNat+t.length) else []
theorem Jw (s t:List UInt8)(h:s.length≤9223372036854775807):-9223372036854775808≤Lib.index s t∧Lib.index s t≤9223372036854775807:=by
 have h1:=Lib.index_ge s t
 have h2:Lib.index s t≤s.length:=by
  clear h h1
  induction s with
  | nil=>simp only [Lib.index];split <;> simp
  | cons a s ih=>
   simp only [Lib.index];split
   ·simp;omega
   ·split <;> simp <;> omega
 omega
theorem Iu (G:List (List DV))(s:List UInt8)(c:Nat)(hc:c<256):aa Tryz.prog G 255 [.c (.d (.str s)),.c (.d (.int .u8 (c:Int)))] (.c (.d (.int .i64 (qx s [UInt8.ofNat c])))):=by
 refine aG.iL 0 (by simp) (fun V v h=>(show s.length≤9223372036854775807 by cases h.1 with|str _ hl=>exact hl)) fun hs=>?_;refine aa.Ej (X:=.c (.d (.int .i64 (qx s [UInt8.ofNat c])))) (lv':=fun _=>.hole) (ks:=[]) ?_ rfl;refine bO.of_same (by rfl) fun F β w vs hS hl hv=>?_;obtain⟨u,v,rfl,hu,hv⟩:=args2 hl hv;have:=Tryz.stringslite_IndexByte ⟨s.toArray⟩ c w;refine⟨.int .i64 (qx s [UInt8.ofNat c]),BR (Jw s _ hs),?_⟩;rw [Vw.iR hu,Vw.fP hv];simpa [qx,← index_one] using this
theorem Kz (c:UInt8):qx [c] [c]=0:=by simp [qx,Lib.index,List.isPrefixOf]
theorem Iv (G:List (List DV))(s:List UInt8)(c:UInt8):aa Tryz.prog G 253 [.c (.d (.str s)),.c (.d (.str [c]))] (.c (.d (.int .i64 (qx s [c])))):=by
 have hb:=Iu G s c.toNat c.toNat_lt;rw [show UInt8.ofNat c.toNat=c from UInt8.ofNat_toNat] at hb;refine aa.en Tryz.func253 rfl fun _=>aab ?_;refine aab ?_;refine aaa fun K hK=>aag (aaa fun K1 hK1=>?_)
 by_cases hs:[c]=s
 ·have h0:qx s [c]=0:=by rw [← hs];exact Kz c
  refine aaw @eqStr hs (hK1 _ _ ?_);refine aak (aab ?_);exact aad (aH.rt rfl 4 (by simp [h0]))
 ·refine aaw @eqStr hs (hK1 _ _ ?_);refine aaj (aab ?_);refine aak (aai fun K1 hK1=>?_);simp;refine ag.pure 0 9 hb (by simp) (by simp) rfl ?_;simp
  repeat refine ah ?_
  apply hK1;exact aad (aH.rt rfl 4 (by simp))
theorem Ml (m:Int)(s t:List UInt8)(h:s.length≤9223372036854775807)(hix:aa Tryz.prog (GG m) 253 [.c (.d (.str s)),.c (.d (.str t))] (.c (.d (.int .i64 (qx s t))))):aa Tryz.prog (GG m) 277 [.c (.d (.str s)),.c (.d (.str t))] (.tup [.c (.d (.str (EM s t))),.c (.d (.str (EN s t))),.c (.d (.bool (decide (0≤qx s t))))]):=by
 refine aa.en Tryz.func277 rfl fun _=>aab ?_;refine aaa fun K hK=>aai fun K1 hK1=>?_;simp;refine ag.pure 0 9 hix (by simp) (by simp) rfl ?_;simp
 repeat refine ah ?_
 apply hK1;refine aab ?_
 by_cases hi:0≤qx s t
 ·refine aaf (by simp [hi] <;> omega) ?_;obtain⟨n,hn⟩:∃ n:Nat,qx s t=n:=⟨(qx s t).toNat,(Int.toNat_of_nonneg hi).symm⟩
  have hr:=Lib.index_room s t (by unfold qx at hi;exact hi);have hr':n+t.length≤s.length:=by unfold qx at hn;rw [hn] at hr;omega
  have hw:IntKind.i64.wrap ((n:Int)+t.length)=((n+t.length:Nat):Int):=by rw [dF (by omega) (by omega)];omega
  have hn1:n≤s.length:=by omega
  refine aaa fun K1 hK1=>?_;refine aau mixed (by kernel_rfl) rfl rfl ?_;simp [hn,hw,hn1,hr',-Int.natCast_add]
  repeat refine ah ?_
  apply hK1;exact aad (aH.t3 rfl 9 (by simp [EM,hi,hn]) (by simp [EN,hi,hn]) (by simp [hi,hn]))
 ·refine aah (by simp [hi] <;> omega) (aac (hK _ _ (aab ?_)));exact aad (aH.t3 rfl 9 (by simp [EM,hi]) (by simp [EN,hi]) (by simp [hi]))
theorem M9 (m:Int)(s t:List UInt8)(h:s.length≤9223372036854775807)(hix:aa Tryz.prog (GG m) 253 [.c (.d (.str s)),.c (.d (.str t))] (.c (.d (.int .i64 (qx s t))))):aa Tryz.prog (GG m) 223 [.c (.d (.str s)),.c (.d (.str t))] (.tup [.c (.d (.str (EM s t))),.c (.d (.str (EN s t))),.c (.d (.bool (decide (0≤qx s t))))]):=by
 refine aa.en Tryz.func223 rfl fun _=>aab ?_;refine aai fun K hK=>?_;simp;refine ag.pure 0 9 (Ml m s t h hix) rfl (by simp) rfl ?_;simp
 repeat refine ah ?_
 apply hK;exact aad (aH.t3 rfl 9 (by simp) (by simp) (by simp))
theorem Om (m:Int)(s:List UInt8)(c:UInt8):aa Tryz.prog (GG m) 223 [.c (.d (.str s)),.c (.d (.str [c]))] (.tup [.c (.d (.str (EM s [c]))),.c (.d (.str (EN s [c]))),.c (.d (.bool (decide (0≤qx s [c]))))]):=by
 refine aG.iL 0 (by simp) (fun V v h=>(show s.length≤9223372036854775807 by cases h.1 with|str _ hl=>exact hl)) fun hs=>?_;exact M9 m s [c] hs (Iv (GG m) s c)
theorem LN {p:UInt8→Bool}:∀ {l:List UInt8},l.dropWhile p=[]→∀ x∈l,p x=true
 | [],_,x,hx=>by cases hx
 | a::l,h,x,hx=>by
  simp only [List.dropWhile] at h;split at h
  ·rename_i ha
   rcases List.mem_cons.1 hx with rfl|hx
   ·exact ha
   ·exact LN h x hx
  ·cases h
theorem IP(h:yl s=[]):ML s:=by
 have h1:∀ x∈j6 s,lX x=true:=LN h;have h2:∀ x∈s.reverse.dropWhile lX,lX x=true:=fun x hx=>h1 x (by unfold j6;exact List.mem_reverse.2 hx)
 have h3:∀ x∈s.reverse,lX x=true:=by
  intro x hx;rw [← List.takeWhile_append_dropWhile (p:=lX) (l:=s.reverse),ZM] at hx;rcases hx with hx|hx
  ·have:=List.all_takeWhile (p:=lX) (l:=s.reverse);exact List.all_eq_true.1 this x hx
  ·exact h2 x hx
 intro c hc;have:=h3 c (List.mem_reverse.2 hc);simpa [lX] using this
theorem qe(h:lY s=true):ML s∧s≠[]:=by
 unfold lY at h;simp only [cy,Zd,decide_eq_false_iff_not,decide_eq_true_eq] at h;exact⟨IP h.1.2,h.1.1⟩
abbrev UK:AV:=pJ false none none
def kH (neg:Bool)(top bot:List UInt8)(brk:Bool):Bool:=!lY top || (neg && decide (top=[48])) || (brk && (!lY bot || decide (bot=[48]) || decide (bot=[49])))
abbrev pq (s:List UInt8):Option (List Nat):=some (cz 4294967296 (cD s 0))
def eR (neg:Bool)(top bot:List UInt8)(brk:Bool):AV:=
 if kH neg top bot brk=true then .tup [UK,.c (.d (.int .i64 6))]
 else if 2000<max top.length bot.length then .tup [UK,.c (.d (.int .i64 3))]
 else if brk=false then .tup [jI neg (pq top) (some (cz 4294967296 1)),.c (.d (.int .i64 0))]
 else if val 4294967296 (dO (gO (pq top) (pq bot)))=1 then .tup [pJ neg (pq top) (pq bot),.c (.d (.int .i64 0))]
 else .tup [UK,.c (.d (.int .i64 6))]
theorem C7 (lv:Key→LB)(neg:Bool)(top bot:List UInt8)(brk:Bool):fT lv (eR neg top bot brk)=some (eR neg top bot brk,[]):=by
 have h1:∀ b p q n,fT lv (.tup [pJ b p q,.c (.d (.int .i64 n))])=some (.tup [pJ b p q,.c (.d (.int .i64 n))],[]):=by
  intro b p q n;cases p <;> cases q <;> rfl
 unfold eR jI
 (repeat' split) <;> exact h1 ..
theorem CR (G:List (List DV))(h:lY s=true) (hl:s.length≤2000):aa Tryz.prog G 226 [.c (.d (.str s))] (.c (nC (pq s))):=by
 obtain⟨h1,h2⟩:=qe h;have:=pW G s h1 (by omega)
 have e:oO (!s.isEmpty) (cD s 0)=pq s:=by
  cases s with
  | nil=>exact absurd rfl h2
  | cons a l=>rfl
 rw [e,kZ] at this;exact this
theorem ED (m:Int)(r:List UInt8) :
 aa Tryz.prog (GG m) 159 [.c (.d (.str r))] (eR (E9 r [45]) (EM (tE r [45]) [47]) (EN (tE r [45]) [47]) (decide (0≤qx (tE r [45]) [47]))):=by
 refine aG.iL 0 (by simp) (fun V v h=>(show r.length≤9223372036854775807 by cases h.1 with|str _ hl=>exact hl)) fun hr=>?_
 have hcl:(tE r [45]).length≤9223372036854775807:=by
  unfold tE;split
  ·rw [abd];omega
  ·exact hr
 have hcp:=BO (GG m) r [45];have hct:=Om m (tE r [45]) 47
 have hta:(EM (tE r [45]) [47]).length≤9223372036854775807:=by
  unfold EM;split
  ·rw [Zc];omega
  ·omega
 have htb:(EN (tE r [45]) [47]).length≤9223372036854775807:=by
  unfold EN;split
  ·rw [abd];omega
  ·simp
 generalize E9 r [45]=neg at *
 generalize tE r [45]=s at *
 generalize EM s [47]=top at *
 generalize EN s [47]=bot at *
 generalize decide (0≤qx s [47])=brk at *
 refine aa.enc Tryz.func159 rfl (fun lv=>C7 lv _ _ _ _) fun _=>aab ?_;refine aai fun K hK=>?_;simp;refine ag.pure 1 9 hcp rfl (by simp) (by simp) ?_;simp
 repeat refine ah ?_
 apply hK;refine aai fun K hK=>?_;simp;refine ag.pure 1 9 hct rfl (by simp) (by simp) ?_;simp
 repeat refine ah ?_
 apply hK;refine aaa fun K hK=>aag (aaa fun K1 hK1=>?_)
 have row1:=L5 m top;have row2:=L5 m bot
 have hbad:∀ (fr:Nat→AV) (κ:Nat),fr 2=.c (.ptr 0 0)→fr 22=.c (.d (.bool true))→kH neg top bot brk=true →
  K1 ⟨fr,aD (fun _=>.hole) 0 (.cells true false 224 [.d (.bool false),.d .nilsl,.d .nilsl])⟩ κ:=by
  intro fr κ z2 z22 hb
  repeat refine ah ?_
  apply hK1;refine aaf (by simp [z22] <;> omega) (aar z2 @Hx ?_);refine aam ?_;simp only [eR,if_pos hb];refine dA.nU (κ:=0) (T:=224) (t:=2) (u:=3) (k:=0) (off:=0) (own:=true) (fz:=false) (U:=224) (cs:=[.d (.bool false),.d .nilsl,.d .nilsl]) rfl ?_ ?_ ?_ ?_ rfl rfl
  ·simp [z2]
  ·simp [aj]
  ·rw [YV,bE];rfl
  ·simp
 have hgood:∀ (fr:Nat→AV) (κ:Nat),fr 2=.c (.ptr 0 0)→fr 5=.c (.d (.bool neg))→fr 6=.c (.d (.str top))→fr 7=.c (.d (.str bot))→fr 8=.c (.d (.bool brk))→fr 22=.c (.d (.bool false)) →
  lY top=true→(brk=true→lY bot=true)→kH neg top bot brk=false →
  K1 ⟨fr,aD (fun _=>.hole) 0 (.cells true false 224 [.d (.bool false),.d .nilsl,.d .nilsl])⟩ κ:=by
  intro fr κ z2 z5 z6 z7 z8 z22 g1 g2 hb
  repeat refine ah ?_
  apply hK1;refine aah (by simp [z22] <;> omega) (aaa fun K2 hK2=>?_)
  have hmx:∀ (a b:Nat),(List.foldl (fun a b:Int=>if a<b then b else a) (a:Int) [(b:Int)])=((max a b:Nat):Int):=by
   intro a b;simp only [List.foldl];split <;> omega
  refine aae ?_;simp [z6,z7,eN,hmx,-List.foldl_cons,-List.foldl_nil]
  repeat refine ah ?_
  apply hK2;have hbf:¬ kH neg top bot brk=true:=by rw [hb];decide
  by_cases hl:2000<max top.length bot.length
  ·have hl':(2000:Int)<((max top.length bot.length:Nat):Int):=by omega
   refine aaf (by simp [hl'] <;> omega) (aar z2 @Hx ?_);refine aam ?_;simp only [eR,if_neg hbf,if_pos hl];refine dA.nU (κ:=0) (T:=224) (t:=2) (u:=3) (k:=0) (off:=0) (own:=true) (fz:=false) (U:=224) (cs:=[.d (.bool false),.d .nilsl,.d .nilsl]) rfl ?_ ?_ ?_ ?_ rfl rfl
   ·simp [z2]
   ·simp [aj]
   ·rw [YV,bE];rfl
   ·simp
  have hl':¬ (2000:Int)<((max top.length bot.length:Nat):Int):=by omega
  refine aah (by simp [hl'] <;> omega) (aac (hK _ _ ?_));have ht2:top.length≤2000:=by omega
  have hb2:bot.length≤2000:=by omega
  have rd1:=CR (GG m) g1 ht2;have hof:=fW (GG m) 1 (by decide);have c1:can 4294967296 (dO (pq top)):=ez (by decide) _;have c2:can 4294967296 (dO (some (cz 4294967296 1))):=ez (by decide) _
  have dlen:∀ (u:List UInt8),ML u→u.length≤2000→(dO (pq u)).length<1000000000000:=by
   intro u hu hlu;have h1:=ri hu;have h2:(10:Nat) ^ u.length≤4294967296 ^ u.length:=Nat.pow_le_pow_left (by decide) _;have:=di (B:=4294967296) (n:=cD u 0) (m:=u.length) (by decide) (by omega);simp only [dB];omega
  have l1:=dlen top (qe g1).1 ht2;have l2:(dO (some (cz 4294967296 1))).length<1000000000000:=aaY (di (m:=1) (by decide) (by decide)) (by decide);refine aaa fun K3 hK3=>aal z8 ?_
  cases hk:brk with
  | false=>
   rw [hk] at hbf;have hmade:=pP (GG m) neg (pq top) (some (cz 4294967296 1)) c1 c2 (by intro h;exact absurd ((lq (by decide)).1 h) (by decide)) l1 l2;simp only [kZ] at hmade hof;refine aak (aai fun K4 hK4=>?_);simp [z5,z6];refine ag.pure κ 9 rd1 (by simp) (by simp) (by simp) ?_;simp;refine ag.pure κ 9 hof (by simp) (by simp) (by simp) ?_;simp
   by_cases hz:dO (pq top)=[]
   ·simp only [jI,if_pos hz] at hmade;refine ag.pure κ 9 hmade (by simp) (by simp) (by simp) ?_;simp [z2]
    repeat refine ah ?_
    apply hK4;refine aam ?_;simp only [eR,if_neg hbf,if_neg hl,reduceIte,jI,if_pos hz];refine dA.nU (κ:=0) (T:=224) (t:=2) (u:=3) (k:=0) (off:=0) (own:=true) (fz:=false) (U:=224) (cs:=[.d (.bool false),nC none,nC none]) rfl ?_ ?_ ?_ ?_ rfl rfl
    ·simp [z2]
    ·simp [aj]
    ·rw [YV,bE]
    ·simp
   ·simp only [jI,if_neg hz] at hmade;refine ag.pure κ 9 hmade (by simp) (by simp) (by simp) ?_;simp [z2]
    repeat refine ah ?_
    apply hK4;refine aam ?_;simp only [eR,if_neg hbf,if_neg hl,reduceIte,jI,if_neg hz];refine dA.nU (κ:=0) (T:=224) (t:=2) (u:=3) (k:=0) (off:=0) (own:=true) (fz:=false) (U:=224) (cs:=[.d (.bool neg),nC (mP (pq top) (some (cz 4294967296 1))),nC (mQ (pq top) (some (cz 4294967296 1)))]) rfl ?_ ?_ ?_ ?_ rfl rfl
    ·simp [z2]
    ·simp [aj]
    ·rw [YV,bE]
    ·simp
  | true=>
   rw [hk] at hbf;have g3:=g2 hk;have rd2:=CR (GG m) g3 hb2;have c3:can 4294967296 (dO (pq bot)):=ez (by decide) _;have l3:=dlen bot (qe g3).1 hb2;have hgcd:=tu (GG m) (pq top) (pq bot) c1 c3 l1 l3;have his:=jS (GG m) (gO (pq top) (pq bot)) (by unfold gO;rw [xw c1 c3];exact ez (by decide) _);change aa _ _ 229 _ (nK .u32 (gO (pq top) (pq bot))) at hgcd;simp only [kZ] at hgcd his;refine aaj (aac (hK3 _ _ (aai fun K4 hK4=>?_)));simp [z6,z7];refine ag.pure κ 9 rd1 (by simp) (by simp) (by simp) ?_;simp [z7];refine ag.pure κ 9 rd2 (by simp) (by simp) (by simp) ?_;simp
   repeat refine ah ?_
   apply hK4;refine aaa fun K4 hK4=>aai fun K5 hK5=>?_;simp;refine ag.pure κ 9 hgcd (by simp) (by simp) (by simp) ?_;simp;refine ag.pure κ 9 his (by simp) (by simp) (by simp) ?_;simp
   repeat refine ah ?_
   apply hK5
   by_cases h1:val 4294967296 (dO (gO (pq top) (pq bot)))=1
   ·refine aah (by simp [h1] <;> omega) (aac (hK4 _ _ (aaC z2 z5 @FJ ?_)));refine aam ?_;have hp:eR neg top bot brk=.tup [pJ neg (pq top) (pq bot),.c (.d (.int .i64 0))]:=by rw [hk];unfold eR;rw [if_neg hbf,if_neg hl,if_neg (by decide),if_pos h1]
    rw [hp];refine dA.nU (κ:=0) (T:=224) (t:=2) (u:=3) (k:=0) (off:=0) (own:=true) (fz:=false) (U:=224) (cs:=[.d (.bool neg),nC (pq top),nC (pq bot)]) rfl ?_ ?_ ?_ ?_ rfl rfl
    ·simp [z2]
    ·simp [aj]
    ·rw [YV,bE]
    ·simp
   ·refine aaf (by simp [h1] <;> omega) (aar z2 @Hx ?_);refine aam ?_;have hp:eR neg top bot brk=.tup [UK,.c (.d (.int .i64 6))]:=by rw [hk];unfold eR;rw [if_neg hbf,if_neg hl,if_neg (by decide),if_neg h1]
    rw [hp];refine dA.nU (κ:=0) (T:=224) (t:=2) (u:=3) (k:=0) (off:=0) (own:=true) (fz:=false) (U:=224) (cs:=[.d (.bool false),.d .nilsl,.d .nilsl]) rfl ?_ ?_ ?_ ?_ rfl rfl
    ·simp [z2]
    ·simp [aj]
    ·rw [YV,bE];rfl
    ·simp
 refine aae ?_;simp;refine ag.pure 1 9 row1 (by simp) (by simp) (by simp) ?_
 cases g1:lY top with
 | false=>
  simp [g1];exact hbad _ _ (by simp) (by simp) (by simp [kH,g1])
 | true=>
  cases hn:neg with
  | true=>
   by_cases h48:top=[48]
   ·have e48:decide (top=[48])=true:=decide_eq_true h48;simp [eqStr,g1,hn,e48];exact hbad _ _ (by simp) (by simp) (by simp [kH,hn,h48])
   ·cases hk:brk with
    | false=>
     simp [eqStr,g1,hn,h48,hk];exact hgood _ _ (by simp) (by simp [hn]) (by simp) (by simp) (by simp [hk]) (by simp) g1 (fun h=>by rw [hk] at h;cases h) (by simp [kH,g1,hn,h48,hk])
    | true=>
     simp [eqStr,g1,hn,h48,hk];refine ag.pure 1 9 row2 (by simp) (by simp) (by simp) ?_
     cases g2:lY bot with
     | false=>
      simp [g2];exact hbad _ _ (by simp) (by simp) (by simp [kH,g2,hk])
     | true=>
      by_cases b48:bot=[48]
      ·have e:decide (bot=[48])=true:=decide_eq_true b48;simp [eqStr,g2,e];exact hbad _ _ (by simp) (by simp) (by simp [kH,e,hk])
      ·by_cases b49:bot=[49]
       ·have e:decide (bot=[49])=true:=decide_eq_true b49;simp [eqStr,g2,b48,e];exact hbad _ _ (by simp) (by simp) (by simp [kH,e,hk])
       ·simp [eqStr,g2,b48,b49];exact hgood _ _ (by simp) (by simp [hn]) (by simp) (by simp) (by simp [hk]) (by simp) g1 (fun _=>g2) (by simp [kH,g1,hn,h48,hk,g2,b48,b49])
  | false=>
   cases hk:brk with
   | false=>
    simp [eqStr,g1,hn,hk];exact hgood _ _ (by simp) (by simp [hn]) (by simp) (by simp) (by simp [hk]) (by simp) g1 (fun h=>by rw [hk] at h;cases h) (by simp [kH,g1,hn,hk])
   | true=>
    simp [eqStr,g1,hn,hk];refine ag.pure 1 9 row2 (by simp) (by simp) (by simp) ?_
    cases g2:lY bot with
    | false=>
     simp [g2];exact hbad _ _ (by simp) (by simp) (by simp [kH,g2,hk])
    | true=>
     by_cases b48:bot=[48]
     ·have e:decide (bot=[48])=true:=decide_eq_true b48;simp [eqStr,g2,e];exact hbad _ _ (by simp) (by simp) (by simp [kH,e,hk])
     ·by_cases b49:bot=[49]
      ·have e:decide (bot=[49])=true:=decide_eq_true b49;simp [eqStr,g2,b48,e];exact hbad _ _ (by simp) (by simp) (by simp [kH,e,hk])
      ·simp [eqStr,g2,b48,b49];exact hgood _ _ (by simp) (by simp [hn]) (by simp) (by simp) (by simp [hk]) (by simp) g1 (fun _=>g2) (by simp [kH,g1,hn,hk,g2,b48,b49])
def fj (neg:Bool)(top bot:List UInt8)(brk:Bool):Int:=
 if kH neg top bot brk=true then 6
 else if 2000<max top.length bot.length then 3
 else if brk=false then 0
 else if val 4294967296 (dO (gO (pq top) (pq bot)))=1 then 0 else 6
theorem C5 (neg:Bool)(top bot:List UInt8)(brk:Bool):∃ b p q,eR neg top bot brk=.tup [pJ b p q,.c (.d (.int .i64 (fj neg top bot brk)))]:=by
 unfold eR fj jI
 (repeat' split) <;> exact⟨_,_,_,rfl⟩
theorem zJ (m:Int)(r:List UInt8) :
 aa Tryz.prog (GG m) 163 [.c (.d (.str r))] (.c (.d (.int .i64 (fj (E9 r [45]) (EM (tE r [45]) [47]) (EN (tE r [45]) [47]) (decide (0≤qx (tE r [45]) [47])))))):=by
 have hp:=ED m r;obtain⟨b,p,q,e⟩:=C5 (E9 r [45]) (EM (tE r [45]) [47]) (EN (tE r [45]) [47]) (decide (0≤qx (tE r [45]) [47]));rw [e] at hp;generalize fj (E9 r [45]) (EM (tE r [45]) [47]) (EN (tE r [45]) [47]) (decide (0≤qx (tE r [45]) [47]))=n at *
 have hpu:(AV.tup [pJ b p q,.c (.d (.int .i64 n))]).pure=true:=by cases p <;> cases q <;> rfl
 refine aa.en Tryz.func163 rfl fun _=>aab ?_;refine aai fun K hK=>?_;simp;refine ag.pure 0 9 hp hpu (by simp) rfl ?_;simp
 repeat refine ah ?_
 apply hK;refine aab ?_;exact aad (aH.rt rfl 9 (by simp))
def oh (e p:Int):Int:=if e<2∨11<e∨p<2∨113<p∨e+p<5 then 2 else 0
theorem kq (G:List (List DV))(e p:Int):aa Tryz.prog G 158 [.agg [.d (.int .i64 e),.d (.int .i64 p)]] (.c (.d (.int .i64 (oh e p)))):=by
 refine aa.en Tryz.func158 rfl fun _=>aab ?_;refine aaa fun K hK=>aaa fun K1 hK1=>?_
 have bad:∀ (fr:Nat→AV) (κ:Nat) (lv:Key→LB),lv 9=.hole→fr 28=.c (.d (.bool true))→oh e p=2→K1 ⟨fr,lv⟩ κ:=by
  intro fr κ lv h9 z hf
  repeat refine ah ?_
  apply hK1;refine aaf (by simp [z] <;> omega) (aab ?_);exact aam (κ:=0) (aH.tmp (κ:=0) rfl 9 (by simp [hf]) rfl (by simp [h9]) rfl)
 by_cases h1:e<2
 ·refine aae ?_;simp [h1];exact bad _ _ _ (by simp) (by simp) (by unfold oh;rw [if_pos (by omega)])
 by_cases h2:11<e
 ·refine aae ?_;simp [h1,h2];exact bad _ _ _ (by simp) (by simp) (by unfold oh;rw [if_pos (by omega)])
 by_cases h3:p<2
 ·refine aae ?_;simp [h1,h2,h3];exact bad _ _ _ (by simp) (by simp) (by unfold oh;rw [if_pos (by omega)])
 by_cases h4:113<p
 ·refine aae ?_;simp [h1,h2,h3,h4];exact bad _ _ _ (by simp) (by simp) (by unfold oh;rw [if_pos (by omega)])
 have hw:IntKind.i64.wrap (e+p)=e+p:=dF (by omega) (by omega)
 by_cases h5:e+p<5
 ·refine aae ?_;simp [h1,h2,h3,h4,hw,h5];exact bad _ _ _ (by simp) (by simp) (by unfold oh;rw [if_pos (by omega)])
 refine aae ?_;simp [h1,h2,h3,h4,hw,h5]
 repeat refine ah ?_
 apply hK1;refine aaj (aac (hK _ _ (aab ?_)));have hf:oh e p=0:=by unfold oh;rw [if_neg (by omega)]
 exact aad (aH.rt rfl 9 (by simp [hf]))
@[simp] theorem SO (cs:List CV):(AV.agg cs).pure=cs.all CV.pure:=rfl
@[simp] theorem Uj (x:DV):(CV.d x).pure=true:=rfl
@[simp] theorem Q7 (o:Option (List (List DV))):(fC o).pure=true:=by cases o <;> rfl
@[simp] theorem TG (l:List AV):(AV.tup l).pure=l.all AV.kE:=rfl
@[simp] theorem T6 (x:CV):(AV.c x).kE=x.pure:=rfl
@[simp] theorem Q6 (cs:List CV):(AV.agg cs).kE=cs.all CV.pure:=rfl
def dR (e:Int):Int:=(2:Int) ^ (e - 1).toNat - 1
theorem AA(h1:2≤e) (h2:e≤11):1≤dR e∧dR e≤1023∧aJ Tryz.prog .shl 3 (.c (.d (.int .i64 1))) (.c (.d (.int .i64 (e - 1))))=some (.c (.d (.int .i64 (dR e+1))),[],[],True):=by
 have h:e=2∨e=3∨e=4∨e=5∨e=6∨e=7∨e=8∨e=9∨e=10∨e=11:=by omega
 rcases h with rfl|rfl|rfl|rfl|rfl|rfl|rfl|rfl|rfl|rfl <;> refine⟨by decide,by decide,?_⟩ <;> rw [KB] <;> congr 1 <;> congr 1 <;> first|rfl|decide|(congr 1;congr 1;decide)
abbrev fA (e p:Int):AV:=.agg [.d (.int .i64 e),.d (.int .i64 p)]
abbrev Rl (e p m b:Int):AV:=.agg [.d (.int .i64 e),.d (.int .i64 p),.d (.int .i64 m),.d (.int .i64 b)]
theorem Sk:fK Tryz.prog 282 [] []=some (Rl 0 0 0 0,[],[],True):=by kernel_rfl
theorem Wm (a b c d:CV):fK Tryz.prog 282 [0,1,2] [.agg [a,b],.c c,.c d]=some (.agg [a,b,c,d],[],[],True):=by kernel_rfl
theorem Cb (a b c d:CV):dQ Tryz.prog 282 [a,b,c,d]=some (.agg [a,b,c,d]):=by kernel_rfl
theorem HJ {p:Int}(h:oh e p=0):2≤e∧e≤11∧2≤p∧p≤113∧5≤e+p:=by
 unfold oh at h;split at h
 ·cases h
 ·omega
theorem Yc (T:TypeId)(h:(ff Tryz.prog T).isSome=true)(lv:Key→LB):dW Tryz.prog T lv (.c (.d .nilsl))=some (.c (.d (.int .i64 0)),[],[],True):=cL (o:=none) h
theorem Na (G:List (List DV))(e p:Int)(hf:oh e p=0):aa Tryz.prog G 230 [fA e p,.c (.d (.int .i64 0)),.c (.d .nilsl)] (.tup [Rl e p 0 (dR e),.c (.d (.int .i64 0))]):=by
 obtain⟨f1,f2,f3,f4,f5⟩:=HJ hf;obtain⟨g1,g2,hsh⟩:=AA f1 f2;have hc:=kq G e p;rw [hf] at hc;have w1:IntKind.i64.wrap (e - 1)=e - 1:=dF (by omega) (by omega);have w2:IntKind.i64.wrap (dR e+1 - 1)=dR e:=by rw [dF (by omega) (by omega)];omega
 have w2':IntKind.i64.wrap (dR e)=dR e:=dF (by omega) (by omega);have lpn:=Yc 325 (by simp);generalize dR e=b at *
 refine aa.enc Tryz.func230 rfl (fun lv=>rfl) fun _=>aab ?_;refine aaa fun K hK=>aas 2 hc ?_;refine aaj (aac (hK _ _ (aaa fun K hK=>?_)));refine aaq mixed (by kernel_rfl) rfl ?_;simp [w1,hsh,w2,w2',Wm,-KB];refine⟨by kernel_rfl,?_⟩
 repeat refine ah ?_
 apply hK;refine aaa fun K hK=>aal lpn ?_;refine aag ?_
 refine aap (fun (_:Unit)=>⟨bq [(6,.c (.ptr 1 0)),(8,.c (.ptr 2 0)),(32,.c (.d .nilsl)),(33,.c (.d (.int .i64 0))),(34,.c (.d (.int .i64 0)))],
  aD (aD (aD (fun _=>.hole) 0 (.cells true false 81 [.d (.int .i64 e),.d (.int .i64 p)])) 1 (.cells true false 282 [.d (.int .i64 0),.d (.int .i64 0),.d (.int .i64 0),.d (.int .i64 0)])) 2 (.cells true false 282 [.d (.int .i64 e),.d (.int .i64 p),.d (.int .i64 0),.d (.int .i64 b)])⟩) 3
  (fun _=>True) (fun _=>0) () (Le.tG _) trivial ?_
 rintro⟨⟩ _;refine aab ?_;refine aaa fun K3 hK3=>aaj (aan (hK _ _ (aar @Cb @aj.eq_1 ?_)))
 refine aam ?_;refine dA.nU (κ:=0) (T:=282) (t:=6) (u:=7) (k:=1) (off:=0) (own:=true) (fz:=false) (U:=282) (cs:=[.d (.int .i64 e),.d (.int .i64 p),.d (.int .i64 0),.d (.int .i64 b)]) rfl ?_ ?_ ?_ ?_ rfl rfl
 ·simp
 ·simp [aj]
 ·rw [YV,Cb]
 ·simp
theorem Mi (G:List (List DV))(e p:Int)(hf:oh e p≠0):aa Tryz.prog G 230 [fA e p,.c (.d (.int .i64 0)),.c (.d .nilsl)] (.tup [Rl 0 0 0 0,.c (.d (.int .i64 2))]):=by
 have hc:=kq G e p;refine aa.enc Tryz.func230 rfl (fun lv=>rfl) fun _=>aab ?_;refine aaa fun K hK=>aaA 2 hc hf ?_;refine aaf (by simp [hf] <;> omega) (aal Sk ?_);refine aam ?_;refine dA.nU (κ:=0) (T:=282) (t:=6) (u:=7) (k:=1) (off:=0) (own:=true) (fz:=false) (U:=282) (cs:=[.d (.int .i64 0),.d (.int .i64 0),.d (.int .i64 0),.d (.int .i64 0)]) rfl ?_ ?_ ?_ ?_ rfl rfl
 ·simp
 ·simp [aj]
 ·rw [YV,Cb]
 ·simp
theorem Jh (G:List (List DV))(k:Int)(h1:-20000≤k)(h2:k≤20000):aa Tryz.prog G 286 [.c (.d (.int .i64 k))] (fS (cE 1 k)):=by
 have h:=MS G k h1 h2;generalize cE 1 k=r at *
 refine aa.enc Tryz.func286 rfl (fun lv=>fQ lv _ _ _) fun _=>aab ?_;refine aas 1 h ?_;refine aar @bE @aj.eq_1 ?_;refine aam ?_;refine dA.cell (κ:=0) (T:=224) (t:=2) (k:=0) (off:=0) (own:=true) (fz:=false) (U:=224) (cs:=[.d (.bool (decide (r.num<0))),nC (cX r.num.natAbs),nC (eA r.den)]) rfl ?_ ?_ ?_
 ·simp
 ·simp [aj]
 ·rw [YV,bE]
theorem vl (G:List (List DV))(x:Rat)(k:Int)(hx:oS x 10000000000)(h1:-20000≤k)(h2:k≤20000):aa Tryz.prog G 232 [fS x,.c (.d (.int .i64 k))] (fS (cE x k)):=by
 have h:=AH G x k hx h1 h2;generalize cE x k=r at *
 refine aa.enc Tryz.func232 rfl (fun lv=>fQ lv _ _ _) fun _=>aab ?_;refine aas 2 h ?_;refine aar @bE @aj.eq_1 ?_;refine aam ?_;refine dA.cell (κ:=0) (T:=224) (t:=4) (k:=1) (off:=0) (own:=true) (fz:=false) (U:=224) (cs:=[.d (.bool (decide (r.num<0))),nC (cX r.num.natAbs),nC (eA r.den)]) rfl ?_ ?_ ?_
 ·simp
 ·simp [aj]
 ·rw [YV,bE]
theorem Ip (G:List (List DV))(x:Rat)(hx:x≠0)(hs:oS x 10000000):aa Tryz.prog G 234 [fS x] (.c (.d (.int .i64 (lM x)))):=by
 have h:=N8 G x hx hs;refine aa.en Tryz.func234 rfl fun _=>aab ?_;refine aas 1 h ?_;refine aab ?_;exact aad (aH.rt rfl 2 (by simp))
theorem Cs (G:List (List DV))(e p m b:Int)(h1:0≤b)(h2:b≤100000):aa Tryz.prog G 284 [Rl e p m b] (.c (.d (.int .i64 (1 - b)))):=by
 have w:IntKind.i64.wrap (1 - b)=1 - b:=dF (by omega) (by omega);refine aa.en Tryz.func284 rfl fun _=>aab ?_;refine aal w ?_;exact aad (aH.rt rfl 2 (by simp))
def kC (p b l:Int):Int:=max l (1 - b) - p+1
theorem Fc (G:List (List DV))(e p m b l:Int)(h1:0≤b)(h2:b≤100000)(h3:0≤p)(h4:p≤100000)(h5:-1000000≤l)(h6:l≤1000000):aa Tryz.prog G 233 [Rl e p m b,.c (.d (.int .i64 l))] (.c (.d (.int .i64 (kC p b l)))):=by
 have h:=Cs G e p m b h1 h2;have mx:(List.foldl (fun a b:Int=>if a<b then b else a) l [1 - b])=max l (1 - b):=by simp only [List.foldl];split <;> omega
 have w1:IntKind.i64.wrap (max l (1 - b) - p)=max l (1 - b) - p:=dF (by omega) (by omega);have w2:IntKind.i64.wrap (max l (1 - b) - p+1)=kC p b l:=by unfold kC;exact dF (by omega) (by omega)
 refine aa.en Tryz.func233 rfl fun _=>aab ?_;refine aaa fun K hK=>?_;refine aaq mixed (by kernel_rfl) rfl ?_;simp;refine ag.p 1 9 h ?_;simp [eN,mx,w1,w2,-List.foldl_cons,-List.foldl_nil];refine⟨by kernel_rfl,?_⟩
 repeat refine ah ?_
 apply hK;exact aad (aH.rt rfl 4 (by simp))
def mF (p b:Int):Rat:=cE (cE 1 p - 1) (b - p+1)
theorem wG (L:Nat)(h:1≤L):oS 1 L:=⟨by show nl 1≤_;rw [qc];exact h,by show nl 1≤_;rw [qc];exact h⟩
theorem zb (p:Int)(h1:0≤p)(h2:p≤10000):oS (cE 1 p - 1) 1000:=by
 rw [Rat.sub_eq_add_neg];have h:=ue (wG 1 (aW _)) p;have:=NM (fV h (show 1+p.natAbs / 32+1≤400 by omega)) (Ba (wG 400 (by omega)));exact fV this (by omega)
theorem IC (p b:Int)(h1:0≤p)(h2:p≤10000)(h3:0≤b)(h4:b≤5000):oS (mF p b) 2000:=by
 refine fV (ue (zb p h1 h2) _) (by omega)
theorem zg (G:List (List DV))(e p m b:Int)(h1:0≤b)(h2:b≤5000)(h3:0≤p)(h4:p≤10000):aa Tryz.prog G 237 [Rl e p m b] (fS (mF p b)):=by
 have k1:=Jh G p (by omega) (by omega);have k2:aa Tryz.prog G 263 [.c (.d (.int .i64 1))] (fS (1:Rat)):=G4 G 1 (by decide) (by decide);have k3:=OD G (cE 1 p) 1 (fV (ue (wG 1 (aW _)) p) (by omega)) (wG _ (by omega));have k4:=vl G (cE 1 p - 1) (b - p+1) (fV (zb p h3 h4) (by omega)) (by omega) (by omega);rw [show cE (cE 1 p - 1) (b - p+1)=mF p b from rfl] at k4;have w1:IntKind.i64.wrap (b - p)=b - p:=dF (by omega) (by omega);have w2:IntKind.i64.wrap (b - p+1)=b - p+1:=dF (by omega) (by omega);generalize mF p b=r at *
 generalize cE 1 p - 1=r2 at *
 generalize cE 1 p=r1 at *
 generalize (1:Rat)=r0 at *
 refine aa.enc Tryz.func237 rfl (fun lv=>fQ lv _ _ _) fun _=>aab ?_;refine aaa fun K hK=>?_;refine aaq mixed (by kernel_rfl) rfl ?_;simp;refine ag.p 2 9 k1 ?_;simp;refine ag.p 2 9 k2 ?_;simp;refine ag.p 2 9 k3 ?_;simp [w1,w2];refine ag.p 2 9 k4 ?_;simp;refine⟨by kernel_rfl,?_⟩
 repeat refine ah ?_
 apply hK;refine aam ?_;refine dA.cell (κ:=0) (T:=224) (t:=2) (k:=1) (off:=0) (own:=true) (fz:=false) (U:=224) (cs:=[.d (.bool (decide (r.num<0))),nC (cX r.num.natAbs),nC (eA r.den)]) rfl ?_ ?_ ?_
 ·simp
 ·simp [aj]
 ·rw [YV,bE]
def zc (x:Rat):Rat:=if x<0 then -x else x
theorem Pz (x:Rat):fS (zc x)=pJ false (cX x.num.natAbs) (eA x.den):=by
 unfold zc;split
 ·rename_i h
  have:x.num<0:=by
   have:=(Rat.lt_iff x 0).1 h;simpa using this
  show pJ (decide ((-x).num<0)) (cX (-x).num.natAbs) (eA (-x).den)=_;rw [Rat.neg_num,Rat.neg_den,Int.natAbs_neg,decide_eq_false (by omega)]
 ·rename_i h
  have:¬ x.num<0:=fun hn=>h ((Rat.lt_iff x 0).2 (by simpa using hn))
  show pJ (decide (x.num<0)) _ _=_;rw [decide_eq_false this]
theorem Ox (G:List (List DV))(x:Rat):aa Tryz.prog G 236 [fS x] (fS (zc x)):=by
 rw [Pz];exact F9 _ _ _ _
theorem NJ {x:Rat}{L:Nat}(h:oS x L):oS (zc x) L:=by
 unfold zc;split
 ·exact Ba h
 ·exact h
theorem I8 (G:List (List DV))(x:Rat):aa Tryz.prog G 235 [fS x] (.c (.d (.bool (decide (x.den=1))))):=by
 have h:=Cd G (decide (x.num<0)) (cX x.num.natAbs) (eA x.den);have e:(eA x.den).isNone=decide (x.den=1):=by unfold eA;split <;> simp_all
 rw [e] at h;exact h
def hasB (e p:Int)(x:Rat):Bool:=
 decide (oh e p=0) && (decide (x=0) || (decide ((cE x (-(kC p (dR e) (lM x)))).den=1) && decide (xh (zc x) (mF p (dR e))≤0)))
theorem r8 (G:List (List DV))(e p:Int)(x:Rat)(hs:oS x 300):aa Tryz.prog G 160 [fA e p,fS x] (.c (.d (.bool (hasB e p x)))):=by
 by_cases hf:oh e p=0
 rotate_left
 ·have hw:=Mi G e p hf;have hb:hasB e p x=false:=by unfold hasB;rw [decide_eq_false hf];rfl
  refine aa.en Tryz.func160 rfl fun _=>aab ?_;refine aas 2 hw ?_;refine aaa fun K hK=>aag (aab ?_)
  refine aak (aab ?_);exact aad (aH.rt rfl 4 (by simp [hb]))
 obtain⟨f1,f2,f3,f4,f5⟩:=HJ hf;obtain⟨g1,g2,_⟩:=AA f1 f2;have hw:=Na G e p hf;have hg:=lz G (decide (x.num<0)) (cX x.num.natAbs) (eA x.den)
 by_cases hx:x=0
 ·have hb:hasB e p x=true:=by unfold hasB;rw [decide_eq_true hf,decide_eq_true hx];rfl
  have hz:=Kk hx;refine aa.en Tryz.func160 rfl fun _=>aab ?_;refine aas 2 hw ?_;refine aaa fun K hK=>aag (aab ?_)
  refine aaj (aaA 3 hg hz ?_);refine aaf (by simp [hz] <;> omega) (aab ?_);exact aad (aH.rt rfl 4 (by simp [hb]))
 have hne:=LU hx;have hl:=Ip G x hx (fV hs (by omega));obtain⟨l1,l2⟩:=Lv hx hs;have hst:=Fc G e p 0 (dR e) (lM x) (by omega) (by omega) (by omega) (by omega) (by omega) (by omega);have s1:-20000≤-(kC p (dR e) (lM x)):=by unfold kC;omega
 have s2:-(kC p (dR e) (lM x))≤20000:=by unfold kC;omega
 have hsh:=vl G x (-(kC p (dR e) (lM x))) (fV hs (by omega)) s1 s2;have hin:=I8 G (cE x (-(kC p (dR e) (lM x))));have hab:=Ox G x;have hgr:=zg G e p 0 (dR e) (by omega) (by omega) (by omega) (by omega);have hcm:=Hr G (zc x) (mF p (dR e)) (fV (NJ hs) (by omega)) (fV (IC p (dR e) (by omega) (by omega) (by omega) (by omega)) (by omega))
 have hb:hasB e p x=(decide ((cE x (-(kC p (dR e) (lM x)))).den=1) && decide (xh (zc x) (mF p (dR e))≤0)):=by
  unfold hasB;rw [decide_eq_true hf,decide_eq_false hx];rfl
 have w:IntKind.i64.wrap (-(kC p (dR e) (lM x))) = -(kC p (dR e) (lM x)):=dF (by omega) (by omega);generalize xh (zc x) (mF p (dR e))=cm at *
 generalize mF p (dR e)=gr at *
 generalize zc x=ab at *
 generalize cE x (-(kC p (dR e) (lM x)))=sh at *
 generalize kC p (dR e) (lM x)=st at *
 generalize lM x=lo at *
 generalize dR e=b at *
 by_cases hi:sh.den=1
 ·have hb2:hasB e p x=decide (cm≤0):=by rw [hb,decide_eq_true hi];rfl
  refine aa.en Tryz.func160 rfl fun _=>aab ?_;refine aas 2 hw ?_;refine aaa fun K hK=>aag (aab ?_)
  refine aaj (aaA 3 hg hne ?_);refine aah (by simp [hne] <;> omega) (aac (hK _ _ (aaa fun K hK=>?_)));refine aaq mixed (by kernel_rfl) rfl ?_;simp [aj];refine ag.p 3 9 hl ?_;simp;refine ag.p 3 9 hst ?_;simp [w];refine ag.p 3 9 hsh ?_;simp;refine ag.p 3 9 hin ?_;simp [hi];refine ag.p 3 9 hab ?_;simp;refine ag.p 3 9 hgr ?_;simp;refine ag.p 3 9 hcm ?_;simp;refine⟨by kernel_rfl,?_⟩
  repeat refine ah ?_
  apply hK;exact aad (aH.rt rfl 4 (by simp [hb2]))
 ·have hb2:hasB e p x=false:=by rw [hb,decide_eq_false hi];rfl
  refine aa.en Tryz.func160 rfl fun _=>aab ?_;refine aas 2 hw ?_;refine aaa fun K hK=>aag (aab ?_)
  refine aaj (aaA 3 hg hne ?_);refine aah (by simp [hne] <;> omega) (aac (hK _ _ (aaa fun K hK=>?_)));refine aaq mixed (by kernel_rfl) rfl ?_;simp [aj];refine ag.p 3 9 hl ?_;simp;refine ag.p 3 9 hst ?_;simp [w];refine ag.p 3 9 hsh ?_;simp;refine ag.p 3 9 hin ?_;simp [hi];refine⟨by kernel_rfl,?_⟩
  repeat refine ah ?_
  apply hK;exact aad (aH.rt rfl 4 (by simp [hb2]))
theorem GI(h:lY s=true) (h0:s≠[48]) (h1:s≠[49]):2≤cD s 0:=by
 obtain⟨hD,hne⟩:=qe h;unfold lY at h;simp only [cy,Zp,Zd,decide_eq_true_eq,decide_eq_false_iff_not] at h
 have h4:s.getD 0 0≠48:=by
  rcases h.2 with h3|h3
  ·exact absurd h3 h0
  ·exact h3
 cases s with
 | nil=>exact absurd rfl hne
 | cons c l=>
  have hc:=hD c (by simp);have hc48:c≠48:=h4;have hcn:c.toNat≠48:=fun e=>hc48 (UInt8.toNat_inj.1 (by rw [e];rfl))
  have e:cD (c::l) 0=(c.toNat - 48)*10 ^ l.length+cD l 0:=by
   show cD l (10*0+(c.toNat - 48))=_;rw [jZ,aaG,Y5]
  rw [e]
  cases l with
  | nil=>
   have hc49:c.toNat≠49:=fun e=>h1 (by rw [UInt8.toNat_inj.1 (show c.toNat=(49:UInt8).toNat by rw [e];rfl)])
   show 2≤(c.toNat - 48)*10 ^ 0+0;omega
  | cons d l=>
   have h10:10≤10 ^ (d::l).length:=by
    rw [Zn,Zq];have:=Zv (a:=10) (n:=l.length) (by decide);omega
   have:1*10≤(c.toNat - 48)*10 ^ (d::l).length:=aa0 (by omega) h10;omega
def sP (neg:Bool)(top bot:List UInt8)(brk:Bool):Rat:=if fj neg top bot brk=0 then mkRat (gL neg (cD top 0)) (if brk=true then cD bot 0 else 1) else 0
theorem Mh (s:List UInt8):(val 4294967296 (dO (pq s)))=cD s 0:=by show val 4294967296 (cz 4294967296 (cD s 0))=_;rw [eu]
theorem Ci (s:List UInt8):can 4294967296 (dO (pq s)):=gj _
theorem WB (s t:List UInt8):(val 4294967296 (dO (gO (pq s) (pq t))))=Nat.gcd (cD s 0) (cD t 0):=by
 unfold gO;rw [xw (Ci s) (Ci t),eu,Mh,Mh]
theorem Kv {neg:Bool}{top bot:List UInt8}{brk:Bool}(h:kH neg top bot brk=false):lY top=true∧(brk=true→lY bot=true∧bot≠[48]∧bot≠[49]):=by
 unfold kH at h;simp only [Bool.or_eq_false_iff,Bool.not_eq_false',Bool.and_eq_false_iff,decide_eq_false_iff_not] at h;obtain⟨⟨h1,_⟩,h3⟩:=h;refine⟨h1,fun hb=>?_⟩;rcases h3 with h3|h3
 ·rw [hb] at h3;cases h3
 ·exact⟨h3.1.1,h3.1.2,h3.2⟩
theorem Gn (neg:Bool)(top bot:List UInt8)(brk:Bool):eR neg top bot brk=.tup [fS (sP neg top bot brk),.c (.d (.int .i64 (fj neg top bot brk)))]:=by
 by_cases h1:kH neg top bot brk=true
 ·have e:fj neg top bot brk=6:=by unfold fj;rw [if_pos h1]
  have e2:sP neg top bot brk=0:=by unfold sP;rw [e,if_neg (by decide)]
  rw [e,e2];unfold eR;rw [if_pos h1];rfl
 by_cases h2:2000<max top.length bot.length
 ·have e:fj neg top bot brk=3:=by unfold fj;rw [if_neg h1,if_pos h2]
  have e2:sP neg top bot brk=0:=by unfold sP;rw [e,if_neg (by decide)]
  rw [e,e2];unfold eR;rw [if_neg h1,if_pos h2];rfl
 obtain⟨g1,g2⟩:=Kv (by simpa using h1)
 by_cases h3:brk=false
 ·have e:fj neg top bot brk=0:=by unfold fj;rw [if_neg h1,if_neg h2,if_pos h3]
  have e2:sP neg top bot brk=mkRat (gL neg (cD top 0)) 1:=by unfold sP;rw [e,if_pos rfl,h3];rfl
  rw [e,e2];unfold eR;rw [if_neg h1,if_neg h2,if_pos h3];rw [AB neg (Ci top) (q:=some (cz 4294967296 1)) (gj 1) (lJ (by decide)),Mh,dB,eu]
 have hb:brk=true:=by simpa using h3
 obtain⟨r1,r2,r3⟩:=g2 hb;have hge:=GI r1 r2 r3
 by_cases h4:(val 4294967296 (dO (gO (pq top) (pq bot))))=1
 ·have e:fj neg top bot brk=0:=by unfold fj;rw [if_neg h1,if_neg h2,if_neg h3,if_pos h4]
  have e2:sP neg top bot brk=mkRat (gL neg (cD top 0)) (cD bot 0):=by unfold sP;rw [e,if_pos rfl,hb];rfl
  rw [e,e2];unfold eR;rw [if_neg h1,if_neg h2,if_neg h3,if_pos h4];rw [WB] at h4;have ha:cD top 0≠0:=by intro h0;rw [h0,Nat.gcd_zero_left] at h4;omega
  obtain⟨n1,n2⟩:=yJ neg (a:=cD top 0) (b:=cD bot 0) (by omega);rw [h4,Nat.div_one] at n1 n2;show AV.tup [pJ neg (some (cz 4294967296 (cD top 0))) (some (cz 4294967296 (cD bot 0))),_]=AV.tup [pJ (decide ((mkRat (gL neg (cD top 0)) (cD bot 0)).num<0)) (cX (mkRat (gL neg (cD top 0)) (cD bot 0)).num.natAbs) (eA (mkRat (gL neg (cD top 0)) (cD bot 0)).den),_];rw [n1,n2,AT,Hg neg ha];unfold cX eA;rw [if_neg ha,if_neg (by omega)]
 ·have e:fj neg top bot brk=6:=by unfold fj;rw [if_neg h1,if_neg h2,if_neg h3,if_neg h4]
  have e2:sP neg top bot brk=0:=by unfold sP;rw [e,if_neg (by decide)]
  rw [e,e2];unfold eR;rw [if_neg h1,if_neg h2,if_neg h3,if_neg h4];rfl
theorem KO (L:Nat)(h:1≤L):oS 0 L:=⟨by show nl 0≤_;exact Y4 _,by show nl 1≤_;rw [qc];exact h⟩
theorem Bu(h:ML s) (hl:s.length≤2000):nl (cD s 0)≤300:=by
 have:=Qj (ri h);omega
theorem NV (neg:Bool)(top bot:List UInt8)(brk:Bool):oS (sP neg top bot brk) 300:=by
 unfold sP;split
 ·rename_i h
  have h1:¬ kH neg top bot brk=true:=by
   intro hb;unfold fj at h;rw [if_pos hb] at h;cases h
  have h2:¬ 2000<max top.length bot.length:=by
   intro hb;unfold fj at h;rw [if_neg h1,if_pos hb] at h;cases h
  obtain⟨g1,g2⟩:=Kv (by simpa using h1);split
  ·rename_i hb
   obtain⟨r1,r2,r3⟩:=g2 hb;have hge:=GI r1 r2 r3;exact qE _ (by omega) (Bu (qe g1).1 (by omega)) (Bu (qe r1).1 (by omega))
  ·exact qE _ (by decide) (Bu (qe g1).1 (by omega)) (by rw [qc];decide)
 ·exact KO _ (by decide)
def j7 (r:List UInt8):Int:=fj (E9 r [45]) (EM (tE r [45]) [47]) (EN (tE r [45]) [47]) (decide (0≤qx (tE r [45]) [47]))
def kG (r:List UInt8):Rat:=sP (E9 r [45]) (EM (tE r [45]) [47]) (EN (tE r [45]) [47]) (decide (0≤qx (tE r [45]) [47]))
theorem HK (r:List UInt8):oS (kG r) 300:=NV ..
theorem AQ (m:Int)(r:List UInt8):aa Tryz.prog (GG m) 159 [.c (.d (.str r))] (.tup [fS (kG r),.c (.d (.int .i64 (j7 r)))]):=by
 have h:=ED m r;rw [Gn] at h;exact h
theorem IG (m:Int)(r:List UInt8):aa Tryz.prog (GG m) 163 [.c (.d (.str r))] (.c (.d (.int .i64 (j7 r)))):=zJ m r
theorem ja (G:List (List DV))(n m:Int):aa Tryz.prog G 87 [.c (.d (.int .i64 n)),.c (.d (.int .i64 m))] (.c (.d (.bool (decide (0≤n∧n<m))))):=by
 refine aa.en Tryz.func87 rfl fun _=>aab ?_;refine aaa fun K hK=>?_
 by_cases h:0≤n
 ·refine aat h (hK _ _ ?_);exact aad (aH.rt rfl 4 (by simp [h]))
 ·refine aat h (hK _ _ ?_);exact aad (aH.rt rfl 4 (by simp [h]))
theorem Ee (G:List (List DV))(n:Int):aa Tryz.prog G 96 [.c (.d (.int .i64 n))] (.c (.d (.bool (decide (1≤n∧n≤15))))):=by
 refine aa.en Tryz.func96 rfl fun _=>aab ?_;refine aaa fun K hK=>?_
 by_cases h:1≤n
 ·refine aat h (hK _ _ ?_);exact aad (aH.rt rfl 2 (by simp [h]))
 ·refine aat h (hK _ _ ?_);exact aad (aH.rt rfl 2 (by simp [h]))
def fu (p:PD)(i:Int):Int:=if i<p.head then 0 else if i<p.tail then 1 else 2
theorem qD (G:List (List DV))(p:PD)(i:Int):aa Tryz.prog G 88 [p.A,.c (.d (.int .i64 i))] (.c (.d (.int .i64 (fu p i)))):=by
 refine aa.en Tryz.func88 rfl fun _=>aab ?_;refine aaa fun K hK=>aag (aab ?_)
 by_cases h:i<p.head
 ·refine aaf (by simp [h] <;> omega) (aab ?_);exact aad (aH.rt rfl 4 (by simp [fu,h]))
 ·refine aah (by simp [h] <;> omega) (aab ?_)
  by_cases h2:i<p.tail
  ·refine aaf (by simp [h2] <;> omega) (aab ?_);exact aad (aH.rt rfl 4 (by simp [fu,h,h2]))
  ·refine aah (by simp [h2] <;> omega) (aac (hK _ _ (aab ?_)));exact aad (aH.rt rfl 4 (by simp [fu,h,h2]))
@[simp] theorem PD.X0 (p:PD):(AV.agg [fC p.f,.d (.int .i64 p.mode),fC p.ins,fC p.nodes,.d (.int .i64 p.head),.d (.int .i64 p.tail),fC p.states,.d (.int .i64 p.res)]).pure=true:=by
 obtain⟨f,a,i,n,b,c,s,d⟩:=p
 cases f <;> cases i <;> cases n <;> cases s <;> rfl
def gF (p:PD)(i k:Int):Bool:=decide (0≤k∧k<i) && (decide (fu p k=0) || decide (fu p k=fu p i))
theorem Ow (G:List (List DV))(p:PD)(i k:Int):aa Tryz.prog G 164 [p.A,.c (.d (.int .i64 i)),.c (.d (.int .i64 k))] (.c (.d (.bool (gF p i k)))):=by
 refine aa.en Tryz.func164 rfl fun _=>aab ?_;refine aaa fun K hK=>aaa fun K1 hK1=>?_
 by_cases h1:k<0
 ·have h1':¬ 0≤k:=by omega
  refine aat h1 (hK1 _ _ ?_);refine aak (aab ?_);exact aad (aH.rt rfl 6 (by simp [gF,h1']))
 have h0:0≤k:=by omega
 by_cases h2:i≤k
 ·have h2':¬ k<i:=by omega
  refine aaw h1 h2 (hK1 _ _ ?_);refine aak (aab ?_);exact aad (aH.rt rfl 6 (by simp [gF,h2']))
 have h2':k<i:=by omega
 refine aaw h1 h2 (hK1 _ _ ?_);refine aaj (aac (hK _ _ (aai fun K hK=>?_)));simp;refine ag.pure 1 9 (qD _ p k) (by simp) (by simp) rfl ?_;simp
 repeat refine ah ?_
 apply hK;refine aaa fun K hK=>?_
 by_cases h3:fu p k=0
 ·refine aat h3 (hK _ _ ?_);exact aad (aH.rt rfl 6 (by simp [gF,h0,h2',h3]))
 ·refine aae ?_;simp [h3];refine ag.pure 1 9 (qD _ p i) (by simp) (by simp) rfl ?_;simp
  repeat refine ah ?_
  apply hK;exact aad (aH.rt rfl 6 (by simp [gF,h0,h2',h3]))
def iM (p:PD):Int:=
 if 6<(sO p.f).length∨6<(sO p.ins).length∨64<(sO p.nodes).length∨4<(sO p.states).length then 3
 else if (sO p.f).length=0∨(sO p.nodes).length=0∨p.mode<0∨4<p.mode then 2
 else if p.head<0∨p.tail<p.head∨((sO p.nodes).length:Int)<p.tail then 2
 else if (sO p.states).length=0∧p.head≠(sO p.nodes).length then 2 else 0
theorem E4 (G:List (List DV))(p:PD):aa Tryz.prog G 82 [p.A] (.c (.d (.int .i64 (iM p)))):=by
 have lp0:∀ (lv:Key→LB) (o:Option (List (List DV))),dW Tryz.prog 22 lv (n7 o)=some (.c (.d (.int .i64 (sO o).length)),[],[],True):=fun lv o=>cL (by simp)
 have lp2:∀ (lv:Key→LB) (o:Option (List (List DV))),dW Tryz.prog 23 lv (n7 o)=some (.c (.d (.int .i64 (sO o).length)),[],[],True):=fun lv o=>cL (by simp)
 have lp3:∀ (lv:Key→LB) (o:Option (List (List DV))),dW Tryz.prog 24 lv (n7 o)=some (.c (.d (.int .i64 (sO o).length)),[],[],True):=fun lv o=>cL (by simp)
 have lp6:∀ (lv:Key→LB) (o:Option (List (List DV))),dW Tryz.prog 25 lv (n7 o)=some (.c (.d (.int .i64 (sO o).length)),[],[],True):=fun lv o=>cL (by simp)
 refine aa.en Tryz.func82 rfl fun _=>aab ?_;refine aal lp3 ?_;refine aaa fun K hK=>aag (aaa fun K1 hK1=>?_)
 have toK1:∀ (fr:Nat→AV) (κ:Nat) (b:Bool),fr 1=.c (.ptr 0 0)→fr 3=.c (.d (.int .i64 (sO p.nodes).length))→fr 8=.c (.d (.bool b)) →
  (b=decide (6<(sO p.f).length∨6<(sO p.ins).length∨64<(sO p.nodes).length∨4<(sO p.states).length)) →
  K1 ⟨fr,aD (fun _=>.hole) 0 (.cells true false 154 p.cs)⟩ κ:=by
  intro fr κ b z1 z3 z8 hb
  repeat refine ah ?_
  apply hK1
  cases b with
  | true=>
   have h:=of_decide_eq_true hb.symm;refine aaf (by simp [z8] <;> omega) (aab ?_);exact aad (aH.rt rfl 9 (by simp [iM,if_pos h]))
  | false=>
   have h:=of_decide_eq_false hb.symm;refine aah (by simp [z8] <;> omega) (aaa fun K2 hK2=>?_)
   have toK2:∀ (fr:Nat→AV) (κ:Nat) (b:Bool),fr 1=.c (.ptr 0 0)→fr 3=.c (.d (.int .i64 (sO p.nodes).length))→fr 26=.c (.d (.bool b)) →
    (b=decide ((sO p.f).length=0∨(sO p.nodes).length=0∨p.mode<0∨4<p.mode)) →
    K2 ⟨fr,aD (fun _=>.hole) 0 (.cells true false 154 p.cs)⟩ κ:=by
    intro fr κ b y1 y3 y26 hb2
    repeat refine ah ?_
    apply hK2
    cases b with
    | true=>
     have h2:=of_decide_eq_true hb2.symm;refine aaf (by simp [y26] <;> omega) (aab ?_);have hg:iM p=2:=by unfold iM;rw [if_neg h,if_pos h2]
     exact aad (aH.rt rfl 9 (by simp [hg]))
    | false=>
     have h2:=of_decide_eq_false hb2.symm;refine aah (by simp [y26] <;> omega) (aaa fun K3 hK3=>?_)
     have toK3:∀ (fr:Nat→AV) (κ:Nat) (b:Bool),fr 1=.c (.ptr 0 0)→fr 3=.c (.d (.int .i64 (sO p.nodes).length))→fr 42=.c (.d (.bool b)) →
      (b=decide (p.head<0∨p.tail<p.head∨((sO p.nodes).length:Int)<p.tail)) →
      K3 ⟨fr,aD (fun _=>.hole) 0 (.cells true false 154 p.cs)⟩ κ:=by
      intro fr κ b x1 x3 x42 hb3
      repeat refine ah ?_
      apply hK3
      cases b with
      | true=>
       have h3:=of_decide_eq_true hb3.symm;refine aaf (by simp [x42] <;> omega) (aab ?_);have hg:iM p=2:=by unfold iM;rw [if_neg h,if_neg h2,if_pos h3]
       exact aad (aH.rt rfl 9 (by simp [hg]))
      | false=>
       have h3:=of_decide_eq_false hb3.symm;refine aah (by simp [x42] <;> omega) (aaa fun K4 hK4=>?_)
       have fin0:iM p=0→∀ (fr:Nat→AV) (κ:Nat) (lv:Key→LB),lv 9=.hole→K ⟨fr,lv⟩ κ:=by
        intro hg fr κ lv h9
        repeat refine ah ?_
        apply hK;refine aab ?_;exact aam (κ:=0) (aH.tmp (κ:=0) rfl 9 (by simp [hg]) rfl (by simp [h9]) rfl)
       by_cases e1:sO p.states=[]
       ·by_cases e2:p.head=((sO p.nodes).length:Int)
        ·have hg:iM p=0:=by unfold iM;rw [if_neg h,if_neg h2,if_neg h3,if_neg (fun hh=>hh.2 e2)]
         refine aae ?_;simp [x1,x3,lp6,e1,e2]
         repeat refine ah ?_
         apply hK4;refine aaj (aac ?_);simp;exact fin0 hg _ _ _ (by simp)
        ·have hg:iM p=2:=by unfold iM;rw [if_neg h,if_neg h2,if_neg h3,if_pos ⟨by rw [e1];rfl,e2⟩]
         refine aae ?_;simp [x1,x3,lp6,e1,e2]
         repeat refine ah ?_
         apply hK4;refine aak (aab ?_);exact aad (aH.rt rfl 9 (by simp [hg]))
       ·have hg:iM p=0:=by unfold iM;rw [if_neg h,if_neg h2,if_neg h3,if_neg (fun hh=>e1 (List.length_eq_zero_iff.1 hh.1))]
        refine aaB x1 x3 lp6 e1 (hK4 _ _ ?_);refine aaj (aac ?_);simp;exact fin0 hg _ _ _ (by simp)
     refine aal y1 ?_
     by_cases f1:p.head<0
     ·refine aaf (by simp [f1] <;> omega) (aac ?_);simp;exact toK3 _ _ true (by simp [y1]) (by simp [y3]) (by simp [f1]) (by simp [f1])
     refine aah (by simp [f1] <;> omega) (aal y1 ?_)
     by_cases f2:p.tail<p.head
     ·refine aaf (by simp [f2] <;> omega) (aac ?_);simp;exact toK3 _ _ true (by simp [y1]) (by simp [y3]) (by simp [f2]) (by simp [f2])
     refine aah (by simp [f2] <;> omega) (aae ?_);simp [y1,y3];exact toK3 _ _ (decide (((sO p.nodes).length:Int)<p.tail)) (by simp [y1]) (by simp [y3]) (by simp) (by simp [f1,f2])
   refine aar z1 lp0 ?_
   by_cases c1:(sO p.f).length=0
   ·have c1l:sO p.f=[]:=List.length_eq_zero_iff.1 c1;refine aaf (by simp [c1l] <;> omega) (aac ?_);simp;exact toK2 _ _ true (by simp [z1]) (by simp [z3]) (by simp [c1l]) (by simp [c1l])
   have c1l:¬ sO p.f=[]:=fun e=>c1 (by rw [e];rfl)
   refine aah (by simp [c1l] <;> omega) (aal z3 ?_)
   by_cases c2:(sO p.nodes).length=0
   ·have c2l:sO p.nodes=[]:=List.length_eq_zero_iff.1 c2;refine aaf (by simp [c2l] <;> omega) (aac ?_);simp;exact toK2 _ _ true (by simp [z1]) (by simp [z3]) (by simp [c2l]) (by simp [c2l])
   have c2l:¬ sO p.nodes=[]:=fun e=>c2 (by rw [e];rfl)
   refine aah (by simp [c2l] <;> omega) (aal z1 ?_)
   by_cases c3:p.mode<0
   ·refine aaf (by simp [c3] <;> omega) (aac ?_);simp;exact toK2 _ _ true (by simp [z1]) (by simp [z3]) (by simp [c3]) (by simp [c3])
   refine aah (by simp [c3] <;> omega) (aae ?_);simp [z1];exact toK2 _ _ (decide (4<p.mode)) (by simp [z1]) (by simp [z3]) (by simp) (by simp [c1l,c2l,c3])
 refine aal lp0 ?_
 by_cases d1:6<(sO p.f).length
 ·have d1':(6:Int)<((sO p.f).length:Int):=by omega
  refine aaf (by simp [d1'] <;> omega) (aac ?_);simp;exact toK1 _ _ true (by simp) (by simp) (by simp [d1']) (by simp [d1])
 have d1':¬ (6:Int)<((sO p.f).length:Int):=by omega
 refine aah (by simp [d1'] <;> omega) (aal lp2 ?_)
 by_cases d2:6<(sO p.ins).length
 ·have d2':(6:Int)<((sO p.ins).length:Int):=by omega
  refine aaf (by simp [d2'] <;> omega) (aac ?_);simp;exact toK1 _ _ true (by simp) (by simp) (by simp [d2']) (by simp [d2])
 have d2':¬ (6:Int)<((sO p.ins).length:Int):=by omega
 refine aah (by simp [d2'] <;> omega) (aab ?_)
 by_cases d3:64<(sO p.nodes).length
 ·have d3':(64:Int)<((sO p.nodes).length:Int):=by omega
  refine aaf (by simp [d3'] <;> omega) (aac ?_);simp;exact toK1 _ _ true (by simp) (by simp) (by simp [d3']) (by simp [d3])
 have d3':¬ (64:Int)<((sO p.nodes).length:Int):=by omega
 refine aah (by simp [d3'] <;> omega) (aae ?_);simp [lp6];have d4:((4:Int)<((sO p.states).length:Int))↔4<(sO p.states).length:=by omega
 exact toK1 _ _ (decide (4<(sO p.states).length)) (by simp) (by simp) (by simp [d4]) (by simp [d1,d2,d3])
end Go.Am
namespace Go.Am
variable {fn:Func}{x X:AV}{c:Ctx}{t κ k off sz:Nat}{s:au}{ks:List Key}{T U:TypeId}{own fz:Bool}{cs:List CV}{lv:Key→LB}{es:List (List DV)}
theorem aa.ed {P:Program}{G:List (List DV)}{f:FuncId}{code:Code}{args:List AV}(hf:P.funcs[f]?=some fn) (hb:fn.body=some code)
 (h:∀ z:Ev,AW ⟨P,G,z.w,z.F,z.W,fn.ntmps,fun _=>.hole,z.b⟩ none code ⟨fun t=>args.getD t .undef,fun _=>.hole⟩ 0 (jz ⟨P,G,z.w,z.F,z.W,fn.ntmps,fun _=>.hole,z.b⟩ fn x)) (hl:Nat.ble args.length fn.ntmps=true:=by kernel_rfl):aa P G f args x:=
 aa.KQ hf hb (Ze hl) fun⟨_,_,w,F,W,_,q,b⟩ h1 h2 h3 h4=>by cases h1;cases h2;cases h3;cases h4;exact h ⟨w,F,W,fun _=>.hole,b⟩
theorem sg {lv:Key→LB}{n:Nat}:∀ (l:List DV),fG (cC lv n) (l.map CV.d)=some (l,[])
 | []=>rfl
 | x::l=>by
  have ih:=sg (lv:=lv) (n:=n) l;simp only [Y0,fG] at ih ⊢;rw [ih]
  cases n <;> rfl
theorem qj {α:Type}{sz:Nat}:∀ (es:List (List α)),(∀ e∈es,e.length=sz)→chunk sz es.length es.flatten=es
 | [],_=>rfl
 | e::es,h=>by
  have he:e.length=sz:=h e (by simp);have ih:=qj es fun x hx=>h x (by simp [hx])
  have hlen:es.flatten.length=es.length*sz:=by
   rw [List.length_flatten]
   have:∀ l:List (List α),(∀ e∈l,e.length=sz)→(l.map List.length).sum=l.length*sz:=by
    intro l
    induction l with
    | nil=>intro _;simp
    | cons a l ih=>intro h;simp [ih fun x hx=>h x (by simp [hx]),h a (by simp),Nat.succ_mul];omega
   exact this es fun x hx=>h x (by simp [hx])
  unfold chunk at ih ⊢;rw [Zn,List.range_succ_eq_map,Y0,Y7];congr 1
  ·simp [List.take_left' he]
  ·conv=>rhs;rw [← ih]
   apply Zj;intro i _;simp only [Function.comp,aaK];have:(i+1)*sz=e.length+i*sz:=by rw [he,Nat.succ_mul];omega
   rw [Nat.succ_eq_add_one,this,List.drop_append,aa6 (by omega),ZE,Zt]
theorem jz.tmp(hr:fn.results=#[.tmp t]) (hx:s.fr t=X) (hd:fT s.lv X=some (x,ks)):jz c fn x .ret s κ:=
 ⟨X,ks,by rw [hr];simp [cM,gz,iB,hx],hd⟩
theorem jz.cell(hr:fn.results=#[.cell t T]) (ht:s.fr t=.c (.ptr k off)) (hk:s.lv k=.cells own fz U cs)
 (hx:dQ c.P T (cs.drop off)=some X) (hd:fT s.lv X=some (x,ks)):jz c fn x .ret s κ:=
 ⟨X,ks,by rw [hr];simp [cM,gz,iB,ht,hk,hx],hd⟩
theorem jz.nU{y:AV}{u:Nat}(hr:fn.results=#[.cell t T,.tmp u]) (ht:s.fr t=.c (.ptr k off)) (hk:s.lv k=.cells own fz U cs)
 (hx:dQ c.P T (cs.drop off)=some X) (hy:s.fr u=y) (hn:X.bV=true) (hm:y.bV=true) (hd:fT s.lv (.tup [X,y])=some (x,ks)):jz c fn x .ret s κ:=
 ⟨.tup [X,y],ks,by rw [hr];simp [cM,gz,iB,ht,hk,hx,hy,hn,hm],hd⟩
theorem rT{k:Key}(h:lv k=.cells own fz T (es.flatten.map CV.d)) (hs:∀ e∈es,e.length=sz) (hl:es.length≤9223372036854775807) :
 fT lv (.c (.aI k 0 es.length sz))=some (.c (.d (.sl es)),[k]):=by
 have hlen:es.flatten.length=es.length*sz:=by
  rw [List.length_flatten]
  have:∀ l:List (List DV),(∀ e∈l,e.length=sz)→(l.map List.length).sum=l.length*sz:=by
   intro l
   induction l with
   | nil=>intro _;simp
   | cons a l ih=>intro h;simp [ih fun x hx=>h x (by simp [hx]),h a (by simp),Nat.succ_mul];omega
  exact this es hs
 have ht:(es.flatten.map CV.d).take (es.length*sz)=es.flatten.map CV.d:=ZH (by rw [YX,hlen];exact aW _);simp only [fT,fq,cC,h,YX,hlen,Y5,aW,hl,and_self,if_true,YV,ht,sg,Zb,qj es hs]
theorem Cc(h:∀ e∈es,e.length=sz):jl lv sz (.c (.d (.sl es)))=some (es.length,es.flatten.map CV.d):=by
 have h1:es.all (fun e=>e.length == sz)=true:=by rw [YU];intro e he;simp [h e he]
 simp [jl,h1]
end Go.Am
namespace Go.Am
open Go.Am.Ty Go.Proofs N
variable {T:TypeId}{i n:Nat}{P:Program}{op:Int}
structure Nd where
 op:Int
 a:Int
 b:Int
 c:Int
 d:Int
 f:Int
 v:List UInt8
 deriving DecidableEq,Inhabited
structure In where
 f:Int
 lo:List UInt8
 hi:List UInt8
 deriving DecidableEq,Inhabited
@[simp] def Nd.e (n:Nd):List DV:=[.int .i64 n.op,.int .i64 n.a,.int .i64 n.b,.int .i64 n.c,.int .i64 n.d,.int .i64 n.f,.str n.v]
@[simp] def In.e (n:In):List DV:=[.int .i64 n.f,.str n.lo,.str n.hi]
@[simp] def zj (n:Int × Int):List DV:=[.int .i64 n.1,.int .i64 n.2]
abbrev Nd.A (n:Nd):AV:=.agg [.d (.int .i64 n.op),.d (.int .i64 n.a),.d (.int .i64 n.b),.d (.int .i64 n.c),.d (.int .i64 n.d),.d (.int .i64 n.f),.d (.str n.v)]
def LR:List DV→Nd
 | [.int _ o,.int _ a,.int _ b,.int _ c,.int _ d,.int _ f,.str v]=>⟨o,a,b,c,d,f,v⟩
 | _=>default
def Qz:List DV→In
 | [.int _ f,.str a,.str b]=>⟨f,a,b⟩
 | _=>default
def r5:List DV→Int × Int
 | [.int _ a,.int _ b]=>(a,b)
 | _=>(0,0)
theorem Ks {e:List DV}(h:I2 e):e=(LR e).e:=by obtain⟨a1,a2,a3,a4,a5,a6,s,rfl⟩:=h;rfl
theorem P5 {e:List DV}(h:MD e):e=(Qz e).e:=by obtain⟨a,s,t,rfl⟩:=h;rfl
theorem Mj {e:List DV}(h:D2 e):e=zj (r5 e):=by obtain⟨a,b,rfl⟩:=h;rfl
theorem Me (n:Nd):I2 n.e:=⟨_,_,_,_,_,_,_,rfl⟩
theorem Tf (n:Int × Int):D2 (zj n):=⟨_,_,rfl⟩
def PD.nf (p:PD):Nat:=(sO p.f).length
def PD.ni (p:PD):Nat:=(sO p.ins).length
def PD.nn (p:PD):Nat:=(sO p.nodes).length
def PD.ns (p:PD):Nat:=(sO p.states).length
def PD.fm (p:PD)(i:Nat):Int × Int:=r5 ((sO p.f).getD i [])
def PD.Bg (p:PD)(i:Nat):In:=Qz ((sO p.ins).getD i [])
def PD.nd (p:PD)(i:Nat):Nd:=LR ((sO p.nodes).getD i [])
def PD.st (p:PD)(i:Nat):Int × Int:=r5 ((sO p.states).getD i [])
section
variable {p:PD}(hp:p.ok) (lv:Key→LB) (k:Int) (h0:0≤k)
theorem Ua{lv:Key→LB}{o:Option (List (List DV))}{k:Int}{sz:Nat}{e:List DV}(h:(ff P T).map (·.2)=some sz) (h0:0≤k) (hi:k<(sO o).length) (he:(sO o).getD k.toNat []=e) (hs:e.length=sz) :
 aq P T lv (n7 o) (.c (.d (.int .i64 k)))=some (.c (.d (.ptr e)),[],[],True):=by
 obtain⟨i,rfl⟩:∃ i:Nat,k=i:=⟨k.toNat,by omega⟩
 have hi':i<(sO o).length:=by omega
 have e1:(sO o)[i]=e:=by rw [← he,Y1,hJ,cn hi'];rfl
 rw [iY h hi' (by rw [e1];exact hs),e1]
theorem gD {l:List (List DV)}{q:List DV→Prop}(h:∀ e∈l,q e)(hi:i<l.length):q (l.getD i []):=by
 rw [hJ,cn hi];exact h _ (cq hi)
include hp h0
theorem XA (hi:k<p.nf):aq Tryz.prog 22 lv (.c (fC p.f)) (.c (.d (.int .i64 k)))=some (.c (.d (.ptr (zj (p.fm k.toNat)))),[],[],True):=
 Ua (by simp) h0 hi (Mj (gD hp.f (by unfold PD.nf at hi;omega))) rfl
theorem Wk (hi:k<p.ni):aq Tryz.prog 23 lv (.c (fC p.ins)) (.c (.d (.int .i64 k)))=some (.c (.d (.ptr (p.Bg k.toNat).e)),[],[],True):=
 Ua (by simp) h0 hi (P5 (gD hp.ins (by unfold PD.ni at hi;omega))) rfl
theorem Uh (hi:k<p.nn):aq Tryz.prog 24 lv (.c (fC p.nodes)) (.c (.d (.int .i64 k)))=some (.c (.d (.ptr (p.nd k.toNat).e)),[],[],True):=
 Ua (by simp) h0 hi (Ks (gD hp.nodes (by unfold PD.nn at hi;omega))) rfl
theorem Xe (hi:k<p.ns):aq Tryz.prog 25 lv (.c (fC p.states)) (.c (.d (.int .i64 k)))=some (.c (.d (.ptr (zj (p.st k.toNat)))),[],[],True):=
 Ua (by simp) h0 hi (Mj (gD hp.states (by unfold PD.ns at hi;omega))) rfl
end
theorem R1 (p:PD)(lv:Key→LB):dW Tryz.prog 22 lv (.c (fC p.f))=some (.c (.d (.int .i64 p.nf)),[],[],True):=cL (by simp)
theorem So (p:PD)(lv:Key→LB):dW Tryz.prog 23 lv (.c (fC p.ins))=some (.c (.d (.int .i64 p.ni)),[],[],True):=cL (by simp)
theorem xB (p:PD)(lv:Key→LB):dW Tryz.prog 24 lv (.c (fC p.nodes))=some (.c (.d (.int .i64 p.nn)),[],[],True):=cL (by simp)
theorem QO (p:PD)(lv:Key→LB):dW Tryz.prog 25 lv (.c (fC p.states))=some (.c (.d (.int .i64 p.ns)),[],[],True):=cL (by simp)
def bz (op:Int):Nat:=if op≤3 then 0 else if op≤7 then 1 else if op≤13 then 2 else if op=14 then 3 else 4
def gE (op:Int):Nat:=if op=1∨op=2 then 1 else bz op
def Dx:List DV:=[.int .i64 0,.int .i64 0,.int .i64 0,.int .i64 1,.int .i64 0,.int .i64 1,.int .i64 0,.int .i64 0,.int .i64 1,.int .i64 1,.int .i64 1,.int .i64 1,.int .i64 1,.int .i64 1,.int .i64 1,.int .i64 1,.int .i64 2,.int .i64 2,.int .i64 2,.int .i64 2,.int .i64 2,.int .i64 2,.int .i64 2,.int .i64 2,.int .i64 2,.int .i64 2,.int .i64 2,.int .i64 2,.int .i64 3,.int .i64 3,.int .i64 4,.int .i64 4]
theorem Mc (m:Int):(GG m)[1]?=some Dx:=rfl
theorem VV(h1:1≤op) (h2:op≤15):op=1∨op=2∨op=3∨op=4∨op=5∨op=6∨op=7∨op=8∨op=9∨op=10∨op=11∨op=12∨op=13∨op=14∨op=15:=by omega
theorem VS(h1:1≤op) (h2:op≤15):∃ rest,∀ lv:Key→LB,aq Tryz.prog 169 lv (.c (.d (.ptr Dx))) (.c (.d (.int .i64 op)))=some (.c (.d (.ptr (.int .i64 (bz op)::.int .i64 (gE op)::rest))),[],[],True):=by
 have ha:qX Tryz.prog 169=some (16,168,2):=by kernel_rfl
 have key:∀ (op:Int) (rest:List DV),0≤op→op<16→Dx.drop (op.toNat*2)=.int .i64 (bz op)::.int .i64 (gE op)::rest→op.toNat*2≤Dx.length→∃ rest,∀ lv:Key→LB,aq Tryz.prog 169 lv (.c (.d (.ptr Dx))) (.c (.d (.int .i64 op)))=some (.c (.d (.ptr (.int .i64 (bz op)::.int .i64 (gE op)::rest))),[],[],True):=by
  intro op rest g1 g2 g3 g4;refine⟨rest,fun lv=>?_⟩;unfold aq;rw [ha];show some (AV.c (.d (.ptr (Dx.drop (op.toNat*2)))),([]:List (Key × LB)),([]:List Key),(0≤op∧op<((16:Nat):Int)∧op.toNat*2≤Dx.length))=_;rw [g3,eq_true (show 0≤op∧op<((16:Nat):Int)∧op.toNat*2≤Dx.length from ⟨g1,by omega,g4⟩)]
 rcases VV h1 h2 with rfl|rfl|rfl|rfl|rfl|rfl|rfl|rfl|rfl|rfl|rfl|rfl|rfl|rfl|rfl <;> exact key _ _ (by decide) (by decide) rfl (by decide)
def Nd.l4 (n:Nd):List Int:=[n.a,n.b,n.c,n.d]
def bG (n:Nd):List Int:=if 1≤n.op∧n.op≤15 then n.l4.take (bz n.op) else []
def iS (n:Nd):Option (List Int):=if 1≤n.op∧n.op≤15 then some (n.l4.take (bz n.op)) else none
def kY (n:Nd):Bool:=(n.l4.drop (gE n.op)).all (fun x=>decide (x=0)) && (decide (n.v=[]) || decide (n.op=3))
def zD (l:List Int):List (List DV):=l.map fun x=>[DV.int .i64 x]
def zC:Option (List Int)→CV
 | none=>.d .nilsl
 | some l=>.d (.sl (zD l))
def zL (o:Option (List Int)):List Int:=o.getD []
theorem E6 (o:Option (List Int)):zC o=fC (o.map zD):=by cases o <;> rfl
@[simp] theorem Bq (o:Option (List Int)):(AV.c (zC o)).pure=true:=by cases o <;> rfl
@[simp] theorem yx (o:Option (List Int)):(AV.c (zC o)).bu=true:=by cases o <;> rfl
@[simp] theorem PC (o:Option (List Int))(g:Key→Key):(zC o).br g=zC o:=by cases o <;> rfl
@[simp] theorem TY (o:Option (List (List DV)))(g:Key→Key):(fC o).br g=fC o:=by cases o <;> rfl
@[simp] theorem U4 (o:Option (List Nat))(g:Key→Key):(nC o).br g=nC o:=by cases o <;> rfl
def zK (l:List Int):List CV:=l.map fun x=>CV.d (.int .i64 x)
@[simp] theorem Ka (l:List Int):(zK l).length=l.length:=by simp [zK]
theorem iO(ha:cR P T=some false) {l:List Int}(h:i<l.length):dQ P T ((zK l).drop i)=some (.c (.d (.int .i64 l[i]))):=by
 have:(zK l).drop i=CV.d (.int .i64 l[i])::(zK l).drop (i+1):=by
  rw [ZR (by simpa using h)];simp [zK]
 rw [this];simp [ha]
theorem FN (l:List Int):zK l=(l.map fun x=>DV.int .i64 x).map CV.d:=by simp [zK]
theorem JG {lv:Key→LB}(l:List Int):fG (cC lv n) (zK l)=some (l.map fun x=>DV.int .i64 x,[]):=by rw [FN];exact sg _
theorem S7(h:(ff Tryz.prog T).isSome=true) (lv:Key→LB) (o:Option (List Int)):dW Tryz.prog T lv (.c (zC o))=some (.c (.d (.int .i64 (zL o).length)),[],[],True):=by
 rw [E6];rw [cL h]
 cases o <;> simp [sO,zL,zD]
theorem W8(h:(ff Tryz.prog T).map (·.2)=some 1) (lv:Key→LB) (o:Option (List Int))(hi:i<(zL o).length):aq Tryz.prog T lv (.c (zC o)) (.c (.d (.int .i64 (i:Int))))=some (.c (.d (.ptr [.int .i64 (zL o)[i]])),[],[],True):=by
 cases o with
 | none=>cases hi
 | some l=>
  rw [E6];have hi0:i<l.length:=hi;have hi':i<(sO (Option.map zD (some l))).length:=by show i<(zD l).length;unfold zD;rw [YX];exact hi0
  have e:(sO (Option.map zD (some l)))[i]=[.int .i64 (zL (some l))[i]]:=by simp [sO,zD,zL]
  rw [iY h hi' (by rw [e];rfl),e];rfl
def ER (p:PD)(x:In):Int:=
 if ¬ (0≤x.f∧x.f<p.nf) then 7
 else if j7 x.lo≠0 then j7 x.lo
 else if j7 x.hi≠0 then j7 x.hi
 else if hasB (p.fm x.f.toNat).1 (p.fm x.f.toNat).2 (kG x.lo)=false then 7
 else if hasB (p.fm x.f.toNat).1 (p.fm x.f.toNat).2 (kG x.hi)=false then 7
 else if 0<xh (kG x.lo) (kG x.hi) then 7 else 0
def qT (p:PD)(i:Int)(n:Nd):Int:=
 if ¬ (1≤n.op∧n.op≤15) then 2
 else if kY n=false then 2
 else if ¬ (0≤n.f∧n.f<p.nf) then 7
 else if n.op=1∧¬ (0≤n.a∧n.a<p.ni) then 7
 else if n.op=1∧(p.Bg n.a.toNat).f≠n.f then 143
 else if n.op=2∧(i<p.head∨¬ (0≤n.a∧n.a<p.ns)) then 7
 else if n.op=3 then j7 n.v
 else if (bG n).all (gF p i) then 0 else 7
def lH (i f:Int)(n:Nd):Bool:=decide (n.op=2) && decide (n.a=i) && !decide (n.f=f)
def CG (p:PD)(i:Int)(s:Int × Int):Int:=
 if ¬ (0≤s.1∧s.1<p.head) then 7
 else if ¬ (0≤s.2∧s.2<p.tail) then 7
 else if (p.nd s.2.toNat).f≠(p.nd s.1.toNat).f then 143
 else if (List.range p.nn).any (fun j=>lH i (p.nd s.1.toNat).f (p.nd j)) then 143 else 0
def jH (e:Nat→Int)(n:Nat):Option Nat:=(List.range n).find? fun i=>decide (e i≠0)
theorem vj {e:Nat→Int}(h:∀ j,j<n→e j=0):jH e n=none:=by
 unfold jH;rw [abF];intro x hx;simp [h x (List.mem_range.1 hx)]
theorem Eu {e:Nat→Int}(hi:i<n) (h:e i≠0) (h0:∀ j,j<i→e j=0):jH e n=some i:=by
 unfold jH;rw [List.find?_range_eq_some];exact⟨by simpa using h,List.mem_range.2 hi,fun j hj=>by simp [h0 j hj]⟩
def jK (p:PD):Nat→Nat
 | 0=>p.nf
 | 1=>p.ni
 | 2=>p.nn
 | _=>p.ns
def eP (p:PD):Nat→Nat→Int
 | 0,i=>oh (p.fm i).1 (p.fm i).2
 | 1,i=>ER p (p.Bg i)
 | 2,i=>qT p i (p.nd i)
 | _,i=>CG p i (p.st i)
def dS (p:PD):Nat→Nat→Int × Int × Int
 | 0,_=>if 0≤p.res∧p.res<p.nn∧fu p p.res≠1 then (0,0,0) else (5,0,7)
 | n+1,k=>match jH (eP p k) (jK p k) with
  | some i=>(k+1,i,eP p k i)
  | none=>dS p n (k+1)
def fL (p:PD):Int × Int × Int:=if iM p≠0 then (0,0,iM p) else dS p 4 0
end Go.Am
namespace Go.Am
open Go.Am.Ty Go.Proofs N
variable {p:PD}{lv:Key→LB}{i:Int}{a:AV}{k:Key}
theorem Fh (G:List (List DV))(o:Option (List (List DV)))(h:∀ e∈sO o,e.length=2)(hl:(sO o).length≤1000000):aa Tryz.prog G 47 [.c (fC o)] (.c (fC o)):=by
 have e1:aJ Tryz.prog .eql 22 (.c (.d .nilsl)) (.c (.d .nilsl))=some (.c (.d (.bool true)),[],[],True):=by kernel_rfl
 have e2:∀ es,aJ Tryz.prog .eql 22 (.c (.d (.sl es))) (.c (.d .nilsl))=some (.c (.d (.bool false)),[],[],True):=fun es=>by kernel_rfl
 cases o with
 | none=>
  show aa Tryz.prog G 47 [.c (.d .nilsl)] (.c (.d .nilsl));refine aa.ed Tryz.func47 rfl fun _=>aab ?_;refine aaa fun K hK=>aal e1 ?_;refine aak (aab ?_);exact aam (κ:=0) (jz.tmp (κ:=0) (X:=.c (.d .nilsl)) (ks:=[]) rfl (by simp) rfl)
 | some es=>
  have h:∀ e∈es,e.length=2:=h;have hl:es.length≤1000000:=hl;show aa Tryz.prog G 47 [.c (.d (.sl es))] (.c (.d (.sl es)));have hsrc:∀ lv,jl lv 2 (.c (.d (.sl es)))=some (es.length,es.flatten.map CV.d):=fun lv=>Cc h
  refine aa.ed Tryz.func47 rfl fun _=>aab ?_;refine aaa fun K hK=>aal e2 ?_;refine aaj (aac (hK _ _ (aai fun K hK=>?_)));simp [hsrc,kB,iT,keyOf]
  repeat refine ah ?_
  apply hK;refine aam (κ:=0) (jz.tmp (κ:=0) (X:=.c (.aI 1 0 es.length 2)) (ks:=[1]) rfl (by simp) ?_);exact rT (own:=true) (fz:=false) (T:=81) (by simp) h (by omega)
theorem Fa (G:List (List DV))(o:Option (List (List DV)))(h:∀ e∈sO o,e.length=3)(hl:(sO o).length≤1000000):aa Tryz.prog G 48 [.c (fC o)] (.c (fC o)):=by
 have e1:aJ Tryz.prog .eql 23 (.c (.d .nilsl)) (.c (.d .nilsl))=some (.c (.d (.bool true)),[],[],True):=by kernel_rfl
 have e2:∀ es,aJ Tryz.prog .eql 23 (.c (.d (.sl es))) (.c (.d .nilsl))=some (.c (.d (.bool false)),[],[],True):=fun es=>by kernel_rfl
 cases o with
 | none=>
  show aa Tryz.prog G 48 [.c (.d .nilsl)] (.c (.d .nilsl));refine aa.ed Tryz.func48 rfl fun _=>aab ?_;refine aaa fun K hK=>aal e1 ?_;refine aak (aab ?_);exact aam (κ:=0) (jz.tmp (κ:=0) (X:=.c (.d .nilsl)) (ks:=[]) rfl (by simp) rfl)
 | some es=>
  have h:∀ e∈es,e.length=3:=h;have hl:es.length≤1000000:=hl;show aa Tryz.prog G 48 [.c (.d (.sl es))] (.c (.d (.sl es)));have hsrc:∀ lv,jl lv 3 (.c (.d (.sl es)))=some (es.length,es.flatten.map CV.d):=fun lv=>Cc h
  refine aa.ed Tryz.func48 rfl fun _=>aab ?_;refine aaa fun K hK=>aal e2 ?_;refine aaj (aac (hK _ _ (aai fun K hK=>?_)));simp [hsrc,kB,iT,keyOf]
  repeat refine ah ?_
  apply hK;refine aam (κ:=0) (jz.tmp (κ:=0) (X:=.c (.aI 1 0 es.length 3)) (ks:=[1]) rfl (by simp) ?_);exact rT (own:=true) (fz:=false) (T:=67) (by simp) h (by omega)
theorem EY (G:List (List DV))(o:Option (List (List DV)))(h:∀ e∈sO o,e.length=1)(hl:(sO o).length≤1000000):aa Tryz.prog G 97 [.c (fC o)] (.c (fC o)):=by
 have e1:aJ Tryz.prog .eql 30 (.c (.d .nilsl)) (.c (.d .nilsl))=some (.c (.d (.bool true)),[],[],True):=by kernel_rfl
 have e2:∀ es,aJ Tryz.prog .eql 30 (.c (.d (.sl es))) (.c (.d .nilsl))=some (.c (.d (.bool false)),[],[],True):=fun es=>by kernel_rfl
 cases o with
 | none=>
  show aa Tryz.prog G 97 [.c (.d .nilsl)] (.c (.d .nilsl));refine aa.ed Tryz.func97 rfl fun _=>aab ?_;refine aaa fun K hK=>aal e1 ?_;refine aak (aab ?_);exact aam (κ:=0) (jz.tmp (κ:=0) (X:=.c (.d .nilsl)) (ks:=[]) rfl (by simp) rfl)
 | some es=>
  have h:∀ e∈es,e.length=1:=h;have hl:es.length≤1000000:=hl;show aa Tryz.prog G 97 [.c (.d (.sl es))] (.c (.d (.sl es)));have hsrc:∀ lv,jl lv 1 (.c (.d (.sl es)))=some (es.length,es.flatten.map CV.d):=fun lv=>Cc h
  refine aa.ed Tryz.func97 rfl fun _=>aab ?_;refine aaa fun K hK=>aal e2 ?_;refine aaj (aac (hK _ _ (aai fun K hK=>?_)));simp [hsrc,kB,iT,keyOf]
  repeat refine ah ?_
  apply hK;refine aam (κ:=0) (jz.tmp (κ:=0) (X:=.c (.aI 1 0 es.length 1)) (ks:=[1]) rfl (by simp) ?_);exact rT (own:=true) (fz:=false) (T:=3) (by simp) h (by omega)
theorem Ki (T:TypeId)(s t:List UInt8):aJ Tryz.prog .eql T (.c (.d (.str s))) (.c (.d (.str t)))=some (.c (.d (.bool (decide (s=t)))),[],[],True):=by
 rw [← PA];rfl
theorem Wj (a b c d:CV):fK Tryz.prog 85 [0,1,2,3] [.c a,.c b,.c c,.c d]=some (.agg [a,b,c,d],[],[],True):=by kernel_rfl
theorem QI:qX Tryz.prog 85=some (4,3,1):=by kernel_rfl
theorem ag.W2 {c:Ctx}{f:FuncId}{K:AV→List (Key × LB)→List Key→Nat→Prop}(κ' kh κb:Key) {T:TypeId}{l:List Int}{x:AV}(n:Nat) (hn:n≤l.length) (hl:l.length≤100) (hk:lv κb=.cells true false T (zK l))
 (hc:aa c.P c.G f [.c (zC (some (l.take n)))] x) (hx:x.pure=true) (hh:lv kh=.hole) (hkh:kh≠κb) (hK:K x [(κb,.cells true true T (zK l))] [kh] κ'):ag c f [.c (.aI κb 0 n 1)] lv K:=by
 refine ag.Wf κ' kh κb T (zK l) [kh] hc hx hk hh hkh rfl (fun i p q=>?_) (fun a ha j hj=>?_) (by simp) hK
 ·have hi:i=0:=by simp at p;omega
  subst hi;right;have h1:(zK l).take n=zK (l.take n):=by simp [zK,abf]
  have hln:(l.take n).length=n:=by rw [Zc];omega
  simp only [Zx,fq,cC,az,Ka,aa5,Y5,YV,h1,JG,Zb];rw [if_pos ⟨hn,by omega⟩];have h2:=pn ((l.take n).map fun (x:Int)=>DV.int .i64 x);rw [YX,hln] at h2;simp only [Zb,h2];simp [zC,zD];rfl
 ·simp only [ZW] at ha;subst ha;simp only [jo,fY,YT,az] at hj;rcases hj with rfl|hj
  ·exact .inr rfl
  ·simp only [ZY] at hj;obtain⟨y,hy,hj⟩:=hj;simp only [zK,Zo] at hy;obtain⟨z,_,rfl⟩:=hy
   cases hj
theorem H8 (G:List (List DV))(o:Option (List Int))(hl:(zL o).length≤1000000):aa Tryz.prog G 97 [.c (zC o)] (.c (zC o)):=by
 rw [E6];refine EY G _ ?_ ?_
 ·cases o with
  | none=>intro e he;cases he
  | some l=>intro e he;simp only [sO,Zb,aaL,zD,Zo] at he;obtain⟨x,_,rfl⟩:=he;rfl
 ·cases o with
  | none=>simp [sO]
  | some l=>simpa [sO,zD,zL] using hl
theorem mg (op:Int):bz op≤4:=by unfold bz;(repeat' split) <;> omega
theorem CW (op:Int):gE op≤4:=by have:=mg op;unfold gE;split <;> omega
theorem Nd.jY (n:Nd):n.l4.length=4:=rfl
theorem oK (n:Nd):zL (iS n)=bG n:=by unfold iS bG;split <;> rfl
theorem HH (m:Int)(n:Nd):aa Tryz.prog (GG m) 35 [n.A] (.c (zC (iS n))):=by
 have hkn:=Ee (GG m) n.op
 by_cases hk:1≤n.op∧n.op≤15
 ·obtain⟨rest,hix⟩:=VS hk.1 hk.2;have hcl:=H8 (GG m) (some (n.l4.take (bz n.op))) (by simp only [zL,aaL,Zc,Nd.jY];omega);have hko:iS n=some (n.l4.take (bz n.op)):=by unfold iS;rw [if_pos hk]
  have hle:=mg n.op;rw [hko];have hd:decide (1≤n.op∧n.op≤15)=true:=decide_eq_true hk;rw [hd] at hkn;generalize bz n.op=kk at *
  refine aa.en Tryz.func35 rfl fun _=>aab ?_;refine aaa fun K hK=>aas 1 hkn ?_;refine aaj (aac (hK _ _ (aar @Wj @aj.eq_1 ?_)));refine aaa fun K hK=>?_;refine AW.rm ?_;refine nA.run 5 rfl ?_;simp [Mc,hix];refine nA.cU (x:=.c (.aI 1 0 kk 1)) (us:=[]) (rds:=[1]) 2 rfl rfl ?_ ?_
  ·simp [Am.cU,Op.operands,wv,qK,QI];omega
  refine nA.run 2 rfl ?_;simp [];refine ag.W2 (l:=n.l4) (T:=85) 2 9 1 kk hle (by simp [Nd.jY]) rfl hcl (by simp) (by simp) (by decide) ?_;simp;refine nA.done ?_
  repeat refine ah ?_
  apply hK;exact aad (aH.rt rfl 2 (by simp))
 ·have hko:iS n=none:=by unfold iS;rw [if_neg hk]
  have hd:decide (1≤n.op∧n.op≤15)=false:=decide_eq_false hk;rw [hd] at hkn;rw [hko];refine aa.en Tryz.func35 rfl fun _=>aab ?_;refine aaa fun K hK=>aas 1 hkn ?_;refine aak (aab ?_);exact aad (aH.rt rfl 2 (by simp [zC]))
theorem N9 (m:Int)(n:Nd)(h1:1≤n.op)(h2:n.op≤15):aa Tryz.prog (GG m) 162 [n.A] (.c (.d (.bool (kY n)))):=by
 obtain⟨rest,hix⟩:=VS h1 h2;have hle:=CW n.op;have hib:kY n=((n.l4.drop (gE n.op)).all (fun x=>decide (x=0)) && (decide (n.v=[]) || decide (n.op=3))):=rfl;have hzk:[CV.d (.int .i64 n.a),.d (.int .i64 n.b),.d (.int .i64 n.c),.d (.int .i64 n.d)]=zK n.l4:=rfl;have fin:(n.l4.drop (gE n.op)).all (fun x=>decide (x=0))=true→kY n=(decide (n.v=[]) || decide (n.op=3)):=by intro h;rw [hib,h];rfl
 have lp0:∀ lv,dW Tryz.prog 30 lv (.c (.d (.sl [])))=some (.c (.d (.int .i64 0)),[],[],True):=fun lv=>S7 (T:=30) (by simp) lv (some [])
 refine aa.en Tryz.func162 rfl fun _=>aab ?_;refine aar @Wj @aj.eq_1 ?_;refine aaa fun K hK=>?_
 have tail:∀ (fr:Nat→AV) (κ:Nat) (lv:Key→LB),fr 1=.c (.ptr 0 0)→lv 0=.cells true false 55 [.d (.int .i64 n.op),.d (.int .i64 n.a),.d (.int .i64 n.b),.d (.int .i64 n.c),.d (.int .i64 n.d),.d (.int .i64 n.f),.d (.str n.v)]→lv 9=.hole →
  (n.l4.drop (gE n.op)).all (fun x=>decide (x=0))=true→K ⟨fr,lv⟩ κ:=by
  intro fr κ lv z1 hl0 h9 hall;have hf:=fin hall
  repeat refine ah ?_
  apply hK
  by_cases hv:n.v=[]
  ·refine aaD z1 hl0 @Ki hv ?_;exact aam (κ:=0) (aH.tmp (κ:=0) rfl 9 (by simp [hf,hv]) rfl (by simp [h9]) rfl)
  ·refine aaD z1 hl0 @Ki hv ?_;exact aam (κ:=0) (aH.tmp (κ:=0) rfl 9 (by simp [hf,hv]) rfl (by simp [h9]) rfl)
 refine aaa fun K1 hK1=>?_
 by_cases hu:gE n.op=4
 ·refine AW.rm ?_;refine nA.run 5 rfl ?_;simp [Mc,hix];refine nA.Fl (κ:=1) (off:=0) (n:=4) (e:=3) (sz:=1) (l:=4) (own:=true) (fz:=false) (T':=85) 2 rfl rfl rfl (by simp) (by simp;rfl) QI (by simp [hu]) (by simp) (by decide) (by decide) ?_;refine nA.run 2 rfl ?_;simp [lp0];refine nA.done ?_
  repeat refine ah ?_
  apply hK1;refine aag ?_
  refine aap (fun (_:Unit)=>⟨bq [(1,.c (.ptr 0 0)),(20,.c (.d (.sl []))),(21,.c (.d (.int .i64 0))),(22,.c (.d (.int .i64 0)))],
   aD (aD (fun _=>.hole) 0 (.cells true false 55 [.d (.int .i64 n.op),.d (.int .i64 n.a),.d (.int .i64 n.b),.d (.int .i64 n.c),.d (.int .i64 n.d),.d (.int .i64 n.f),.d (.str n.v)])) 1 (.cells true false 85 (zK n.l4))⟩) 2
   (fun _=>True) (fun _=>0) () (Le.tG _) trivial ?_
  rintro⟨⟩ _;refine aab ?_;refine aaa fun K3 hK3=>aaj (aan ?_)
  simp;exact tail _ _ _ (by simp) (by simp) (by simp) (by rw [hu];rfl)
 have hu4:gE n.op<4:=by omega
 have hdrop:∀ i,i<4 - gE n.op→gE n.op+i<n.l4.length:=by intro i hi;rw [Nd.jY];omega
 generalize hue:gE n.op=u at *
 refine AW.rm ?_;refine nA.run 5 rfl ?_;simp [Mc,hix];refine nA.cU (x:=.c (.aI 1 u (4 - u) 1)) (us:=[]) (rds:=[1]) 2 rfl rfl ?_ ?_
 ·simp [Am.cU,Op.operands,wv,qK,QI];omega
 have e4:((4 - u:Nat):Int)≤9223372036854775807:=by omega
 refine nA.run 2 rfl ?_;simp [e4];refine nA.done ?_
 repeat refine ah ?_
 apply hK1;refine aag ?_
 refine aap (fun (i:Nat)=>⟨bq [(1,.c (.ptr 0 0)),(20,.c (.aI 1 u (4 - u) 1)),(21,.c (.d (.int .i64 (4 - u:Nat)))),(22,.c (.d (.int .i64 i)))],
  aD (aD (fun _=>.hole) 0 (.cells true false 55 [.d (.int .i64 n.op),.d (.int .i64 n.a),.d (.int .i64 n.b),.d (.int .i64 n.c),.d (.int .i64 n.d),.d (.int .i64 n.f),.d (.str n.v)])) 1 (.cells true false 85 (zK n.l4))⟩) 2
  (fun i=>i≤4 - u∧∀ j (hj:j<i) (h:u+j<n.l4.length),n.l4[u+j]=0) (fun i=>4 - u - i) 0 (Le.tG _) ⟨by omega,fun j hj=>absurd hj (ZN j)⟩ ?_
 rintro i ⟨hi,hall⟩
 try simp only at hi hall
 refine aab ?_;refine aaa fun K2 hK2=>?_
 by_cases hlt:i<4 - u
 ·have hlt':(i:Int)<((4 - u:Nat):Int):=by omega
  refine aaf (by simp [hlt'] <;> omega) (aac (hK2 _ _ (aaa fun K3 hK3=>aag (aaa fun K4 hK4=>?_))));have hx:=iO (P:=Tryz.prog) (T:=3) (by simp) (hdrop i hlt);refine aaw hlt' hx (hK4 _ _ ?_);refine aab ?_
  by_cases h0:n.l4[u+i]'(hdrop i hlt)=0
  ·refine aah (by simp [h0] <;> omega) (aac (hK3 _ _ ?_));have f12:=dF (n:=(i:Int)+1) (by omega) (by omega);refine aae ?_;simp [f12];refine⟨i+1,Le.tG _,⟨by omega,fun j hj h=>?_⟩,by omega⟩
   by_cases hji:j=i
   ·subst hji;exact h0
   ·exact hall j (by omega) h
  ·refine aaf (by simp [h0] <;> omega) (aab ?_)
   have hb:kY n=false:=by
    rw [hib]
    have:(n.l4.drop u).all (fun x=>decide (x=0))=false:=by
     rw [List.all_eq_false];refine⟨n.l4[u+i]'(hdrop i hlt),?_,by simpa using h0⟩;rw [List.mem_iff_getElem];exact⟨i,by rw [abd,Nd.jY];omega,by simp⟩
    rw [this];rfl
   exact aad (aH.rt rfl 2 (by simp [hb]))
 ·have hlt':¬ (i:Int)<((4 - u:Nat):Int):=by omega
  refine aah (by simp [hlt'] <;> omega) (aan ?_);simp;refine tail _ _ _ (by simp) (by simp) (by simp) ?_;rw [YU];intro x hx;obtain⟨j,hj,rfl⟩:=List.mem_iff_getElem.1 hx;rw [abd,Nd.jY] at hj;have:=hall j (by omega) (by rw [Nd.jY];omega);simpa using this
theorem IL (G:List (List DV))(p:PD)(hp:p.ok)(i:Nat)(hi:i<p.nf):aa Tryz.prog G 83 [p.A,.c (.d (.int .i64 i))] (.c (.d (.int .i64 (eP p 0 i)))):=by
 have hx:=fun lv=>XA hp lv (i:Int) (by omega) (by omega)
 have hc:=kq G (p.fm i).1 (p.fm i).2;simp only [Y1] at hx;refine aa.en Tryz.func83 rfl fun _=>aab ?_;refine aaA 1 hc hx ?_;exact aad (aH.rt rfl 4 (by simp [eP]))
theorem Aa (n:Nd):(bG n).length≤4:=by
 have:=mg n.op;unfold bG;split
 ·rw [Zc,Nd.jY];omega
 ·exact Y4 _
theorem IM (p:PD)(lv:Key→LB)(hp:p.ok)(i:Nat)(hi:i<p.nn):aq Tryz.prog 24 lv (.c (fC p.nodes)) (.c (.d (.int .i64 (i:Int))))=some (.c (.d (.ptr (p.nd i).e)),[],[],True):=by
 have:=Uh hp lv (i:Int) (by omega) (by omega)
 rwa [Y1] at this
theorem N0 (m:Int)(p:PD)(hp:p.ok)(i:Nat)(hi:i<p.nn)(hn2:p.nn≤1000):aa Tryz.prog (GG m) 85 [p.A,.c (.d (.int .i64 i))] (.c (.d (.int .i64 (eP p 2 i)))):=by
 have hx:=fun lv=>IM p lv hp i hi
 have hE:eP p 2 i=qT p i (p.nd i):=rfl;rw [hE];obtain⟨n,hn⟩:∃ n,p.nd i=n:=⟨_,rfl⟩
 simp only [hn] at hx ⊢;have hkn:=Ee (GG m) n.op;have hwf:=ja (GG m) n.f p.nf;have hwa:=ja (GG m) n.a p.ni;have hws:=ja (GG m) n.a p.ns;have lvN:List CV:=[.d (.int .i64 n.op),.d (.int .i64 n.a),.d (.int .i64 n.b),.d (.int .i64 n.c),.d (.int .i64 n.d),.d (.int .i64 n.f),.d (.str n.v)]
 refine aa.en Tryz.func85 rfl fun _=>aab ?_;refine aar hx @aj.eq_1 ?_;refine aaa fun K hK=>aag (aaa fun K1 hK1=>?_)
 by_cases h1:1≤n.op∧n.op≤15
 rotate_left
 ·have hd:decide (1≤n.op∧n.op≤15)=false:=decide_eq_false h1;have hr:qT p i n=2:=by unfold qT;rw [if_pos h1]
  rw [hd] at hkn;refine AW.m0 2 hkn (hK1 _ _ ?_);refine aak (aab ?_);exact aad (aH.rt rfl 4 (by simp [hr]))
 have hid:=N9 m n h1.1 h1.2;have hd:decide (1≤n.op∧n.op≤15)=true:=decide_eq_true h1;rw [hd] at hkn
 cases hib:kY n with
 | false=>
  have hr:qT p i n=2:=by unfold qT;rw [if_neg (not_not_intro h1),if_pos hib]
  rw [hib] at hid;refine aae ?_;simp;refine ag.p 2 9 hkn ?_;simp;refine ag.p 2 9 hid ?_;simp
  repeat refine ah ?_
  apply hK1;refine aak (aab ?_);exact aad (aH.rt rfl 4 (by simp [hr]))
 | true=>
 rw [hib] at hid;have ib:¬ kY n=false:=by rw [hib];decide
 refine aae ?_;simp;refine ag.p 2 9 hkn ?_;simp;refine ag.p 2 9 hid ?_;simp
 repeat refine ah ?_
 apply hK1;refine aaj (aaa fun K1 hK1=>?_)
 by_cases h2:0≤n.f∧n.f<p.nf
 rotate_left
 ·have hd2:decide (0≤n.f∧n.f<(p.nf:Int))=false:=decide_eq_false h2;have hr:qT p i n=7:=by unfold qT;rw [if_neg (not_not_intro h1),if_neg ib,if_pos h2]
  rw [hd2] at hwf;refine AW.m1 2 hwf @R1 (hK1 _ _ ?_);refine aak (aab ?_);exact aad (aH.rt rfl 4 (by simp [hr]))
 have hd2:decide (0≤n.f∧n.f<(p.nf:Int))=true:=decide_eq_true h2;rw [hd2] at hwf;refine AW.m1 2 hwf @R1 (hK1 _ _ ?_);refine aaj ?_
 have r2:qT p i n=if n.op=1∧¬ (0≤n.a∧n.a<p.ni) then 7 else if n.op=1∧(p.Bg n.a.toNat).f≠n.f then 143 else if n.op=2∧((i:Int)<p.head∨¬ (0≤n.a∧n.a<p.ns)) then 7 else if n.op=3 then j7 n.v else if (bG n).all (gF p i) then 0 else 7:=by
  unfold qT;rw [if_neg (not_not_intro h1),if_neg ib,if_neg (not_not_intro h2)]
 have tail:∀ (fr:Nat→AV) (κ:Nat),fr 1=.c (.d (.int .i64 i))→fr 2=.c (.ptr 0 0)→fr 5=.c (.ptr 1 0)→(qT p i n=if (bG n).all (gF p i) then 0 else 7) →
  K ⟨fr,aD (aD (fun _=>.hole) 0 (.cells true false 154 p.cs)) 1 (.cells true false 55 [.d (.int .i64 n.op),.d (.int .i64 n.a),.d (.int .i64 n.b),.d (.int .i64 n.c),.d (.int .i64 n.d),.d (.int .i64 n.f),.d (.str n.v)])⟩ κ:=by
  intro fr κ z1 z2 z5 hr;have hks:=HH m n;have hkl:=Aa n;have lpk:∀ lv,dW Tryz.prog 30 lv (.c (zC (iS n)))=some (.c (.d (.int .i64 (bG n).length)),[],[],True):=fun lv=>by rw [S7 (by simp),oK]
  have ixk:∀ lv (j:Nat) (hj:j<(bG n).length),aq Tryz.prog 30 lv (.c (zC (iS n))) (.c (.d (.int .i64 (j:Int))))=some (.c (.d (.ptr [.int .i64 (bG n)[j]])),[],[],True):=fun lv j hj=>by
   rw [W8 (by simp) lv _ (by rw [oK];exact hj)];simp only [oK]
  generalize iS n=ko at *
  generalize bG n=kl at *
  repeat refine ah ?_
  apply hK;refine aaa fun K3 hK3=>AW.c2 2 hks z5 lpk ?_;refine aag ?_
  refine aap (fun (j:Nat)=>⟨bq [(1,.c (.d (.int .i64 i))),(2,.c (.ptr 0 0)),(93,.c (zC ko)),(94,.c (.d (.int .i64 kl.length))),(95,.c (.d (.int .i64 j)))],
   aD (aD (fun _=>.hole) 0 (.cells true false 154 p.cs)) 1 (.cells true false 55 [.d (.int .i64 n.op),.d (.int .i64 n.a),.d (.int .i64 n.b),.d (.int .i64 n.c),.d (.int .i64 n.d),.d (.int .i64 n.f),.d (.str n.v)])⟩) 2
   (fun j=>j≤kl.length∧∀ q (hq:q<j) (h:q<kl.length),gF p i kl[q]=true) (fun j=>kl.length - j) 0 (Le.tG _ (by simp) (by simp [z1,z2])) ⟨Y4 _,fun q hq=>absurd hq (ZN q)⟩ ?_
  rintro j ⟨hj,hall⟩
  try simp only at hj hall
  refine aab ?_;refine aaa fun K6 hK6=>?_
  by_cases hlt:j<kl.length
  ·have hlt':(j:Int)<(kl.length:Int):=by omega
   refine aaf (by simp [hlt'] <;> omega) (aac (hK6 _ _ (aaa fun K7 hK7=>aag (aaa fun K8 hK8=>?_))));have hxk:=fun lv=>ixk lv j hlt
   refine aat hxk (hK8 _ _ ?_);refine aaa fun K8 hK8=>?_;have hse:=Ow (GG m) p i kl[j];refine AW.m0 2 hse (hK8 _ _ ?_)
   cases hs:gF p i kl[j] with
   | true=>
    refine aaj (aac (hK7 _ _ ?_));have f12:=dF (n:=(j:Int)+1) (by omega) (by omega);refine aae ?_;simp [f12];refine⟨j+1,Le.tG _,⟨by omega,fun q hq h=>?_⟩,by omega⟩
    by_cases hji:q=j
    ·subst hji;exact hs
    ·exact hall q (by omega) h
   | false=>
    refine aak (aab ?_)
    have hb:qT p i n=7:=by
     rw [hr,if_neg];rw [Bool.not_eq_true,List.all_eq_false];exact⟨kl[j],cq hlt,by rw [hs];decide⟩
    exact aad (aH.rt rfl 4 (by simp [hb]))
  ·have hlt':¬ (j:Int)<(kl.length:Int):=by omega
   refine aah (by simp [hlt'] <;> omega) (aan (hK3 _ _ ?_))
   have hb:qT p i n=0:=by
    rw [hr,if_pos];rw [YU];intro x hx;obtain⟨q,hq,rfl⟩:=List.mem_iff_getElem.1 hx;exact hall q (by omega) hq
   refine aab ?_;exact aad (aH.rt rfl 4 (by simp [hb]))
 by_cases h3:n.op=1
 ·have n2:¬ n.op=2:=by omega
  have n3:¬ n.op=3:=by omega
  have t3:(n.op=1)=True:=eq_true h3
  by_cases h4:0≤n.a∧n.a<p.ni
  rotate_left
  ·have hd4:decide (0≤n.a∧n.a<(p.ni:Int))=false:=decide_eq_false h4;have hr:qT p i n=7:=by rw [r2,if_pos ⟨h3,h4⟩]
   rw [hd4] at hwa;refine AW.c2 2 hwa t3 @So ?_;refine aak (aab ?_);exact aad (aH.rt rfl 4 (by simp [hr]))
  have hd4:decide (0≤n.a∧n.a<(p.ni:Int))=true:=decide_eq_true h4;rw [hd4] at hwa;have hxi:=fun lv=>Wk hp lv n.a h4.1 h4.2
  refine AW.c2 2 hwa t3 @So ?_;refine aaj (aaa fun K1 hK1=>?_)
  by_cases h5:(p.Bg n.a.toNat).f=n.f
  ·have hr:qT p i n=if (bG n).all (gF p i) then 0 else 7:=by
    rw [r2,if_neg (fun h=>h.2 h4),if_neg (fun h=>h.2 h5),if_neg (fun h=>n2 h.1),if_neg n3]
   refine AW.Xi mixed t3 hxi h5 (hK1 _ _ ?_);refine aaj (aal n2 ?_);refine aaj (aal n3 ?_);refine aaj (aac ?_);simp;exact tail _ _ (by simp) (by simp) (by simp) hr
  ·have hr:qT p i n=143:=by rw [r2,if_neg (fun h=>h.2 h4),if_pos ⟨h3,h5⟩]
   refine AW.Xi mixed t3 hxi h5 (hK1 _ _ ?_);refine aak (aab ?_);exact aad (aH.rt rfl 4 (by simp [hr]))
 refine aal h3 ?_;refine aaj (AW.e1 mixed h3 ?_);refine aaj ?_
 have r3:qT p i n=if n.op=2∧((i:Int)<p.head∨¬ (0≤n.a∧n.a<p.ns)) then 7 else if n.op=3 then j7 n.v else if (bG n).all (gF p i) then 0 else 7:=by
  rw [r2,if_neg (fun h=>h3 h.1),if_neg (fun h=>h3 h.1)]
 refine aaa fun K1 hK1=>?_
 by_cases h6:n.op=2
 ·have n3:¬ n.op=3:=by omega
  have t6:(n.op=2)=True:=eq_true h6
  by_cases h7:(i:Int)<p.head
  ·have hr:qT p i n=7:=by rw [r3,if_pos ⟨h6,.inl h7⟩]
   refine aaw t6 h7 (hK1 _ _ ?_);refine aak (aab ?_);exact aad (aH.rt rfl 4 (by simp [hr]))
  by_cases h8:0≤n.a∧n.a<p.ns
  ·have hd8:decide (0≤n.a∧n.a<(p.ns:Int))=true:=decide_eq_true h8;rw [hd8] at hws
   have hr:qT p i n=if (bG n).all (gF p i) then 0 else 7:=by
    rw [r3,if_neg (fun h=>h.2.elim h7 (fun h=>h h8)),if_neg n3]
   refine aae ?_;simp [t6,h7,QO];refine ag.p 2 9 hws ?_;simp [t6,h7]
   repeat refine ah ?_
   apply hK1;refine aaj (aal n3 ?_);refine aaj (aac ?_);simp;exact tail _ _ (by simp) (by simp) (by simp) hr
  ·have hd8:decide (0≤n.a∧n.a<(p.ns:Int))=false:=decide_eq_false h8;rw [hd8] at hws;have hr:qT p i n=7:=by rw [r3,if_pos ⟨h6,.inr h8⟩]
   refine aae ?_;simp [t6,h7,QO];refine ag.p 2 9 hws ?_;simp [t6,h7]
   repeat refine ah ?_
   apply hK1;refine aak (aab ?_);exact aad (aH.rt rfl 4 (by simp [hr]))
 refine aat h6 (hK1 _ _ ?_);refine aaj (aaa fun K1 hK1=>?_)
 have r4:qT p i n=if n.op=3 then j7 n.v else if (bG n).all (gF p i) then 0 else 7:=by
  rw [r3,if_neg (fun h=>h6 h.1)]
 by_cases h9:n.op=3
 ·have hr:qT p i n=j7 n.v:=by rw [r4,if_pos h9]
  have hck:=IG m n.v;rw [← hr] at hck;refine aat h9 (hK1 _ _ ?_);refine aak (aas 2 hck ?_);exact aad (aH.rt rfl 4 (by simp))
 ·have hr:qT p i n=if (bG n).all (gF p i) then 0 else 7:=by rw [r4,if_neg h9]
  refine aat h9 (hK1 _ _ ?_);refine aaj (aac ?_);simp;exact tail _ _ (by simp) (by simp) (by simp) hr
@[simp] def S9 (x:Rat):List CV:=[.d (.bool (decide (x.num<0))),nC (cX x.num.natAbs),nC (eA x.den)]
theorem ot:qX Tryz.prog 225=some (2,224,3):=by kernel_rfl
theorem WV (lv:Key→LB)(κ:Key)(h:lv κ=.hole)(a b:CV):aB Tryz.prog 59 2 [0,1] lv κ [.c a,.c b]=some (.c (.aI κ 0 2 1),[(κ,.cells true false 53 [a,b])],[],True):=by
 unfold aB;rw [h];kernel_rfl
theorem Jt (m:Int)(p:PD)(hp:p.ok)(i:Nat)(hi:i<p.ni):aa Tryz.prog (GG m) 84 [p.A,.c (.d (.int .i64 i))] (.c (.d (.int .i64 (eP p 1 i)))):=by
 have hx:=fun lv=>Wk hp lv (i:Int) (by omega) (by omega)
 simp only [Y1] at hx;have hE:eP p 1 i=ER p (p.Bg i):=rfl;rw [hE];generalize p.Bg i=x at *
 have hwf:=ja (GG m) x.f p.nf;have hP1:=AQ m x.lo;have hP2:=AQ m x.hi;have q1:IntKind.i64.wrap 1=1:=by decide
 have q2:IntKind.i64.wrap 2=2:=by decide
 have z1:=HK x.lo;have z2:=HK x.hi;refine aa.V6 Tryz.func84 rfl fun _=>aab ?_;refine aar hx @aj.eq_1 ?_;refine aaa fun K hK=>aaa fun K1 hK1=>?_
 by_cases h1:0≤x.f∧x.f<p.nf
 rotate_left
 ·have hd:decide (0≤x.f∧x.f<(p.nf:Int))=false:=decide_eq_false h1;have hr:ER p x=7:=by unfold ER;rw [if_pos h1]
  rw [hd] at hwf;refine AW.m1 2 hwf @R1 (hK1 _ _ ?_);refine aak (aab ?_);exact aad (aH.rt (t:=4) rfl 9 (by simp [hr]))
 have hd:decide (0≤x.f∧x.f<(p.nf:Int))=true:=decide_eq_true h1;rw [hd] at hwf
 have r1:ER p x=if j7 x.lo≠0 then j7 x.lo else if j7 x.hi≠0 then j7 x.hi else if hasB (p.fm x.f.toNat).1 (p.fm x.f.toNat).2 (kG x.lo)=false then 7
  else if hasB (p.fm x.f.toNat).1 (p.fm x.f.toNat).2 (kG x.hi)=false then 7 else if 0<xh (kG x.lo) (kG x.hi) then 7 else 0:=by
  unfold ER;rw [if_neg (not_not_intro h1)]
 refine AW.m1 2 hwf @R1 (hK1 _ _ ?_);refine aaj (aac (hK _ _ (aab ?_)));refine aaa fun K hK=>aaa fun K1 hK1=>?_;have hbs:∀ (lv:Key→LB) (h:lv 3=.hole),aB Tryz.prog 59 2 [0,1] lv 3 [.c (.d (.str x.lo)),.c (.d (.str x.hi))]=some (.c (.aI 3 0 2 1),[(3,.cells true false 53 [.d (.str x.lo),.d (.str x.hi)])],[],True):=fun lv h=>WV lv 3 h _ _
 refine aae ?_;simp [hbs,-aB]
 repeat refine ah ?_
 apply hK1;refine aag ?_
 refine aap (fun (k:Nat)=>⟨bq [(2,.c (.ptr 0 0)),(5,.c (.ptr 1 0)),(6,.c (.ptr 2 0)),(30,.c (.aI 3 0 2 1)),(31,.c (.d (.int .i64 2))),(32,.c (.d (.int .i64 k)))],
  aD (aD (aD (aD (fun _=>.hole) 0 (.cells true false 154 p.cs)) 1 (.cells true false 67 [.d (.int .i64 x.f),.d (.str x.lo),.d (.str x.hi)])) 2 (.cells true false 225 (S9 (if 0<k then kG x.lo else 0)++S9 (if 1<k then kG x.hi else 0)))) 3 (.cells true false 53 [.d (.str x.lo),.d (.str x.hi)])⟩) 4
  (fun k=>k≤2∧(0<k→j7 x.lo=0)∧(1<k→j7 x.hi=0)) (fun k=>2 - k) 0 (Le.tG _ (by simp [nC,cX,eA])) ⟨by omega,fun h=>absurd h (by omega),fun h=>absurd h (by omega)⟩ ?_
 rintro k ⟨hk,k1,k2⟩
 try simp only at hk k1 k2
 refine aab ?_;refine aaa fun K2 hK2=>?_;have hkc:k=0∨k=1∨k=2:=by omega
 rcases hkc with rfl|rfl|rfl
 ·refine aak (aac (hK2 _ _ (aaa fun K3 hK3=>aag (aab ?_))));refine aaA 4 hP1 @aj.eq_1 ?_;refine aaa fun K4 hK4=>aab ?_
  by_cases he:j7 x.lo=0
  ·refine aah (by simp [he] <;> omega) (aac (hK4 _ _ (aav ot @bE @aj.eq_1 (hK3 _ _ ?_))));refine aae ?_;simp [q1];exact⟨1,(Le.Mb [4] 9),⟨by omega,fun _=>he,fun h=>absurd h (by omega)⟩,by omega⟩
  ·have hr:ER p x=j7 x.lo:=by rw [r1,if_pos he]
   refine aaf (by simp [he] <;> omega) (aab ?_);exact aad (aH.rt (t:=4) rfl 9 (by simp [hr]))
 ·refine aak (aac (hK2 _ _ (aaa fun K3 hK3=>aag (aab ?_))));refine aaA 4 hP2 @aj.eq_1 ?_;refine aaa fun K4 hK4=>aab ?_
  by_cases he:j7 x.hi=0
  ·refine aah (by simp [he] <;> omega) (aac (hK4 _ _ (aav ot @bE @aj.eq_1 (hK3 _ _ ?_))));refine aae ?_;simp [q2];exact⟨2,(Le.Mb [4] 9),⟨by omega,fun _=>k1 (by omega),fun _=>he⟩,by omega⟩
  ·have hr:ER p x=j7 x.hi:=by rw [r1,if_neg (not_not_intro (k1 (by omega))),if_pos he]
   refine aaf (by simp [he] <;> omega) (aab ?_);exact aad (aH.rt (t:=4) rfl 9 (by simp [hr]))
 ·have r2:ER p x=if hasB (p.fm x.f.toNat).1 (p.fm x.f.toNat).2 (kG x.lo)=false then 7
   else if hasB (p.fm x.f.toNat).1 (p.fm x.f.toNat).2 (kG x.hi)=false then 7 else if 0<xh (kG x.lo) (kG x.hi) then 7 else 0:=by
   rw [r1,if_neg (not_not_intro (k1 (by omega))),if_neg (not_not_intro (k2 (by omega)))]
  refine aaj (aan (hK _ _ ?_));have hxf:=fun lv=>XA hp lv x.f h1.1 h1.2
  generalize p.fm x.f.toNat=fe at *
  have hb1:=r8 (GG m) fe.1 fe.2 (kG x.lo) z1;have hb2:=r8 (GG m) fe.1 fe.2 (kG x.hi) z2;have hcm:=Hr (GG m) (kG x.lo) (kG x.hi) (fV z1 (by omega)) (fV z2 (by omega));generalize kG x.lo=a at *
  generalize kG x.hi=b at *
  refine aar hxf @aj.eq_1 ?_;refine aaa fun K3 hK3=>aaa fun K4 hK4=>?_
  cases g1:hasB fe.1 fe.2 a with
  | false=>
   have hr:ER p x=7:=by rw [r2,if_pos g1]
   rw [g1] at hb1;refine AW.m1 5 hb1 ot (hK4 _ _ ?_);refine aak (aab ?_);exact aad (aH.rt (t:=4) rfl 9 (by simp [hr]))
  | true=>
  rw [g1] at hb1
  cases g2:hasB fe.1 fe.2 b with
  | false=>
   have hr:ER p x=7:=by rw [r2,g1,if_neg (by decide),if_pos g2]
   rw [g2] at hb2;refine aae ?_;simp [ot];refine ag.p 5 9 hb1 ?_;simp [ot];refine ag.p 5 9 hb2 ?_;simp
   repeat refine ah ?_
   apply hK4;refine aak (aab ?_);exact aad (aH.rt (t:=4) rfl 9 (by simp [hr]))
  | true=>
  rw [g2] at hb2
  by_cases g3:0<xh a b
  ·have hr:ER p x=7:=by rw [r2,g1,if_neg (by decide),g2,if_neg (by decide),if_pos g3]
   refine aae ?_;simp [ot];refine ag.p 5 9 hb1 ?_;simp [ot];refine ag.p 5 9 hb2 ?_;simp [ot];refine ag.p 5 9 hcm ?_;simp
   repeat refine ah ?_
   apply hK4;refine aaf (by simp [g3] <;> omega) (aab ?_);exact aad (aH.rt (t:=4) rfl 9 (by simp [hr]))
  ·have hr:ER p x=0:=by rw [r2,g1,if_neg (by decide),g2,if_neg (by decide),if_neg g3]
   refine aae ?_;simp [ot];refine ag.p 5 9 hb1 ?_;simp [ot];refine ag.p 5 9 hb2 ?_;simp [ot];refine ag.p 5 9 hcm ?_;simp
   repeat refine ah ?_
   apply hK4;refine aah (by simp [g3] <;> omega) (aac (hK3 _ _ (aab ?_)));exact aad (aH.rt (t:=4) rfl 9 (by simp [hr]))
@[simp] theorem PZ{k0 k1:Key}{b0 b1:LB}(h0:lv k0=b0) (h1:lv k1=b1):aR lv [(k0,b0),(k1,b1)]=lv:=by
 subst h0;subst h1;funext k;simp only [aR,List.foldl,aD];split
 ·rename_i h;rw [h]
 ·split
  ·rename_i h;rw [h]
  ·rfl
abbrev cI (i:Int):List CV:=[.d (.int .i64 i)]
abbrev bI (i:Int):LB:=.cells false false 3 (cI i)
theorem JC (G:List (List DV))(n:Nd)(i f:Int):aG Tryz.prog G 165 [n.A,.c (.ptr 0 0),.c (.ptr 1 0)] [bI i,bI f] (.ret (.c (.d (.bool (lH i f n)))) [bI i,bI f] []):=by
 refine aG.Vh Tryz.func165 rfl (by simp) (by simp) (fun r hr=>⟨_,List.mem_singleton.1 hr⟩) fun _=>aab ?_;refine aaa fun K hK=>?_
 by_cases h1:n.op=2
 ·by_cases h2:n.a=i
  ·by_cases h3:n.f=f
   ·refine aav h1 h2 h3 (hK _ _ ?_);exact aam (κ:=0) (xL.tmp (κ:=0) rfl 9 (by simp [lH,h1,h2,h3]) rfl (by simp) (by simp) (by simp) rfl)
   ·refine aav h1 h2 h3 (hK _ _ ?_);exact aam (κ:=0) (xL.tmp (κ:=0) rfl 9 (by simp [lH,h1,h2,h3]) rfl (by simp) (by simp) (by simp) rfl)
  ·refine aaw h1 h2 (hK _ _ ?_);exact aam (κ:=0) (xL.tmp (κ:=0) rfl 9 (by simp [lH,h1,h2]) rfl (by simp) (by simp) (by simp) rfl)
 ·refine aat h1 (hK _ _ ?_);exact aam (κ:=0) (xL.tmp (κ:=0) rfl 9 (by simp [lH,h1]) rfl (by simp) (by simp) (by simp) rfl)
def DI (i f:Int)(p:PD):Int:=match (List.range p.nn).find? (fun j=>lH i f (p.nd j)) with
 | some j=>j
 | none=>-1
theorem Ma (i f:Int)(p:PD):decide (0≤DI i f p)=(List.range p.nn).any (fun j=>lH i f (p.nd j)):=by
 unfold DI
 cases h:(List.range p.nn).find? (fun j=>lH i f (p.nd j)) with
 | none=>
  rw [abF] at h
  have:(List.range p.nn).any (fun j=>lH i f (p.nd j))=false:=by
   rw [List.any_eq_false];exact h
  rw [this];rfl
 | some j=>
  have h1:=aa8 h;have h2:=aaZ h;have:(List.range p.nn).any (fun j=>lH i f (p.nd j))=true:=List.any_eq_true.2 ⟨j,h2,h1⟩;rw [this];exact decide_eq_true (abG j)
abbrev V9:AV:=.c (.func (.func 165) [] [.ptr 0 0,.ptr 1 0])
theorem Mw(n:Nd) {f:Int}(h0:lv 0=bI i) (h1:lv 1=bI f)(ha:a∈[n.A,.c (.ptr 0 0),.c (.ptr 1 0)]) (hk:k∈jo lv a):k∈[9,0,1]:=by
 simp only [YT,Y6,or_false] at ha;rcases ha with rfl|rfl|rfl
 ·rw [eD rfl] at hk;cases hk
 ·simp [jo,fY,h0] at hk;simp [hk]
 ·simp [jo,fY,h1] at hk;simp [hk]
theorem KI(p:PD){fn:Fn}{fs cs:List Ref}{R:List Key}(ha:a∈[AV.c (fC p.nodes),.c (.func fn fs cs)]) (hk:k∈jo lv a):k∈R:=by
 simp only [YT,Y6,or_false] at ha;rcases ha with rfl|rfl
 ·rw [eD (by simp)] at hk;cases hk
 ·cases hk
theorem MM (G:List (List DV))(p:PD)(hp:p.ok)(hn:p.nn≤1000)(i f:Int):aG Tryz.prog G 241 [.c (fC p.nodes),V9] [bI i,bI f] (.ret (.c (.d (.int .i64 (DI i f p)))) [bI i,bI f] []):=by
 have ho:=fun j=>JC G (p.nd j) i f
 refine aG.Vh Tryz.func241 rfl (by simp) (by simp) (fun r hr=>⟨_,List.mem_singleton.1 hr⟩) fun _=>aab ?_;refine aaa fun K hK=>aal @xB ?_;refine aag ?_
 refine aap (fun (j:Nat)=>⟨bq [(0,.c (fC p.nodes)),(1,V9),(7,.c (.d (.int .i64 p.nn))),(8,.c (.d (.int .i64 j)))],aD (aD (fun _=>.hole) 0 (bI i)) 1 (bI f)⟩) 1000
  (fun j=>j≤p.nn∧∀ q,q<j→lH i f (p.nd q)=false) (fun j=>p.nn - j) 0 (Le.tG _) ⟨by omega,fun q hq=>absurd hq (ZN q)⟩ ?_
 rintro j ⟨hj,hall⟩
 try simp only at hj hall
 refine aab ?_;refine aaa fun K2 hK2=>?_
 by_cases hlt:j<p.nn
 ·have hlt':(j:Int)<(p.nn:Int):=by omega
  refine aaf (by simp [hlt'] <;> omega) (aac (hK2 _ _ (aaa fun K3 hK3=>aag (aab ?_))));refine aaa fun K4 hK4=>?_;have hx:=fun lv=>IM p lv hp j hlt
  refine aae ?_;simp [hx,Iw,Ac,s7];refine ag.Li (T0:=3) (T1:=3) (cs0:=cI i) (cs1:=cI f) 1000 9 0 1 false [9,0,1] (ho j) rfl rfl rfl (by simp) (by simp) (by decide) rfl rfl ?_ ?_ (by simp) ?_
  ·intro a b c;have:a=0∨a=1∨a=2:=by simp at b;omega
   rcases this with rfl|rfl|rfl <;> exact⟨rfl,rfl⟩
  ·intro a ha k hk;exact Mw (p.nd j) (i:=i) (f:=f) (by simp) (by simp) ha hk
  simp
  repeat refine ah ?_
  apply hK4
  cases hs:lH i f (p.nd j) with
  | true=>
   refine aak (aab ?_)
   have hr:DI i f p=j:=by
    unfold DI
    have:(List.range p.nn).find? (fun j=>lH i f (p.nd j))=some j:=by
     rw [List.find?_range_eq_some];exact⟨hs,List.mem_range.2 hlt,fun q hq=>by rw [hall q hq];rfl⟩
    rw [this]
   exact aam (κ:=0) (xL.tmp (κ:=0) rfl 9 (by simp [hr]) rfl (by simp) (by simp) (by simp) rfl)
  | false=>
   refine aaj (aac (hK3 _ _ ?_));have f12:=dF (n:=(j:Int)+1) (by omega) (by omega);refine aae ?_;simp [f12];refine⟨j+1,Le.tG _,⟨by omega,fun q hq=>?_⟩,by omega⟩
   by_cases hji:q=j
   ·subst hji;exact hs
   ·exact hall q (by omega)
 ·have hlt':¬ (j:Int)<(p.nn:Int):=by omega
  refine aah (by simp [hlt'] <;> omega) (aan (hK _ _ (aab ?_)))
  have hr:DI i f p = -1:=by
   unfold DI
   have:(List.range p.nn).find? (fun j=>lH i f (p.nd j))=none:=by
    rw [abF];intro q hq;rw [hall q (by have:=List.mem_range.1 hq;omega)];decide
   rw [this]
  exact aam (κ:=0) (xL.tmp (κ:=0) rfl 9 (by simp [hr]) rfl (by simp) (by simp) (by simp) rfl)
theorem Ju (G:List (List DV))(p:PD)(hp:p.ok)(hn:p.nn≤1000)(i f:Int):aG Tryz.prog G 166 [.c (fC p.nodes),V9] [bI i,bI f] (.ret (.c (.d (.bool ((List.range p.nn).any fun j=>lH i f (p.nd j))))) [bI i,bI f] []):=by
 have hx:=MM G p hp hn i f;rw [← Ma];generalize DI i f p=r at *
 refine aG.Vh Tryz.func166 rfl (by simp) (by simp) (fun r hr=>⟨_,List.mem_singleton.1 hr⟩) fun _=>aab ?_;refine aai fun K hK=>?_;simp;refine ag.Li (T0:=3) (T1:=3) (cs0:=cI i) (cs1:=cI f) 1000 9 0 1 false [9] hx rfl rfl rfl (by simp) (by simp) (by decide) rfl rfl ?_ ?_ (by simp) ?_
 ·intro a b c;have:a=0∨a=1:=by simp at b;omega
  rcases this with rfl|rfl
  ·exact⟨by simp,by simp⟩
  ·exact⟨rfl,rfl⟩
 ·intro a ha k hk;exact KI p ha hk
 simp
 repeat refine ah ?_
 apply hK;exact aam (κ:=0) (xL.tmp (κ:=0) rfl 9 (by simp) rfl (by simp) (by simp) (by simp) rfl)
theorem gx(h:iM p=0):0≤p.head∧p.head≤p.tail∧p.tail≤p.nn∧p.nf≤6∧p.ni≤6∧p.nn≤64∧p.ns≤4:=by
 unfold iM at h;unfold PD.nf PD.ni PD.nn PD.ns
 (repeat' split at h) <;> first|omega|cases h
theorem J6 (m:Int)(p:PD)(hp:p.ok)(hg:iM p=0)(i:Nat)(hi:i<p.ns):aa Tryz.prog (GG m) 86 [p.A,.c (.d (.int .i64 i))] (.c (.d (.int .i64 (eP p 3 i)))):=by
 obtain⟨g1,g2,g3,_,_,g4,_⟩:=gx hg;have hx:=fun lv=>Xe hp lv (i:Int) (by omega) (by omega)
 simp only [Y1] at hx;have hE:eP p 3 i=CG p i (p.st i):=rfl;rw [hE];generalize p.st i=s at *
 have hw1:=ja (GG m) s.1 p.head;have hw2:=ja (GG m) s.2 p.tail;refine aa.en Tryz.func86 rfl fun _=>aab ?_;refine aar hx @aj.eq_1 ?_;refine aaa fun K hK=>aaa fun K1 hK1=>?_
 by_cases h1:0≤s.1∧s.1<p.head
 rotate_left
 ·have hd:decide (0≤s.1∧s.1<p.head)=false:=decide_eq_false h1;have hr:CG p i s=7:=by unfold CG;rw [if_pos h1]
  rw [hd] at hw1;refine AW.m0 3 hw1 (hK1 _ _ ?_);refine aak (aab ?_);exact aad (aH.rt rfl 4 (by simp [hr]))
 have hd:decide (0≤s.1∧s.1<p.head)=true:=decide_eq_true h1;rw [hd] at hw1
 by_cases h2:0≤s.2∧s.2<p.tail
 rotate_left
 ·have hd2:decide (0≤s.2∧s.2<p.tail)=false:=decide_eq_false h2;have hr:CG p i s=7:=by unfold CG;rw [if_neg (not_not_intro h1),if_pos h2]
  rw [hd2] at hw2;refine aae ?_;simp;refine ag.p 3 9 hw1 ?_;simp;refine ag.p 3 9 hw2 ?_;simp
  repeat refine ah ?_
  apply hK1;refine aak (aab ?_);exact aad (aH.rt rfl 4 (by simp [hr]))
 have hd2:decide (0≤s.2∧s.2<p.tail)=true:=decide_eq_true h2;rw [hd2] at hw2;refine aae ?_;simp;refine ag.p 3 9 hw1 ?_;simp;refine ag.p 3 9 hw2 ?_;simp
 repeat refine ah ?_
 apply hK1;refine aaj (aac (hK _ _ (aaa fun K hK=>?_)));have x1:=fun lv=>Uh hp lv s.1 h1.1 (by omega)
 have x2:=fun lv=>Uh hp lv s.2 h2.1 (by omega)
 have hr:CG p i s=if (p.nd s.2.toNat).f≠(p.nd s.1.toNat).f then 143 else if (List.range p.nn).any (fun j=>lH i (p.nd s.1.toNat).f (p.nd j)) then 143 else 0:=by
  unfold CG;rw [if_neg (not_not_intro h1),if_neg (not_not_intro h2)]
 generalize p.nd s.1.toNat=n1 at *
 generalize p.nd s.2.toNat=n2 at *
 refine aaw x1 @aj.eq_1 (hK _ _ ?_);refine aai fun K hK=>?_;simp [IN,qZ,xI,zI,iK]
 repeat refine ah ?_
 apply hK;refine aaa fun K hK=>aaa fun K1 hK1=>?_
 by_cases h3:n2.f=n1.f
 ·have hc:=Ju (GG m) p hp (by omega) i n1.f;refine aaq mixed (by kernel_rfl) rfl ?_;simp [x2,h3];refine ag.Li (T0:=3) (T1:=3) (cs0:=cI i) (cs1:=cI n1.f) 4 9 1 3 true [9] hc rfl rfl rfl (by simp) (by simp) (by decide) rfl rfl ?_ ?_ (by simp) ?_
  ·intro a b c;have:a=0∨a=1:=by simp at b;omega
   rcases this with rfl|rfl
   ·exact⟨by simp,by simp⟩
   ·exact⟨rfl,rfl⟩
  ·intro a ha k hk;exact KI p ha hk
  simp;refine⟨by kernel_rfl,?_⟩
  repeat refine ah ?_
  apply hK1
  cases hs:(List.range p.nn).any (fun j=>lH i n1.f (p.nd j)) with
  | true=>
   have hr2:CG p i s=143:=by rw [hr,if_neg (not_not_intro h3),if_pos hs]
   refine aak (aab ?_);exact aad (aH.rt rfl 4 (by simp [hr2]))
  | false=>
   have hr2:CG p i s=0:=by rw [hr,if_neg (not_not_intro h3),hs,if_neg (by decide)]
   refine aaj (aac (hK _ _ (aab ?_)));exact aad (aH.rt rfl 4 (by simp [hr2]))
 ·have hr2:CG p i s=143:=by rw [hr,if_pos h3]
  refine AW.Yy mixed x2 h3 (hK1 _ _ ?_);refine aak (aab ?_);exact aad (aH.rt rfl 4 (by simp [hr2]))
def sD:Option (List (List DV))→DV
 | none=>.nilsl
 | some es=>.sl es
theorem uL (o:Option (List (List DV))):fC o=.d (sD o):=by cases o <;> rfl
def PD.zy (p:PD):List DV:=[sD p.f,.int .i64 p.mode,sD p.ins,sD p.nodes,.int .i64 p.head,.int .i64 p.tail,sD p.states,.int .i64 p.res]
theorem Cv (p:PD):p.zy.map CV.d=p.cs:=by simp [PD.zy,uL]
theorem Ms (p:PD):KR (.agg p.zy)=p.A:=by show AV.agg (p.zy.map CV.d)=_;rw [Cv]
theorem Mo (p:PD):pY p.cs=some p.zy:=by
 obtain⟨f,a,i,n,b,c,s,d⟩:=p
 cases f <;> cases i <;> cases n <;> cases s <;> rfl
theorem Kg (p:PD)(f:FuncId):IN (.func f) [.agg [fC p.f,.d (.int .i64 p.mode),fC p.ins,fC p.nodes,.d (.int .i64 p.head),.d (.int .i64 p.tail),fC p.states,.d (.int .i64 p.res)]] []=some (.c (.d (.func (.func f) [.agg p.zy] [])),[],[],True):=by
 have h:=Mo p;simp only [PD.cs] at h;simp only [IN,qZ,xI,h,zI,iK];rfl
theorem U5 (a b:CV):fK Tryz.prog 157 [0,1] [.c a,.c b]=some (.agg [a,b],[],[],True):=by kernel_rfl
theorem Ss (lv:Key→LB)(κ:Key)(h:lv κ=.hole)(a b c d e f g i:CV):aB Tryz.prog 158 4 [0,1,2,3] lv κ [.agg [a,b],.agg [c,d],.agg [e,f],.agg [g,i]]=some (.c (.aI κ 0 4 2),[(κ,.cells true false 157 [a,b,c,d,e,f,g,i])],[],True):=by
 unfold aB;rw [h];kernel_rfl
theorem Tm (p:PD):fK Tryz.prog 154 [0] [.agg [fC p.f,.d (.int .i64 p.mode),fC p.ins,fC p.nodes,.d (.int .i64 p.head),.d (.int .i64 p.tail),fC p.states,.d (.int .i64 p.res)]]=some (.agg [fC p.f,.d (.int .i64 p.mode),fC p.ins,fC p.nodes,.d (.int .i64 p.head),.d (.int .i64 p.tail),fC p.states,.d (.int .i64 p.res)],[],[],True):=
 (show ∀ a b c d e f g h:CV,fK Tryz.prog 154 [0] [.agg [a,b,c,d,e,f,g,h]]=some (.agg [a,b,c,d,e,f,g,h],[],[],True) from fun a b c d e f g h=>by kernel_rfl) _ _ _ _ _ _ _ _
def PG (p:PD):List CV:=[.d (.int .i64 p.nf),.d (.func (.func 83) [.agg p.zy] []),.d (.int .i64 p.ni),.d (.func (.func 84) [.agg p.zy] []),.d (.int .i64 p.nn),.d (.func (.func 85) [.agg p.zy] []),.d (.int .i64 p.ns),.d (.func (.func 86) [.agg p.zy] [])]
@[simp] theorem Ul (p:PD)(g:Key→Key):(PG p).map (CV.br g)=PG p:=rfl
theorem Mt (p:PD)(k:Nat)(hk:k<4):dQ Tryz.prog 157 ((PG p).drop (k*2))=some (.agg [.d (.int .i64 (jK p k)),.d (.func (.func (83+k)) [.agg p.zy] [])]):=by
 have h:k=0∨k=1∨k=2∨k=3:=by omega
 rcases h with rfl|rfl|rfl|rfl <;> simp [PG,jK]
theorem M0 (m:Int)(p:PD)(hp:p.ok)(hg:iM p=0)(k:Nat)(hk:k<4)(i:Nat)(hi:i<jK p k):aa Tryz.prog (GG m) (83+k) [p.A,.c (.d (.int .i64 i))] (.c (.d (.int .i64 (eP p k i)))):=by
 have h:k=0∨k=1∨k=2∨k=3:=by omega
 have hr:=gx hg;rcases h with rfl|rfl|rfl|rfl
 ·exact IL _ p hp i hi
 ·exact Jt m p hp i hi
 ·exact N0 m p hp i hi (by omega)
 ·exact J6 m p hp hg i hi
theorem MU (k:Nat)(hk:k<4):aT Tryz.prog (83+k)=true:=by
 have h:k=0∨k=1∨k=2∨k=3:=by omega
 rcases h with rfl|rfl|rfl|rfl <;> simp
theorem NB(hg:iM p=0) (k:Nat) (hk:k<4):jK p k≤64:=by
 have h:k=0∨k=1∨k=2∨k=3:=by omega
 have hr:=gx hg;rcases h with rfl|rfl|rfl|rfl <;> simp only [jK] <;> omega
theorem LQ (m:Int)(p:PD)(hp:p.ok):aa Tryz.prog (GG m) 31 [p.A] (.tup [.c (.d (.int .i64 (fL p).1)),.c (.d (.int .i64 (fL p).2.1)),.c (.d (.int .i64 (fL p).2.2))]):=by
 have hge:=E4 (GG m) p;have hbl:∀ lv (h:lv 2=.hole) (a b c d e f g i:CV),aB Tryz.prog 158 4 [0,1,2,3] lv 2 [.agg [a,b],.agg [c,d],.agg [e,f],.agg [g,i]]=some (.c (.aI 2 0 4 2),[(2,.cells true false 157 [a,b,c,d,e,f,g,i])],[],True):=fun lv h=>Ss lv 2 h
 by_cases hg:iM p=0
 rotate_left
 ·have hr:fL p=(0,0,iM p):=by unfold fL;rw [if_pos hg]
  rw [hr];refine aa.en Tryz.func31 rfl fun _=>aab ?_;refine aar @Tm @aj.eq_1 ?_;refine aaa fun K hK=>aas 2 hge ?_;refine aab ?_;refine aaf (by simp [hg] <;> omega) (aab ?_);exact aad (aH.t3 rfl 9 (by simp) (by simp) (by simp))
 have hr:fL p=dS p 4 0:=by unfold fL;rw [if_neg (not_not_intro hg)]
 rw [hr];rw [hg] at hge;have hwi:=ja (GG m) p.res p.nn;have hse:=qD (GG m) p p.res;refine aa.V6 Tryz.func31 rfl fun _=>aab ?_;refine aar @Tm @aj.eq_1 ?_;refine aaa fun K hK=>aas 2 hge ?_;refine aab ?_;refine aaj (aac (hK _ _ (aai fun K hK=>?_)));simp [R1,So,xB,QO,Kg,U5,hbl,-aB]
 repeat refine ah ?_
 apply hK;refine aaa fun K hK=>aab ?_;refine aag ?_
 refine aap (fun (k:Nat)=>⟨bq [(1,.c (.ptr 0 0)),(5,.c (.ptr 1 0)),(44,.c (.aI 2 0 4 2)),(45,.c (.d (.int .i64 4))),(46,.c (.d (.int .i64 k)))],
  aD (aD (aD (fun _=>.hole) 0 (.cells true false 27 p.cs)) 1 (.cells true false 154 p.cs)) 2 (.cells true false 157 (PG p))⟩) 3
  (fun k=>k≤4∧dS p (4 - k) k=dS p 4 0) (fun k=>4 - k) 0 (Le.tG _ (by simp [PG])) ⟨by omega,rfl⟩ ?_
 rintro k ⟨hk,hpv⟩
 try simp only at hk hpv
 refine aab ?_;refine aaa fun K2 hK2=>?_
 by_cases hlt:k<4
 ·have hlt':(k:Int)<4:=by omega
  have hld:=Mt p k hlt;have hle:=NB hg k hlt;have hfn:=MU k hlt;have hca:=M0 m p hp hg k hlt
  have hstep:∀ i,i<jK p k→eP p k i≠0→(∀ j,j<i→eP p k j=0)→dS p 4 0=((k:Int)+1,(i:Int),eP p k i):=by
   intro i hi h0 h1;rw [← hpv,show 4 - k=(4 - (k+1))+1 by omega];show (match jH (eP p k) (jK p k) with|some i=>((k:Int)+1,(i:Int),eP p k i)|none=>dS p (4 - (k+1)) (k+1))=_;rw [Eu hi h0 h1]
  have hnext:(∀ j,j<jK p k→eP p k j=0)→dS p (4 - (k+1)) (k+1)=dS p 4 0:=by
   intro h1;rw [← hpv,show 4 - k=(4 - (k+1))+1 by omega];show _=(match jH (eP p k) (jK p k) with|some i=>((k:Int)+1,(i:Int),eP p k i)|none=>dS p (4 - (k+1)) (k+1))
   rw [vj h1]
  generalize jK p k=N at *
  generalize eP p k=E at *
  refine aaf (by simp [hlt'] <;> omega) (aac (hK2 _ _ (aaa fun K3 hK3=>aag (aai fun K4 hK4=>?_))));simp [hlt',hld,aj,-IZ]
  repeat refine ah ?_
  apply hK4;refine aab ?_;refine aag ?_
  refine aap (fun (i:Nat)=>⟨bq [(1,.c (.ptr 0 0)),(5,.c (.ptr 1 0)),(8,.c (.d (.int .i64 k))),(9,.c (.ptr 3 0)),(44,.c (.aI 2 0 4 2)),(45,.c (.d (.int .i64 4))),(46,.c (.d (.int .i64 k))),(52,.c (.d (.int .i64 N))),(53,.c (.d (.int .i64 i)))],
   aD (aD (aD (aD (fun _=>.hole) 0 (.cells true false 27 p.cs)) 1 (.cells true false 154 p.cs)) 2 (.cells true false 157 (PG p))) 3 (.cells true false 157 [.d (.int .i64 N),.d (.func (.func (83+k)) [.agg p.zy] [])])⟩) 4
   (fun i=>i≤N∧∀ j,j<i→E j=0) (fun i=>N - i) 0 (Le.tG _ (by simp [aj])) ⟨by omega,fun j hj=>absurd hj (ZN j)⟩ ?_
  rintro i ⟨hi,hall⟩
  try simp only at hi hall
  refine aab ?_;refine aaa fun K6 hK6=>?_
  by_cases hlt2:i<N
  ·have hlt2':(i:Int)<(N:Int):=by omega
   have hc:=hca i hlt2;refine aaf (by simp [hlt2'] <;> omega) (aac (hK6 _ _ (aaa fun K7 hK7=>aag (aab ?_))));refine AW.c4 4 hc @HV @Ac @Ms hfn ?_;refine aab ?_
   by_cases h0:E i=0
   ·refine aah (by simp [h0] <;> omega) (aac (hK7 _ _ ?_));have f12:=dF (n:=(i:Int)+1) (by omega) (by omega);refine aae ?_;simp [f12];refine⟨i+1,Le.tG _,⟨by omega,fun j hj=>?_⟩,by omega⟩
    by_cases hji:j=i
    ·subst hji;exact h0
    ·exact hall j (by omega)
   ·have hres:=hstep i hlt2 h0 hall;have f12:=dF (n:=(k:Int)+1) (by omega) (by omega);refine aaf (by simp [h0] <;> omega) (aal f12 ?_);exact aad (aH.t3 rfl 9 (by simp [hres]) (by simp [hres]) (by simp [hres]))
  ·have hlt2':¬ (i:Int)<(N:Int):=by omega
   refine aah (by simp [hlt2'] <;> omega) (aan (hK3 _ _ ?_));have f12:=dF (n:=(k:Int)+1) (by omega) (by omega);refine aae ?_;simp [f12];exact⟨k+1,(Le.Mb [3] 9),⟨by omega,hnext fun j hj=>hall j (by omega)⟩,by omega⟩
 ·have hlt':¬ (k:Int)<4:=by omega
  have hk4:k=4:=by omega
  subst hk4;have hfin:dS p 4 0=if 0≤p.res∧p.res<p.nn∧fu p p.res≠1 then (0,0,0) else (5,0,7):=by rw [← hpv];rfl
  refine aah (by simp [hlt'] <;> omega) (aan (hK _ _ (aaa fun K hK=>aaa fun K1 hK1=>?_)))
  by_cases h1:0≤p.res∧p.res<p.nn
  rotate_left
  ·have hd:decide (0≤p.res∧p.res<(p.nn:Int))=false:=decide_eq_false h1;have hres:dS p 4 0=(5,0,7):=by rw [hfin,if_neg (fun h=>h1 ⟨h.1,h.2.1⟩)]
   rw [hd] at hwi;refine AW.m1 3 hwi @xB (hK1 _ _ ?_);refine aak (aab ?_);exact aad (aH.t3 rfl 9 (by simp [hres]) (by simp [hres]) (by simp [hres]))
  have hd:decide (0≤p.res∧p.res<(p.nn:Int))=true:=decide_eq_true h1;rw [hd] at hwi
  by_cases h2:fu p p.res=1
  ·have hres:dS p 4 0=(5,0,7):=by rw [hfin,if_neg (fun h=>h.2.2 h2)]
   rw [h2] at hse;refine aae ?_;simp [xB];refine ag.p 3 9 hwi ?_;simp;refine ag.p 3 9 hse ?_;simp
   repeat refine ah ?_
   apply hK1;refine aak (aab ?_);exact aad (aH.t3 rfl 9 (by simp [hres]) (by simp [hres]) (by simp [hres]))
  ·have hres:dS p 4 0=(0,0,0):=by rw [hfin,if_pos ⟨h1.1,h1.2,h2⟩]
   refine aae ?_;simp [xB];refine ag.p 3 9 hwi ?_;simp;refine ag.p 3 9 hse ?_;simp [h2]
   repeat refine ah ?_
   apply hK1;refine aah (by simp [h2] <;> omega) (aac (hK _ _ (aab ?_)));exact aad (aH.t3 rfl 9 (by simp [hres]) (by simp [hres]) (by simp [hres]))
theorem ze (m:Int)(p:PD)(hp:p.ok):aa Tryz.prog (GG m) 45 [p.A] (.c (.d (.int .i64 (fL p).2.2))):=by
 have h:=LQ m p hp;generalize fL p=v at *
 refine aa.en Tryz.func45 rfl fun _=>aab ?_;refine aas 1 h ?_;refine aab ?_;exact aad (aH.rt rfl 2 (by simp))
theorem O2 (own fz:Bool)(T:TypeId)(l:List DV)(g:Key→Key):(LB.cells own fz T (l.map CV.d)).like (.cells own fz T (l.map CV.d)) g:=LB.Gk.2 ⟨rfl,rfl,by rw [Y7];rfl,id⟩
theorem Jr (T:TypeId)(p:PD)(g:Key→Key):(LB.cells true false T p.cs).like (.cells true false T p.cs) g:=by
 rw [← Cv];exact O2 ..
def zB (l:List Int):LB:=if l=[] then .hole else .cells true false 3 (zK l)
def YS (k:Key)(l:List Int):AV:=if l=[] then .c (.d .nilsl) else .c (.aI k 0 l.length 1)
theorem N5(h:(fL p).2.2=0):iM p=0:=by
 unfold fL at h
 by_cases hg:iM p=0
 ·exact hg
 ·rw [if_pos hg] at h;exact absurd h hg
theorem DF {p:PD}:∀ (n k:Nat),(dS p n k).2.2=0→(∀ j,k≤j→j<k+n→∀ i,i<jK p j→eP p j i=0)∧(0≤p.res∧p.res<p.nn∧fu p p.res≠1)
 | 0,k,h=>by
  refine⟨fun j h1 h2=>by omega,?_⟩
  by_cases hc:0≤p.res∧p.res<p.nn∧fu p p.res≠1
  ·exact hc
  ·have e:dS p 0 k=(5,0,7):=if_neg hc;rw [e] at h;cases h
 | n+1,k,h=>by
  have e:dS p (n+1) k=match jH (eP p k) (jK p k) with|some i=>((k:Int)+1,(i:Int),eP p k i)|none=>dS p n (k+1):=rfl
  rw [e] at h
  cases hf:jH (eP p k) (jK p k) with
  | some i=>
   rw [hf] at h;unfold jH at hf;have:=aa8 hf;exact absurd h (by simpa using this)
  | none=>
   rw [hf] at h;obtain⟨h1,h2⟩:=DF n (k+1) h;refine⟨fun j g1 g2 i hi=>?_,h2⟩
   by_cases hj:j=k
   ·subst hj;unfold jH at hf;rw [abF] at hf;have:=hf i (List.mem_range.2 hi);simpa using this
   ·exact h1 j (by omega) (by omega) i hi
structure PD.good (p:PD):Prop where
 ok:p.ok
 gen:iM p=0
 SQ:∀ i,i<p.nf→oh (p.fm i).1 (p.fm i).2=0
 ins:∀ i,i<p.ni→ER p (p.Bg i)=0
 nodes:∀ i,i<p.nn→qT p i (p.nd i)=0
 states:∀ i,i<p.ns→CG p i (p.st i)=0
 res:0≤p.res∧p.res<p.nn∧fu p p.res≠1
theorem rL(hp:p.ok) (h:(fL p).2.2=0):p.good:=by
 have hg:=N5 h;have e:fL p=dS p 4 0:=by unfold fL;rw [if_neg (not_not_intro hg)]
 rw [e] at h;obtain⟨h1,h2⟩:=DF 4 0 h;exact⟨hp,hg,h1 0 (by omega) (by omega),h1 1 (by omega) (by omega),h1 2 (by omega) (by omega),h1 3 (by omega) (by omega),h2⟩
theorem RI{n:Nd}(h:qT p i n=0):0≤n.f∧n.f<p.nf:=by
 by_cases hf:0≤n.f∧n.f<p.nf
 ·exact hf
 ·exfalso;unfold qT at h
  by_cases h1:1≤n.op∧n.op≤15
  ·rw [if_neg (not_not_intro h1)] at h
   by_cases h2:kY n=false
   ·rw [if_pos h2] at h;cases h
   ·rw [if_neg h2,if_pos hf] at h;cases h
  ·rw [if_pos h1] at h;cases h
theorem ic(hg:p.good) {i:Nat}(hi:i<p.nn):(1≤(p.nd i).op∧(p.nd i).op≤15)∧((p.nd i).op=2→0≤(p.nd i).a∧(p.nd i).a<p.ns)∧∀ x∈bG (p.nd i),0≤x∧x<i:=by
 have h:=hg.nodes i hi;unfold qT at h
 by_cases c1:1≤(p.nd i).op∧(p.nd i).op≤15
 rotate_left
 ·rw [if_pos c1] at h;cases h
 rw [if_neg (not_not_intro c1)] at h;refine⟨c1,fun h2=>?_,?_⟩
 ·(repeat' split at h) <;> first|omega|cases h
 ·by_cases h3:(p.nd i).op=3
  ·intro x hx;unfold bG at hx;rw [if_pos c1,h3] at hx
   cases hx
  ·rw [if_neg h3] at h
   have hk:(bG (p.nd i)).all (gF p i)=true:=by
    cases hkk:(bG (p.nd i)).all (gF p i) with
    | true=>rfl
    | false=>rw [hkk] at h;(repeat' split at h) <;> first|contradiction|(cases h;done)|(exfalso;simp_all)
   intro x hx;have:=List.all_eq_true.1 hk x hx;unfold gF at this;simp at this;omega
end Go.Am
namespace Go.Am
variable {p:PD}{l:List Bool}{k:Nat}
def cP (l:List Bool)(k:Nat):Prop:=l.getD k false=true
theorem cP.lt(h:cP l k):k<l.length:=by
 unfold cP at h
 by_cases hk:k<l.length
 ·exact hk
 ·rw [hJ,ZU (by omega)] at h;cases h
theorem uD{j:Nat}:cP (l.set j true) k↔cP l k∨(k=j∧k<l.length):=by
 unfold cP;rw [hJ,hJ,List.getElem?_set]
 by_cases h:j=k
 ·subst h
  by_cases h2:j<l.length
  ·simp [h2]
  ·simp [h2]
 ·rw [if_neg h];constructor
  ·exact .inl
  ·rintro (h1|⟨h1,-⟩)
   ·exact h1
   ·exact absurd h1.symm h
theorem J3 {m:List Bool}(hl:l.length=m.length) (h:∀ k,cP l k↔cP m k):l=m:=by
 refine aa3 hl fun k h1 h2=>?_;have h3:=h k;unfold cP at h3;rw [hJ,hJ,cn h1,cn h2] at h3;simp only [aaL] at h3;exact Bool.eq_iff_iff.2 h3
theorem qF {n:Nat}:¬ cP (List.replicate n false) k:=by
 unfold cP;rw [hJ,List.getElem?_replicate];split <;> simp
def W7 (l:List Bool)(ks:List Nat):List Bool:=ks.foldl (fun l k=>l.set k true) l
theorem oL:∀ {l m:List Bool},l.length=m.length→(∀ k,cP l k→cP m k)→l.count true≤m.count true
 | [],[],_,_=>aW _
 | a::l,b::m,hl,h=>by
  have h0:=h 0;have h1:=oL (l:=l) (m:=m) (by simpa using hl) fun k hk=>by simpa [cP] using h (k+1) (by simpa [cP] using hk)
  simp only [cP,List.getD_cons_zero] at h0;rw [aaQ,aaQ]
  cases a <;> cases b <;> simp at h0 ⊢ <;> omega
theorem A4:∀ {l m:List Bool},l.length=m.length→(∀ k,cP l k→cP m k)→∀ j,cP m j→¬ cP l j→l.count true<m.count true
 | [],[],_,_,j,hj,_=>by simp [cP] at hj
 | a::l,b::m,hl,h,0,hj,hn=>by
  have h1:=oL (l:=l) (m:=m) (by simpa using hl) fun k hk=>by simpa [cP] using h (k+1) (by simpa [cP] using hk)
  simp only [cP,List.getD_cons_zero] at hj hn;rw [aaQ,aaQ]
  cases a <;> cases b <;> simp at hj hn ⊢ <;> omega
 | a::l,b::m,hl,h,j+1,hj,hn=>by
  have h0:=h 0;have h1:=A4 (l:=l) (m:=m) (by simpa using hl) (fun k hk=>by simpa [cP] using h (k+1) (by simpa [cP] using hk)) j (by simpa [cP] using hj) (by simpa [cP] using hn);simp only [cP,List.getD_cons_zero] at h0;rw [aaQ,aaQ]
  cases a <;> cases b <;> simp at h0 ⊢ <;> omega
abbrev NS:=List Bool × List Bool
variable {s t u:NS}
def MB (p:PD)(i:Nat):List Nat:=(bG (p.nd i)).map Int.toNat++if (p.nd i).op=2 then [(p.st (p.nd i).a.toNat).1.toNat,(p.st (p.nd i).a.toNat).2.toNat] else []
def VK (p:PD)(i:Nat)(s:NS):NS:=(W7 s.1 (MB p i),if (p.nd i).op=2 then s.2.set (p.nd i).a.toNat true else s.2)
def Ob (p:PD)(i:Nat)(s:NS):NS:=if s.1.getD i false=true then VK p i s else s
def O1 (p:PD):Nat→NS→NS
 | 0,s=>s
 | i+1,s=>O1 p i (Ob p i s)
def O8 (p:PD):Nat→NS→NS
 | 0,s=>s
 | r+1,s=>O1 p p.nn (O8 p r s)
def WM (p:PD):NS:=((List.replicate p.nn false).set p.res.toNat true,List.replicate p.ns false)
def Yi (p:PD):NS:=O8 p (p.ns+2) (WM p)
def cS (p:PD):Nat→Nat→NS→NS
 | 0,_,s=>s
 | n+1,i,s=>if s.1.getD i false=true then s else
  let u:=((bG (p.nd i)).map Int.toNat).foldl (fun s k=>cS p n k s) (s.1.set i true,s.2)
  if (p.nd i).op=2 then cS p n (p.st (p.nd i).a.toNat).2.toNat (cS p n (p.st (p.nd i).a.toNat).1.toNat (u.1,u.2.set (p.nd i).a.toNat true)) else u
def bA (p:PD):NS:=cS p p.nn p.res.toNat (List.replicate p.nn false,List.replicate p.ns false)
structure PD.nv (p:PD):Prop where
 res:p.res.toNat<p.nn
 Vy:∀ i,i<p.nn→∀ k∈(bG (p.nd i)).map Int.toNat,k<i
 st:∀ i,i<p.nn→(p.nd i).op=2→(p.nd i).a.toNat<p.ns∧(p.st (p.nd i).a.toNat).1.toNat<i∧(p.st (p.nd i).a.toNat).2.toNat<p.nn
def NZ (p:PD)(s:NS)(x:Nat):Prop:=(∀ k∈MB p x,cP s.1 k)∧((p.nd x).op=2→cP s.2 (p.nd x).a.toNat)
def nE (p:PD)(s:NS):Prop:=s.1.length=p.nn∧s.2.length=p.ns
def Tn (p:PD)(X:Nat→Prop):Prop:=∀ i,i<p.nn→X i→∀ k∈MB p i,X k
structure MI (p:PD) (s t:NS):Prop where
 len:nE p t
 m1:∀ k,cP s.1 k→cP t.1 k
 m2:∀ k,cP s.2 k→cP t.2 k
 b:∀ a,cP t.2 a→cP s.2 a∨∃ x,x<p.nn∧cP t.1 x∧(p.nd x).op=2∧a=(p.nd x).a.toNat
theorem MI.refl(h:nE p s):MI p s s:=⟨h,fun _ h=>h,fun _ h=>h,fun _ h=>.inl h⟩
theorem MI.trans(h:MI p s t) (g:MI p t u):MI p s u:=
 ⟨g.len,fun k hk=>g.m1 k (h.m1 k hk),fun k hk=>g.m2 k (h.m2 k hk),fun a ha=>(g.b a ha).elim (fun ha=>(h.b a ha).imp id fun⟨x,h1,h2,h3⟩=>⟨x,h1,g.m1 x h2,h3⟩) .inr⟩
theorem NZ.mono{x:Nat}(h:MI p s t) (c:NZ p s x):NZ p t x:=⟨fun k hk=>h.m1 k (c.1 k hk),fun ho=>h.m2 _ (c.2 ho)⟩
structure mm (p:PD) (s:NS):Prop where
 len:nE p s
 res:cP s.1 p.res.toNat
 cl:∀ i,i<p.nn→cP s.1 i→NZ p s i
 m1:∀ X:Nat→Prop,X p.res.toNat→Tn p X→∀ i,cP s.1 i→X i
 m2:∀ a,cP s.2 a→∃ x,x<p.nn∧cP s.1 x∧(p.nd x).op=2∧a=(p.nd x).a.toNat
theorem mm.eq(h:mm p s) (g:mm p t):s=t:=by
 have key:∀ {s t:NS},mm p s→mm p t→∀ k,cP s.1 k→cP t.1 k:=fun h g=>h.m1 _ g.res fun i hi hx k hk=>(g.cl i hi hx).1 k hk
 have key2:∀ {s t:NS},mm p s→mm p t→∀ k,cP s.2 k→cP t.2 k:=fun h g k hk=>by
  obtain⟨x,h1,h2,h3,rfl⟩:=h.m2 k hk;exact (g.cl x h1 (key h g x h2)).2 h3
 exact Prod.ext (J3 (h.len.1.trans g.len.1.symm) fun k=>⟨key h g k,key g h k⟩) (J3 (h.len.2.trans g.len.2.symm) fun k=>⟨key2 h g k,key2 g h k⟩)
def YM (p:PD)(s:NS):Prop:=∀ a,cP s.2 a→cP s.1 (p.st a).2.toNat
structure Mk (p:PD) (s t:NS):Prop extends mos:MI p s t where
 c:∀ x,x<p.nn→cP t.1 x→cP s.1 x∨NZ p t x
theorem Mk.refl(h:nE p s):Mk p s s:=⟨.refl h,fun _ _ h=>.inl h⟩
theorem Mk.trans(h:Mk p s t) (g:Mk p t u):Mk p s u:=
 ⟨h.mos.trans g.mos,fun x hx hi=>(g.c x hx hi).elim (fun hi=>(h.c x hx hi).imp id (NZ.mono g.mos)) .inr⟩
def Min (p:PD)(s t:NS):Prop:=∀ X:Nat→Prop,Tn p X→(∀ k,cP s.1 k→X k)→∀ k,cP t.1 k→X k
def zH (l:List Bool):Nat:=l.length - l.count true
theorem Kc {p:PD}{n:Nat}(ih:∀ i s,i<p.nn→nE p s→zH s.1≤n→Mk p s (cS p n i s)∧cP (cS p n i s).1 i∧∀ X:Nat→Prop,Tn p X→X i→(∀ k,cP s.1 k→X k)→∀ k,cP (cS p n i s).1 k→X k) :
 ∀ (l:List Nat) (s:NS),(∀ k∈l,k<p.nn)→nE p s→zH s.1≤n →
  Mk p s (l.foldl (fun s k=>cS p n k s) s)∧(∀ k∈l,cP (l.foldl (fun s k=>cS p n k s) s).1 k)∧∀ X:Nat→Prop,Tn p X→(∀ k∈l,X k)→(∀ k,cP s.1 k→X k)→∀ k,cP (l.foldl (fun s k=>cS p n k s) s).1 k→X k
 | [],s,_,hl,_=>⟨.refl hl,fun _ h=>(by cases h),fun _ _ _ h=>h⟩
 | j::l,s,hk,hl,hf=>by
  obtain⟨h1,h2,h3⟩:=ih j s (hk j (by simp)) hl hf
  have hf2:zH (cS p n j s).1≤n:=by
   have:=oL (hl.1.trans h1.len.1.symm) h1.m1;unfold zH at hf ⊢;rw [h1.len.1];rw [hl.1] at hf;omega
  obtain⟨g1,g2,g3⟩:=Kc ih l _ (fun k hx=>hk k (by simp [hx])) h1.len hf2;refine⟨h1.trans g1,fun k hx=>?_,fun X hX hall hs=>g3 X hX (fun k hx=>hall k (by simp [hx])) (h3 X hX (hall j (by simp)) hs)⟩;rcases List.mem_cons.1 hx with rfl|hx
  ·exact g1.m1 _ h2
  ·exact g2 k hx
theorem rR {p:PD}(hv:p.nv):∀ (n i:Nat) (s:NS),i<p.nn→nE p s→zH s.1≤n→Mk p s (cS p n i s)∧cP (cS p n i s).1 i∧∀ X:Nat→Prop,Tn p X→X i→(∀ k,cP s.1 k→X k)→∀ k,cP (cS p n i s).1 k→X k
 | 0,i,s,hi,hl,hf=>by
  have hin:cP s.1 i:=by
   have h1:s.1.count true=s.1.length:=by have:=abo (a:=true) (l:=s.1);unfold zH at hf;omega
   have h2:=List.count_eq_length.1 h1;unfold cP;rw [hJ,cn (by rw [hl.1];exact hi)];exact (h2 _ (cq _)).symm
  exact⟨.refl hl,hin,fun _ _ _ h=>h⟩
 | n+1,i,s,hi,hl,hf=>by
  unfold cS
  by_cases hin:s.1.getD i false=true
  ·rw [if_pos hin];exact⟨.refl hl,hin,fun _ _ _ h=>h⟩
  rw [if_neg hin];have ih:=rR hv n;obtain⟨s1,hs1⟩:∃ s1:NS,s1=(s.1.set i true,s.2):=⟨_,rfl⟩
  have hl1:nE p s1:=by rw [hs1];exact⟨by rw [aa1];exact hl.1,hl.2⟩
  have i1:∀ k,cP s1.1 k↔cP s.1 k∨k=i:=fun k=>by
   rw [hs1];refine uD.trans ⟨fun h=>h.imp id (·.1),fun h=>h.imp id fun h=>⟨h,by rw [h,hl.1];exact hi⟩⟩
  have m01:MI p s s1:=⟨hl1,fun k hk=>(i1 k).2 (.inl hk),fun k hk=>by rw [hs1];exact hk,fun a ha=>by rw [hs1] at ha;exact .inl ha⟩
  have hf1:zH s1.1≤n:=by
   have h1:=A4 (hl.1.trans hl1.1.symm) m01.m1 i ((i1 i).2 (.inr rfl)) hin;have h2:=abo (a:=true) (l:=s1.1);unfold zH at hf ⊢;rw [hl1.1] at h2 ⊢;rw [hl.1] at hf;omega
  rw [← hs1];have hkl:∀ k∈(bG (p.nd i)).map Int.toNat,k<p.nn:=fun k hk=>Nat.lt_trans (hv.Vy i hi k hk) hi
  obtain⟨h1,h2,h3⟩:=Kc ih _ s1 hkl hl1 hf1;obtain⟨u,hu⟩:∃ u,((bG (p.nd i)).map Int.toNat).foldl (fun s k=>cS p n k s) s1=u:=⟨_,rfl⟩
  rw [hu] at h1 h2 h3;simp only [hu]
  have fl:∀ {t:NS},MI p s1 t→zH t.1≤n:=fun {t} ht=>by
   have:=oL (hl1.1.trans ht.len.1.symm) ht.m1;unfold zH at hf1 ⊢;rw [ht.len.1];rw [hl1.1] at hf1;omega
  have fin:∀ {t:NS},Mk p s1 t→NZ p t i→Mk p s t∧cP t.1 i:=fun {t} ht hc=>by
   refine⟨⟨m01.trans ht.mos,fun x hx hxi=>?_⟩,ht.m1 _ ((i1 i).2 (.inr rfl))⟩;rcases ht.c x hx hxi with h|h
   ·rcases (i1 x).1 h with h|rfl
    ·exact .inl h
    ·exact .inr hc
   ·exact .inr h
  by_cases ho:(p.nd i).op=2
  ·rw [if_pos ho];obtain⟨b1,b2,b3⟩:=hv.st i hi ho;obtain⟨v,hvv⟩:∃ v:NS,v=(u.1,u.2.set (p.nd i).a.toNat true):=⟨_,rfl⟩
   rw [← hvv];have lv:nE p v:=by rw [hvv];exact⟨h1.len.1,by rw [aa1];exact h1.len.2⟩
   have iv:cP u.1 i:=h1.m1 _ ((i1 i).2 (.inr rfl))
   have muv:Mk p u v:=by
    rw [hvv];refine⟨⟨by rw [hvv] at lv;exact lv,fun _ h=>h,fun k hk=>uD.2 (.inl hk),fun a ha=>?_⟩,fun x _ h=>.inl h⟩;rcases uD.1 ha with h|⟨h,-⟩
    ·exact .inl h
    ·exact .inr ⟨i,hi,iv,ho,h⟩
   have mv:=h1.trans muv;obtain⟨c1,c2,c3⟩:=ih _ v (Nat.lt_trans b2 hi) lv (fl mv.mos);generalize cS p n (p.st (p.nd i).a.toNat).1.toNat v=w at *
   have mw:=mv.trans c1;obtain⟨d1,d2,d3⟩:=ih _ w b3 c1.len (fl mw.mos);generalize cS p n (p.st (p.nd i).a.toNat).2.toNat w=t at *
   have mt:=mw.trans d1
   have hc:NZ p t i:=by
    refine⟨fun k hk=>?_,fun _=>d1.m2 _ (c1.m2 _ ?_)⟩
    ·unfold MB at hk;rcases List.mem_append.1 hk with h|h
     ·exact d1.m1 _ (c1.m1 _ (muv.m1 _ (h2 k h)))
     ·rw [if_pos ho] at h;simp only [YT,Y6,or_false] at h;rcases h with rfl|rfl
      ·exact d1.m1 _ c2
      ·exact d2
    ·rw [hvv];exact uD.2 (.inr ⟨rfl,by rw [h1.len.2];exact b1⟩)
   obtain⟨f1,f2⟩:=fin mt hc;refine⟨f1,f2,fun X hX hi' hs=>?_⟩;have hsu:∀ k∈MB p i,X k:=hX i hi hi';have hsu2:∀ k∈[(p.st (p.nd i).a.toNat).1.toNat,(p.st (p.nd i).a.toNat).2.toNat],X k:=fun k hk=>hsu k (by unfold MB;rw [if_pos ho];exact List.mem_append.2 (.inr hk))
   refine d3 X hX (hsu2 _ (by simp)) (c3 X hX (hsu2 _ (by simp)) ?_);rw [hvv];refine h3 X hX (fun k hk=>hsu k (List.mem_append.2 (.inl hk))) fun k hk=>?_;rcases (i1 k).1 hk with h|rfl
   ·exact hs k h
   ·exact hi'
  ·rw [if_neg ho]
   have hc:NZ p u i:=by
    refine⟨fun k hk=>?_,fun h=>absurd h ho⟩;unfold MB at hk;rw [if_neg ho,Zr] at hk;exact h2 k hk
   obtain⟨f1,f2⟩:=fin h1 hc;refine⟨f1,f2,fun X hX hi' hs=>h3 X hX (fun k hk=>hX i hi hi' k (List.mem_append.2 (.inl hk))) fun k hk=>?_⟩;rcases (i1 k).1 hk with h|rfl
   ·exact hs k h
   ·exact hi'
theorem rH(hv:p.nv):mm p (bA p):=by
 have hl:nE p (List.replicate p.nn false,List.replicate p.ns false):=⟨by simp,by simp⟩
 obtain⟨h1,h2,h3⟩:=rR hv p.nn p.res.toNat _ hv.res hl (by unfold zH;simp);exact⟨h1.len,h2,fun i hi hin=>(h1.c i hi hin).elim (fun h=>absurd h qF) id,fun X hX hc=>h3 X hc hX fun k hk=>absurd hk qF,fun a ha=>(h1.b a ha).elim (fun h=>absurd h qF) id⟩
theorem oW(hg:p.good):p.nv:=by
 have hst:∀ a,a<p.ns→(0≤(p.st a).1∧(p.st a).1<p.head)∧(0≤(p.st a).2∧(p.st a).2<p.tail):=fun a ha=>by
  have h:=hg.states a ha;unfold CG at h
  by_cases c1:0≤(p.st a).1∧(p.st a).1<p.head
  ·rw [if_neg (not_not_intro c1)] at h
   by_cases c2:0≤(p.st a).2∧(p.st a).2<p.tail
   ·exact⟨c1,c2⟩
   ·rw [if_pos c2] at h;cases h
  ·rw [if_pos c1] at h;cases h
 refine⟨by have:=hg.res;omega,fun i hi k hk=>?_,fun i hi ho=>?_⟩
 ·obtain⟨x,hx,rfl⟩:=List.mem_map.1 hk;have:=(ic hg hi).2.2 x hx;omega
 ·have ha:=(ic hg hi).2.1 ho;have hs:=hst (p.nd i).a.toNat (by omega)
  have hh:p.head≤i:=by
   have h:=hg.nodes i hi;unfold qT at h;rw [ho] at h
   by_cases c:(i:Int)<p.head
   ·exfalso;have n1:¬ ((2:Int)=1):=by decide
    simp only [n1,false_and,if_false,true_and,c,true_or,if_true] at h
    (repeat' split at h) <;> cases h
   ·omega
  have ht:=gx hg.gen;omega
end Go.Am
namespace Go.Am
open Go.Am.Ty Go.Proofs N
variable {p:PD}{i:Nat}{lv:Key→LB}{T:TypeId}{c:Ctx}{s s0:NS}{l:List Bool}{fr:Nat→AV}
def bD (l:List Bool):List (List DV):=l.map fun x=>[DV.bool x]
def bC:Option (List Bool)→CV
 | none=>.d .nilsl
 | some l=>.d (.sl (bD l))
def bL (o:Option (List Bool)):List Bool:=o.getD []
theorem JA (o:Option (List Bool)):bC o=fC (o.map bD):=by cases o <;> rfl
@[simp] theorem GJ (o:Option (List Bool)):(AV.c (bC o)).pure=true:=by cases o <;> rfl
@[simp] theorem C6 (o:Option (List Bool)):(AV.c (bC o)).bu=true:=by cases o <;> rfl
@[simp] theorem Wi (o:Option (List Bool))(g:Key→Key):(bC o).br g=bC o:=by cases o <;> rfl
def bK (l:List Bool):List CV:=l.map fun x=>CV.d (.bool x)
@[simp] theorem WS (l:List Bool):(bK l).length=l.length:=by simp [bK]
theorem Gu {P:Program}(ha:cR P T=some false)(h:i<l.length):dQ P T ((bK l).drop i)=some (.c (.d (.bool l[i]))):=by
 have:(bK l).drop i=CV.d (.bool l[i])::(bK l).drop (i+1):=by
  rw [ZR (by simpa using h)];simp [bK]
 rw [this];simp [ha]
theorem PR (l:List Bool):bK l=(l.map fun x=>DV.bool x).map CV.d:=by simp [bK]
theorem Jx (n:Nat):bK (List.replicate n false)=List.replicate n (CV.d (.bool false)):=by unfold bK;rw [List.map_replicate]
theorem KJ (l:List Bool)(i:Nat)(x:Bool)(h:i<l.length):aj (bK l) i [CV.d (.bool x)]=bK (l.set i x):=by
 unfold aj bK;rw [List.map_set,ab1,if_pos (by simpa using h)];simp
theorem VY(h:(ff Tryz.prog T).isSome=true) (lv:Key→LB) (o:Option (List Bool)):dW Tryz.prog T lv (.c (bC o))=some (.c (.d (.int .i64 (bL o).length)),[],[],True):=by
 rw [JA];rw [cL h]
 cases o <;> simp [sO,bL,bD]
theorem VB(h:(ff Tryz.prog T).map (·.2)=some 1) (lv:Key→LB) (o:Option (List Bool))(hi:i<(bL o).length):aq Tryz.prog T lv (.c (bC o)) (.c (.d (.int .i64 (i:Int))))=some (.c (.d (.ptr [.bool (bL o)[i]])),[],[],True):=by
 cases o with
 | none=>cases hi
 | some l=>
  rw [JA];have hi0:i<l.length:=hi;have hi':i<(sO (Option.map bD (some l))).length:=by show i<(bD l).length;unfold bD;rw [YX];exact hi0
  have e:(sO (Option.map bD (some l)))[i]=[.bool (bL (some l))[i]]:=by simp [sO,bD,bL]
  rw [iY h hi' (by rw [e];rfl),e];rfl
theorem Du(h:i<l.length):l.getD i false=l[i]:=by
 rw [hJ,cn h];rfl
theorem B8(hg:p.good)(hi:i<p.ns):0≤(p.st i).1∧(p.st i).1<p.nn∧0≤(p.st i).2∧(p.st i).2<p.nn:=by
 have h:=hg.states i hi;have hr:=gx hg.gen;unfold CG at h
 by_cases c1:0≤(p.st i).1∧(p.st i).1<p.head
 ·rw [if_neg (not_not_intro c1)] at h
  by_cases c2:0≤(p.st i).2∧(p.st i).2<p.tail
  ·omega
  ·rw [if_pos c2] at h;cases h
 ·rw [if_pos c1] at h;cases h
theorem KZ(hp:p.ok) (lv:Key→LB) (i:Nat) (hi:i<p.ns):aq Tryz.prog 25 lv (.c (fC p.states)) (.c (.d (.int .i64 (i:Int))))=some (.c (.d (.ptr (zj (p.st i)))),[],[],True):=by
 have:=Xe hp lv (i:Int) (by omega) (by omega)
 rwa [Y1] at this
abbrev mC (p:PD)(k1 k2:Key)(a b:Nat):List CV:=[fC p.f,.d (.int .i64 p.mode),fC p.ins,fC p.nodes,.d (.int .i64 p.head),.d (.int .i64 p.tail),fC p.states,.d (.int .i64 p.res),.aI k1 0 a 1,.aI k2 0 b 1]
def mS (p:PD)(s:NS):List LB:=[.cells false false 84 (mC p 1 2 s.1.length s.2.length),.cells false false 4 (bK s.1),.cells false false 4 (bK s.2)]
theorem qL (l:List Bool)(g:Key→Key):(bK l).map (CV.br g)=bK l:=by unfold bK;rw [Y7];rfl
theorem SC (lv:Key→LB)(n:Nat)(l:List Bool):(bK l).flatMap (fY lv n)=[]:=by
 unfold bK;rw [abH,abl];intro x _;cases n <;> rfl
theorem Og (lv:Key→LB)(n:Nat)(o:Option (List (List DV))):fY lv n (fC o)=[]:=by cases o <;> cases n <;> rfl
theorem KG (lv:Key→LB)(n:Nat)(x:DV):fY lv n (.d x)=[]:=by cases n <;> rfl
@[simp] theorem P1{a b c:Key × LB}:aR lv [a,b,c]=aD (aD (aD lv a.1 a.2) b.1 b.2) c.1 c.2:=rfl
theorem ag.mk{K:AV→List (Key × LB)→List Key→Nat→Prop}(κ' kh k0 k1 k2:Key) (own:Bool){t:NS}{i:Int}(hc:aG c.P c.G 106 [.c (.ptr 0 0),.c (.d (.int .i64 i))] (mS p s) (.ret (.tup []) (mS p t) []))
 (hK:K (.tup []) [(k0,.cells own false 84 (mC p k1 k2 t.1.length t.2.length)),(k1,.cells own false 4 (bK t.1)),(k2,.cells own false 4 (bK t.2))] [k0,k1,k2,kh] κ')
 (h0:lv k0=.cells own false 84 (mC p k1 k2 s.1.length s.2.length):=by simp) (h1:lv k1=.cells own false 4 (bK s.1):=by simp) (h2:lv k2=.cells own false 4 (bK s.2):=by simp) (hh:lv kh=.hole:=by simp) (hd:[k0,k1,k2,kh].Nodup:=by decide) :
 ag c 106 [.c (.ptr k0 0),.c (.d (.int .i64 i))] lv K:=by
 have hd1:([k0,k1,k2]:List Key).Nodup:=by simp only [abx,YT,Y6,or_false,not_or,abB,and_true,not_false_eq_true] at hd ⊢;simp [hd.1,hd.2]
 have hd2:kh ∉ ([k0,k1,k2]:List Key):=by simp only [abx,YT,Y6,or_false,not_or] at hd ⊢;exact⟨fun h=>hd.1.2.2 h.symm,fun h=>hd.2.1.2 h.symm,fun h=>hd.2.2.1 h.symm⟩
 have g0:aF [k0,k1,k2] [] kh 0=k0:=rfl;have g1:aF [k0,k1,k2] [] kh 1=k1:=rfl;have g2:aF [k0,k1,k2] [] kh 2=k2:=rfl;refine ag.Ax κ' kh own [k0,k1,k2] [] _ _ _ [k0,k1,k2,kh] hc (by simpa using hd1) (by simpa using hd2) rfl rfl rfl (by simp [mS]) ?_ (by simp) hh ?_ ?_ ?_ rfl ?_ ?_ (by simp) ?_
 ·intro j q1 q2;have hj:j=0∨j=1∨j=2:=by simp at q1;omega
  rcases hj with rfl|rfl|rfl
  ·refine⟨own,_,h0,?_,fun h=>by cases h⟩;simp [g1,g2]
  ·exact⟨own,_,h1,(qL _ _).symm,fun h=>by cases h⟩
  ·exact⟨own,_,h2,(qL _ _).symm,fun h=>by cases h⟩
 ·simp [mS,LB.pass]
 ·simp [mS]
 ·intro ho k hk;subst ho;simp only [YT,Y6,or_false] at hk;rcases hk with rfl|rfl|rfl
  ·rw [h0];rfl
  ·rw [h1];rfl
  ·rw [h2];rfl
 ·intro j q1 q2;have hj:j=0∨j=1:=by simp at q1;omega
  rcases hj with rfl|rfl
  ·exact⟨rfl,by simp [g0]⟩
  ·exact⟨rfl,rfl⟩
 ·intro x hx k hk;simp only [YT,Y6,or_false] at hx;rcases hx with rfl|rfl
  ·simp [jo,fY,h0,h1,h2,Og,KG,SC] at hk;rcases hk with rfl|rfl|rfl <;> simp
  ·simp [jo,KG] at hk
 ·have e:bB (aF [k0,k1,k2] [] kh) own [k0,k1,k2] (mS p t)++bB (aF [k0,k1,k2] [] kh) own [] []=[(k0,.cells own false 84 (mC p k1 k2 t.1.length t.2.length)),(k1,.cells own false 4 (bK t.1)),(k2,.cells own false 4 (bK t.2))]:=by
   simp [bB,mS,LB.fix,qL,g1,g2]
  rw [e];exact hK
abbrev Q5 (p:PD)(s:NS):Key→LB:=aD (aD (aD (fun _=>.hole) 0 (.cells false false 84 (mC p 1 2 s.1.length s.2.length))) 1 (.cells false false 4 (bK s.1))) 2 (.cells false false 4 (bK s.2))
abbrev mM (p:PD)(s:NS):List (Key × Key × LB):=[(0,0,.cells false false 84 (mC p 1 2 s.1.length s.2.length)),(1,1,.cells false false 4 (bK s.1)),(2,2,.cells false false 4 (bK s.2))]
theorem KP (p:PD)(s:NS){g:Key→Key}(h1:g 1=1) (h2:g 2=2) (a b:Nat):(mC p 1 2 a b).map (CV.br g)=mC p 1 2 a b:=by simp [h1,h2]
theorem QV{fn:Func}(hr:fn.results=#[]){κ:Nat}(hl0:c.js=Q5 p s0) (h0:lv 0=.cells false false 84 (mC p 1 2 s.1.length s.2.length)) (h1:lv 1=.cells false false 4 (bK s.1)) (h2:lv 2=.cells false false 4 (bK s.2)) (h9:lv 9=.hole) :
 LJ c fn (.tup []) (mS p s) [] .normal ⟨fr,lv⟩ κ:=by
 refine⟨mM p s,9,Bx _ _ _,by simp,by simp,h9,?_,?_,rfl,by rw [hr];rfl⟩
 ·intro k hk;rw [hl0] at hk
  by_cases q0:k=0
  ·subst q0;exact .inr rfl
  by_cases q1:k=1
  ·subst q1;exact .inr rfl
  by_cases q2:k=2
  ·subst q2;exact .inr rfl
  exact absurd (by unfold Q5 aD;rw [if_neg q2,if_neg q1,if_neg q0]) hk
 ·intro e he;simp only [YT,Y6,or_false] at he;rcases he with rfl|rfl|rfl
  ·show (lv 0).like _ _;rw [h0];exact⟨false,_,rfl,(KP p s rfl rfl _ _).symm,id⟩
  ·show (lv 1).like _ _;rw [h1];exact⟨false,_,rfl,(qL _ _).symm,id⟩
  ·show (lv 2).like _ _;rw [h2];exact⟨false,_,rfl,(qL _ _).symm,id⟩
abbrev bX (n:Nd):LB:=.cells true false 55 [.d (.int .i64 n.op),.d (.int .i64 n.a),.d (.int .i64 n.b),.d (.int .i64 n.c),.d (.int .i64 n.d),.d (.int .i64 n.f),.d (.str n.v)]
theorem O9{n:Nd}(hl0:c.js=Q5 p s0) (l:List (Nat × AV)) (h0:lv 0=.cells false false 84 (mC p 1 2 s.1.length s.2.length)) (h1:lv 1=.cells false false 4 (bK s.1)) (h2:lv 2=.cells false false 4 (bK s.2)) (h3:lv 10=bX n) (h9:lv 9=.hole)
 (hl:∀ x∈l,x.2.bu=true∧fr x.1=x.2.br (cF (mM p s++[(10,10,bX n)]) 9)):Le c ⟨fr,lv⟩ ⟨bq l,aD (Q5 p s) 10 (bX n)⟩:=by
 refine⟨_,dn.keys (s:=⟨fr,lv⟩) (mM p s++[(10,10,bX n)]) 9 l rfl ?_ (by simp) (by simp) h9 ?_ hl⟩
 ·intro k hk;rw [hl0] at hk
  by_cases q0:k=0
  ·subst q0;exact .inr rfl
  by_cases q1:k=1
  ·subst q1;exact .inr rfl
  by_cases q2:k=2
  ·subst q2;exact .inr rfl
  exact absurd (by unfold Q5 aD;rw [if_neg q2,if_neg q1,if_neg q0]) hk
 ·intro e he;simp only [Z3,Zt,YT,Y6,or_false] at he;rcases he with rfl|rfl|rfl|rfl
  ·show (lv 0).like _ _;rw [h0];exact⟨false,_,rfl,(KP p s rfl rfl _ _).symm,id⟩
  ·show (lv 1).like _ _;rw [h1];exact⟨false,_,rfl,(qL _ _).symm,id⟩
  ·show (lv 2).like _ _;rw [h2];exact⟨false,_,rfl,(qL _ _).symm,id⟩
  ·show (lv 10).like _ _;rw [h3];exact⟨true,_,rfl,rfl,id⟩
theorem HA (m:Int)(p:PD)(i:Nat)(s:NS)(hs:nE p s)(hn:p.nn≤1000)(hi:i<p.nn)(hin:s.1.getD i false=true):aG Tryz.prog (GG m) 106 [.c (.ptr 0 0),.c (.d (.int .i64 i))] (mS p s) (.ret (.tup []) (mS p s) []):=by
 obtain⟨M,S⟩:=s;have hM:M.length=p.nn:=hs.1;have hiM:i<M.length:=by omega
 have hi2:(i:Int)<(M.length:Int):=by omega
 have hld:=Gu (P:=Tryz.prog) (T:=4) (by simp) hiM;rw [show M[i]=true from (hJ .. ▸ (by rw [cn hiM];rfl:(M[i]?).getD false=M[i])) ▸ hin] at hld;refine aG.Q2 Tryz.func106 rfl (Bx _ _ _) fun _=>aaa fun K hK=>aar hi2 hld ?_;refine aak ?_;exact aad (QV (κ:=0) (s0:=(M,S)) rfl rfl (by simp) (by simp) (by simp) (by simp))
theorem Ij (m:Int)(p:PD)(hp:p.ok)(hg:p.good):∀ (n i:Nat) (s:NS),i<p.nn→nE p s→zH s.1≤n→aG Tryz.prog (GG m) 106 [.c (.ptr 0 0),.c (.d (.int .i64 i))] (mS p s) (.ret (.tup []) (mS p (cS p n i s)) []):=by
 obtain⟨-,-,-,-,-,hnn,hns⟩:=gx hg.gen;have hv:=oW hg;intro n
 induction n with
 | zero=>
  intro i s hi hl hf;exact HA m p i s hl (by omega) hi (rR hv 0 i s hi hl hf).2.1
 | succ n ih=>
 intro i s hi hl hf
 by_cases hin:s.1.getD i false=true
 ·have e:cS p (n+1) i s=s:=if_pos hin;rw [e];exact HA m p i s hl (by omega) hi hin
 have hmk:=rR hv;obtain⟨M,S⟩:=s;have hM:M.length=p.nn:=hl.1;have hS:S.length=p.ns:=hl.2;have hiM:i<M.length:=by omega
 have hi2:(i:Int)<(M.length:Int):=by omega
 have hld:=Gu (P:=Tryz.prog) (T:=4) (by simp) hiM;have hst:=KJ M i true hiM
 have hfl:M[i]=false:=by
  have:=Du hiM
  cases hb:M[i] with
  | false=>rfl
  | true=>exact absurd (by rw [this,hb]) hin
 rw [hfl] at hld;obtain⟨s1,hs1⟩:∃ s1:NS,(M.set i true,S)=s1:=⟨_,rfl⟩
 have hl1:nE p s1:=by rw [← hs1];exact⟨by rw [aa1];exact hM,hS⟩
 have hf1:zH s1.1≤n:=by
  have h1:=A4 (l:=M) (m:=M.set i true) (by simp) (fun k hk=>uD.2 (.inl hk)) i (uD.2 (.inr ⟨rfl,hiM⟩)) hin;have h2:=abo (a:=true) (l:=M.set i true);rw [← hs1];unfold zH at hf ⊢;simp only [aa1] at h2 hf ⊢;omega
 obtain⟨-,ha,hkr⟩:=ic hg hi;have hxn:=fun lv=>IM p lv hp i hi
 have hdef:cS p (n+1) i (M,S)=(let u:=((bG (p.nd i)).map Int.toNat).foldl (fun s k=>cS p n k s) s1
  if (p.nd i).op=2 then cS p n (p.st (p.nd i).a.toNat).2.toNat (cS p n (p.st (p.nd i).a.toNat).1.toNat (u.1,u.2.set (p.nd i).a.toNat true)) else u):=by rw [← hs1];exact if_neg hin
 obtain⟨R,hR⟩:∃ R,cS p (n+1) i (M,S)=R:=⟨_,rfl⟩
 rw [hR];rw [hdef] at hR;clear hdef;obtain⟨nd,hnd⟩:∃ nd,p.nd i=nd:=⟨_,rfl⟩
 rw [hnd] at ha hkr;simp only [hnd] at hxn hR;have hML:=Kc (p:=p) (n:=n) (fun k s hk hl hf=>hmk n k s hk hl hf);have hkd:=HH m nd;have hkp:(AV.c (zC (iS nd))).pure=true:=Bq _;have hkf:(AV.c (zC (iS nd))).bu=true:=yx _;have hkn:∀ g,(zC (iS nd)).br g=zC (iS nd):=fun g=>PC _ g
 have lpk:=fun lv=>S7 (T:=30) (by simp) lv (iS nd)
 have ixk:∀ lv (q:Nat) (hq:q<(bG nd).length),aq Tryz.prog 30 lv (.c (zC (iS nd))) (.c (.d (.int .i64 (q:Int))))=some (.c (.d (.ptr [.int .i64 (bG nd)[q]])),[],[],True):=by
  intro lv q hq;have:=W8 (T:=30) (by simp) lv (iS nd) (i:=q) (by rw [oK];exact hq);simp only [oK] at this;exact this
 rw [oK] at lpk;have hkl:=Aa nd
 have hrn:∀ k∈(bG nd).map Int.toNat,k<p.nn:=fun k hk=>by
  obtain⟨x,hx,rfl⟩:=List.mem_map.1 hk;have:=hkr x hx;omega
 generalize zC (iS nd)=kz at *
 generalize bG nd=kl at *
 have hfin:∀ q,q≤kl.length→nE p (((kl.map Int.toNat).take q).foldl (fun s k=>cS p n k s) s1)∧zH (((kl.map Int.toNat).take q).foldl (fun s k=>cS p n k s) s1).1≤n:=fun q hq=>by
  obtain⟨h1,-,-⟩:=hML ((kl.map Int.toNat).take q) s1 (fun k hk=>hrn k (Z6 hk)) hl1 hf1;refine⟨h1.len,?_⟩;have:=oL (hl1.1.trans h1.len.1.symm) h1.m1;unfold zH at hf1 ⊢;rw [h1.len.1];rw [hl1.1] at hf1;omega
 refine aG.Q2 Tryz.func106 rfl (Bx _ _ _) fun _=>aaa fun K hK=>aar hi2 hld ?_;refine aaj (aac (hK _ _ (aar hi2 hst ?_)));refine aax 10 ?_;refine aar hxn @aj.eq_1 ?_;refine aaa fun K hK=>aai fun K1 hK1=>?_;simp;refine ag.pure 11 9 hkd hkp (by simp) (by first|rfl|simp) ?_;simp [lpk]
 repeat refine ah ?_
 apply hK1;refine aag ?_
 refine aap (fun (q:Nat)=>⟨bq [(0,.c (.ptr 0 0)),(1,.c (.d (.int .i64 i))),(4,.c (.ptr 10 0)),(29,.c kz),(30,.c (.d (.int .i64 kl.length))),(31,.c (.d (.int .i64 q)))],aD (Q5 p (((kl.map Int.toNat).take q).foldl (fun s k=>cS p n k s) s1)) 10 (bX nd)⟩) 11
  (fun q=>q≤kl.length) (fun q=>kl.length - q) 0 (O9 (s0:=(M,S)) rfl _ (by simp [← hs1,hM,hS]) (by simp [← hs1]) (by simp [← hs1]) (by simp) (by simp) (by simp [cF,hkf,hkn])) (Y4 _) ?_
 rintro q hq
 try simp only at hq
 obtain⟨hl3,hf3⟩:=hfin q hq
 have hsn:∀ h:q<kl.length,((kl.map Int.toNat).take (q+1)).foldl (fun s k=>cS p n k s) s1=cS p n (kl[q]).toNat (((kl.map Int.toNat).take q).foldl (fun s k=>cS p n k s) s1):=fun h=>by
  rw [abj,cn (by simpa using h),List.foldl_append];simp
 obtain⟨u,hu⟩:∃ u,((kl.map Int.toNat).take q).foldl (fun s k=>cS p n k s) s1=u:=⟨_,rfl⟩
 rw [hu] at hl3 hf3;simp only [hu] at hsn ⊢;refine aab ?_;refine aaa fun K2 hK2=>?_
 by_cases hqt:q<kl.length
 ·have hqt':(q:Int)<(kl.length:Int):=by omega
  have hxk:=fun lv=>ixk lv q hqt
  have hk2:=hkr _ (cq hqt);have hsn:=hsn hqt;have f14:=dF (n:=(q:Int)+1) (by omega) (by omega);generalize kl[q]=x at *
  obtain⟨k,rfl⟩:∃ k:Nat,x=k:=⟨x.toNat,by omega⟩
  rw [Y1] at hsn;have hc:=ih k u (by omega) hl3 hf3;have hl4:=(hmk n k u (by omega) hl3 hf3).1.len;rw [← hsn] at hc hl4;obtain⟨t,ht⟩:∃ t,((kl.map Int.toNat).take (q+1)).foldl (fun s k=>cS p n k s) s1=t:=⟨_,rfl⟩
  rw [ht] at hc hl4;refine aaf (by simp [hqt'] <;> omega) (aac (hK2 _ _ (aaa fun K3 hK3=>aag (aal hxk ?_))));refine aae ?_;simp;refine ag.mk 11 9 0 1 2 false hc ?_;simp
  repeat refine ah ?_
  apply hK3;refine aae ?_;simp [f14];refine⟨q+1,?_,by omega,by omega⟩;rw [ht];exact O9 (s0:=(M,S)) rfl _ (by simp [hl3.1,hl3.2,hl4.1,hl4.2]) (by simp) (by simp) (by simp) (by simp) (by simp [cF,hkf,hkn])
 have hqt':¬ (q:Int)<(kl.length:Int):=by omega
 have hqe:q=kl.length:=by omega
 subst hqe;have hu':(kl.map Int.toNat).foldl (fun s k=>cS p n k s) s1=u:=by rw [← hu,ZH (by simp)]
 rw [hu'] at hR;refine aah (by simp [hqt'] <;> omega) (aan (hK _ _ (aaa fun K hK=>?_)))
 by_cases ho:nd.op=2
 ·have ho':(nd.op=2)=True:=eq_true ho;obtain⟨a0,a1⟩:=ha ho;obtain⟨b1,b2,b3⟩:=hv.st i hi (by rw [hnd];exact ho);rw [hnd] at b1 b2 b3;obtain⟨c1,c2,c3,c4⟩:=B8 hg b1;have hia:(nd.a.toNat:Int)=nd.a:=by omega
  have hxs:=fun lv=>KZ hp lv nd.a.toNat b1
  simp only [hia] at hxs;rw [if_pos ho] at hR;generalize p.st nd.a.toNat=st at *
  obtain⟨si,sn⟩:=st;simp only at b2 b3 c1 c2 c3 c4 hR;obtain⟨x,rfl⟩:∃ x:Nat,si=x:=⟨si.toNat,by omega⟩
  obtain⟨y,rfl⟩:∃ y:Nat,sn=y:=⟨sn.toNat,by omega⟩
  simp only [Y1] at b2 b3 hR;have hS2:u.2.length=p.ns:=hl3.2;have ha2:nd.a<(u.2.length:Int):=by omega
  have hst2:=KJ u.2 nd.a.toNat true (by omega);obtain⟨v,hvv⟩:∃ v:NS,(u.1,u.2.set nd.a.toNat true)=v:=⟨_,rfl⟩
  have hlv:nE p v:=by rw [← hvv];exact⟨hl3.1,by rw [aa1];exact hl3.2⟩
  have hfv:zH v.1≤n:=by rw [← hvv];exact hf3
  have hc1:=ih x v (by omega) hlv hfv;have CD:=(hmk n x v (by omega) hlv hfv).1
  have hfw:zH (cS p n x v).1≤n:=by
   have:=oL (hlv.1.trans CD.len.1.symm) CD.m1;unfold zH at hfv ⊢;rw [CD.len.1];rw [hlv.1] at hfv;omega
  have hc2:=ih y _ (by omega) CD.len hfw;have hm2:=(hmk n y _ (by omega) CD.len hfw).1.len;have CD:=CD.len;rw [hvv] at hR;generalize cS p n x v=w at *
  generalize cS p n y w=t at *
  subst hR;have v1:v.1=u.1:=by rw [← hvv]
  have v2:v.2=u.2.set nd.a.toNat true:=by rw [← hvv]
  refine aat ho' (hK _ _ ?_);refine aak (AW.d3 mixed a0 ha2 hst2 ?_);refine aaa fun K hK=>?_;refine aaq mixed (by kernel_rfl) rfl ?_;simp [hxs];refine ag.mk 11 9 0 1 2 false hc1 ?_ (by simp [v1,v2]) (by simp [v1]) (by simp [v2]);simp
  repeat refine ah ?_
  refine⟨by kernel_rfl,?_⟩
  repeat refine ah ?_
  repeat refine ah ?_
  apply hK;refine aaq mixed (by kernel_rfl) rfl ?_;simp [hxs];refine ag.mk 11 9 0 1 2 false hc2 ?_ (by simp [CD.1,CD.2,hl3.1,hl3.2,hlv.1,hlv.2]);simp
  repeat refine ah ?_
  refine⟨by kernel_rfl,?_⟩
  repeat refine ah ?_
  exact (QV (κ:=0) (s0:=(M,S)) rfl rfl (by simp [CD.1,CD.2,hm2.1,hm2.2]) (by simp) (by simp) (by simp))
 ·rw [if_neg ho] at hR;subst hR;refine aat ho (hK _ _ ?_);refine aaj ?_;exact aac (QV (s0:=(M,S)) rfl rfl (by simp) (by simp) (by simp) (by simp))
def rC:Option (List Nat)→CV
 | none=>.d .nilsl
 | some l=>.d (.sl (dK .i64 l))
@[simp] theorem Un (lv:Key→LB)(s:Int)(p q:Option (List Nat)):fT lv (.agg [.d (.int .i64 s),rC p,rC q])=some (.agg [.d (.int .i64 s),rC p,rC q],[]):=by
 cases p <;> cases q <;> rfl
@[simp] theorem Uy (o:Option (List Nat)):(rC o).pure=true:=by cases o <;> rfl
@[simp] theorem SW (o:Option (List Nat)):(AV.c (rC o)).bu=true:=by cases o <;> rfl
@[simp] theorem TM (o:Option (List Nat)):(AV.c (rC o)).pure=true:=by cases o <;> rfl
@[simp] theorem VU (o:Option (List Nat))(g:Key→Key):(rC o).br g=rC o:=by cases o <;> rfl
abbrev rA (s:Int)(p q:Option (List Nat)):AV:=.agg [.d (.int .i64 s),rC p,rC q]
@[simp] theorem Ux (s:Int)(p q:Option (List Nat)):(AV.agg [.d (.int .i64 s),rC p,rC q]).pure=true:=by cases p <;> cases q <;> rfl
theorem Sl (b p q:CV):dQ Tryz.prog 215 [b,p,q]=some (.agg [b,p,q]):=by kernel_rfl
def YA (s:Int)(q:Option (List Nat)):Option (List Nat):=if s=0 then some [1] else q
def YF (a b:Option (List Nat)):Option (List Nat):=if dO a=[] then none else some (cz 1000000000 (val 1000000000 (dO a) % val 1000000000 (dO b)))
def Wa (x:Rat):Int:=if x.num=0 then 0 else if x.num<0 then -1 else 1
def PW (x:Rat):Option (List Nat):=if x.num=0 then none else some (cz 1000000000 x.num.natAbs)
def Qi (x:Rat):Option (List Nat):=if x.num=0 then none else some (cz 1000000000 x.den)
abbrev VH (x:Rat):AV:=rA (Wa x) (PW x) (Qi x)
attribute [local irreducible] dA
end Go.Am
namespace Go.Am
open Go.Am.Ty Go.Proofs N
attribute [local irreducible] dA
end Go.Am
namespace Go.Am
open Go.Am.Ty Go.Proofs N
attribute [local irreducible] dA
theorem dA.ref {c:Ctx}{fn:Func}{z:Rat}{t k:Nat}{s:au}{κ:Nat}(hr:fn.results=#[.cell t 215]) (ht:s.fr t=.c (.ptr k 0)) (hk:s.lv k=.cells true false 215 [.d (.int .i64 (Wa z)),rC (PW z),rC (Qi z)]) (hP:c.P=Tryz.prog):dA c fn (VH z) .ret s κ:=
 dA.cell hr ht hk (by rw [YV,hP,Sl])
end Go.Am
namespace Go.Am
open Go.Am.Ty Go.Proofs N
attribute [local irreducible] dA
end Go.Am
namespace Go.Am
open Go.Am.Ty Go.Proofs N
attribute [local irreducible] dA
end Go.Am
namespace Go.Am
open Go.Am.Ty Go.Proofs N
attribute [local irreducible] dA
end Go.Am
namespace Go.Am
open Go.Am.Ty Go.Proofs N
attribute [local irreducible] dA
def Xk (e p:Int)(x:Rat):Int:=if xh (zc x) (cE 1 (1 - dR e))<0 then 2 - dR e - p else lM x - p+1
end Go.Am
namespace Go.Am
open Go.Am.Ty Go.Proofs N
variable {x y z u:AV}
def YL (n d:Nat)(k:Int):Prop:=n*2 ^ (max (-k) 0).toNat<d*2 ^ (max k 0).toNat
def isRow (s:List UInt8):Prop:=ML s∧s≠[]∧(s=[48]∨s.getD 0 0≠48)
def YN (l:List Nat):LB:=if l=[] then .hole else .cells true false 2 (wK .i64 l)
def YK (l:List Nat):AV:=if l=[] then .c (.d .nilsl) else .c (.aI 0 0 l.length 1)
def TR (d:Nat):UInt8:=UInt8.ofNat (48+d)
def X4 (n:Nat):Nat→List UInt8
 | 0=>[]
 | i+1=>TR (n / 10 ^ i % 10)::X4 n i
def RT:Nat→Nat→List UInt8
 | 0,n=>[TR n]
 | f+1,n=>if n<10 then [TR n] else RT f (n / 10)++[TR (n % 10)]
def TA (n:Nat):List UInt8:=RT n n
def Yd (x:Rat):List UInt8:=(if x.num<0 then [45] else [])++TA x.num.natAbs++(if x.den=1 then [] else [47]++TA x.den)
def Yb (s:List UInt8):List UInt8:=EM s [47]
def Yp (s:List UInt8):List UInt8:=if 0≤qx s [47] then EN s [47] else [49]
def Ym (neg:Bool):Int:=if neg then -1 else 1
abbrev XW (neg:Bool)(s:List UInt8):AV:=.tup [.c (.d (.str (Yb s))),.c (.d (.str (Yp s))),.c (.d (.int .i64 (Ym neg))),.c (.d (.bool (!kH neg (EM s [47]) (EN s [47]) (decide (0≤qx s [47])))))]
attribute [local irreducible] dA
@[simp] theorem Ub(h:x.bV=true):uR 0 (.tup [x,y,z,u])=some (x,[],[],True):=by
 cases x <;> first|rfl|cases h
@[simp] theorem TT(h:y.bV=true):uR 1 (.tup [x,y,z,u])=some (y,[],[],True):=by
 cases y <;> first|rfl|cases h
@[simp] theorem Uo(h:z.bV=true):uR 2 (.tup [x,y,z,u])=some (z,[],[],True):=by
 cases z <;> first|rfl|cases h
@[simp] theorem Uk(h:u.bV=true):uR 3 (.tup [x,y,z,u])=some (u,[],[],True):=by
 cases u <;> first|rfl|cases h
end Go.Am
namespace Go.Am
open Go.Am.Ty Go.Proofs N
def W3 (op:Int):Int:=if 1≤op∧op≤15 then bz op else -1
abbrev YJ (n:Nd):AV:=.agg [.d (.int .i64 n.a),.d (.int .i64 n.b),.d (.int .i64 n.c),.d (.int .i64 n.d)]
def zN (l:List Int):Option (List Int):=if l=[] then none else some l
abbrev bN (n:Nd):LB:=.cells true false 55 [.d (.int .i64 n.op),.d (.int .i64 n.a),.d (.int .i64 n.b),.d (.int .i64 n.c),.d (.int .i64 n.d),.d (.int .i64 n.f),.d (.str n.v)]
abbrev In.A (x:In):AV:=.agg [.d (.int .i64 x.f),.d (.str x.lo),.d (.str x.hi)]
abbrev Yk (x:Rat):List CV:=[.d (.int .i64 (Wa x)),rC (PW x),rC (Qi x)]
abbrev Yo (v:Int × Int × Int):AV:=.tup [.c (.d (.int .i64 v.1)),.c (.d (.int .i64 v.2.1)),.c (.d (.int .i64 v.2.2))]
end Go.Am
