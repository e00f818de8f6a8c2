/- Helpers. -/
import Derived.Test.YtfkfimmphlpllaaGreatDoorGn08
import Derived.Lib.IndexMore

set_option linter.all false
set_option maxHeartbeats 8000000
set_option maxRecDepth 100000
open Go.IntKind
open Go.Proofs.Tryz
namespace Go.Am
variable {x:Rat}
abbrev acu:=@Rat.sub_eq_add_neg
abbrev acv:=@Nat.gcd_zero_left
abbrev acw:=@List.all_eq_false
abbrev abl:=@List.mem_take_iff_getElem
open Go.Am.Ty Go.Proofs N
def QK(a b:Bool):aI prog .eql 4 (.c (.d (.bool a))) (.c (.d (.bool b)))=some (.c (.d (.bool (a==b))),[],[],True):=by
 cases a<;>cases b<;>kernel_rfl
def zF(G:List (List DV))(neg:Bool)(p q:Option (List Nat))(hp:can 4294967296 (dO p))(hq:can 4294967296 (dO q))(hq0:dO q≠[])(hl:(dO p).length<1000000000000)(hl':(dO q).length<1000000000000):
 aa prog G 225 [.c (.d (.bool neg)),.c (nC p),.c (nC q)] (gk (mkRat (dX neg (val 4294967296 (dO p))) (val 4294967296 (dO q)))):=by
 have:=qw G neg p q hp hq hq0 hl hl';rw[A4 neg hp hq hq0]at this;simp only[lX]at this;exact this
def AF(G:List (List DV))(neg:Bool)(a b:Nat)(hb:b≠0)(hl:nl a<1000000000000)(hl':nl b<1000000000000):
 aa prog G 225 [.c (.d (.bool neg)),.c (nC (some (aK 4294967296 a))),.c (nC (some (aK 4294967296 b)))] (gk (mkRat (dX neg a) b)):=by
 have:=zF G neg (some (aK 4294967296 a)) (some (aK 4294967296 b)) (gI a) (gI b) (mc hb) hl hl';simp only[aX,eD]at this;exact this
def FT(G:List (List DV))(neg:Bool)(p q:Option (List Nat)):aa prog G 198 [qn neg p q] (qn (!neg&&decide (dO p≠[])) p q):=by
 cases neg with
 |true=>
  show aa prog G 198 [qn true p q] (qn false p q);refine aa.enc func198 rfl (λlv=>gb lv _ _ _) λ_=>aab ?_;refine aam @GD ?_;refine aal ?_;refine bO.cell (κ:=0) (T:=224) (t:=2) (k:=1) (off:=0) (own:=true) (fz:=false) (U:=224) (cs:=[.d (.bool false),nC p,nC q]) rfl ?_ ?_ ?_
  ·simp
  ·simp[aj]
  ·rw[Y9,bU]
 |false=>
  by_cases hp:dO p=[]
  ·rw[show(!false&&decide (dO p≠[]))=false by simp[hp]];refine aa.enc func198 rfl (λlv=>gb lv _ _ _) λ_=>aab ?_;refine aaC @GD @WE hp ?_;refine aal ?_;refine bO.cell (κ:=0) (T:=224) (t:=2) (k:=1) (off:=0) (own:=true) (fz:=false) (U:=224) (cs:=[.d (.bool false),nC p,nC q]) rfl ?_ ?_ ?_
   ·simp
   ·simp[aj]
   ·rw[Y9,bU]
  ·rw[show(!false&&decide (dO p≠[]))=true by simp[hp]];refine aa.enc func198 rfl (λlv=>gb lv _ _ _) λ_=>aab ?_;refine aaa λK hK=>?_;have hp':=List.length_pos_iff.2 hp;refine aay @GD @WE hp hp' (hK _ _ ?_);refine aal ?_;refine bO.cell (κ:=0) (T:=224) (t:=2) (k:=1) (off:=0) (own:=true) (fz:=false) (U:=224) (cs:=[.d (.bool true),nC p,nC q]) rfl ?_ ?_ ?_
   ·simp
   ·simp[aj]
   ·rw[Y9,bU]
def PR(G:List (List DV))(x:Rat):aa prog G 198 [gk x] (gk (-x)):=by
 have h:=FT G (decide (x.num<0)) (cV x.num.natAbs) (eF x.den)
 have e:(!decide (x.num<0)&&decide (dO (cV x.num.natAbs)≠[]))=decide ((-x).num<0):=by
  rw[Rat.neg_num,mb]
  by_cases h0:x.num=0
  ·rw[h0];rfl
  ·have h1:(aK 4294967296 x.num.natAbs)≠[]:=mc (by omega);rw[decide_eq_true h1,Bool.and_true]
   by_cases h2:x.num<0
   ·rw[decide_eq_true h2,decide_eq_false (by omega)];rfl
   ·rw[decide_eq_false h2,decide_eq_true (by omega)];rfl
 rw[e]at h;show aa _ _ _ _ (qn (decide ((-x).num<0)) (cV (-x).num.natAbs) (eF (-x).den));rw[show(-x).num.natAbs=x.num.natAbs by rw[Rat.neg_num,Int.natAbs_neg],Rat.neg_den];exact h
def IY(neg:Bool)(a:Nat):mkRat (dX neg a) 1=((dX neg a:Int):Rat):=by
 rw[Rat.mkRat_one]
def HC(G:List (List DV))(n:Int)(h1:-9223372036854775808<=n)(h2:n<=9223372036854775807):aa prog G 263 [.c (.d (.int .i64 n))] (gk (n:Rat)):=by
 have hof1:=gu G 1 (by decide);have hofn:=gu G n.natAbs (by omega)
 have hl:nl n.natAbs<1000000000000:=by
  have e2:(4294967296:Nat)^2=18446744073709551616:=by decide
  have:=DW (n:=n.natAbs) (m:=2) (by omega);omega
 have hm:=λneg=>AF G neg n.natAbs 1 (by decide) hl (by rw[rJ];decide)
 simp only[lX]at hof1 hofn;simp only[IY]at hm
 by_cases hn:n<0
 ·have e:dX true n.natAbs=n:=by unfold dX;rw[if_pos rfl];omega
  have St:=hm true;rw[e]at St;have ew:u64.wrap (-u64.wrap n)=(n.natAbs:Int):=by rw[AA,AA];omega
  refine aa.enc func263 rfl (λlv=>gb lv _ _ _) λ_=>aab ?_;refine aaa λK hK=>aam hn ?_;refine aag (by simp[hn]<;>omega) (aak λK1 hK1=>?_);simp[ew];refine ag.p 1 9 hofn ?_;simp;refine ag.p 1 9 hof1 ?_;simp;refine ag.p 1 9 St ?_;simp;apply hK1;refine aal ?_;refine bO.cell (κ:=0) (T:=224) (t:=2) (k:=0) (off:=0) (own:=true) (fz:=false) (U:=224) (cs:=[.d (.bool (decide ((n:Rat).num<0))),nC (cV (n:Rat).num.natAbs),nC (eF (n:Rat).den)]) rfl ?_ ?_ ?_
  ·simp
  ·simp[aj]
  ·rw[Y9,bU]
 ·have e:dX false n.natAbs=n:=by unfold dX;rw[if_neg (by decide)];omega
  have St:=hm false;rw[e]at St;have ew:u64.wrap n=(n.natAbs:Int):=by rw[AA];omega
  refine aa.enc func263 rfl (λlv=>gb lv _ _ _) λ_=>aab ?_;refine aaa λK hK=>aam hn ?_;refine aaj (by simp[hn]<;>omega) (aad (hK _ _ (aak λK hK=>?_)));simp[ew];refine ag.p 1 9 hofn ?_;simp;refine ag.p 1 9 hof1 ?_;simp;refine ag.p 1 9 St ?_;simp;apply hK;refine aal ?_;refine bO.cell (κ:=0) (T:=224) (t:=2) (k:=0) (off:=0) (own:=true) (fz:=false) (U:=224) (cs:=[.d (.bool (decide ((n:Rat).num<0))),nC (cV (n:Rat).num.natAbs),nC (eF (n:Rat).den)]) rfl ?_ ?_ ?_
  ·simp
  ·simp[aj]
  ·rw[Y9,bU]
def BK(neg:Bool)(a:Nat)(neg':Bool)(b q:Nat):Rat:=
 if neg=neg' then mkRat (dX neg (a+b)) q else if a<b then mkRat (dX neg' (b-a)) q else mkRat (dX neg (a-b)) q
def sW{a b:Nat}:(ec a b<0)↔a<b:=by unfold ec;(repeat' split)<;>omega
def Gz(G:List (List DV))(neg neg':Bool)(p q p' q':Option (List Nat))(h1:(dO p).length<=10000000000)(h2:(dO q).length<=10000000000)(h3:(dO p').length<=10000000000)(h4:(dO q').length<=10000000000)
 (c1:can 4294967296 (dO p)) (c2:can 4294967296 (dO (fG q))) (c3:can 4294967296 (dO p')) (c4:can 4294967296 (dO (fG q'))) (z2:(val 4294967296 (dO (fG q)))≠0) (z4:(val 4294967296 (dO (fG q')))≠0) :
 aa prog G 335 [qn neg p q,qn neg' p' q'] (gk (BK neg ((val 4294967296 (dO p))*(val 4294967296 (dO (fG q')))) neg' ((val 4294967296 (dO p'))*(val 4294967296 (dO (fG q)))) ((val 4294967296 (dO (fG q)))*(val 4294967296 (dO (fG q')))))):=by
 have b1:=sN h2 (by decide);have b2:=sN h4 (by decide);have m1:=gJ G p (fG q') (by omega) (by omega);have m2:=gJ G p' (fG q) (by omega) (by omega);have m3:=gJ G (fG q) (fG q') (by omega) (by omega);have hQ:(val 4294967296 (dO (fG q)))*(val 4294967296 (dO (fG q')))≠0:=aaW (Z1 (abx z2) (abx z4));have lv:∀{o:Option (List Nat)},can 4294967296 (dO o)->nl (val 4294967296 (dO o))=(dO o).length:=λ{o} hc=>by unfold nl;rw[<-ig (by decide) hc rfl]
 have l1:nl ((val 4294967296 (dO p))*(val 4294967296 (dO (fG q'))))<=20000000000:=by
  have:=gC (val 4294967296 (dO p)) (val 4294967296 (dO (fG q')));rw[lv c1,lv c4]at this;omega
 have l2:nl ((val 4294967296 (dO p'))*(val 4294967296 (dO (fG q))))<=20000000000:=by
  have:=gC (val 4294967296 (dO p')) (val 4294967296 (dO (fG q)));rw[lv c3,lv c2]at this;omega
 have l3:nl ((val 4294967296 (dO (fG q)))*(val 4294967296 (dO (fG q'))))<=20000000000:=by
  have:=gC (val 4294967296 (dO (fG q))) (val 4294967296 (dO (fG q')));rw[lv c2,lv c4]at this;omega
 generalize (val 4294967296 (dO p))*(val 4294967296 (dO (fG q')))=a at*
 generalize (val 4294967296 (dO p'))*(val 4294967296 (dO (fG q)))=b at*
 generalize (val 4294967296 (dO (fG q)))*(val 4294967296 (dO (fG q')))=Q at*
 have la:(dO (some (aK 4294967296 a))).length<=20000000000:=l1;have lb:(dO (some (aK 4294967296 b))).length<=20000000000:=l2;have k1:=td G (some (aK 4294967296 a)) (some (aK 4294967296 b)) (by omega) (by omega);have k2:=gF (G:=G) (a:=some (aK 4294967296 a)) (b:=some (aK 4294967296 b)) (gI _) (gI _);have k3:=λh=>tF G (some (aK 4294967296 a)) (some (aK 4294967296 b)) (by omega) h
 have k4:=λh=>tF G (some (aK 4294967296 b)) (some (aK 4294967296 a)) (by omega) h
 simp only[aX,eD]at k1 k2 k3 k4;simp only[lX,Ga]at m1 m2 m3 k1 k2 k3 k4;have mk1:=λneg n (h:nl n<=20000000001)=>AF G neg n Q hQ (by omega) (by omega)
 have hsum:nl (a+b)<=20000000001:=by have:=Gt a b;omega
 have hs1:nl (a-b)<=20000000001:=by have:=lY (Nat.sub_le a b);omega
 have hs2:nl (b-a)<=20000000001:=by have:=lY (Nat.sub_le b a);omega
 refine aa.enc func335 rfl (λlv=>gb lv _ _ _) λ_=>aab ?_;refine aaa λK hK=>?_;refine aaq mixed (by kernel_rfl) rfl ?_;simp;refine ag.p 3 9 (dP _ neg' p' q') ?_;simp;refine ag.p 3 9 m1 ?_;simp;refine ag.p 3 9 (dP _ neg p q) ?_;simp;refine ag.p 3 9 m2 ?_;simp;refine ag.p 3 9 (dP _ neg p q) ?_;simp;refine ag.p 3 9 (dP _ neg' p' q') ?_;simp;refine ag.p 3 9 m3 ?_;simp;refine⟨by kernel_rfl,?_⟩;apply hK;refine aaa λK hK=>aaf (aam @QK ?_)
 by_cases hn:neg=neg'
 ·subst hn;have e:BK neg a neg b Q=mkRat (dX neg (a+b)) Q:=by unfold BK;rw[if_pos rfl]
  rw[e];refine aai (aaa λK1 hK1=>?_);refine aaq mixed (by kernel_rfl) rfl ?_;simp;refine ag.p 3 9 k1 ?_;simp;refine ag.p 3 9 (mk1 neg _ hsum) ?_;simp;refine⟨by kernel_rfl,?_⟩;apply hK1;refine aal ?_;refine bO.cell (κ:=0) (T:=224) (t:=4) (k:=2) (off:=0) (own:=true) (fz:=false) (U:=224) (cs:=[.d (.bool (decide ((mkRat (dX neg (a+b)) Q).num<0))),nC (cV (mkRat (dX neg (a+b)) Q).num.natAbs),nC (eF (mkRat (dX neg (a+b)) Q).den)]) rfl ?_ ?_ ?_
  ·simp
  ·simp[aj]
  ·rw[Y9,bU]
 have hn':(neg==neg')=false:=by cases neg<;>cases neg'<;>simp_all
 refine aaj (by simp[hn']<;>omega) (aar 3 k2 ?_)
 by_cases hab:a<b
 ·have e:BK neg a neg' b Q=mkRat (dX neg' (b-a)) Q:=by unfold BK;rw[if_neg hn,if_pos hab]
  rw[e];have hc:=sW.2 hab;refine aag (by simp[hc]<;>omega) (aaa λK1 hK1=>?_);refine aaq mixed (by kernel_rfl) rfl ?_;simp;refine ag.p 3 9 (k4 (by omega)) ?_;simp;refine ag.p 3 9 (mk1 neg' _ hs2) ?_;simp;refine⟨by kernel_rfl,?_⟩;apply hK1;refine aal ?_;refine bO.cell (κ:=0) (T:=224) (t:=4) (k:=2) (off:=0) (own:=true) (fz:=false) (U:=224) (cs:=[.d (.bool (decide ((mkRat (dX neg' (b-a)) Q).num<0))),nC (cV (mkRat (dX neg' (b-a)) Q).num.natAbs),nC (eF (mkRat (dX neg' (b-a)) Q).den)]) rfl ?_ ?_ ?_
  ·simp
  ·simp[aj]
  ·rw[Y9,bU]
 ·have e:BK neg a neg' b Q=mkRat (dX neg (a-b)) Q:=by unfold BK;rw[if_neg hn,if_neg hab]
  have hc:¬ec a b<0:=λh=>hab (sW.1 h)
  refine aaj (by simp[hc]<;>omega) (aad (hK _ _ (aaa λK hK=>?_)));refine aaq mixed (by kernel_rfl) rfl ?_;simp;refine ag.p 3 9 (k3 (by omega)) ?_;simp;refine ag.p 3 9 (mk1 neg _ hs1) ?_;simp;refine⟨by kernel_rfl,?_⟩;apply hK;refine aal ?_;refine bO.cell (κ:=0) (T:=224) (t:=4) (k:=2) (off:=0) (own:=true) (fz:=false) (U:=224) (cs:=[.d (.bool (decide ((mkRat (dX neg (a-b)) Q).num<0))),nC (cV (mkRat (dX neg (a-b)) Q).num.natAbs),nC (eF (mkRat (dX neg (a-b)) Q).den)]) rfl ?_ ?_ ?_
  ·simp
  ·simp[aj]
  ·rw[Y9,bU,e]
def jb(n:Nat):(dO (cV n)).length=nl n:=by rw[mb];rfl
def sF(n:Nat):(dO (eF n)).length<=nl n:=by
 unfold eF;split
 ·exact Zi _
 ·exact aY _
def NV(G:List (List DV))(x y:Rat)(hx:j6 x 10000000000)(hy:j6 y 10000000000):aa prog G 335 [gk x,gk y] (gk (x+y)):=by
 have h:=Gz G (decide (x.num<0)) (decide (y.num<0)) (cV x.num.natAbs) (eF x.den) (cV y.num.natAbs) (eF y.den)
  (by rw[jb];exact hx.1) (Zf (sF _) hx.2) (by rw[jb];exact hy.1) (Zf (sF _) hy.2) (o8 _) (Fh _) (o8 _) (Fh _) (by rw[uG];exact x.den_nz) (by rw[uG];exact y.den_nz)
 simp only[pn,uG]at h
 have e:BK (decide (x.num<0)) (x.num.natAbs*y.den) (decide (y.num<0)) (y.num.natAbs*x.den) (x.den*y.den)=x+y:=by
  rw[Gh];unfold BK;split
  ·rename_i hh;rw[hh,BW]
  ·split
   ·rename_i hh hl;rw[F9 hh hl]
   ·rename_i hh hl;rw[FH hh hl]
 rwa[e]at h
def O3(G:List (List DV))(x y:Rat)(hx:j6 x 10000000000)(hy:j6 y 10000000000):aa prog G 287 [gk x,gk y] (gk (x-y)):=by
 have h1:=PR G y;have h2:=NV G x (-y) hx (xy hy);rw[<-acu]at h2;refine aa.enc func287 rfl (λlv=>gb lv _ _ _) λ_=>aab ?_;refine aaa λK hK=>?_;refine aaq mixed (by kernel_rfl) rfl ?_;simp;refine ag.p 3 9 h1 ?_;simp;refine ag.p 3 9 h2 ?_;simp;refine⟨by kernel_rfl,?_⟩;apply hK;refine aal ?_;refine bO.cell (κ:=0) (T:=224) (t:=4) (k:=2) (off:=0) (own:=true) (fz:=false) (U:=224) (cs:=[.d (.bool (decide ((x-y).num<0))),nC (cV (x-y).num.natAbs),nC (eF (x-y).den)]) rfl ?_ ?_ ?_
 ·simp
 ·simp[aj]
 ·rw[Y9,bU]
def Eg(G:List (List DV))(x:Rat)(k:Int)(hx:j6 x 10000000000)(h1:-1000000<=k)(h2:k<=1000000):aa prog G 332 [gk x,.c (.d (.int .i64 k))] (gk (aM x k)):=by
 have hbot:=dP G (decide (x.num<0)) (cV x.num.natAbs) (eF x.den);rw[Cz]at hbot;have hw:i64.wrap (-k) = -k:=bF (by omega) (by omega)
 by_cases hk:k<0
 ·have e:=iO (x:=x) hk;have ht:((-k).toNat:Int) = -k:=by omega
  have hs:=gU G (some (aK 4294967296 x.den)) (-k).toNat (by have:=hx.2;show nl _<=_;omega) (by omega);simp only[aX,mc x.den_nz,if_false,eD,lX,ht]at hs
  have hm:=zF G (decide (x.num<0)) (cV x.num.natAbs) (some (aK 4294967296 (x.den*2^(-k).toNat))) (o8 _) (gI _) (mc (rQ _ _)) (by rw[jb];have:=hx.1;omega) (by
   have h3:=gC x.den (2^(-k).toNat);have h4:=o7 (-k).toNat;have:=hx.2;show nl _<_;omega)
  rw[pn,aX,eD,<-e]at hm;generalize aM x k=r at*
  refine aa.enc func332 rfl (λlv=>gb lv _ _ _) λ_=>aab ?_;refine aaa λK hK=>aam hk ?_;refine aag (by simp[hk]<;>omega) (aaa λK1 hK1=>?_);refine aaq mixed (by kernel_rfl) rfl ?_;simp[hw];refine ag.p 2 9 hbot ?_;simp[hw];refine ag.p 2 9 hs ?_;simp[hw];refine ag.p 2 9 hm ?_;simp;refine⟨by kernel_rfl,?_⟩;apply hK1;refine aal ?_;refine bO.cell (κ:=0) (T:=224) (t:=4) (k:=1) (off:=0) (own:=true) (fz:=false) (U:=224) (cs:=[.d (.bool (decide (r.num<0))),nC (cV r.num.natAbs),nC (eF r.den)]) rfl ?_ ?_ ?_
  ·simp
  ·simp[aj]
  ·rw[Y9,bU]
 ·have e:=iM (x:=x) hk;have ht:(k.toNat:Int)=k:=by omega
  have hs:=gU G (cV x.num.natAbs) k.toNat (by rw[jb];have:=hx.1;omega) (by omega)
  have hs':aa prog G 326 [.c (nC (cV x.num.natAbs)),.c (.d (.int .i64 k))] (.c (nC (cV (x.num.natAbs*2^k.toNat)))):=by
   simp only[pn]at hs;simp only[mb,ht,lX]at hs
   by_cases h0:x.num.natAbs=0
   ·have:(aK 4294967296 x.num.natAbs)=[]:=by rw[h0];rfl
    rw[if_pos this]at hs;rw[h0,Nat.zero_mul];rwa[h0]at hs
   ·rw[if_neg (mc h0)]at hs;unfold cV at hs⊢;rw[if_neg h0]at hs;rw[if_neg h0,if_neg (aaW (Z1 (abx h0) (Zv (by decide))))];exact hs
  have hm:=zF G (decide (x.num<0)) (cV (x.num.natAbs*2^k.toNat)) (some (aK 4294967296 x.den)) (o8 _) (gI _) (mc x.den_nz) (by
   rw[jb];have h3:=gC x.num.natAbs (2^k.toNat);have h4:=o7 k.toNat;have:=hx.1;omega) (by have:=hx.2;show nl _<_;omega)
  rw[pn,aX,eD,<-e]at hm;generalize aM x k=r at*
  refine aa.enc func332 rfl (λlv=>gb lv _ _ _) λ_=>aab ?_;refine aaa λK hK=>aam hk ?_;refine aaj (by simp[hk]<;>omega) (aad (hK _ _ (aaa λK hK=>?_)));refine aaq mixed (by kernel_rfl) rfl ?_;simp;refine ag.p 2 9 hs' ?_;simp;refine ag.p 2 9 hbot ?_;simp;refine ag.p 2 9 hm ?_;simp;refine⟨by kernel_rfl,?_⟩;apply hK;refine aal ?_;refine bO.cell (κ:=0) (T:=224) (t:=4) (k:=1) (off:=0) (own:=true) (fz:=false) (U:=224) (cs:=[.d (.bool (decide (r.num<0))),nC (cV r.num.natAbs),nC (eF r.den)]) rfl ?_ ?_ ?_
  ·simp
  ·simp[aj]
  ·rw[Y9,bU]
def ER(lv:Key->LB)(b:Bool)(p q:Option (List Nat))(n:Int):fF lv (.tup [qn b p q,.c (.d (.int .i64 n))])=some (.tup [qn b p q,.c (.d (.int .i64 n))],[]):=by
 cases p<;>cases q<;>rfl
@[simp]def PL(b:Bool)(p q:Option (List Nat))(n:Int):(AV.tup [.agg [.d (.bool b),nC p,nC q],.c (.d (.int .i64 n))]).pure=true:=by
 cases p<;>cases q<;>rfl
def AH(G:List (List DV))(x:Rat)(k:Int)(hx:j6 x 10000000000)(h1:-20000<=k)(h2:k<=20000):aa prog G 283 [gk x,.c (.d (.int .i64 k))] (.tup [gk (aM x k),.c (.d (.int .i64 0))]):=by
 have h:=Eg G x k hx (by omega) (by omega);generalize aM x k=r at*
 have i1:¬k < -20000:=by omega
 have i2:¬20000<k:=by omega
 refine aa.enc func283 rfl (λlv=>ER lv _ _ _ _) λ_=>aab ?_;refine aaa λK hK=>aap i1 i2 ?_;refine aah (aad (hK _ _ (aar 2 h ?_)));refine aal ?_;refine bO.jQ (κ:=0) (T:=224) (t:=4) (u:=5) (k:=1) (off:=0) (own:=true) (fz:=false) (U:=224) (cs:=[.d (.bool (decide (r.num<0))),nC (cV r.num.natAbs),nC (eF r.den)]) rfl ?_ ?_ ?_ ?_ rfl rfl
 ·simp
 ·simp[aj]
 ·rw[Y9,bU]
 ·simp
def N6(G:List (List DV))(k:Int)(h1:-20000<=k)(h2:k<=20000):aa prog G 334 [.c (.d (.int .i64 k))] (.tup [gk (aM 1 k),.c (.d (.int .i64 0))]):=by
 have hi:=HC G 1 (by decide) (by decide);have h:=AH G 1 k ⟨by show nl 1<=_;rw[rJ];decide,by show nl 1<=_;rw[rJ];decide⟩ h1 h2;change aa _ _ _ _ (gk (1:Rat))at hi;generalize aM 1 k=r at*
 generalize (1:Rat)=o at*
 refine aa.enc func334 rfl (λlv=>ER lv _ _ _ _) λ_=>aab ?_;refine aak λK hK=>?_;simp;refine ag.p 1 9 hi ?_;simp;refine ag.p 1 9 h ?_;simp;apply hK;refine aal ?_;refine bO.jQ (κ:=0) (T:=224) (t:=2) (u:=3) (k:=0) (off:=0) (own:=true) (fz:=false) (U:=224) (cs:=[.d (.bool (decide (r.num<0))),nC (cV r.num.natAbs),nC (eF r.den)]) rfl ?_ ?_ ?_ ?_ rfl rfl
 ·simp
 ·simp[aj]
 ·rw[Y9,bU]
 ·simp
def gj(x:Rat):Int:=
 let k:=(br x.num.natAbs:Int)-br x.den
 if x.num.natAbs*2^(max (-k) 0).toNat<x.den*2^(max k 0).toNat then k-1 else k
def zi(hx:x≠0){L:Nat}(h:j6 x L):-(32*(L:Int))<=gj x/\gj x<=32*L:=by
 have h0:x.num.natAbs≠0:=by intro e;exact hx (Rat.num_eq_zero.1 (by omega))
 have h1:=xo h0;have h2:=xo x.den_nz;have h3:1<=br x.num.natAbs:=by unfold br;rw[if_neg h0];omega
 have h4:1<=br x.den:=by unfold br;rw[if_neg x.den_nz];omega
 have:=h.1;have:=h.2;unfold gj;simp only;split<;>omega
def P2(G:List (List DV))(x:Rat)(hx:x≠0)(hs:j6 x 10000000):aa prog G 333 [gk x] (.c (.d (.int .i64 (gj x)))):=by
 have h0:x.num.natAbs≠0:=by intro e;exact hx (Rat.num_eq_zero.1 (by omega))
 have hbot:=dP G (decide (x.num<0)) (cV x.num.natAbs) (eF x.den);rw[Cz]at hbot;have l1:=hs.1;have l2:=hs.2;have b1:=xo h0;have b2:=xo x.den_nz;have p1:=qE G (cV x.num.natAbs) (o8 _) (by rw[jb];omega);have p2:=qE G (some (aK 4294967296 x.den)) (gI _) (by show nl _<=_;omega);rw[pn]at p1;rw[aX,eD]at p2;have ek:∃k:Int,(br x.num.natAbs:Int)-br x.den=k/\-320000000<=k/\k<=320000000:=⟨_,rfl,by omega,by omega⟩
 obtain⟨k,hk,k1,k2⟩:=ek;have ew:i64.wrap ((br x.num.natAbs:Int)-br x.den)=k:=by rw[hk];exact bF (by omega) (by omega)
 have ew2:i64.wrap (-k) = -k:=bF (by omega) (by omega);have mx1:(List.foldl (λa b:Int=>if a<b then b else a) (-k) [0])=((max (-k) 0).toNat:Int):=by simp only[List.foldl];split<;>omega
 have mx2:(List.foldl (λa b:Int=>if a<b then b else a) k [0])=((max k 0).toNat:Int):=by simp only[List.foldl];split<;>omega
 have hlog:gj x=if x.num.natAbs*2^(max (-k) 0).toNat<x.den*2^(max k 0).toNat then k-1 else k:=by unfold gj;simp only[hk]
 have s1:=gU G (cV x.num.natAbs) (max (-k) 0).toNat (by rw[jb];omega) (by omega);have s2:=gU G (some (aK 4294967296 x.den)) (max k 0).toNat (by show nl _<=_;omega) (by omega);rw[mb,if_neg (mc h0),eD]at s1;rw[aX,if_neg (mc x.den_nz),eD]at s2;have cm:=gF (G:=G) (a:=some (aK 4294967296 (x.num.natAbs*2^(max (-k) 0).toNat))) (b:=some (aK 4294967296 (x.den*2^(max k 0).toNat))) (gI _) (gI _);simp only[aX,eD]at cm;generalize x.num.natAbs*2^(max (-k) 0).toNat=a at*
 generalize x.den*2^(max k 0).toNat=b at*
 generalize (max (-k) 0).toNat=u at*
 generalize (max k 0).toNat=v at*
 simp only[lX]at p1 p2 s1 s2 cm;have ew3:i64.wrap (k-1)=k-1:=bF (by omega) (by omega);refine aa.en func333 rfl λ_=>aab ?_;refine aar 1 hbot ?_;refine aak λK hK=>?_;simp;refine ag.p 1 9 p1 ?_;simp;refine ag.p 1 9 p2 ?_;simp[ew];apply hK;refine aaa λK hK=>aak λK1 hK1=>?_;simp[ew2,dL,mx1,mx2,-List.foldl_cons,-List.foldl_nil];refine ag.p 1 9 s1 ?_;simp[ew2,dL,mx1,mx2,-List.foldl_cons,-List.foldl_nil];refine ag.p 1 9 s2 ?_;simp[ew2,dL,mx1,mx2,-List.foldl_cons,-List.foldl_nil];refine ag.p 1 9 cm ?_;simp;apply hK1
 by_cases hab:a<b
 ·have hc:=sW.2 hab;rw[if_pos hab]at hlog;refine aag (by simp[hc]<;>omega) (aas ew3 (hK _ _ ?_));refine aab ?_;exact aae (au.rt rfl 2 (by simp[hlog]))
 ·have hc:¬ec a b<0:=λh=>hab (sW.1 h)
  rw[if_neg hab]at hlog;refine aaj (by simp[hc]<;>omega) (aad (hK _ _ (aab ?_)));exact aae (au.rt rfl 2 (by simp[hlog]))
def MB(hx:x≠0):uh (decide (x.num<0)) (cV x.num.natAbs)≠0:=by
 have h0:x.num.natAbs≠0:=by intro e;exact hx (Rat.num_eq_zero.1 (by omega))
 unfold uh;rw[mb,if_neg (mc h0)];split<;>decide
def Mu(hx:x=0):uh (decide (x.num<0)) (cV x.num.natAbs)=0:=by subst hx;rfl
def PO(G:List (List DV))(x:Rat)(hx:x≠0)(hs:j6 x 10000000):aa prog G 285 [gk x] (.tup [.c (.d (.int .i64 (gj x))),.c (.d (.int .i64 0))]):=by
 have h:=P2 G x hx hs;have hg:=lJ G (decide (x.num<0)) (cV x.num.natAbs) (eF x.den);have hne:=MB hx;refine aa.en func285 rfl λ_=>aab ?_;refine aaa λK hK=>aaw 1 hg hne ?_;refine aaj (by simp[hne]<;>omega) (aad (hK _ _ (aar 1 h ?_)));exact aae (au.t2 rfl 9 (by simp) (by simp))
def Fo{y:Rat}:x<y↔dX (decide (x.num<0)) (x.num.natAbs*y.den)<dX (decide (y.num<0)) (y.num.natAbs*x.den):=by
 rw[Rat.lt_iff,<-sL,<-sL,vg,vg]
def H6(x y:Rat):Rq (decide (x.num<0)) (cV x.num.natAbs) (eF x.den) (decide (y.num<0)) (cV y.num.natAbs) (eF y.den)=iS x y:=by
 unfold iS;simp only[Fo];unfold Rq;simp only[pn,uG];have hx:0<x.den:=x.den_pos;have hy:0<y.den:=y.den_pos
 have sx:uh (decide (x.num<0)) (cV x.num.natAbs)=if x.num.natAbs=0 then 0 else if x.num<0 then -1 else 1:=by
  unfold uh;rw[mb];simp only[eA (by decide:2<=4294967296),decide_eq_true_eq]
 have sy:uh (decide (y.num<0)) (cV y.num.natAbs)=if y.num.natAbs=0 then 0 else if y.num<0 then -1 else 1:=by
  unfold uh;rw[mb];simp only[eA (by decide:2<=4294967296),decide_eq_true_eq]
 rw[sx,sy];have ha:x.num.natAbs*y.den=0↔x.num.natAbs=0:=by rw[Nat.mul_eq_zero];omega
 have hb:y.num.natAbs*x.den=0↔y.num.natAbs=0:=by rw[Nat.mul_eq_zero];omega
 generalize x.num.natAbs*y.den=a at*
 generalize y.num.natAbs*x.den=b at*
 unfold dX ec;simp only[decide_eq_true_eq];generalize x.num=u at*
 generalize y.num=v at*
 (repeat' split)<;>omega
def Iz(G:List (List DV))(x y:Rat)(hx:j6 x 10000000000)(hy:j6 y 10000000000):aa prog G 161 [gk x,gk y] (.c (.d (.int .i64 (iS x y)))):=by
 have h:=Fp G (decide (x.num<0)) (decide (y.num<0)) (cV x.num.natAbs) (eF x.den) (cV y.num.natAbs) (eF y.den)
  (by rw[jb];have:=hx.1;omega) (Zf (sF _) (by have:=hx.2;omega)) (by rw[jb];have:=hy.1;omega) (Zf (sF _) (by have:=hy.2;omega))
 rwa[H6]at h
end Go.Am
namespace Go.Am
open Go.Proofs
def I1(m:Int):aa prog (GG m) 22 [.c (.d (.str [114,101,115,117,108,116,32,121,10]))]
 (.tup [.agg [.d .nilsl,.d (.int .i64 (.ofNat 0)),.d .nilsl,.d .nilsl,.d (.int .i64 (.ofNat 0)),.d (.int .i64 (.ofNat 0)),.d .nilsl,.d (.int .i64 (.ofNat 0))],.c (.d (.int .i64 (.ofNat 1))),.c (.d (.int .i64 (.ofNat 144)))]):=
 aa.Fi (CK m 60) (by kernel_rfl)
end Go.Am
namespace Go.Am
open Go.Am.Ty Go.Proofs N
def kj(c:UInt8):Bool:=decide (48<=c.toNat/\c.toNat<=57)
def Fm:List DV:=(List.range 256).map λc=>.bool (decide (48<=c/\c<=57))
def Cb:Fm.length=256:=by simp[Fm]
def No(c:UInt8):Fm.drop c.toNat=.bool (kj c)::Fm.drop (c.toNat+1):=by
 have h:c.toNat<Fm.length:=by rw[Cb];exact c.toNat_lt
 rw[Z6 h];congr 1;simp[Fm,kj]
def vN(G:List (List DV))(c:UInt8):aa prog G 344 [.c (.d (.ptr Fm)),.c (.d (.int .u8 c.toNat))] (.c (.d (.bool (kj c)))):=by
 have hc:=c.toNat_lt;have hl:=Cb;have ha:=No c;refine aa.en func344 rfl λ_=>aab ?_;refine aak λK hK=>?_;simp[aq,ha,hl]
 repeat refine ah ?_
 apply hK;exact aae (au.rt rfl 4 (by simp))
def C2(G:List (List DV))(s:List UInt8):aa prog G 308 [.c (.d (.str s)),.c (.d (.ptr Fm))] (.c (.d (.str (s.dropWhile kj)))):=by
 refine aa.en func308 rfl λ_=>aab ?_;refine aaa λK hK=>aaf ?_;refine aao (λ(p:List UInt8)=>⟨aU [(0,.c (.d (.str p))),(1,.c (.d (.ptr Fm)))],λ_=>.hole⟩) 0 (λp=>p.dropWhile kj=s.dropWhile kj) (λp=>p.length) s (Le.mk' _ rfl (by intro k own es h;cases h) (by simp)) rfl ?_;rintro p hp;refine aaa λK3 hK3=>aab ?_
 cases p with
 |nil=>
  refine aah (aan (hK _ _ (aab ?_)));have hp':s.dropWhile kj=[]:=by rw[<-hp];rfl
  exact aae (au.rt rfl 4 (by simp[hp']))
 |cons c l=>
  refine aai (aad (hK3 _ _ (aaf (aaa λK5 hK5=>aak λK6 hK6=>?_))));simp;refine ag.pure 0 9 (vN _ c) (by simp) (by simp) rfl ?_;simp;apply hK6
  cases hd:kj c with
  |false=>
   refine aag (by simp[hd]<;>omega) (aan (hK _ _ ?_));simp only[List.dropWhile,hd]at hp;refine aab ?_;exact aae (au.rt rfl 4 (by simp[hp]))
  |true=>
   refine aaj (by simp[hd]<;>omega) (aad (hK5 _ _ (aac ?_)));simp;simp only[List.dropWhile,hd]at hp;exact⟨by omega,l,Le.mk' _ rfl (by intro k own es h;cases h) (by simp),hp,by simp⟩
def kf(s:List UInt8):List UInt8:=(s.reverse.dropWhile kj).reverse
def B7(G:List (List DV))(s:List UInt8):aa prog G 309 [.c (.d (.str s)),.c (.d (.ptr Fm))] (.c (.d (.str (kf s)))):=by
 refine aA.jR 0 (by simp) (λV v h=>(show s.length<=9223372036854775807 by cases h.1 with|str _ hl=>exact hl)) λhr=>?_;refine aa.en func309 rfl λ_=>aab ?_;refine aaa λK hK=>aaf ?_;refine aao (λ(p:List UInt8)=>⟨aU [(0,.c (.d (.str p))),(1,.c (.d (.ptr Fm)))],λ_=>.hole⟩) 0 (λp=>p.reverse.dropWhile kj=s.reverse.dropWhile kj/\p.length<=s.length) (λp=>p.length) s (Le.mk' _ rfl (by intro k own es h;cases h) (by simp)) ⟨rfl,aY _⟩ ?_;rintro p ⟨hp,hpl⟩;refine aaa λK3 hK3=>aab ?_;rcases abu p with rfl|⟨l,c,rfl⟩
 ·refine aah (aan (hK _ _ (aab ?_)));have hp':kf s=[]:=by unfold kf;rw[<-hp];rfl
  exact aae (au.rt rfl 4 (by simp[hp']))
 ·rw[abv]at*
  have hn:0<(l++[c]).length:=by simp
  have hlen:(l++[c]).length=l.length+1:=by simp
  have e2:i64.wrap (l.length:Int)=(l.length:Int):=bF (by omega) (by omega);have hr1:(l++[c]).reverse=c::l.reverse:=by simp
  rw[hr1]at hp;refine aai (aad (hK3 _ _ (aaf (aaa λK5 hK5=>aak λK6 hK6=>?_))));simp[e2];refine⟨by omega,?_⟩;refine ag.pure 0 9 (vN _ c) (by simp) (by simp) rfl ?_;simp;apply hK6
  cases hd:kj c with
  |false=>
   refine aag (by simp[hd]<;>omega) (aan (hK _ _ ?_));simp only[List.dropWhile,hd]at hp;refine aab ?_;have hp':kf s=l++[c]:=by unfold kf;rw[<-hp];simp
   exact aae (au.rt rfl 4 (by simp[hp']))
  |true=>
   refine aaj (by simp[hd]<;>omega) (aad (hK5 _ _ (aac ?_)));simp[e2];simp only[List.dropWhile,hd]at hp;exact⟨by omega,l,Le.mk' _ rfl (by intro k own es h;cases h) (by simp),⟨hp,by omega⟩,by simp⟩
end Go.Am
namespace Go.Am
open Go.Proofs
def Kq(m:Int):aa prog (GG m) 307 [.c (.d (.str [48,49,50,51,52,53,54,55,56,57]))] (.tup [.agg (Fm.map .d),.c (.d (.bool true))]):=
 aa.Fi (CK m 60) (by kernel_rfl)
end Go.Am
namespace Go.Am
open Go.Am.Ty Go.Proofs N
variable {s:List UInt8}{c:Ctx}{x y z:AV}{fn:Func}{t u v:Nat}{e:Int}
abbrev Ul:List UInt8:=[48,49,50,51,52,53,54,55,56,57]
def sP(s:List UInt8):List UInt8:=(kf s).dropWhile kj
def EF:List CV:=List.replicate 256 (.d (.bool false))
def tg:List CV:=Fm.map .d
def Ri(m:Int):aa prog (GG m) 307 [.c (.d (.str Ul))] (.tup [.agg tg,.c (.d (.bool true))]):=Kq m
def Sc:(AV.tup [.agg tg,.c (.d (.bool true))]).pure=true:=by kernel_rfl
abbrev V7:Key->LB:=az (λ_=>LB.hole) 0 (.cells true false 342 tg)
def Qy(s:List UInt8):kA V7 [.c (.d (.str s)),.c (.ptr 0 0)]=some ([.c (.d (.str s)),.c (.d (.ptr Fm))],[0]):=by kernel_rfl
def XE:hO V7 (.c (.ptr 0 0))=[0]:=by kernel_rfl
def X8(s:List UInt8):∀a∈[AV.c (.d (.str s)),AV.c (.ptr 0 0)],∀k∈hO V7 a,k∈[0]:=by
 intro a ha k hk;simp only[rP,Zd,or_false]at ha;rcases ha with rfl|rfl
 ·cases hk
 ·rwa[XE]at hk
def Y4:bz prog 342=some EF:=by kernel_rfl
def YT:dn prog 342 (az (λ_=>.hole) 0 (.cells true false 342 EF)) (.c (.ptr 0 0)) (.agg tg)=some (.undef,[(0,.cells true false 342 tg)],[],True):=by
 have hl:tg.length=256:=by unfold tg;simp[Cb]
 have hz:EF.length=256:=aaY
 have hs:aj EF 0 tg=tg:=by
  unfold aj;rw[hl,List.take_zero,aaS,Zw,abj (Nat.le_of_eq hz),ZL]
 have hi:((prog.info? 342).isSome&&tg.length==ij prog 342)=true:=by kernel_rfl
 have hu:az (λ_=>LB.hole) 0 (.cells true false 342 EF) 0=.cells true false 342 (List.replicate 256 (.d (.bool false))):=aC _ _ _;have ht:(0+tg.length<=EF.length)=True:=by rw[hl,hz];exact eq_true (by decide)
 unfold dn;simp only[hu];show(if ((prog.info? 342).isSome&&tg.length==ij prog 342)=true then some (AV.undef,[(0,LB.cells true false 342 (aj EF 0 tg))],[],0+tg.length<=EF.length)else none)=_;rw[if_pos hi,hs,ht]
def ag.flat{f:FuncId}{xs us:List AV}{ks rds:List Key}{lv:Key->LB}{K:AV->List (Key×LB)->List Key->Nat->Prop}(κ:Nat)(ha:kA lv xs=some (us,ks))(hc:aa c.P c.G f us x)(hx:x.flat=true)
 (hr:∀a∈xs,∀k∈hO lv a,k∈rds) (hK:K x [] rds κ):ag c f xs lv K:=⟨x,[],rds,κ,bV.flat us ks rds x ha hc hx hr,hK⟩
def xm(s:List UInt8):aI prog .eql 9 (.c (.d (.str s))) (.c (.d (.str [])))=some (.c (.d (.bool (decide (s=[])))),[],[],True):=by
 cases s with
 |nil=>kernel_rfl
 |cons a l=>exact(show ∀a l,aI prog .eql 9 (.c (.d (.str (a::l)))) (.c (.d (.str [])))=some (.c (.d (.bool false)),[],[],True) from λa l=>by kernel_rfl) a l
def B5(m:Int)(s:List UInt8):aa prog (GG m) 261 [.c (.d (.str s)),.c (.d (.str Ul))] (.c (.d (.str (sP s)))):=by
 refine aa.en func261 rfl λ_=>aab ?_;refine aaa λK hK=>aaa λK1 hK1=>?_
 by_cases hs:s=[]
 ·refine aau @xm hs (hK1 _ _ ?_);refine aai (aab ?_);exact aae (au.rt rfl 4 (by simp[hs,sP,kf]))
 refine aau @xm hs (hK1 _ _ ?_);refine aah (aad (hK _ _ (aaa λK hK=>aab ?_)));refine aah (aad (hK _ _ (aaa λK hK=>aak λK1 hK1=>?_)));simp;refine ag.pure 0 9 (Ri m) Sc (by simp) rfl ?_;simp[Y4,YT,-dn];apply hK1;refine aab ?_;refine aai (aak λK1 hK1=>?_);simp;refine ag.flat 2 (us:=[.c (.d (.str s)),.c (.d (.ptr Fm))]) (ks:=[0]) (rds:=[0]) (Qy s) (B7 _ s) rfl (X8 s) ?_;simp;refine ag.flat 2 (us:=[.c (.d (.str (kf s))),.c (.d (.ptr Fm))]) (ks:=[0]) (rds:=[0]) (Qy _) (C2 _ (kf s)) rfl (X8 _) ?_;simp;apply hK1;exact aae (au.rt rfl 9 (by simp[sP]))
def PE(s t:List UInt8):(s==t)=decide (s=t):=by
 by_cases h:s=t
 ·subst h;simp
 ·rw[decide_eq_false h];exact beq_eq_false_iff_ne.2 h
def eqStr(s t:List UInt8):aI prog .eql 9 (.c (.d (.str s))) (.c (.d (.str t)))=some (.c (.d (.bool (decide (s=t)))),[],[],True):=by
 rw[<-PE];kernel_rfl
def vM(s t:List UInt8):aI prog .neq 9 (.c (.d (.str s))) (.c (.d (.str t)))=some (.c (.d (.bool (!decide (s=t)))),[],[],True):=by
 rw[<-PE];kernel_rfl
def fc(s:List UInt8):Bool:=!decide (s=[])&&decide (sP s=[])&&(decide (s=[48]) || !decide (s.getD 0 0=48))
def My(m:Int)(s:List UInt8):aa prog (GG m) 224 [.c (.d (.str s))] (.c (.d (.bool (fc s)))):=by
 refine aa.en func224 rfl λ_=>aab ?_;refine aaa λK hK=>?_
 cases s with
 |nil=>
  refine aas @vM (hK _ _ ?_);exact aae (au.rt rfl 2 (by simp[fc]))
 |cons a l=>
  refine aac ?_;simp[vM];refine ag.pure 0 9 (B5 m (a::l)) (by simp) (by simp) rfl ?_
  by_cases ht:sP (a::l)=[]
  ·by_cases h0:a::l=[48]
   ·have ht':sP [48]=[]:=h0▸ht;simp[eqStr,h0,ht'];apply hK;exact aae (au.rt rfl 2 (by simp[fc,h0,ht']))
   ·simp[eqStr,ht,h0];apply hK
    have ha:((a.toNat:Int)=48)↔a=48:=by
     constructor
     ·intro h;exact UInt8.toNat_inj.1 (by show a.toNat=48;omega)
     ·intro h;subst h;rfl
    have hr:fc (a::l) = !decide ((a.toNat:Int)=48):=by
     have h1:decide ((a.toNat:Int)=48)=decide (a=48):=by simp only[ha]
     rw[h1];simp[fc,ht,h0]
    exact aae (au.rt rfl 2 (by simp[hr]))
  ·simp[eqStr,ht];apply hK;exact aae (au.rt rfl 2 (by simp[fc,ht]))
def tN(s p:List UInt8):Bool:=decide (p.length<=s.length)&&decide (s.take p.length=p)
def lF(s p:List UInt8):List UInt8:=if tN s p=true then s.drop p.length else s
def Cr(G:List (List DV))(s p:List UInt8):aa prog G 254 [.c (.d (.str s)),.c (.d (.str p))] (.c (.d (.bool (tN s p)))):=by
 refine aa.en func254 rfl λ_=>aab ?_;refine aaa λK hK=>?_
 by_cases h:p.length<=s.length
 ·have h':(p.length:Int)<=(s.length:Int):=by omega
  refine aaA @eqStr h h' (hK _ _ ?_);exact aae (au.rt rfl 4 (by simp[tN,h]))
 ·have h':¬(p.length:Int)<=(s.length:Int):=by omega
  refine aaA @eqStr h h' (hK _ _ ?_);exact aae (au.rt rfl 4 (by simp[tN,h]))
def Ao(G:List (List DV))(s p:List UInt8):aa prog G 276 [.c (.d (.str s)),.c (.d (.str p))] (.tup [.c (.d (.str (lF s p))),.c (.d (.bool (tN s p)))]):=by
 refine aa.en func276 rfl λ_=>aab ?_;refine aaa λK hK=>aak λK1 hK1=>?_;simp;refine ag.pure 0 9 (Cr _ s p) (by simp) (by simp) rfl ?_;simp;apply hK1
 by_cases h:tN s p=true
 ·refine aaj (by simp[h]<;>omega) (aad (hK _ _ (aaa λK hK=>?_)))
  have hl:p.length<=s.length:=by
   unfold tN at h;simp only[cn,decide_eq_true_eq]at h;exact h.1
  refine aas hl (hK _ _ ?_);exact aae (au.t2 rfl 5 (by simp[lF,h]) (by simp[h]))
 ·refine aag (by simp[h]<;>omega) (aab ?_);exact aae (au.t2 rfl 5 (by simp[lF,h]) (by simp[h]))
def BN(G:List (List DV))(s p:List UInt8):aa prog G 222 [.c (.d (.str s)),.c (.d (.str p))] (.tup [.c (.d (.str (lF s p))),.c (.d (.bool (tN s p)))]):=by
 refine aa.en func222 rfl λ_=>aab ?_;refine aak λK hK=>?_;simp;refine ag.pure 0 9 (Ao _ s p) rfl (by simp) rfl ?_;simp;apply hK;exact aae (au.t2 rfl 6 (by simp) (by simp))
def au.XC{s:aE}{κ:Nat}(hr:fn.results=#[.tmp t,.tmp u,.tmp v])(kh:Key)(hx:s.fr t=x)(hy:s.fr u=y)(hz:s.fr v=z)(hp:x.pure=true)(hq:y.pure=true)(hw:z.pure=true)(hh:s.lv kh=.hole)
 (hn:x.cH=true) (hm:y.cH=true) (hl:z.cH=true) (htu:t≠u) (htv:t≠v) (huv:u≠v):au c fn (.tup [x,y,z]) .ret s κ:=by
 refine⟨[(t,x),(u,y),(v,z)],kh,by simp[hp,hx,hq,hy,hw,hz],hh,?_⟩;rw[hr];have h1:¬u=t:=λh=>htu h.symm
 have h2:¬v=t:=λh=>htv h.symm
 have h3:¬v=u:=λh=>huv h.symm
 simp[cO,iT,j8,aU,h1,h2,h3,hn,hm,hl]
def au.t3{s:aE}(hr:fn.results=#[.tmp t,.tmp u,.tmp v])(kh:Key)(hx:s.fr t=x:=by simp)(hy:s.fr u=y:=by simp)(hz:s.fr v=z:=by simp)(hp:x.pure=true:=by first|rfl|simp)(hq:y.pure=true:=by first|rfl|simp)(hw:z.pure=true:=by first|rfl|simp)
 (hh:s.lv kh=.hole:=by first|rfl|simp) (h1:x.cH=true:=by first|rfl|simp) (h2:y.cH=true:=by first|rfl|simp) (h3:z.cH=true:=by first|rfl|simp) (d1:t≠u:=by decide) (d2:t≠v:=by decide) (d3:u≠v:=by decide):au c fn (.tup [x,y,z]) .ret s 0:=au.XC hr kh hx hy hz hp hq hw hh h1 h2 h3 d1 d2 d3
def kP(s t:List UInt8):Int:=Lib.index s t
def uk(s t:List UInt8):List UInt8:=if 0<=kP s t then s.take (kP s t).toNat else s
def s7(s t:List UInt8):List UInt8:=if 0<=kP s t then s.drop ((kP s t).toNat+t.length)else[]
def LR(s t:List UInt8)(h:s.length<=9223372036854775807):-9223372036854775808<=Lib.index s t/\Lib.index s t<=9223372036854775807:=by
 have h1:=Lib.index_ge s t
 have h2:Lib.index s t<=s.length:=by
  clear h h1
  induction s with
  |nil=>simp only[Lib.index];split<;>simp
  |cons a s ih=>
   simp only[Lib.index];split
   ·simp;omega
   ·split<;>simp<;>omega
 omega
theorem JF(G:List (List DV))(s:List UInt8)(c:Nat)(hc:c<256):aa prog G 255 [.c (.d (.str s)),.c (.d (.int .u8 (c:Int)))] (.c (.d (.int .i64 (kP s [UInt8.ofNat c])))):=by
 refine aA.jR 0 (by simp) (λV v h=>(show s.length<=9223372036854775807 by cases h.1 with|str _ hl=>exact hl)) λhs=>?_;refine aa.yf (X:=.c (.d (.int .i64 (kP s [UInt8.ofNat c])))) (lv':=λ_=>.hole) (ks:=[]) ?_ rfl;refine b9.of_same (by rfl) λF β w vs hS hl hv=>?_;obtain⟨u,v,rfl,hu,hv⟩:=args2 hl hv;have:=Tryz.stringslite_IndexByte ⟨s.toArray⟩ c w;refine⟨.int .i64 (kP s [UInt8.ofNat c]),CS (LR s _ hs),?_⟩;rw[Vw.jq hu,Vw.fJ hv];simpa[kP,<-index_one]using this
def M9(c:UInt8):kP [c] [c]=0:=by simp[kP,Lib.index,List.isPrefixOf]
def Jl(G:List (List DV))(s:List UInt8)(c:UInt8):aa prog G 253 [.c (.d (.str s)),.c (.d (.str [c]))] (.c (.d (.int .i64 (kP s [c])))):=by
 have hb:=JF G s c.toNat c.toNat_lt;rw[show UInt8.ofNat c.toNat=c from UInt8.ofNat_toNat]at hb;refine aa.en func253 rfl λ_=>aab ?_;refine aab ?_;refine aaa λK hK=>aaf (aaa λK1 hK1=>?_)
 by_cases hs:[c]=s
 ·have h0:kP s [c]=0:=by rw[<-hs];exact M9 c
  refine aau @eqStr hs (hK1 _ _ ?_);refine aai (aab ?_);exact aae (au.rt rfl 4 (by simp[h0]))
 ·refine aau @eqStr hs (hK1 _ _ ?_);refine aah (aab ?_);refine aai (aak λK1 hK1=>?_);simp;refine ag.pure 0 9 hb (by simp) (by simp) rfl ?_;simp;apply hK1;exact aae (au.rt rfl 4 (by simp))
def LQ(m:Int)(s t:List UInt8)(h:s.length<=9223372036854775807)(hix:aa prog (GG m) 253 [.c (.d (.str s)),.c (.d (.str t))] (.c (.d (.int .i64 (kP s t))))):aa prog (GG m) 277 [.c (.d (.str s)),.c (.d (.str t))] (.tup [.c (.d (.str (uk s t))),.c (.d (.str (s7 s t))),.c (.d (.bool (decide (0<=kP s t))))]):=by
 refine aa.en func277 rfl λ_=>aab ?_;refine aaa λK hK=>aak λK1 hK1=>?_;simp;refine ag.pure 0 9 hix (by simp) (by simp) rfl ?_;simp;apply hK1;refine aab ?_
 by_cases hi:0<=kP s t
 ·refine aag (by simp[hi]<;>omega) ?_;obtain⟨n,hn⟩:∃n:Nat,kP s t=n:=⟨(kP s t).toNat,(Int.toNat_of_nonneg hi).symm⟩
  have hr:=Lib.index_room s t (by unfold kP at hi;exact hi);have hr':n+t.length<=s.length:=by unfold kP at hn;rw[hn]at hr;omega
  have hw:i64.wrap ((n:Int)+t.length)=((n+t.length:Nat):Int):=by rw[bF (by omega) (by omega)];omega
  have hn1:n<=s.length:=by omega
  refine aaa λK1 hK1=>?_;refine aav mixed (by kernel_rfl) rfl rfl ?_;simp[hn,hw,hn1,hr',-Int.natCast_add];apply hK1;exact aae (au.t3 rfl 9 (by simp[uk,hi,hn]) (by simp[s7,hi,hn]) (by simp[hi,hn]))
 ·refine aaj (by simp[hi]<;>omega) (aad (hK _ _ (aab ?_)));exact aae (au.t3 rfl 9 (by simp[uk,hi]) (by simp[s7,hi]) (by simp[hi]))
def OT(m:Int)(s t:List UInt8)(h:s.length<=9223372036854775807)(hix:aa prog (GG m) 253 [.c (.d (.str s)),.c (.d (.str t))] (.c (.d (.int .i64 (kP s t))))):aa prog (GG m) 223 [.c (.d (.str s)),.c (.d (.str t))] (.tup [.c (.d (.str (uk s t))),.c (.d (.str (s7 s t))),.c (.d (.bool (decide (0<=kP s t))))]):=by
 refine aa.en func223 rfl λ_=>aab ?_;refine aak λK hK=>?_;simp;refine ag.pure 0 9 (LQ m s t h hix) rfl (by simp) rfl ?_;simp;apply hK;exact aae (au.t3 rfl 9 (by simp) (by simp) (by simp))
theorem N3(m:Int)(s:List UInt8)(c:UInt8):aa prog (GG m) 223 [.c (.d (.str s)),.c (.d (.str [c]))] (.tup [.c (.d (.str (uk s [c]))),.c (.d (.str (s7 s [c]))),.c (.d (.bool (decide (0<=kP s [c]))))]):=by
 refine aA.jR 0 (by simp) (λV v h=>(show s.length<=9223372036854775807 by cases h.1 with|str _ hl=>exact hl)) λhs=>?_;exact OT m s [c] hs (Jl (GG m) s c)
def Lb{p:UInt8->Bool}:∀{l:List UInt8},l.dropWhile p=[]->∀x∈l,p x=true
 |[],_,x,hx=>by cases hx
 |a::l,h,x,hx=>by
  simp only[List.dropWhile]at h;split at h
  ·rename_i ha
   rcases List.mem_cons.1 hx with rfl|hx
   ·exact ha
   ·exact Lb h x hx
  ·cases h
theorem Jn(h:sP s=[]):wk s:=by
 have h1:∀x∈kf s,kj x=true:=Lb h;have h2:∀x∈s.reverse.dropWhile kj,kj x=true:=λx hx=>h1 x (by unfold kf;exact List.mem_reverse.2 hx)
 have h3:∀x∈s.reverse,kj x=true:=by
  intro x hx;rw[<-List.takeWhile_append_dropWhile (p:=kj) (l:=s.reverse),Z5]at hx;rcases hx with hx|hx
  ·have:=List.all_takeWhile (p:=kj) (l:=s.reverse);exact List.all_eq_true.1 this x hx
  ·exact h2 x hx
 intro c hc;have:=h3 c (List.mem_reverse.2 hc);simpa[kj]using this
def oX(h:fc s=true):wk s/\s≠[]:=by
 unfold fc at h;simp only[cn,Zy,decide_eq_false_iff_not,decide_eq_true_eq]at h;exact⟨Jn h.1.2,h.1.1⟩
abbrev VF:AV:=qn false none none
def jm(neg:Bool)(top bot:List UInt8)(brk:Bool):Bool:=!fc top ||(neg&&decide (top=[48])) ||(brk&&(!fc bot ||decide (bot=[48]) ||decide (bot=[49])))
abbrev pQ(s:List UInt8):Option (List Nat):=some (aK 4294967296 (aP s 0))
def eZ(neg:Bool)(top bot:List UInt8)(brk:Bool):AV:=
 if jm neg top bot brk=true then .tup [VF,.c (.d (.int .i64 6))]
 else if 2000<max top.length bot.length then .tup [VF,.c (.d (.int .i64 3))]
 else if brk=false then .tup [kq neg (pQ top) (some (aK 4294967296 1)),.c (.d (.int .i64 0))]
 else if val 4294967296 (dO (gO (pQ top) (pQ bot)))=1 then .tup [qn neg (pQ top) (pQ bot),.c (.d (.int .i64 0))]
 else .tup [VF,.c (.d (.int .i64 6))]
theorem Fk(lv:Key->LB)(neg:Bool)(top bot:List UInt8)(brk:Bool):fF lv (eZ neg top bot brk)=some (eZ neg top bot brk,[]):=by
 have h1:∀b p q n,fF lv (.tup [qn b p q,.c (.d (.int .i64 n))])=some (.tup [qn b p q,.c (.d (.int .i64 n))],[]):=by
  intro b p q n;cases p<;>cases q<;>rfl
 unfold eZ kq
 (repeat' split)<;>exact h1 ..
theorem C9(G:List (List DV))(h:fc s=true)(hl:s.length<=2000):aa prog G 226 [.c (.d (.str s))] (.c (nC (pQ s))):=by
 obtain⟨h1,h2⟩:=oX h;have:=qI G s h1 (by omega)
 have e:oO (!s.isEmpty) (aP s 0)=pQ s:=by
  cases s with
  |nil=>exact absurd rfl h2
  |cons a l=>rfl
 rwa[e,lX]at this
theorem Dw(m:Int)(r:List UInt8):
 aa prog (GG m) 159 [.c (.d (.str r))] (eZ (tN r [45]) (uk (lF r [45]) [47]) (s7 (lF r [45]) [47]) (decide (0<=kP (lF r [45]) [47]))):=by
 refine aA.jR 0 (by simp) (λV v h=>(show r.length<=9223372036854775807 by cases h.1 with|str _ hl=>exact hl)) λhr=>?_
 have hcl:(lF r [45]).length<=9223372036854775807:=by
  unfold lF;split
  ·rw[aaM];omega
  ·exact hr
 have hcp:=BN (GG m) r [45];have hct:=N3 m (lF r [45]) 47
 have hta:(uk (lF r [45]) [47]).length<=9223372036854775807:=by
  unfold uk;split
  ·rw[Ze];omega
  ·omega
 have htb:(s7 (lF r [45]) [47]).length<=9223372036854775807:=by
  unfold s7;split
  ·rw[aaM];omega
  ·simp
 generalize tN r [45]=neg at*
 generalize lF r [45]=s at*
 generalize uk s [47]=top at*
 generalize s7 s [47]=bot at*
 generalize decide (0<=kP s [47])=brk at*
 refine aa.enc func159 rfl (λlv=>Fk lv _ _ _ _) λ_=>aab ?_;refine aak λK hK=>?_;simp;refine ag.pure 1 9 hcp rfl (by simp) (by simp) ?_;simp;apply hK;refine aak λK hK=>?_;simp;refine ag.pure 1 9 hct rfl (by simp) (by simp) ?_;simp;apply hK;refine aaa λK hK=>aaf (aaa λK1 hK1=>?_)
 have row1:=My m top;have row2:=My m bot
 have hbad:∀(fr:Nat->AV) (κ:Nat),fr 2=.c (.ptr 0 0)->fr 22=.c (.d (.bool true))->jm neg top bot brk=true ->
  K1 ⟨fr,az (λ_=>.hole) 0 (.cells true false 224 [.d (.bool false),.d .nilsl,.d .nilsl])⟩ κ:=by
  intro fr κ z2 z22 hb;apply hK1;refine aag (by simp[z22]<;>omega) (aap z2 @Hv ?_);refine aal ?_;simp only[eZ,if_pos hb];refine bO.jQ (κ:=0) (T:=224) (t:=2) (u:=3) (k:=0) (off:=0) (own:=true) (fz:=false) (U:=224) (cs:=[.d (.bool false),.d .nilsl,.d .nilsl]) rfl ?_ ?_ ?_ ?_ rfl rfl
  ·simp[z2]
  ·simp[aj]
  ·rw[Y9,bU];rfl
  ·simp
 have hgood:∀(fr:Nat->AV) (κ:Nat),fr 2=.c (.ptr 0 0)->fr 5=.c (.d (.bool neg))->fr 6=.c (.d (.str top))->fr 7=.c (.d (.str bot))->fr 8=.c (.d (.bool brk))->fr 22=.c (.d (.bool false)) ->
  fc top=true->(brk=true->fc bot=true)->jm neg top bot brk=false ->
  K1 ⟨fr,az (λ_=>.hole) 0 (.cells true false 224 [.d (.bool false),.d .nilsl,.d .nilsl])⟩ κ:=by
  intro fr κ z2 z5 z6 z7 z8 z22 g1 g2 hb;apply hK1;refine aaj (by simp[z22]<;>omega) (aaa λK2 hK2=>?_)
  have hmx:∀(a b:Nat),(List.foldl (λa b:Int=>if a<b then b else a) (a:Int) [(b:Int)])=((max a b:Nat):Int):=by
   intro a b;simp only[List.foldl];split<;>omega
  refine aac ?_;simp[z6,z7,dL,hmx,-List.foldl_cons,-List.foldl_nil];apply hK2;have hbf:¬jm neg top bot brk=true:=by rw[hb];decide
  by_cases hl:2000<max top.length bot.length
  ·have hl':(2000:Int)<((max top.length bot.length:Nat):Int):=by omega
   refine aag (by simp[hl']<;>omega) (aap z2 @Hv ?_);refine aal ?_;simp only[eZ,if_neg hbf,if_pos hl];refine bO.jQ (κ:=0) (T:=224) (t:=2) (u:=3) (k:=0) (off:=0) (own:=true) (fz:=false) (U:=224) (cs:=[.d (.bool false),.d .nilsl,.d .nilsl]) rfl ?_ ?_ ?_ ?_ rfl rfl
   ·simp[z2]
   ·simp[aj]
   ·rw[Y9,bU];rfl
   ·simp
  have hl':¬(2000:Int)<((max top.length bot.length:Nat):Int):=by omega
  refine aaj (by simp[hl']<;>omega) (aad (hK _ _ ?_));have ht2:top.length<=2000:=by omega
  have hb2:bot.length<=2000:=by omega
  have rd1:=C9 (GG m) g1 ht2;have hof:=gu (GG m) 1 (by decide);have c1:can 4294967296 (dO (pQ top)):=bw (by decide) _;have c2:can 4294967296 (dO (some (aK 4294967296 1))):=bw (by decide) _
  have dlen:∀(u:List UInt8),wk u->u.length<=2000->(dO (pQ u)).length<1000000000000:=by
   intro u hu hlu;have h1:=nT hu;have h2:(10:Nat)^u.length<=4294967296^u.length:=abz (by decide) _;have:=cN (B:=4294967296) (n:=aP u 0) (m:=u.length) (by decide) (by omega);simp only[aX];omega
  have l1:=dlen top (oX g1).1 ht2;have l2:(dO (some (aK 4294967296 1))).length<1000000000000:=aaT (cN (m:=1) (by decide) (by decide)) (by decide);refine aaa λK3 hK3=>aam z8 ?_
  cases hk:brk with
  |false=>
   rw[hk]at hbf;have hmade:=qw (GG m) neg (pQ top) (some (aK 4294967296 1)) c1 c2 (by intro h;exact absurd ((eA (by decide)).1 h) (by decide)) l1 l2;simp only[lX]at hmade hof;refine aai (aak λK4 hK4=>?_);simp[z5,z6];refine ag.pure κ 9 rd1 (by simp) (by simp) (by simp) ?_;simp;refine ag.pure κ 9 hof (by simp) (by simp) (by simp) ?_;simp
   by_cases hz:dO (pQ top)=[]
   ·simp only[kq,if_pos hz]at hmade;refine ag.pure κ 9 hmade (by simp) (by simp) (by simp) ?_;simp[z2];apply hK4;refine aal ?_;simp only[eZ,if_neg hbf,if_neg hl,reduceIte,kq,if_pos hz];refine bO.jQ (κ:=0) (T:=224) (t:=2) (u:=3) (k:=0) (off:=0) (own:=true) (fz:=false) (U:=224) (cs:=[.d (.bool false),nC none,nC none]) rfl ?_ ?_ ?_ ?_ rfl rfl
    ·simp[z2]
    ·simp[aj]
    ·rw[Y9,bU]
    ·simp
   ·simp only[kq,if_neg hz]at hmade;refine ag.pure κ 9 hmade (by simp) (by simp) (by simp) ?_;simp[z2];apply hK4;refine aal ?_;simp only[eZ,if_neg hbf,if_neg hl,reduceIte,kq,if_neg hz];refine bO.jQ (κ:=0) (T:=224) (t:=2) (u:=3) (k:=0) (off:=0) (own:=true) (fz:=false) (U:=224) (cs:=[.d (.bool neg),nC (mP (pQ top) (some (aK 4294967296 1))),nC (mQ (pQ top) (some (aK 4294967296 1)))]) rfl ?_ ?_ ?_ ?_ rfl rfl
    ·simp[z2]
    ·simp[aj]
    ·rw[Y9,bU]
    ·simp
  |true=>
   rw[hk]at hbf;have g3:=g2 hk;have rd2:=C9 (GG m) g3 hb2;have c3:can 4294967296 (dO (pQ bot)):=bw (by decide) _;have l3:=dlen bot (oX g3).1 hb2;have hgcd:=tn (GG m) (pQ top) (pQ bot) c1 c3 l1 l3;have his:=kE (GG m) (gO (pQ top) (pQ bot)) (by unfold gO;rw[yd c1 c3];exact bw (by decide) _);change aa _ _ 229 _ (nK .u32 (gO (pQ top) (pQ bot)))at hgcd;simp only[lX]at hgcd his;refine aah (aad (hK3 _ _ (aak λK4 hK4=>?_)));simp[z6,z7];refine ag.pure κ 9 rd1 (by simp) (by simp) (by simp) ?_;simp[z7];refine ag.pure κ 9 rd2 (by simp) (by simp) (by simp) ?_;simp;apply hK4;refine aaa λK4 hK4=>aak λK5 hK5=>?_;simp;refine ag.pure κ 9 hgcd (by simp) (by simp) (by simp) ?_;simp;refine ag.pure κ 9 his (by simp) (by simp) (by simp) ?_;simp;apply hK5
   by_cases h1:val 4294967296 (dO (gO (pQ top) (pQ bot)))=1
   ·refine aaj (by simp[h1]<;>omega) (aad (hK4 _ _ (aaC z2 z5 @GD ?_)));refine aal ?_;have hp:eZ neg top bot brk=.tup [qn neg (pQ top) (pQ bot),.c (.d (.int .i64 0))]:=by rw[hk];unfold eZ;rw[if_neg hbf,if_neg hl,if_neg (by decide),if_pos h1]
    rw[hp];refine bO.jQ (κ:=0) (T:=224) (t:=2) (u:=3) (k:=0) (off:=0) (own:=true) (fz:=false) (U:=224) (cs:=[.d (.bool neg),nC (pQ top),nC (pQ bot)]) rfl ?_ ?_ ?_ ?_ rfl rfl
    ·simp[z2]
    ·simp[aj]
    ·rw[Y9,bU]
    ·simp
   ·refine aag (by simp[h1]<;>omega) (aap z2 @Hv ?_);refine aal ?_;have hp:eZ neg top bot brk=.tup [VF,.c (.d (.int .i64 6))]:=by rw[hk];unfold eZ;rw[if_neg hbf,if_neg hl,if_neg (by decide),if_neg h1]
    rw[hp];refine bO.jQ (κ:=0) (T:=224) (t:=2) (u:=3) (k:=0) (off:=0) (own:=true) (fz:=false) (U:=224) (cs:=[.d (.bool false),.d .nilsl,.d .nilsl]) rfl ?_ ?_ ?_ ?_ rfl rfl
    ·simp[z2]
    ·simp[aj]
    ·rw[Y9,bU];rfl
    ·simp
 refine aac ?_;simp;refine ag.pure 1 9 row1 (by simp) (by simp) (by simp) ?_
 cases g1:fc top with
 |false=>
  simp[g1];exact hbad _ _ (by simp) (by simp) (by simp[jm,g1])
 |true=>
  cases hn:neg with
  |true=>
   by_cases h48:top=[48]
   ·have e48:decide (top=[48])=true:=decide_eq_true h48;simp[eqStr,g1,hn,e48];exact hbad _ _ (by simp) (by simp) (by simp[jm,hn,h48])
   ·cases hk:brk with
    |false=>
     simp[eqStr,g1,hn,h48,hk];exact hgood _ _ (by simp) (by simp[hn]) (by simp) (by simp) (by simp[hk]) (by simp) g1 (λh=>by rw[hk]at h;cases h) (by simp[jm,g1,hn,h48,hk])
    |true=>
     simp[eqStr,g1,hn,h48,hk];refine ag.pure 1 9 row2 (by simp) (by simp) (by simp) ?_
     cases g2:fc bot with
     |false=>
      simp[g2];exact hbad _ _ (by simp) (by simp) (by simp[jm,g2,hk])
     |true=>
      by_cases b48:bot=[48]
      ·have e:decide (bot=[48])=true:=decide_eq_true b48;simp[eqStr,g2,e];exact hbad _ _ (by simp) (by simp) (by simp[jm,e,hk])
      ·by_cases b49:bot=[49]
       ·have e:decide (bot=[49])=true:=decide_eq_true b49;simp[eqStr,g2,b48,e];exact hbad _ _ (by simp) (by simp) (by simp[jm,e,hk])
       ·simp[eqStr,g2,b48,b49];exact hgood _ _ (by simp) (by simp[hn]) (by simp) (by simp) (by simp[hk]) (by simp) g1 (λ_=>g2) (by simp[jm,g1,hn,h48,hk,g2,b48,b49])
  |false=>
   cases hk:brk with
   |false=>
    simp[eqStr,g1,hn,hk];exact hgood _ _ (by simp) (by simp[hn]) (by simp) (by simp) (by simp[hk]) (by simp) g1 (λh=>by rw[hk]at h;cases h) (by simp[jm,g1,hn,hk])
   |true=>
    simp[eqStr,g1,hn,hk];refine ag.pure 1 9 row2 (by simp) (by simp) (by simp) ?_
    cases g2:fc bot with
    |false=>
     simp[g2];exact hbad _ _ (by simp) (by simp) (by simp[jm,g2,hk])
    |true=>
     by_cases b48:bot=[48]
     ·have e:decide (bot=[48])=true:=decide_eq_true b48;simp[eqStr,g2,e];exact hbad _ _ (by simp) (by simp) (by simp[jm,e,hk])
     ·by_cases b49:bot=[49]
      ·have e:decide (bot=[49])=true:=decide_eq_true b49;simp[eqStr,g2,b48,e];exact hbad _ _ (by simp) (by simp) (by simp[jm,e,hk])
      ·simp[eqStr,g2,b48,b49];exact hgood _ _ (by simp) (by simp[hn]) (by simp) (by simp) (by simp[hk]) (by simp) g1 (λ_=>g2) (by simp[jm,g1,hn,hk,g2,b48,b49])
def dJ(neg:Bool)(top bot:List UInt8)(brk:Bool):Int:=
 if jm neg top bot brk=true then 6
 else if 2000<max top.length bot.length then 3
 else if brk=false then 0
 else if val 4294967296 (dO (gO (pQ top) (pQ bot)))=1 then 0 else 6
def Eu(neg:Bool)(top bot:List UInt8)(brk:Bool):∃b p q,eZ neg top bot brk=.tup [qn b p q,.c (.d (.int .i64 (dJ neg top bot brk)))]:=by
 unfold eZ dJ kq
 (repeat' split)<;>exact⟨_,_,_,rfl⟩
theorem Ab(m:Int)(r:List UInt8):
 aa prog (GG m) 163 [.c (.d (.str r))] (.c (.d (.int .i64 (dJ (tN r [45]) (uk (lF r [45]) [47]) (s7 (lF r [45]) [47]) (decide (0<=kP (lF r [45]) [47])))))):=by
 have hp:=Dw m r;obtain⟨b,p,q,e⟩:=Eu (tN r [45]) (uk (lF r [45]) [47]) (s7 (lF r [45]) [47]) (decide (0<=kP (lF r [45]) [47]));rw[e]at hp;generalize dJ (tN r [45]) (uk (lF r [45]) [47]) (s7 (lF r [45]) [47]) (decide (0<=kP (lF r [45]) [47]))=n at*
 have hpu:(AV.tup [qn b p q,.c (.d (.int .i64 n))]).pure=true:=by cases p<;>cases q<;>rfl
 refine aa.en func163 rfl λ_=>aab ?_;refine aak λK hK=>?_;simp;refine ag.pure 0 9 hp hpu (by simp) rfl ?_;simp;apply hK;refine aab ?_;exact aae (au.rt rfl 9 (by simp))
def fT(e p:Int):Int:=if e<2\/11<e\/p<2\/113<p\/e+p<5 then 2 else 0
theorem kW(G:List (List DV))(e p:Int):aa prog G 158 [.agg [.d (.int .i64 e),.d (.int .i64 p)]] (.c (.d (.int .i64 (fT e p)))):=by
 refine aa.en func158 rfl λ_=>aab ?_;refine aaa λK hK=>aaa λK1 hK1=>?_
 have bad:∀(fr:Nat->AV) (κ:Nat) (lv:Key->LB),lv 9=.hole->fr 28=.c (.d (.bool true))->fT e p=2->K1 ⟨fr,lv⟩ κ:=by
  intro fr κ lv h9 z hf;apply hK1;refine aag (by simp[z]<;>omega) (aab ?_);exact aal (κ:=0) (au.tmp (κ:=0) rfl 9 (by simp[hf]) rfl (by simp[h9]) rfl)
 by_cases h1:e<2
 ·refine aac ?_;simp[h1];exact bad _ _ _ (by simp) (by simp) (by unfold fT;rw[if_pos (by omega)])
 by_cases h2:11<e
 ·refine aac ?_;simp[h1,h2];exact bad _ _ _ (by simp) (by simp) (by unfold fT;rw[if_pos (by omega)])
 by_cases h3:p<2
 ·refine aac ?_;simp[h1,h2,h3];exact bad _ _ _ (by simp) (by simp) (by unfold fT;rw[if_pos (by omega)])
 by_cases h4:113<p
 ·refine aac ?_;simp[h1,h2,h3,h4];exact bad _ _ _ (by simp) (by simp) (by unfold fT;rw[if_pos (by omega)])
 have hw:i64.wrap (e+p)=e+p:=bF (by omega) (by omega)
 by_cases h5:e+p<5
 ·refine aac ?_;simp[h1,h2,h3,h4,hw,h5];exact bad _ _ _ (by simp) (by simp) (by unfold fT;rw[if_pos (by omega)])
 refine aac ?_;simp[h1,h2,h3,h4,hw,h5];apply hK1;refine aah (aad (hK _ _ (aab ?_)));have hf:fT e p=0:=by unfold fT;rw[if_neg (by omega)]
 exact aae (au.rt rfl 9 (by simp[hf]))
@[simp]def S5(cs:List CV):(AV.agg cs).pure=cs.all CV.pure:=rfl
@[simp]def VK(x:DV):(CV.d x).pure=true:=rfl
@[simp]def Sn(o:Option (List (List DV))):(dc o).pure=true:=by cases o<;>rfl
@[simp]def Tp(l:List AV):(AV.tup l).pure=l.all AV.kR:=rfl
@[simp]def Vj(x:CV):(AV.c x).kR=x.pure:=rfl
@[simp]def SO(cs:List CV):(AV.agg cs).kR=cs.all CV.pure:=rfl
def bB(e:Int):Int:=(2:Int)^(e-1).toNat-1
def uz(h1:2<=e)(h2:e<=11):1<=bB e/\bB e<=1023/\aI prog .shl 3 (.c (.d (.int .i64 1))) (.c (.d (.int .i64 (e-1))))=some (.c (.d (.int .i64 (bB e+1))),[],[],True):=by
 have h:e=2\/e=3\/e=4\/e=5\/e=6\/e=7\/e=8\/e=9\/e=10\/e=11:=by omega
 rcases h with rfl|rfl|rfl|rfl|rfl|rfl|rfl|rfl|rfl|rfl<;>refine⟨by decide,by decide,?_⟩<;>rw[Li]<;>congr 1<;>congr 1<;>first|rfl|decide|(congr 1;congr 1;decide)
abbrev fA(e p:Int):AV:=.agg [.d (.int .i64 e),.d (.int .i64 p)]
abbrev SF(e p m b:Int):AV:=.agg [.d (.int .i64 e),.d (.int .i64 p),.d (.int .i64 m),.d (.int .i64 b)]
def T6:ia prog 282 [] []=some (SF 0 0 0 0,[],[],True):=by kernel_rfl
def XO(a b c d:CV):ia prog 282 [0,1,2] [.agg [a,b],.c c,.c d]=some (.agg [a,b,c,d],[],[],True):=by kernel_rfl
def CU(a b c d:CV):eW prog 282 [a,b,c,d]=some (.agg [a,b,c,d]):=by kernel_rfl
def jN{p:Int}(h:fT e p=0):2<=e/\e<=11/\2<=p/\p<=113/\5<=e+p:=by
 unfold fT at h;split at h
 ·cases h
 ·omega
def YZ(T:TypeId)(h:(fh prog T).isSome=true)(lv:Key->LB):eJ prog T lv (.c (.d .nilsl))=some (.c (.d (.int .i64 0)),[],[],True):=cE (o:=none) h
theorem N8(G:List (List DV))(e p:Int)(hf:fT e p=0):aa prog G 230 [fA e p,.c (.d (.int .i64 0)),.c (.d .nilsl)] (.tup [SF e p 0 (bB e),.c (.d (.int .i64 0))]):=by
 obtain⟨f1,f2,f3,f4,f5⟩:=jN hf;obtain⟨g1,g2,hsh⟩:=uz f1 f2;have hc:=kW G e p;rw[hf]at hc;have w1:i64.wrap (e-1)=e-1:=bF (by omega) (by omega);have w2:i64.wrap (bB e+1-1)=bB e:=by rw[bF (by omega) (by omega)];omega
 have w2':i64.wrap (bB e)=bB e:=bF (by omega) (by omega);have lpn:=YZ 325 (by simp);generalize bB e=b at*
 refine aa.enc func230 rfl (λlv=>rfl) λ_=>aab ?_;refine aaa λK hK=>aar 2 hc ?_;refine aah (aad (hK _ _ (aaa λK hK=>?_)));refine aaq mixed (by kernel_rfl) rfl ?_;simp[w1,hsh,w2,w2',XO,-Li];refine⟨by kernel_rfl,?_⟩;apply hK;refine aaa λK hK=>aam lpn ?_;refine aaf ?_
 refine aao (λ(_:Unit)=>⟨aU [(6,.c (.ptr 1 0)),(8,.c (.ptr 2 0)),(32,.c (.d .nilsl)),(33,.c (.d (.int .i64 0))),(34,.c (.d (.int .i64 0)))],
  az (az (az (λ_=>.hole) 0 (.cells true false 81 [.d (.int .i64 e),.d (.int .i64 p)])) 1 (.cells true false 282 [.d (.int .i64 0),.d (.int .i64 0),.d (.int .i64 0),.d (.int .i64 0)])) 2 (.cells true false 282 [.d (.int .i64 e),.d (.int .i64 p),.d (.int .i64 0),.d (.int .i64 b)])⟩) 3
  (λ_=>True) (λ_=>0) () (Le.mX _) trivial ?_
 rintro⟨⟩ _;refine aab ?_;refine aaa λK3 hK3=>aah (aan (hK _ _ (aap @CU @aj.eq_1 ?_)))
 refine aal ?_;refine bO.jQ (κ:=0) (T:=282) (t:=6) (u:=7) (k:=1) (off:=0) (own:=true) (fz:=false) (U:=282) (cs:=[.d (.int .i64 e),.d (.int .i64 p),.d (.int .i64 0),.d (.int .i64 b)]) rfl ?_ ?_ ?_ ?_ rfl rfl
 ·simp
 ·simp[aj]
 ·rw[Y9,CU]
 ·simp
theorem Ml(G:List (List DV))(e p:Int)(hf:fT e p≠0):aa prog G 230 [fA e p,.c (.d (.int .i64 0)),.c (.d .nilsl)] (.tup [SF 0 0 0 0,.c (.d (.int .i64 2))]):=by
 have hc:=kW G e p;refine aa.enc func230 rfl (λlv=>rfl) λ_=>aab ?_;refine aaa λK hK=>aaw 2 hc hf ?_;refine aag (by simp[hf]<;>omega) (aam T6 ?_);refine aal ?_;refine bO.jQ (κ:=0) (T:=282) (t:=6) (u:=7) (k:=1) (off:=0) (own:=true) (fz:=false) (U:=282) (cs:=[.d (.int .i64 0),.d (.int .i64 0),.d (.int .i64 0),.d (.int .i64 0)]) rfl ?_ ?_ ?_ ?_ rfl rfl
 ·simp
 ·simp[aj]
 ·rw[Y9,CU]
 ·simp
theorem Jo(G:List (List DV))(k:Int)(h1:-20000<=k)(h2:k<=20000):aa prog G 286 [.c (.d (.int .i64 k))] (gk (aM 1 k)):=by
 have h:=N6 G k h1 h2;generalize aM 1 k=r at*
 refine aa.enc func286 rfl (λlv=>gb lv _ _ _) λ_=>aab ?_;refine aar 1 h ?_;refine aap @bU @aj.eq_1 ?_;refine aal ?_;refine bO.cell (κ:=0) (T:=224) (t:=2) (k:=0) (off:=0) (own:=true) (fz:=false) (U:=224) (cs:=[.d (.bool (decide (r.num<0))),nC (cV r.num.natAbs),nC (eF r.den)]) rfl ?_ ?_ ?_
 ·simp
 ·simp[aj]
 ·rw[Y9,bU]
theorem vX(G:List (List DV))(x:Rat)(k:Int)(hx:j6 x 10000000000)(h1:-20000<=k)(h2:k<=20000):aa prog G 232 [gk x,.c (.d (.int .i64 k))] (gk (aM x k)):=by
 have h:=AH G x k hx h1 h2;generalize aM x k=r at*
 refine aa.enc func232 rfl (λlv=>gb lv _ _ _) λ_=>aab ?_;refine aar 2 h ?_;refine aap @bU @aj.eq_1 ?_;refine aal ?_;refine bO.cell (κ:=0) (T:=224) (t:=4) (k:=1) (off:=0) (own:=true) (fz:=false) (U:=224) (cs:=[.d (.bool (decide (r.num<0))),nC (cV r.num.natAbs),nC (eF r.den)]) rfl ?_ ?_ ?_
 ·simp
 ·simp[aj]
 ·rw[Y9,bU]
def Ju(G:List (List DV))(x:Rat)(hx:x≠0)(hs:j6 x 10000000):aa prog G 234 [gk x] (.c (.d (.int .i64 (gj x)))):=by
 have h:=PO G x hx hs;refine aa.en func234 rfl λ_=>aab ?_;refine aar 1 h ?_;refine aab ?_;exact aae (au.rt rfl 2 (by simp))
def CT(G:List (List DV))(e p m b:Int)(h1:0<=b)(h2:b<=100000):aa prog G 284 [SF e p m b] (.c (.d (.int .i64 (1-b)))):=by
 have w:i64.wrap (1-b)=1-b:=bF (by omega) (by omega);refine aa.en func284 rfl λ_=>aab ?_;refine aam w ?_;exact aae (au.rt rfl 2 (by simp))
def jS(p b l:Int):Int:=max l (1-b)-p+1
def FL(G:List (List DV))(e p m b l:Int)(h1:0<=b)(h2:b<=100000)(h3:0<=p)(h4:p<=100000)(h5:-1000000<=l)(h6:l<=1000000):aa prog G 233 [SF e p m b,.c (.d (.int .i64 l))] (.c (.d (.int .i64 (jS p b l)))):=by
 have h:=CT G e p m b h1 h2;have mx:(List.foldl (λa b:Int=>if a<b then b else a) l [1-b])=max l (1-b):=by simp only[List.foldl];split<;>omega
 have w1:i64.wrap (max l (1-b)-p)=max l (1-b)-p:=bF (by omega) (by omega);have w2:i64.wrap (max l (1-b)-p+1)=jS p b l:=by unfold jS;exact bF (by omega) (by omega)
 refine aa.en func233 rfl λ_=>aab ?_;refine aaa λK hK=>?_;refine aaq mixed (by kernel_rfl) rfl ?_;simp;refine ag.p 1 9 h ?_;simp[dL,mx,w1,w2,-List.foldl_cons,-List.foldl_nil];refine⟨by kernel_rfl,?_⟩;apply hK;exact aae (au.rt rfl 4 (by simp))
def eS(p b:Int):Rat:=aM (aM 1 p-1) (b-p+1)
def jK(L:Nat)(h:1<=L):j6 1 L:=⟨by show nl 1<=_;rw[rJ];exact h,by show nl 1<=_;rw[rJ];exact h⟩
def qP(p:Int)(h1:0<=p)(h2:p<=10000):j6 (aM 1 p-1) 1000:=by
 rw[acu];have h:=jF (jK 1 (aY _)) p;have:=Pw (bY h (show 1+p.natAbs/32+1<=400 by omega)) (xy (jK 400 (by omega)));exact bY this (by omega)
def AL(p b:Int)(h1:0<=p)(h2:p<=10000)(h3:0<=b)(h4:b<=5000):j6 (eS p b) 2000:=by
 refine bY (jF (qP p h1 h2) _) (by omega)
theorem yS(G:List (List DV))(e p m b:Int)(h1:0<=b)(h2:b<=5000)(h3:0<=p)(h4:p<=10000):aa prog G 237 [SF e p m b] (gk (eS p b)):=by
 have k1:=Jo G p (by omega) (by omega);have k2:aa prog G 263 [.c (.d (.int .i64 1))] (gk (1:Rat)):=HC G 1 (by decide) (by decide);have k3:=O3 G (aM 1 p) 1 (bY (jF (jK 1 (aY _)) p) (by omega)) (jK _ (by omega));have k4:=vX G (aM 1 p-1) (b-p+1) (bY (qP p h3 h4) (by omega)) (by omega) (by omega);rw[show aM (aM 1 p-1) (b-p+1)=eS p b from rfl]at k4;have w1:i64.wrap (b-p)=b-p:=bF (by omega) (by omega);have w2:i64.wrap (b-p+1)=b-p+1:=bF (by omega) (by omega);generalize eS p b=r at*
 generalize aM 1 p-1=r2 at*
 generalize aM 1 p=r1 at*
 generalize (1:Rat)=r0 at*
 refine aa.enc func237 rfl (λlv=>gb lv _ _ _) λ_=>aab ?_;refine aaa λK hK=>?_;refine aaq mixed (by kernel_rfl) rfl ?_;simp;refine ag.p 2 9 k1 ?_;simp;refine ag.p 2 9 k2 ?_;simp;refine ag.p 2 9 k3 ?_;simp[w1,w2];refine ag.p 2 9 k4 ?_;simp;refine⟨by kernel_rfl,?_⟩;apply hK;refine aal ?_;refine bO.cell (κ:=0) (T:=224) (t:=2) (k:=1) (off:=0) (own:=true) (fz:=false) (U:=224) (cs:=[.d (.bool (decide (r.num<0))),nC (cV r.num.natAbs),nC (eF r.den)]) rfl ?_ ?_ ?_
 ·simp
 ·simp[aj]
 ·rw[Y9,bU]
def iD(x:Rat):Rat:=if x<0 then -x else x
def RF(x:Rat):gk (iD x)=qn false (cV x.num.natAbs) (eF x.den):=by
 unfold iD;split
 ·rename_i h
  have:x.num<0:=by
   have:=(Rat.lt_iff x 0).1 h;simpa using this
  show qn (decide ((-x).num<0)) (cV (-x).num.natAbs) (eF (-x).den)=_;rw[Rat.neg_num,Rat.neg_den,Int.natAbs_neg,decide_eq_false (by omega)]
 ·rename_i h
  have:¬x.num<0:=λhn=>h ((Rat.lt_iff x 0).2 (by simpa using hn))
  show qn (decide (x.num<0)) _ _=_;rw[decide_eq_false this]
def Ou(G:List (List DV))(x:Rat):aa prog G 236 [gk x] (gk (iD x)):=by
 rw[RF];exact G4 _ _ _ _
def xG{x:Rat}{L:Nat}(h:j6 x L):j6 (iD x) L:=by
 unfold iD;split
 ·exact xy h
 ·exact h
theorem IU(G:List (List DV))(x:Rat):aa prog G 235 [gk x] (.c (.d (.bool (decide (x.den=1))))):=by
 have h:=CN G (decide (x.num<0)) (cV x.num.natAbs) (eF x.den);have e:(eF x.den).isNone=decide (x.den=1):=by unfold eF;split<;>simp_all
 rwa[e]at h
def hasB(e p:Int)(x:Rat):Bool:=
 decide (fT e p=0)&&(decide (x=0) ||(decide ((aM x (-(jS p (bB e) (gj x)))).den=1)&&decide (iS (iD x) (eS p (bB e))<=0)))
def tV(G:List (List DV))(e p:Int)(x:Rat)(hs:j6 x 300):aa prog G 160 [fA e p,gk x] (.c (.d (.bool (hasB e p x)))):=by
 by_cases hf:fT e p=0
 rotate_left
 ·have hw:=Ml G e p hf;have hb:hasB e p x=false:=by unfold hasB;rw[decide_eq_false hf];rfl
  refine aa.en func160 rfl λ_=>aab ?_;refine aar 2 hw ?_;refine aaa λK hK=>aaf (aab ?_)
  refine aai (aab ?_);exact aae (au.rt rfl 4 (by simp[hb]))
 obtain⟨f1,f2,f3,f4,f5⟩:=jN hf;obtain⟨g1,g2,_⟩:=uz f1 f2;have hw:=N8 G e p hf;have hg:=lJ G (decide (x.num<0)) (cV x.num.natAbs) (eF x.den)
 by_cases hx:x=0
 ·have hb:hasB e p x=true:=by unfold hasB;rw[decide_eq_true hf,decide_eq_true hx];rfl
  have hz:=Mu hx;refine aa.en func160 rfl λ_=>aab ?_;refine aar 2 hw ?_;refine aaa λK hK=>aaf (aab ?_)
  refine aah (aaw 3 hg hz ?_);refine aag (by simp[hz]<;>omega) (aab ?_);exact aae (au.rt rfl 4 (by simp[hb]))
 have hne:=MB hx;have hl:=Ju G x hx (bY hs (by omega));obtain⟨l1,l2⟩:=zi hx hs;have hst:=FL G e p 0 (bB e) (gj x) (by omega) (by omega) (by omega) (by omega) (by omega) (by omega);have s1:-20000<=-(jS p (bB e) (gj x)):=by unfold jS;omega
 have s2:-(jS p (bB e) (gj x))<=20000:=by unfold jS;omega
 have hsh:=vX G x (-(jS p (bB e) (gj x))) (bY hs (by omega)) s1 s2;have hin:=IU G (aM x (-(jS p (bB e) (gj x))));have hab:=Ou G x;have hgr:=yS G e p 0 (bB e) (by omega) (by omega) (by omega) (by omega);have hcm:=Iz G (iD x) (eS p (bB e)) (bY (xG hs) (by omega)) (bY (AL p (bB e) (by omega) (by omega) (by omega) (by omega)) (by omega))
 have hb:hasB e p x=(decide ((aM x (-(jS p (bB e) (gj x)))).den=1)&&decide (iS (iD x) (eS p (bB e))<=0)):=by
  unfold hasB;rw[decide_eq_true hf,decide_eq_false hx];rfl
 have w:i64.wrap (-(jS p (bB e) (gj x))) = -(jS p (bB e) (gj x)):=bF (by omega) (by omega);generalize iS (iD x) (eS p (bB e))=cm at*
 generalize eS p (bB e)=gr at*
 generalize iD x=ab at*
 generalize aM x (-(jS p (bB e) (gj x)))=sh at*
 generalize jS p (bB e) (gj x)=st at*
 generalize gj x=lo at*
 generalize bB e=b at*
 by_cases hi:sh.den=1
 ·have hb2:hasB e p x=decide (cm<=0):=by rw[hb,decide_eq_true hi];rfl
  refine aa.en func160 rfl λ_=>aab ?_;refine aar 2 hw ?_;refine aaa λK hK=>aaf (aab ?_)
  refine aah (aaw 3 hg hne ?_);refine aaj (by simp[hne]<;>omega) (aad (hK _ _ (aaa λK hK=>?_)));refine aaq mixed (by kernel_rfl) rfl ?_;simp[aj];refine ag.p 3 9 hl ?_;simp;refine ag.p 3 9 hst ?_;simp[w];refine ag.p 3 9 hsh ?_;simp;refine ag.p 3 9 hin ?_;simp[hi];refine ag.p 3 9 hab ?_;simp;refine ag.p 3 9 hgr ?_;simp;refine ag.p 3 9 hcm ?_;simp;refine⟨by kernel_rfl,?_⟩;apply hK;exact aae (au.rt rfl 4 (by simp[hb2]))
 ·have hb2:hasB e p x=false:=by rw[hb,decide_eq_false hi];rfl
  refine aa.en func160 rfl λ_=>aab ?_;refine aar 2 hw ?_;refine aaa λK hK=>aaf (aab ?_)
  refine aah (aaw 3 hg hne ?_);refine aaj (by simp[hne]<;>omega) (aad (hK _ _ (aaa λK hK=>?_)));refine aaq mixed (by kernel_rfl) rfl ?_;simp[aj];refine ag.p 3 9 hl ?_;simp;refine ag.p 3 9 hst ?_;simp[w];refine ag.p 3 9 hsh ?_;simp;refine ag.p 3 9 hin ?_;simp[hi];refine⟨by kernel_rfl,?_⟩;apply hK;exact aae (au.rt rfl 4 (by simp[hb2]))
theorem xQ(h:fc s=true)(h0:s≠[48])(h1:s≠[49]):2<=aP s 0:=by
 obtain⟨hD,hne⟩:=oX h;unfold fc at h;simp only[cn,ZK,Zy,decide_eq_true_eq,decide_eq_false_iff_not]at h
 have h4:s.getD 0 0≠48:=by
  rcases h.2 with h3|h3
  ·exact absurd h3 h0
  ·exact h3
 cases s with
 |nil=>exact absurd rfl hne
 |cons c l=>
  have hc:=hD c (by simp);have hc48:c≠48:=h4;have hcn:c.toNat≠48:=λe=>hc48 (UInt8.toNat_inj.1 (by rw[e];rfl))
  have e:aP (c::l) 0=(c.toNat-48)*10^l.length+aP l 0:=by
   show aP l (10*0+(c.toNat-48))=_;rw[fB,Z7,Zw]
  rw[e]
  cases l with
  |nil=>
   have hc49:c.toNat≠49:=λe=>h1 (by rw[UInt8.toNat_inj.1 (show c.toNat=(49:UInt8).toNat by rw[e];rfl)])
   show 2<=(c.toNat-48)*10^0+0;omega
  |cons d l=>
   have h10:10<=10^(d::l).length:=by
    rw[ZA,Zl];have:=Zv (a:=10) (n:=l.length) (by decide);omega
   have:1*10<=(c.toNat-48)*10^(d::l).length:=aa6 (by omega) h10;omega
def og(neg:Bool)(top bot:List UInt8)(brk:Bool):Rat:=if dJ neg top bot brk=0 then mkRat (dX neg (aP top 0)) (if brk=true then aP bot 0 else 1)else 0
def Lp(s:List UInt8):(val 4294967296 (dO (pQ s)))=aP s 0:=by show val 4294967296 (aK 4294967296 (aP s 0))=_;rw[eD]
def Cd(s:List UInt8):can 4294967296 (dO (pQ s)):=gI _
def TG(s t:List UInt8):(val 4294967296 (dO (gO (pQ s) (pQ t))))=Nat.gcd (aP s 0) (aP t 0):=by
 unfold gO;rw[yd (Cd s) (Cd t),eD,Lp,Lp]
def Gy{neg:Bool}{top bot:List UInt8}{brk:Bool}(h:jm neg top bot brk=false):fc top=true/\(brk=true->fc bot=true/\bot≠[48]/\bot≠[49]):=by
 unfold jm at h;simp only[Bool.or_eq_false_iff,Bool.not_eq_false',Bool.and_eq_false_iff,decide_eq_false_iff_not]at h;obtain⟨⟨h1,_⟩,h3⟩:=h;refine⟨h1,λhb=>?_⟩;rcases h3 with h3|h3
 ·rw[hb]at h3;cases h3
 ·exact⟨h3.1.1,h3.1.2,h3.2⟩
theorem GW(neg:Bool)(top bot:List UInt8)(brk:Bool):eZ neg top bot brk=.tup [gk (og neg top bot brk),.c (.d (.int .i64 (dJ neg top bot brk)))]:=by
 by_cases h1:jm neg top bot brk=true
 ·have e:dJ neg top bot brk=6:=by unfold dJ;rw[if_pos h1]
  have e2:og neg top bot brk=0:=by unfold og;rw[e,if_neg (by decide)]
  rw[e,e2];unfold eZ;rw[if_pos h1];rfl
 by_cases h2:2000<max top.length bot.length
 ·have e:dJ neg top bot brk=3:=by unfold dJ;rw[if_neg h1,if_pos h2]
  have e2:og neg top bot brk=0:=by unfold og;rw[e,if_neg (by decide)]
  rw[e,e2];unfold eZ;rw[if_neg h1,if_pos h2];rfl
 obtain⟨g1,g2⟩:=Gy (by simpa using h1)
 by_cases h3:brk=false
 ·have e:dJ neg top bot brk=0:=by unfold dJ;rw[if_neg h1,if_neg h2,if_pos h3]
  have e2:og neg top bot brk=mkRat (dX neg (aP top 0)) 1:=by unfold og;rw[e,if_pos rfl,h3];rfl
  rw[e,e2];unfold eZ;rw[if_neg h1,if_neg h2,if_pos h3];rw[A4 neg (Cd top) (q:=some (aK 4294967296 1)) (gI 1) (mc (by decide)),Lp,aX,eD]
 have hb:brk=true:=by simpa using h3
 obtain⟨r1,r2,r3⟩:=g2 hb;have hge:=xQ r1 r2 r3
 by_cases h4:(val 4294967296 (dO (gO (pQ top) (pQ bot))))=1
 ·have e:dJ neg top bot brk=0:=by unfold dJ;rw[if_neg h1,if_neg h2,if_neg h3,if_pos h4]
  have e2:og neg top bot brk=mkRat (dX neg (aP top 0)) (aP bot 0):=by unfold og;rw[e,if_pos rfl,hb];rfl
  rw[e,e2];unfold eZ;rw[if_neg h1,if_neg h2,if_neg h3,if_pos h4];rw[TG]at h4;have ha:aP top 0≠0:=by intro h0;rw[h0,acv]at h4;omega
  obtain⟨n1,n2⟩:=jc neg (a:=aP top 0) (b:=aP bot 0) (by omega);rw[h4,aaZ]at n1 n2;show AV.tup [qn neg (some (aK 4294967296 (aP top 0))) (some (aK 4294967296 (aP bot 0))),_]=AV.tup [qn (decide ((mkRat (dX neg (aP top 0)) (aP bot 0)).num<0)) (cV (mkRat (dX neg (aP top 0)) (aP bot 0)).num.natAbs) (eF (mkRat (dX neg (aP top 0)) (aP bot 0)).den),_];rw[n1,n2,s5,Hg neg ha];unfold cV eF;rw[if_neg ha,if_neg (by omega)]
 ·have e:dJ neg top bot brk=6:=by unfold dJ;rw[if_neg h1,if_neg h2,if_neg h3,if_neg h4]
  have e2:og neg top bot brk=0:=by unfold og;rw[e,if_neg (by decide)]
  rw[e,e2];unfold eZ;rw[if_neg h1,if_neg h2,if_neg h3,if_neg h4];rfl
def KI(L:Nat)(h:1<=L):j6 0 L:=⟨by show nl 0<=_;exact Zi _,by show nl 1<=_;rw[rJ];exact h⟩
def sJ(h:wk s)(hl:s.length<=2000):nl (aP s 0)<=300:=by
 have:=RY (nT h);omega
def N2(neg:Bool)(top bot:List UInt8)(brk:Bool):j6 (og neg top bot brk) 300:=by
 unfold og;split
 ·rename_i h
  have h1:¬jm neg top bot brk=true:=by
   intro hb;unfold dJ at h;rw[if_pos hb]at h;cases h
  have h2:¬2000<max top.length bot.length:=by
   intro hb;unfold dJ at h;rw[if_neg h1,if_pos hb]at h;cases h
  obtain⟨g1,g2⟩:=Gy (by simpa using h1);split
  ·rename_i hb
   obtain⟨r1,r2,r3⟩:=g2 hb;have hge:=xQ r1 r2 r3;exact oH _ (by omega) (sJ (oX g1).1 (by omega)) (sJ (oX r1).1 (by omega))
  ·exact oH _ (by decide) (sJ (oX g1).1 (by omega)) (by rw[rJ];decide)
 ·exact KI _ (by decide)
def eE(r:List UInt8):Int:=dJ (tN r [45]) (uk (lF r [45]) [47]) (s7 (lF r [45]) [47]) (decide (0<=kP (lF r [45]) [47]))
def fL(r:List UInt8):Rat:=og (tN r [45]) (uk (lF r [45]) [47]) (s7 (lF r [45]) [47]) (decide (0<=kP (lF r [45]) [47]))
def xk(r:List UInt8):j6 (fL r) 300:=N2 ..
def Ax(m:Int)(r:List UInt8):aa prog (GG m) 159 [.c (.d (.str r))] (.tup [gk (fL r),.c (.d (.int .i64 (eE r)))]):=by
 have h:=Dw m r;rwa[GW]at h
def IP(m:Int)(r:List UInt8):aa prog (GG m) 163 [.c (.d (.str r))] (.c (.d (.int .i64 (eE r)))):=Ab m r
def jx(G:List (List DV))(n m:Int):aa prog G 87 [.c (.d (.int .i64 n)),.c (.d (.int .i64 m))] (.c (.d (.bool (decide (0<=n/\n<m))))):=by
 refine aa.en func87 rfl λ_=>aab ?_;refine aaa λK hK=>?_
 by_cases h:0<=n
 ·refine aas h (hK _ _ ?_);exact aae (au.rt rfl 4 (by simp[h]))
 ·refine aas h (hK _ _ ?_);exact aae (au.rt rfl 4 (by simp[h]))
def CY(G:List (List DV))(n:Int):aa prog G 96 [.c (.d (.int .i64 n))] (.c (.d (.bool (decide (1<=n/\n<=15))))):=by
 refine aa.en func96 rfl λ_=>aab ?_;refine aaa λK hK=>?_
 by_cases h:1<=n
 ·refine aas h (hK _ _ ?_);exact aae (au.rt rfl 2 (by simp[h]))
 ·refine aas h (hK _ _ ?_);exact aae (au.rt rfl 2 (by simp[h]))
def jZ(p:PD)(i:Int):Int:=if i<p.head then 0 else if i<p.tail then 1 else 2
def qZ(G:List (List DV))(p:PD)(i:Int):aa prog G 88 [p.A,.c (.d (.int .i64 i))] (.c (.d (.int .i64 (jZ p i)))):=by
 refine aa.en func88 rfl λ_=>aab ?_;refine aaa λK hK=>aaf (aab ?_)
 by_cases h:i<p.head
 ·refine aag (by simp[h]<;>omega) (aab ?_);exact aae (au.rt rfl 4 (by simp[jZ,h]))
 ·refine aaj (by simp[h]<;>omega) (aab ?_)
  by_cases h2:i<p.tail
  ·refine aag (by simp[h2]<;>omega) (aab ?_);exact aae (au.rt rfl 4 (by simp[jZ,h,h2]))
  ·refine aaj (by simp[h2]<;>omega) (aad (hK _ _ (aab ?_)));exact aae (au.rt rfl 4 (by simp[jZ,h,h2]))
@[simp]theorem PD.Yz(p:PD):(AV.agg [dc p.f,.d (.int .i64 p.mode),dc p.ins,dc p.nodes,.d (.int .i64 p.head),.d (.int .i64 p.tail),dc p.states,.d (.int .i64 p.res)]).pure=true:=by
 obtain⟨f,a,i,n,b,c,s,d⟩:=p
 cases f<;>cases i<;>cases n<;>cases s<;>rfl
def de(p:PD)(i k:Int):Bool:=decide (0<=k/\k<i)&&(decide (jZ p k=0) ||decide (jZ p k=jZ p i))
def NY(G:List (List DV))(p:PD)(i k:Int):aa prog G 164 [p.A,.c (.d (.int .i64 i)),.c (.d (.int .i64 k))] (.c (.d (.bool (de p i k)))):=by
 refine aa.en func164 rfl λ_=>aab ?_;refine aaa λK hK=>aaa λK1 hK1=>?_
 by_cases h1:k<0
 ·have h1':¬0<=k:=by omega
  refine aas h1 (hK1 _ _ ?_);refine aai (aab ?_);exact aae (au.rt rfl 6 (by simp[de,h1']))
 have h0:0<=k:=by omega
 by_cases h2:i<=k
 ·have h2':¬k<i:=by omega
  refine aau h1 h2 (hK1 _ _ ?_);refine aai (aab ?_);exact aae (au.rt rfl 6 (by simp[de,h2']))
 have h2':k<i:=by omega
 refine aau h1 h2 (hK1 _ _ ?_);refine aah (aad (hK _ _ (aak λK hK=>?_)));simp;refine ag.pure 1 9 (qZ _ p k) (by simp) (by simp) rfl ?_;simp;apply hK;refine aaa λK hK=>?_
 by_cases h3:jZ p k=0
 ·refine aas h3 (hK _ _ ?_);exact aae (au.rt rfl 6 (by simp[de,h0,h2',h3]))
 ·refine aac ?_;simp[h3];refine ag.pure 1 9 (qZ _ p i) (by simp) (by simp) rfl ?_;simp;apply hK;exact aae (au.rt rfl 6 (by simp[de,h0,h2',h3]))
def dB(p:PD):Int:=
 if 6<(sO p.f).length\/6<(sO p.ins).length\/64<(sO p.nodes).length\/4<(sO p.states).length then 3
 else if (sO p.f).length=0\/(sO p.nodes).length=0\/p.mode<0\/4<p.mode then 2
 else if p.head<0\/p.tail<p.head\/((sO p.nodes).length:Int)<p.tail then 2
 else if (sO p.states).length=0/\p.head≠(sO p.nodes).length then 2 else 0
theorem Gu(G:List (List DV))(p:PD):aa prog G 82 [p.A] (.c (.d (.int .i64 (dB p)))):=by
 have lp0:∀(lv:Key->LB) (o:Option (List (List DV))),eJ prog 22 lv (oV o)=some (.c (.d (.int .i64 (sO o).length)),[],[],True):=λlv o=>cE (by simp)
 have lp2:∀(lv:Key->LB) (o:Option (List (List DV))),eJ prog 23 lv (oV o)=some (.c (.d (.int .i64 (sO o).length)),[],[],True):=λlv o=>cE (by simp)
 have lp3:∀(lv:Key->LB) (o:Option (List (List DV))),eJ prog 24 lv (oV o)=some (.c (.d (.int .i64 (sO o).length)),[],[],True):=λlv o=>cE (by simp)
 have lp6:∀(lv:Key->LB) (o:Option (List (List DV))),eJ prog 25 lv (oV o)=some (.c (.d (.int .i64 (sO o).length)),[],[],True):=λlv o=>cE (by simp)
 refine aa.en func82 rfl λ_=>aab ?_;refine aam lp3 ?_;refine aaa λK hK=>aaf (aaa λK1 hK1=>?_)
 have toK1:∀(fr:Nat->AV) (κ:Nat) (b:Bool),fr 1=.c (.ptr 0 0)->fr 3=.c (.d (.int .i64 (sO p.nodes).length))->fr 8=.c (.d (.bool b)) ->
  (b=decide (6<(sO p.f).length\/6<(sO p.ins).length\/64<(sO p.nodes).length\/4<(sO p.states).length)) ->
  K1 ⟨fr,az (λ_=>.hole) 0 (.cells true false 154 p.cs)⟩ κ:=by
  intro fr κ b z1 z3 z8 hb;apply hK1
  cases b with
  |true=>
   have h:=of_decide_eq_true hb.symm;refine aag (by simp[z8]<;>omega) (aab ?_);exact aae (au.rt rfl 9 (by simp[dB,if_pos h]))
  |false=>
   have h:=of_decide_eq_false hb.symm;refine aaj (by simp[z8]<;>omega) (aaa λK2 hK2=>?_)
   have toK2:∀(fr:Nat->AV) (κ:Nat) (b:Bool),fr 1=.c (.ptr 0 0)->fr 3=.c (.d (.int .i64 (sO p.nodes).length))->fr 26=.c (.d (.bool b)) ->
    (b=decide ((sO p.f).length=0\/(sO p.nodes).length=0\/p.mode<0\/4<p.mode)) ->
    K2 ⟨fr,az (λ_=>.hole) 0 (.cells true false 154 p.cs)⟩ κ:=by
    intro fr κ b y1 y3 y26 hb2;apply hK2
    cases b with
    |true=>
     have h2:=of_decide_eq_true hb2.symm;refine aag (by simp[y26]<;>omega) (aab ?_);have hg:dB p=2:=by unfold dB;rw[if_neg h,if_pos h2]
     exact aae (au.rt rfl 9 (by simp[hg]))
    |false=>
     have h2:=of_decide_eq_false hb2.symm;refine aaj (by simp[y26]<;>omega) (aaa λK3 hK3=>?_)
     have toK3:∀(fr:Nat->AV) (κ:Nat) (b:Bool),fr 1=.c (.ptr 0 0)->fr 3=.c (.d (.int .i64 (sO p.nodes).length))->fr 42=.c (.d (.bool b)) ->
      (b=decide (p.head<0\/p.tail<p.head\/((sO p.nodes).length:Int)<p.tail)) ->
      K3 ⟨fr,az (λ_=>.hole) 0 (.cells true false 154 p.cs)⟩ κ:=by
      intro fr κ b x1 x3 x42 hb3;apply hK3
      cases b with
      |true=>
       have h3:=of_decide_eq_true hb3.symm;refine aag (by simp[x42]<;>omega) (aab ?_);have hg:dB p=2:=by unfold dB;rw[if_neg h,if_neg h2,if_pos h3]
       exact aae (au.rt rfl 9 (by simp[hg]))
      |false=>
       have h3:=of_decide_eq_false hb3.symm;refine aaj (by simp[x42]<;>omega) (aaa λK4 hK4=>?_)
       have fin0:dB p=0->∀(fr:Nat->AV) (κ:Nat) (lv:Key->LB),lv 9=.hole->K ⟨fr,lv⟩ κ:=by
        intro hg fr κ lv h9;apply hK;refine aab ?_;exact aal (κ:=0) (au.tmp (κ:=0) rfl 9 (by simp[hg]) rfl (by simp[h9]) rfl)
       by_cases e1:sO p.states=[]
       ·by_cases e2:p.head=((sO p.nodes).length:Int)
        ·have hg:dB p=0:=by unfold dB;rw[if_neg h,if_neg h2,if_neg h3,if_neg (λhh=>hh.2 e2)]
         refine aac ?_;simp[x1,x3,lp6,e1,e2];apply hK4;refine aah (aad ?_);simp;exact fin0 hg _ _ _ (by simp)
        ·have hg:dB p=2:=by unfold dB;rw[if_neg h,if_neg h2,if_neg h3,if_pos ⟨by rw[e1];rfl,e2⟩]
         refine aac ?_;simp[x1,x3,lp6,e1,e2];apply hK4;refine aai (aab ?_);exact aae (au.rt rfl 9 (by simp[hg]))
       ·have hg:dB p=0:=by unfold dB;rw[if_neg h,if_neg h2,if_neg h3,if_neg (λhh=>e1 (List.length_eq_zero_iff.1 hh.1))]
        refine aay x1 x3 lp6 e1 (hK4 _ _ ?_);refine aah (aad ?_);simp;exact fin0 hg _ _ _ (by simp)
     refine aam y1 ?_
     by_cases f1:p.head<0
     ·refine aag (by simp[f1]<;>omega) (aad ?_);simp;exact toK3 _ _ true (by simp[y1]) (by simp[y3]) (by simp[f1]) (by simp[f1])
     refine aaj (by simp[f1]<;>omega) (aam y1 ?_)
     by_cases f2:p.tail<p.head
     ·refine aag (by simp[f2]<;>omega) (aad ?_);simp;exact toK3 _ _ true (by simp[y1]) (by simp[y3]) (by simp[f2]) (by simp[f2])
     refine aaj (by simp[f2]<;>omega) (aac ?_);simp[y1,y3];exact toK3 _ _ (decide (((sO p.nodes).length:Int)<p.tail)) (by simp[y1]) (by simp[y3]) (by simp) (by simp[f1,f2])
   refine aap z1 lp0 ?_
   by_cases c1:(sO p.f).length=0
   ·have c1l:sO p.f=[]:=List.length_eq_zero_iff.1 c1;refine aag (by simp[c1l]<;>omega) (aad ?_);simp;exact toK2 _ _ true (by simp[z1]) (by simp[z3]) (by simp[c1l]) (by simp[c1l])
   have c1l:¬sO p.f=[]:=λe=>c1 (by rw[e];rfl)
   refine aaj (by simp[c1l]<;>omega) (aam z3 ?_)
   by_cases c2:(sO p.nodes).length=0
   ·have c2l:sO p.nodes=[]:=List.length_eq_zero_iff.1 c2;refine aag (by simp[c2l]<;>omega) (aad ?_);simp;exact toK2 _ _ true (by simp[z1]) (by simp[z3]) (by simp[c2l]) (by simp[c2l])
   have c2l:¬sO p.nodes=[]:=λe=>c2 (by rw[e];rfl)
   refine aaj (by simp[c2l]<;>omega) (aam z1 ?_)
   by_cases c3:p.mode<0
   ·refine aag (by simp[c3]<;>omega) (aad ?_);simp;exact toK2 _ _ true (by simp[z1]) (by simp[z3]) (by simp[c3]) (by simp[c3])
   refine aaj (by simp[c3]<;>omega) (aac ?_);simp[z1];exact toK2 _ _ (decide (4<p.mode)) (by simp[z1]) (by simp[z3]) (by simp) (by simp[c1l,c2l,c3])
 refine aam lp0 ?_
 by_cases d1:6<(sO p.f).length
 ·have d1':(6:Int)<((sO p.f).length:Int):=by omega
  refine aag (by simp[d1']<;>omega) (aad ?_);simp;exact toK1 _ _ true (by simp) (by simp) (by simp[d1']) (by simp[d1])
 have d1':¬(6:Int)<((sO p.f).length:Int):=by omega
 refine aaj (by simp[d1']<;>omega) (aam lp2 ?_)
 by_cases d2:6<(sO p.ins).length
 ·have d2':(6:Int)<((sO p.ins).length:Int):=by omega
  refine aag (by simp[d2']<;>omega) (aad ?_);simp;exact toK1 _ _ true (by simp) (by simp) (by simp[d2']) (by simp[d2])
 have d2':¬(6:Int)<((sO p.ins).length:Int):=by omega
 refine aaj (by simp[d2']<;>omega) (aab ?_)
 by_cases d3:64<(sO p.nodes).length
 ·have d3':(64:Int)<((sO p.nodes).length:Int):=by omega
  refine aag (by simp[d3']<;>omega) (aad ?_);simp;exact toK1 _ _ true (by simp) (by simp) (by simp[d3']) (by simp[d3])
 have d3':¬(64:Int)<((sO p.nodes).length:Int):=by omega
 refine aaj (by simp[d3']<;>omega) (aac ?_);simp[lp6];have d4:((4:Int)<((sO p.states).length:Int))↔4<(sO p.states).length:=by omega
 exact toK1 _ _ (decide (4<(sO p.states).length)) (by simp) (by simp) (by simp[d4]) (by simp[d1,d2,d3])
end Go.Am
namespace Go.Am
variable {fn:Func}{x X:AV}{P:Program}{G es:List (List DV)}{f:FuncId}{code:Code}{args:List AV}{c:Ctx}{t κ k off sz:Nat}{s:aE}{ks:List Key}{T U:TypeId}{own fz:Bool}{cs:List CV}{lv:Key->LB}
theorem aa.O2(hf:P.funcs[f]?=some fn)(hb:fn.body=some code)(hl:args.length<=fn.ntmps)
 (hx:∀lv,fF lv x=some (x,[]))
 (h:∀c:Ctx,c.P=P->c.G=G->c.n=fn.ntmps->c.iV=(λ_=>.hole)->AW c none code ⟨λt=>args.getD t .undef,λ_=>.hole⟩ 0 (bO c fn x)):aa P G f args x:=
 aa.FJ hf hb hl λc h1 h2 h3 h4=>(h c h1 h2 h3 h4).mono λe s κ hq=>bO.d (hx _) hq
def aa.JY(hf:P.funcs[f]?=some fn)(hb:fn.body=some code)(hx:∀lv,fF lv x=some (x,[]))
 (h:∀z:Ev,AW ⟨P,G,z.w,z.F,z.W,fn.ntmps,λ_=>.hole,z.b⟩ none code ⟨λt=>args.getD t .undef,λ_=>.hole⟩ 0 (bO ⟨P,G,z.w,z.F,z.W,fn.ntmps,λ_=>.hole,z.b⟩ fn x)) (hl:Nat.ble args.length fn.ntmps=true:=by kernel_rfl):aa P G f args x:=
 aa.O2 hf hb (Zu hl) hx λ⟨_,_,w,F,W,_,q,b⟩ h1 h2 h3 h4=>by cases h1;cases h2;cases h3;cases h4;exact h ⟨w,F,W,λ_=>.hole,b⟩
def aa.ed(hf:P.funcs[f]?=some fn)(hb:fn.body=some code)
 (h:∀z:Ev,AW ⟨P,G,z.w,z.F,z.W,fn.ntmps,λ_=>.hole,z.b⟩ none code ⟨λt=>args.getD t .undef,λ_=>.hole⟩ 0 (jU ⟨P,G,z.w,z.F,z.W,fn.ntmps,λ_=>.hole,z.b⟩ fn x)) (hl:Nat.ble args.length fn.ntmps=true:=by kernel_rfl):aa P G f args x:=
 aa.FJ hf hb (Zu hl) λ⟨_,_,w,F,W,_,q,b⟩ h1 h2 h3 h4=>by cases h1;cases h2;cases h3;cases h4;exact h ⟨w,F,W,λ_=>.hole,b⟩
theorem ua{lv:Key->LB}{n:Nat}:∀(l:List DV),fN (cR lv n) (l.map CV.d)=some (l,[])
 |[]=>rfl
 |x::l=>by
  have ih:=ua (lv:=lv) (n:=n) l;simp only[Zm,fN]at ih⊢;rw[ih]
  cases n<;>rfl
theorem qN{α:Type}{sz:Nat}:∀(es:List (List α)),(∀e∈es,e.length=sz)->chunk sz es.length es.flatten=es
 |[],_=>rfl
 |e::es,h=>by
  have he:e.length=sz:=h e (by simp);have ih:=qN es λx hx=>h x (by simp[hx])
  have hlen:es.flatten.length=es.length*sz:=by
   rw[List.length_flatten]
   have:∀l:List (List α),(∀e∈l,e.length=sz)->(l.map List.length).sum=l.length*sz:=by
    intro l
    induction l with
    |nil=>intro _;simp
    |cons a l ih=>intro h;simp[ih λx hx=>h x (by simp[hx]),h a (by simp),Nat.succ_mul];omega
   exact this es λx hx=>h x (by simp[hx])
  unfold chunk at ih⊢;rw[ZA,List.range_succ_eq_map,Zm,ZC];congr 1
  ·simp[List.take_left' he]
  ·conv=>rhs;rw[<-ih]
   apply ZP;intro i _;simp only[Function.comp,aa9];have:(i+1)*sz=e.length+i*sz:=by rw[he,Nat.succ_mul];omega
   rw[Nat.succ_eq_add_one,this,List.drop_append,abj (by omega),aaP,aaS]
def jU.tmp(hr:fn.results=#[.tmp t])(hx:s.fr t=X)(hd:fF s.lv X=some (x,ks)):jU c fn x .ret s κ:=
 ⟨X,ks,by rw[hr];simp[cO,iT,j8,hx],hd⟩
def jU.cell(hr:fn.results=#[.cell t T])(ht:s.fr t=.c (.ptr k off))(hk:s.lv k=.cells own fz U cs)
 (hx:eW c.P T (cs.drop off)=some X) (hd:fF s.lv X=some (x,ks)):jU c fn x .ret s κ:=
 ⟨X,ks,by rw[hr];simp[cO,iT,j8,ht,hk,hx],hd⟩
def jU.jQ{y:AV}{u:Nat}(hr:fn.results=#[.cell t T,.tmp u])(ht:s.fr t=.c (.ptr k off))(hk:s.lv k=.cells own fz U cs)
 (hx:eW c.P T (cs.drop off)=some X) (hy:s.fr u=y) (hn:X.cH=true) (hm:y.cH=true) (hd:fF s.lv (.tup [X,y])=some (x,ks)):jU c fn x .ret s κ:=
 ⟨.tup [X,y],ks,by rw[hr];simp[cO,iT,j8,ht,hk,hx,hy,hn,hm],hd⟩
theorem mL{k:Key}(h:lv k=.cells own fz T (es.flatten.map CV.d))(hs:∀e∈es,e.length=sz)(hl:es.length<=9223372036854775807):
 fF lv (.c (.aD k 0 es.length sz))=some (.c (.d (.sl es)),[k]):=by
 have hlen:es.flatten.length=es.length*sz:=by
  rw[List.length_flatten]
  have:∀l:List (List DV),(∀e∈l,e.length=sz)->(l.map List.length).sum=l.length*sz:=by
   intro l
   induction l with
   |nil=>intro _;simp
   |cons a l ih=>intro h;simp[ih λx hx=>h x (by simp[hx]),h a (by simp),Nat.succ_mul];omega
  exact this es hs
 have ht:(es.flatten.map CV.d).take (es.length*sz)=es.flatten.map CV.d:=aa5 (by rw[Zt,hlen];exact aY _);simp only[fF,eP,cR,h,Zt,hlen,Zw,aY,hl,and_self,if_true,Y9,ht,ua,Zs,qN es hs]
def jM(h:∀e∈es,e.length=sz):dY lv sz (.c (.d (.sl es)))=some (es.length,es.flatten.map CV.d):=by
 have h1:es.all (λe=>e.length==sz)=true:=by rw[Zb];intro e he;simp[h e he]
 simp[dY,h1]
end Go.Am
namespace Go.Am
open Go.Am.Ty Go.Proofs N
variable {T:TypeId}{i n:Nat}{P:Program}{op:Int}
structure Nd where
 op:Int
 a:Int
 b:Int
 c:Int
 d:Int
 f:Int
 v:List UInt8
 deriving DecidableEq,Inhabited
structure In where
 f:Int
 lo:List UInt8
 hi:List UInt8
 deriving DecidableEq,Inhabited
@[simp] def Nd.e(n:Nd):List DV:=[.int .i64 n.op,.int .i64 n.a,.int .i64 n.b,.int .i64 n.c,.int .i64 n.d,.int .i64 n.f,.str n.v]
@[simp] def In.e(n:In):List DV:=[.int .i64 n.f,.str n.lo,.str n.hi]
@[simp] def US(n:Int×Int):List DV:=[.int .i64 n.1,.int .i64 n.2]
abbrev Nd.A(n:Nd):AV:=.agg [.d (.int .i64 n.op),.d (.int .i64 n.a),.d (.int .i64 n.b),.d (.int .i64 n.c),.d (.int .i64 n.d),.d (.int .i64 n.f),.d (.str n.v)]
def Py:List DV->Nd
 |[.int _ o,.int _ a,.int _ b,.int _ c,.int _ d,.int _ f,.str v]=>⟨o,a,b,c,d,f,v⟩
 |_=>default
def Rt:List DV->In
 |[.int _ f,.str a,.str b]=>⟨f,a,b⟩
 |_=>default
def QM:List DV->Int×Int
 |[.int _ a,.int _ b]=>(a,b)
 |_=>(0,0)
def LS{e:List DV}(h:P3 e):e=(Py e).e:=by obtain⟨a1,a2,a3,a4,a5,a6,s,rfl⟩:=h;rfl
def RP{e:List DV}(h:Qx e):e=(Rt e).e:=by obtain⟨a,s,t,rfl⟩:=h;rfl
def Kc{e:List DV}(h:J8 e):e=US (QM e):=by obtain⟨a,b,rfl⟩:=h;rfl
def Um(n:Nd):P3 n.e:=⟨_,_,_,_,_,_,_,rfl⟩
def PD.nf(p:PD):Nat:=(sO p.f).length
def PD.ni(p:PD):Nat:=(sO p.ins).length
def PD.nn(p:PD):Nat:=(sO p.nodes).length
def PD.ns(p:PD):Nat:=(sO p.states).length
def PD.fm(p:PD)(i:Nat):Int×Int:=QM ((sO p.f).getD i [])
def PD.AR(p:PD)(i:Nat):In:=Rt ((sO p.ins).getD i [])
def PD.nd(p:PD)(i:Nat):Nd:=Py ((sO p.nodes).getD i [])
def PD.st(p:PD)(i:Nat):Int×Int:=QM ((sO p.states).getD i [])
section
variable {p:PD}(hp:p.ok) (lv:Key->LB) (k:Int) (h0:0<=k)
theorem UE{lv:Key->LB}{o:Option (List (List DV))}{k:Int}{sz:Nat}{e:List DV}(h:(fh P T).map (·.2)=some sz)(h0:0<=k)(hi:k<(sO o).length)(he:(sO o).getD k.toNat []=e)(hs:e.length=sz):
 aq P T lv (oV o) (.c (.d (.int .i64 k)))=some (.c (.d (.ptr e)),[],[],True):=by
 obtain⟨i,rfl⟩:∃i:Nat,k=i:=⟨k.toNat,by omega⟩
 have hi':i<(sO o).length:=by omega
 have e1:(sO o)[i]=e:=by rw[<-he,Zp,Y8,cy hi'];rfl
 rw[j9 h hi' (by rw[e1];exact hs),e1]
def gD{l:List (List DV)}{q:List DV->Prop}(h:∀e∈l,q e)(hi:i<l.length):q (l.getD i []):=by
 rw[Y8,cy hi];exact h _ (bh hi)
include hp h0
theorem UW(hi:k<p.nf):aq prog 22 lv (.c (dc p.f)) (.c (.d (.int .i64 k)))=some (.c (.d (.ptr (US (p.fm k.toNat)))),[],[],True):=
 UE (by simp) h0 hi (Kc (gD hp.f (by unfold PD.nf at hi;omega))) rfl
theorem Vf(hi:k<p.ni):aq prog 23 lv (.c (dc p.ins)) (.c (.d (.int .i64 k)))=some (.c (.d (.ptr (p.AR k.toNat).e)),[],[],True):=
 UE (by simp) h0 hi (RP (gD hp.ins (by unfold PD.ni at hi;omega))) rfl
theorem S3(hi:k<p.nn):aq prog 24 lv (.c (dc p.nodes)) (.c (.d (.int .i64 k)))=some (.c (.d (.ptr (p.nd k.toNat).e)),[],[],True):=
 UE (by simp) h0 hi (LS (gD hp.nodes (by unfold PD.nn at hi;omega))) rfl
theorem W8(hi:k<p.ns):aq prog 25 lv (.c (dc p.states)) (.c (.d (.int .i64 k)))=some (.c (.d (.ptr (US (p.st k.toNat)))),[],[],True):=
 UE (by simp) h0 hi (Kc (gD hp.states (by unfold PD.ns at hi;omega))) rfl
end
def vZ(p:PD)(lv:Key->LB):eJ prog 22 lv (.c (dc p.f))=some (.c (.d (.int .i64 p.nf)),[],[],True):=cE (by simp)
def zV(p:PD)(lv:Key->LB):eJ prog 23 lv (.c (dc p.ins))=some (.c (.d (.int .i64 p.ni)),[],[],True):=cE (by simp)
def iN(p:PD)(lv:Key->LB):eJ prog 24 lv (.c (dc p.nodes))=some (.c (.d (.int .i64 p.nn)),[],[],True):=cE (by simp)
def rZ(p:PD)(lv:Key->LB):eJ prog 25 lv (.c (dc p.states))=some (.c (.d (.int .i64 p.ns)),[],[],True):=cE (by simp)
def bS(op:Int):Nat:=if op<=3 then 0 else if op<=7 then 1 else if op<=13 then 2 else if op=14 then 3 else 4
def fk(op:Int):Nat:=if op=1\/op=2 then 1 else bS op
def DT:List DV:=[.int .i64 0,.int .i64 0,.int .i64 0,.int .i64 1,.int .i64 0,.int .i64 1,.int .i64 0,.int .i64 0,.int .i64 1,.int .i64 1,.int .i64 1,.int .i64 1,.int .i64 1,.int .i64 1,.int .i64 1,.int .i64 1,.int .i64 2,.int .i64 2,.int .i64 2,.int .i64 2,.int .i64 2,.int .i64 2,.int .i64 2,.int .i64 2,.int .i64 2,.int .i64 2,.int .i64 2,.int .i64 2,.int .i64 3,.int .i64 3,.int .i64 4,.int .i64 4]
def M3(m:Int):(GG m)[1]?=some DT:=rfl
def XX(h1:1<=op)(h2:op<=15):op=1\/op=2\/op=3\/op=4\/op=5\/op=6\/op=7\/op=8\/op=9\/op=10\/op=11\/op=12\/op=13\/op=14\/op=15:=by omega
def WK(h1:1<=op)(h2:op<=15):∃rest,∀lv:Key->LB,aq prog 169 lv (.c (.d (.ptr DT))) (.c (.d (.int .i64 op)))=some (.c (.d (.ptr (.int .i64 (bS op)::.int .i64 (fk op)::rest))),[],[],True):=by
 have ha:ug prog 169=some (16,168,2):=by kernel_rfl
 have key:∀(op:Int) (rest:List DV),0<=op->op<16->DT.drop (op.toNat*2)=.int .i64 (bS op)::.int .i64 (fk op)::rest->op.toNat*2<=DT.length->∃rest,∀lv:Key->LB,aq prog 169 lv (.c (.d (.ptr DT))) (.c (.d (.int .i64 op)))=some (.c (.d (.ptr (.int .i64 (bS op)::.int .i64 (fk op)::rest))),[],[],True):=by
  intro op rest g1 g2 g3 g4;refine⟨rest,λlv=>?_⟩;unfold aq;rw[ha];show some (AV.c (.d (.ptr (DT.drop (op.toNat*2)))),([]:List (Key×LB)),([]:List Key),(0<=op/\op<((16:Nat):Int)/\op.toNat*2<=DT.length))=_;rw[g3,eq_true (show 0<=op/\op<((16:Nat):Int)/\op.toNat*2<=DT.length from⟨g1,by omega,g4⟩)]
 rcases XX h1 h2 with rfl|rfl|rfl|rfl|rfl|rfl|rfl|rfl|rfl|rfl|rfl|rfl|rfl|rfl|rfl<;>exact key _ _ (by decide) (by decide) rfl (by decide)
def Nd.l4(n:Nd):List Int:=[n.a,n.b,n.c,n.d]
def bf(n:Nd):List Int:=if 1<=n.op/\n.op<=15 then n.l4.take (bS n.op)else[]
def qx(n:Nd):Option (List Int):=if 1<=n.op/\n.op<=15 then some (n.l4.take (bS n.op))else none
def iW(n:Nd):Bool:=(n.l4.drop (fk n.op)).all (λx=>decide (x=0))&&(decide (n.v=[]) ||decide (n.op=3))
def zD(l:List Int):List (List DV):=l.map λx=>[DV.int .i64 x]
def zC:Option (List Int)->CV
 |none=>.d .nilsl
 |some l=>.d (.sl (zD l))
def zL(o:Option (List Int)):List Int:=o.getD []
def He(o:Option (List Int)):zC o=dc (o.map zD):=by cases o<;>rfl
@[simp]def OA(o:Option (List Int)):(AV.c (zC o)).pure=true:=by cases o<;>rfl
@[simp]def Mj(o:Option (List Int)):(AV.c (zC o)).bC=true:=by cases o<;>rfl
@[simp]def XF(o:Option (List Int))(g:Key->Key):(zC o).bM g=zC o:=by cases o<;>rfl
@[simp]def Vh(o:Option (List (List DV)))(g:Key->Key):(dc o).bM g=dc o:=by cases o<;>rfl
@[simp]def Ww(o:Option (List Nat))(g:Key->Key):(nC o).bM g=nC o:=by cases o<;>rfl
def zK(l:List Int):List CV:=l.map λx=>CV.d (.int .i64 x)
@[simp]def MV(l:List Int):(zK l).length=l.length:=by simp[zK]
def ez(ha:dj P T=some false){l:List Int}(h:i<l.length):eW P T ((zK l).drop i)=some (.c (.d (.int .i64 l[i]))):=by
 have:(zK l).drop i=CV.d (.int .i64 l[i])::(zK l).drop (i+1):=by
  rw[Z6 (by simpa using h)];simp[zK]
 rw[this];simp[ha]
def uw(l:List Int):zK l=(l.map λx=>DV.int .i64 x).map CV.d:=by simp[zK]
def MX{lv:Key->LB}(l:List Int):fN (cR lv n) (zK l)=some (l.map λx=>DV.int .i64 x,[]):=by rw[uw];exact ua _
def Xr(h:(fh prog T).isSome=true)(lv:Key->LB)(o:Option (List Int)):eJ prog T lv (.c (zC o))=some (.c (.d (.int .i64 (zL o).length)),[],[],True):=by
 rw[He];rw[cE h]
 cases o<;>simp[sO,zL,zD]
def Yh(h:(fh prog T).map (·.2)=some 1)(lv:Key->LB)(o:Option (List Int))(hi:i<(zL o).length):aq prog T lv (.c (zC o)) (.c (.d (.int .i64 (i:Int))))=some (.c (.d (.ptr [.int .i64 (zL o)[i]])),[],[],True):=by
 cases o with
 |none=>cases hi
 |some l=>
  rw[He];have hi0:i<l.length:=hi;have hi':i<(sO (Option.map zD (some l))).length:=by show i<(zD l).length;unfold zD;rw[Zt];exact hi0
  have e:(sO (Option.map zD (some l)))[i]=[.int .i64 (zL (some l))[i]]:=by simp[sO,zD,zL]
  rw[j9 h hi' (by rw[e];rfl),e];rfl
def vu(p:PD)(x:In):Int:=
 if ¬(0<=x.f/\x.f<p.nf)then 7
 else if eE x.lo≠0 then eE x.lo
 else if eE x.hi≠0 then eE x.hi
 else if hasB (p.fm x.f.toNat).1 (p.fm x.f.toNat).2 (fL x.lo)=false then 7
 else if hasB (p.fm x.f.toNat).1 (p.fm x.f.toNat).2 (fL x.hi)=false then 7
 else if 0<iS (fL x.lo) (fL x.hi)then 7 else 0
def kB(p:PD)(i:Int)(n:Nd):Int:=
 if ¬(1<=n.op/\n.op<=15)then 2
 else if iW n=false then 2
 else if ¬(0<=n.f/\n.f<p.nf)then 7
 else if n.op=1/\¬(0<=n.a/\n.a<p.ni)then 7
 else if n.op=1/\(p.AR n.a.toNat).f≠n.f then 143
 else if n.op=2/\(i<p.head\/¬(0<=n.a/\n.a<p.ns))then 7
 else if n.op=3 then eE n.v
 else if (bf n).all (de p i)then 0 else 7
def iZ(i f:Int)(n:Nd):Bool:=decide (n.op=2)&&decide (n.a=i)&&!decide (n.f=f)
def xA(p:PD)(i:Int)(s:Int×Int):Int:=
 if ¬(0<=s.1/\s.1<p.head)then 7
 else if ¬(0<=s.2/\s.2<p.tail)then 7
 else if (p.nd s.2.toNat).f≠(p.nd s.1.toNat).f then 143
 else if (List.range p.nn).any (λj=>iZ i (p.nd s.1.toNat).f (p.nd j))then 143 else 0
def jB(e:Nat->Int)(n:Nat):Option Nat:=(List.range n).find? λi=>decide (e i≠0)
def vI{e:Nat->Int}(h:∀j,j<n->e j=0):jB e n=none:=by
 unfold jB;rw[ab2];intro x hx;simp[h x (List.mem_range.1 hx)]
def vH{e:Nat->Int}(hi:i<n)(h:e i≠0)(h0:∀j,j<i->e j=0):jB e n=some i:=by
 unfold jB;rw[List.find?_range_eq_some];exact⟨by simpa using h,List.mem_range.2 hi,λj hj=>by simp[h0 j hj]⟩
def jo(p:PD):Nat->Nat
 |0=>p.nf
 |1=>p.ni
 |2=>p.nn
 |_=>p.ns
def cz(p:PD):Nat->Nat->Int
 |0,i=>fT (p.fm i).1 (p.fm i).2
 |1,i=>vu p (p.AR i)
 |2,i=>kB p i (p.nd i)
 |_,i=>xA p i (p.st i)
def dx(p:PD):Nat->Nat->Int×Int×Int
 |0,_=>if 0<=p.res/\p.res<p.nn/\jZ p p.res≠1 then(0,0,0)else(5,0,7)
 |n+1,k=>match jB (cz p k) (jo p k)with
  |some i=>(k+1,i,cz p k i)
  |none=>dx p n (k+1)
def dA(p:PD):Int×Int×Int:=if dB p≠0 then(0,0,dB p)else dx p 4 0
end Go.Am
namespace Go.Am
open Go.Am.Ty Go.Proofs N
variable {lv:Key->LB}{p:PD}{k a b d:Key}{c:Ctx}{f:FuncId}{T E:TypeId}{x:AV}{own fz:Bool}{K:AV->List (Key×LB)->List Key->Nat->Prop}{n sz B:Nat}{L0 L:List Nd}{l now dm av:List Int}{o:Option (List (List DV))}{e:List DV}{P:Program}{G:List (List DV)}{ν:List LB}{fn:Func}{fr:Nat->AV}{v0:CV}{b60:LB}
theorem Gp(G:List (List DV))(o:Option (List (List DV)))(h:∀e∈sO o,e.length=2)(hl:(sO o).length<=1000000):aa prog G 47 [.c (dc o)] (.c (dc o)):=by
 have e1:aI prog .eql 22 (.c (.d .nilsl)) (.c (.d .nilsl))=some (.c (.d (.bool true)),[],[],True):=by kernel_rfl
 have e2:∀es,aI prog .eql 22 (.c (.d (.sl es))) (.c (.d .nilsl))=some (.c (.d (.bool false)),[],[],True):=λes=>by kernel_rfl
 cases o with
 |none=>
  show aa prog G 47 [.c (.d .nilsl)] (.c (.d .nilsl));refine aa.ed func47 rfl λ_=>aab ?_;refine aaa λK hK=>aam e1 ?_;refine aai (aab ?_);exact aal (κ:=0) (jU.tmp (κ:=0) (X:=.c (.d .nilsl)) (ks:=[]) rfl (by simp) rfl)
 |some es=>
  have h:∀e∈es,e.length=2:=h;have hl:es.length<=1000000:=hl;show aa prog G 47 [.c (.d (.sl es))] (.c (.d (.sl es)));have hsrc:∀lv,dY lv 2 (.c (.d (.sl es)))=some (es.length,es.flatten.map CV.d):=λlv=>jM h
  refine aa.ed func47 rfl λ_=>aab ?_;refine aaa λK hK=>aam e2 ?_;refine aah (aad (hK _ _ (aak λK hK=>?_)));simp[hsrc,jz,fM,keyOf]
  repeat refine ah ?_
  apply hK;refine aal (κ:=0) (jU.tmp (κ:=0) (X:=.c (.aD 1 0 es.length 2)) (ks:=[1]) rfl (by simp) ?_);exact mL (own:=true) (fz:=false) (T:=81) (by simp) h (by omega)
theorem GP(G:List (List DV))(o:Option (List (List DV)))(h:∀e∈sO o,e.length=3)(hl:(sO o).length<=1000000):aa prog G 48 [.c (dc o)] (.c (dc o)):=by
 have e1:aI prog .eql 23 (.c (.d .nilsl)) (.c (.d .nilsl))=some (.c (.d (.bool true)),[],[],True):=by kernel_rfl
 have e2:∀es,aI prog .eql 23 (.c (.d (.sl es))) (.c (.d .nilsl))=some (.c (.d (.bool false)),[],[],True):=λes=>by kernel_rfl
 cases o with
 |none=>
  show aa prog G 48 [.c (.d .nilsl)] (.c (.d .nilsl));refine aa.ed func48 rfl λ_=>aab ?_;refine aaa λK hK=>aam e1 ?_;refine aai (aab ?_);exact aal (κ:=0) (jU.tmp (κ:=0) (X:=.c (.d .nilsl)) (ks:=[]) rfl (by simp) rfl)
 |some es=>
  have h:∀e∈es,e.length=3:=h;have hl:es.length<=1000000:=hl;show aa prog G 48 [.c (.d (.sl es))] (.c (.d (.sl es)));have hsrc:∀lv,dY lv 3 (.c (.d (.sl es)))=some (es.length,es.flatten.map CV.d):=λlv=>jM h
  refine aa.ed func48 rfl λ_=>aab ?_;refine aaa λK hK=>aam e2 ?_;refine aah (aad (hK _ _ (aak λK hK=>?_)));simp[hsrc,jz,fM,keyOf]
  repeat refine ah ?_
  apply hK;refine aal (κ:=0) (jU.tmp (κ:=0) (X:=.c (.aD 1 0 es.length 3)) (ks:=[1]) rfl (by simp) ?_);exact mL (own:=true) (fz:=false) (T:=67) (by simp) h (by omega)
theorem D4(G:List (List DV))(o:Option (List (List DV)))(h:∀e∈sO o,e.length=7)(hl:(sO o).length<=1000000):aa prog G 156 [.c (dc o)] (.c (dc o)):=by
 have e1:aI prog .eql 24 (.c (.d .nilsl)) (.c (.d .nilsl))=some (.c (.d (.bool true)),[],[],True):=by kernel_rfl
 have e2:∀es,aI prog .eql 24 (.c (.d (.sl es))) (.c (.d .nilsl))=some (.c (.d (.bool false)),[],[],True):=λes=>by kernel_rfl
 cases o with
 |none=>
  show aa prog G 156 [.c (.d .nilsl)] (.c (.d .nilsl));refine aa.ed func156 rfl λ_=>aab ?_;refine aaa λK hK=>aam e1 ?_;refine aai (aab ?_);exact aal (κ:=0) (jU.tmp (κ:=0) (X:=.c (.d .nilsl)) (ks:=[]) rfl (by simp) rfl)
 |some es=>
  have h:∀e∈es,e.length=7:=h;have hl:es.length<=1000000:=hl;show aa prog G 156 [.c (.d (.sl es))] (.c (.d (.sl es)));have hsrc:∀lv,dY lv 7 (.c (.d (.sl es)))=some (es.length,es.flatten.map CV.d):=λlv=>jM h
  refine aa.ed func156 rfl λ_=>aab ?_;refine aaa λK hK=>aam e2 ?_;refine aah (aad (hK _ _ (aak λK hK=>?_)));simp[hsrc,jz,fM,keyOf]
  repeat refine ah ?_
  apply hK;refine aal (κ:=0) (jU.tmp (κ:=0) (X:=.c (.aD 1 0 es.length 7)) (ks:=[1]) rfl (by simp) ?_);exact mL (own:=true) (fz:=false) (T:=55) (by simp) h (by omega)
theorem EJ(G:List (List DV))(o:Option (List (List DV)))(h:∀e∈sO o,e.length=2)(hl:(sO o).length<=1000000):aa prog G 157 [.c (dc o)] (.c (dc o)):=by
 have e1:aI prog .eql 25 (.c (.d .nilsl)) (.c (.d .nilsl))=some (.c (.d (.bool true)),[],[],True):=by kernel_rfl
 have e2:∀es,aI prog .eql 25 (.c (.d (.sl es))) (.c (.d .nilsl))=some (.c (.d (.bool false)),[],[],True):=λes=>by kernel_rfl
 cases o with
 |none=>
  show aa prog G 157 [.c (.d .nilsl)] (.c (.d .nilsl));refine aa.ed func157 rfl λ_=>aab ?_;refine aaa λK hK=>aam e1 ?_;refine aai (aab ?_);exact aal (κ:=0) (jU.tmp (κ:=0) (X:=.c (.d .nilsl)) (ks:=[]) rfl (by simp) rfl)
 |some es=>
  have h:∀e∈es,e.length=2:=h;have hl:es.length<=1000000:=hl;show aa prog G 157 [.c (.d (.sl es))] (.c (.d (.sl es)));have hsrc:∀lv,dY lv 2 (.c (.d (.sl es)))=some (es.length,es.flatten.map CV.d):=λlv=>jM h
  refine aa.ed func157 rfl λ_=>aab ?_;refine aaa λK hK=>aam e2 ?_;refine aah (aad (hK _ _ (aak λK hK=>?_)));simp[hsrc,jz,fM,keyOf]
  repeat refine ah ?_
  apply hK;refine aal (κ:=0) (jU.tmp (κ:=0) (X:=.c (.aD 1 0 es.length 2)) (ks:=[1]) rfl (by simp) ?_);exact mL (own:=true) (fz:=false) (T:=69) (by simp) h (by omega)
theorem F8(G:List (List DV))(o:Option (List (List DV)))(h:∀e∈sO o,e.length=1)(hl:(sO o).length<=1000000):aa prog G 97 [.c (dc o)] (.c (dc o)):=by
 have e1:aI prog .eql 30 (.c (.d .nilsl)) (.c (.d .nilsl))=some (.c (.d (.bool true)),[],[],True):=by kernel_rfl
 have e2:∀es,aI prog .eql 30 (.c (.d (.sl es))) (.c (.d .nilsl))=some (.c (.d (.bool false)),[],[],True):=λes=>by kernel_rfl
 cases o with
 |none=>
  show aa prog G 97 [.c (.d .nilsl)] (.c (.d .nilsl));refine aa.ed func97 rfl λ_=>aab ?_;refine aaa λK hK=>aam e1 ?_;refine aai (aab ?_);exact aal (κ:=0) (jU.tmp (κ:=0) (X:=.c (.d .nilsl)) (ks:=[]) rfl (by simp) rfl)
 |some es=>
  have h:∀e∈es,e.length=1:=h;have hl:es.length<=1000000:=hl;show aa prog G 97 [.c (.d (.sl es))] (.c (.d (.sl es)));have hsrc:∀lv,dY lv 1 (.c (.d (.sl es)))=some (es.length,es.flatten.map CV.d):=λlv=>jM h
  refine aa.ed func97 rfl λ_=>aab ?_;refine aaa λK hK=>aam e2 ?_;refine aah (aad (hK _ _ (aak λK hK=>?_)));simp[hsrc,jz,fM,keyOf]
  repeat refine ah ?_
  apply hK;refine aal (κ:=0) (jU.tmp (κ:=0) (X:=.c (.aD 1 0 es.length 1)) (ks:=[1]) rfl (by simp) ?_);exact mL (own:=true) (fz:=false) (T:=3) (by simp) h (by omega)
def Nl(T:TypeId)(s t:List UInt8):aI prog .eql T (.c (.d (.str s))) (.c (.d (.str t)))=some (.c (.d (.bool (decide (s=t)))),[],[],True):=by
 rw[<-PE];rfl
def WU(a b c d:CV):ia prog 85 [0,1,2,3] [.c a,.c b,.c c,.c d]=some (.agg [a,b,c,d],[],[],True):=by kernel_rfl
def Je:ug prog 85=some (4,3,1):=by kernel_rfl
theorem ag.Wg(κ' kh κb:Key)(n:Nat)(hn:n<=l.length)(hl:l.length<=100)(hk:lv κb=.cells true false T (zK l))
 (hc:aa c.P c.G f [.c (zC (some (l.take n)))] x) (hx:x.pure=true) (hh:lv kh=.hole) (hkh:kh≠κb) (hK:K x [(κb,.cells true true T (zK l))] [kh] κ'):ag c f [.c (.aD κb 0 n 1)] lv K:=by
 refine ag.WJ κ' kh κb T (zK l) [kh] hc hx hk hh hkh rfl (λi p q=>?_) (λa ha j hj=>?_) (by simp) hK
 ·have hi:i=0:=by simp at p;omega
  subst hi;right;have h1:(zK l).take n=zK (l.take n):=by simp[zK,abD]
  have hln:(l.take n).length=n:=by rw[Ze];omega
  simp only[ZJ,eP,cR,aC,MV,Z0,Zw,Y9,h1,MX,Zs];rw[if_pos ⟨hn,by omega⟩];have h2:=pP ((l.take n).map λ(x:Int)=>DV.int .i64 x);rw[Zt,hln]at h2;simp only[Zs,h2];simp[zC,zD];rfl
 ·simp only[ZV]at ha;subst ha;simp only[hO,fK,rP,aC]at hj;rcases hj with rfl|hj
  ·exact .inr rfl
  ·simp only[aaK]at hj;obtain⟨y,hy,hj⟩:=hj;simp only[zK,ZX]at hy;obtain⟨z,_,rfl⟩:=hy
   cases hj
theorem JP(G:List (List DV))(o:Option (List Int))(hl:(zL o).length<=1000000):aa prog G 97 [.c (zC o)] (.c (zC o)):=by
 rw[He];refine F8 G _ ?_ ?_
 ·cases o with
  |none=>intro e he;cases he
  |some l=>intro e he;simp only[sO,Zs,abq,zD,ZX]at he;obtain⟨x,_,rfl⟩:=he;rfl
 ·cases o with
  |none=>simp[sO]
  |some l=>simpa[sO,zD,zL]using hl
def jW(op:Int):bS op<=4:=by unfold bS;(repeat' split)<;>omega
def xX(op:Int):fk op<=4:=by have:=jW op;unfold fk;split<;>omega
def Nd.fI(n:Nd):n.l4.length=4:=rfl
def BG(n:Nd):zL (qx n)=bf n:=by unfold qx bf;split<;>rfl
theorem OO(m:Int)(n:Nd):aa prog (GG m) 35 [n.A] (.c (zC (qx n))):=by
 have hkn:=CY (GG m) n.op
 by_cases hk:1<=n.op/\n.op<=15
 ·obtain⟨rest,hix⟩:=WK hk.1 hk.2;have hcl:=JP (GG m) (some (n.l4.take (bS n.op))) (by simp only[zL,abq,Ze,Nd.fI];omega);have hko:qx n=some (n.l4.take (bS n.op)):=by unfold qx;rw[if_pos hk]
  have hle:=jW n.op;rw[hko];have hd:decide (1<=n.op/\n.op<=15)=true:=decide_eq_true hk;rw[hd]at hkn;generalize bS n.op=kk at*
  refine aa.en func35 rfl λ_=>aab ?_;refine aaa λK hK=>aar 1 hkn ?_;refine aah (aad (hK _ _ (aap @WU @aj.eq_1 ?_)));refine aaa λK hK=>?_;refine AW.xj ?_;refine oc.run 5 rfl ?_;simp[M3,hix];refine oc.iu (x:=.c (.aD 1 0 kk 1)) (us:=[]) (rds:=[1]) 2 rfl rfl ?_ ?_
  ·simp[Am.iu,Op.operands,wL,rK,Je];omega
  refine oc.run 2 rfl ?_;simp[];refine ag.Wg (l:=n.l4) (T:=85) 2 9 1 kk hle (by simp[Nd.fI]) rfl hcl (by simp) (by simp) (by decide) ?_;simp;refine oc.done ?_;apply hK;exact aae (au.rt rfl 2 (by simp))
 ·have hko:qx n=none:=by unfold qx;rw[if_neg hk]
  have hd:decide (1<=n.op/\n.op<=15)=false:=decide_eq_false hk;rw[hd]at hkn;rw[hko];refine aa.en func35 rfl λ_=>aab ?_;refine aaa λK hK=>aar 1 hkn ?_;refine aai (aab ?_);exact aae (au.rt rfl 2 (by simp[zC]))
theorem OF(m:Int)(n:Nd)(h1:1<=n.op)(h2:n.op<=15):aa prog (GG m) 162 [n.A] (.c (.d (.bool (iW n)))):=by
 obtain⟨rest,hix⟩:=WK h1 h2;have hle:=xX n.op;have hib:iW n=((n.l4.drop (fk n.op)).all (λx=>decide (x=0))&&(decide (n.v=[]) ||decide (n.op=3))):=rfl;have hzk:[CV.d (.int .i64 n.a),.d (.int .i64 n.b),.d (.int .i64 n.c),.d (.int .i64 n.d)]=zK n.l4:=rfl;have fin:(n.l4.drop (fk n.op)).all (λx=>decide (x=0))=true->iW n=(decide (n.v=[]) ||decide (n.op=3)):=by intro h;rw[hib,h];rfl
 have lp0:∀lv,eJ prog 30 lv (.c (.d (.sl [])))=some (.c (.d (.int .i64 0)),[],[],True):=λlv=>Xr (T:=30) (by simp) lv (some [])
 refine aa.en func162 rfl λ_=>aab ?_;refine aap @WU @aj.eq_1 ?_;refine aaa λK hK=>?_
 have tail:∀(fr:Nat->AV) (κ:Nat) (lv:Key->LB),fr 1=.c (.ptr 0 0)->lv 0=.cells true false 55 [.d (.int .i64 n.op),.d (.int .i64 n.a),.d (.int .i64 n.b),.d (.int .i64 n.c),.d (.int .i64 n.d),.d (.int .i64 n.f),.d (.str n.v)]->lv 9=.hole ->
  (n.l4.drop (fk n.op)).all (λx=>decide (x=0))=true->K ⟨fr,lv⟩ κ:=by
  intro fr κ lv z1 hl0 h9 hall;have hf:=fin hall;apply hK
  by_cases hv:n.v=[]
  ·refine aaE z1 hl0 @Nl hv ?_;exact aal (κ:=0) (au.tmp (κ:=0) rfl 9 (by simp[hf,hv]) rfl (by simp[h9]) rfl)
  ·refine aaE z1 hl0 @Nl hv ?_;exact aal (κ:=0) (au.tmp (κ:=0) rfl 9 (by simp[hf,hv]) rfl (by simp[h9]) rfl)
 refine aaa λK1 hK1=>?_
 by_cases hu:fk n.op=4
 ·refine AW.xj ?_;refine oc.run 5 rfl ?_;simp[M3,hix];refine oc.Fs (κ:=1) (off:=0) (n:=4) (e:=3) (sz:=1) (l:=4) (own:=true) (fz:=false) (T':=85) 2 rfl rfl rfl (by simp) (by simp;rfl) Je (by simp[hu]) (by simp) (by decide) (by decide) ?_;refine oc.run 2 rfl ?_;simp[lp0];refine oc.done ?_;apply hK1;refine aaf ?_
  refine aao (λ(_:Unit)=>⟨aU [(1,.c (.ptr 0 0)),(20,.c (.d (.sl []))),(21,.c (.d (.int .i64 0))),(22,.c (.d (.int .i64 0)))],
   az (az (λ_=>.hole) 0 (.cells true false 55 [.d (.int .i64 n.op),.d (.int .i64 n.a),.d (.int .i64 n.b),.d (.int .i64 n.c),.d (.int .i64 n.d),.d (.int .i64 n.f),.d (.str n.v)])) 1 (.cells true false 85 (zK n.l4))⟩) 2
   (λ_=>True) (λ_=>0) () (Le.mX _) trivial ?_
  rintro⟨⟩ _;refine aab ?_;refine aaa λK3 hK3=>aah (aan ?_)
  simp;exact tail _ _ _ (by simp) (by simp) (by simp) (by rw[hu];rfl)
 have hu4:fk n.op<4:=by omega
 have hdrop:∀i,i<4-fk n.op->fk n.op+i<n.l4.length:=by intro i hi;rw[Nd.fI];omega
 generalize hue:fk n.op=u at*
 refine AW.xj ?_;refine oc.run 5 rfl ?_;simp[M3,hix];refine oc.iu (x:=.c (.aD 1 u (4-u) 1)) (us:=[]) (rds:=[1]) 2 rfl rfl ?_ ?_
 ·simp[Am.iu,Op.operands,wL,rK,Je];omega
 have e4:((4-u:Nat):Int)<=9223372036854775807:=by omega
 refine oc.run 2 rfl ?_;simp[e4];refine oc.done ?_;apply hK1;refine aaf ?_
 refine aao (λ(i:Nat)=>⟨aU [(1,.c (.ptr 0 0)),(20,.c (.aD 1 u (4-u) 1)),(21,.c (.d (.int .i64 (4-u:Nat)))),(22,.c (.d (.int .i64 i)))],
  az (az (λ_=>.hole) 0 (.cells true false 55 [.d (.int .i64 n.op),.d (.int .i64 n.a),.d (.int .i64 n.b),.d (.int .i64 n.c),.d (.int .i64 n.d),.d (.int .i64 n.f),.d (.str n.v)])) 1 (.cells true false 85 (zK n.l4))⟩) 2
  (λi=>i<=4-u/\∀j (hj:j<i) (h:u+j<n.l4.length),n.l4[u+j]=0) (λi=>4-u-i) 0 (Le.mX _) ⟨by omega,λj hj=>absurd hj (ZH j)⟩ ?_
 rintro i ⟨hi,hall⟩
 try simp only at hi hall
 refine aab ?_;refine aaa λK2 hK2=>?_
 by_cases hlt:i<4-u
 ·have hlt':(i:Int)<((4-u:Nat):Int):=by omega
  refine aag (by simp[hlt']<;>omega) (aad (hK2 _ _ (aaa λK3 hK3=>aaf (aaa λK4 hK4=>?_))));have hx:=ez (P:=prog) (T:=3) (by simp) (hdrop i hlt);refine aau hlt' hx (hK4 _ _ ?_);refine aab ?_
  by_cases h0:n.l4[u+i]'(hdrop i hlt)=0
  ·refine aaj (by simp[h0]<;>omega) (aad (hK3 _ _ ?_));have f12:=bF (n:=(i:Int)+1) (by omega) (by omega);refine aac ?_;simp[f12];refine⟨i+1,Le.mX _,⟨by omega,λj hj h=>?_⟩,by omega⟩
   by_cases hji:j=i
   ·subst hji;exact h0
   ·exact hall j (by omega) h
  ·refine aag (by simp[h0]<;>omega) (aab ?_)
   have hb:iW n=false:=by
    rw[hib]
    have:(n.l4.drop u).all (λx=>decide (x=0))=false:=by
     rw[acw];refine⟨n.l4[u+i]'(hdrop i hlt),?_,by simpa using h0⟩;rw[List.mem_iff_getElem];exact⟨i,by rw[aaM,Nd.fI];omega,by simp⟩
    rw[this];rfl
   exact aae (au.rt rfl 2 (by simp[hb]))
 ·have hlt':¬(i:Int)<((4-u:Nat):Int):=by omega
  refine aaj (by simp[hlt']<;>omega) (aan ?_);simp;refine tail _ _ _ (by simp) (by simp) (by simp) ?_;rw[Zb];intro x hx;obtain⟨j,hj,rfl⟩:=List.mem_iff_getElem.1 hx;rw[aaM,Nd.fI]at hj;have:=hall j (by omega) (by rw[Nd.fI];omega);simpa using this
def j7(E:TypeId):Option (List (List DV))->LB
 |none=>.nils
 |some es=>.cells true false E (es.flatten.map CV.d)
def DD(es:List (List DV))(g:Key->Key):(es.flatten.map CV.d).map (CV.bM g)=es.flatten.map CV.d:=by
 rw[ZC];rfl
def kM(E:TypeId)(es:List (List DV))(g:Key->Key):(LB.cells true false E (es.flatten.map CV.d)).like (.cells true false E (es.flatten.map CV.d)) g:=LB.m9.2 ⟨rfl,rfl,(DD es g).symm,id⟩
theorem Ea(G:List (List DV))(o:Option (List (List DV)))(h:∀e∈sO o,e.length=2)(hl:(sO o).length<=1000000):aA prog G 47 [.c (dc o)] [] (.ret (.c (.aD 1000 0 (sO o).length 2)) [] [j7 81 o]):=by
 cases o with
 |none=>exact aA.xE (Gp G none h hl)
 |some es=>
  have e2:∀es,aI prog .eql 22 (.c (.d (.sl es))) (.c (.d .nilsl))=some (.c (.d (.bool false)),[],[],True):=λes=>by kernel_rfl
  have h:∀e∈es,e.length=2:=h;have hl:es.length<=1000000:=hl;show aA prog G 47 [.c (.d (.sl es))] [] (.ret (.c (.aD 1000 0 es.length 2)) [] [.cells true false 81 (es.flatten.map CV.d)]);have hsrc:∀lv,dY lv 2 (.c (.d (.sl es)))=some (es.length,es.flatten.map CV.d):=λlv=>jM h
  refine aA.Sv func47 rfl λ_=>aab ?_;refine aaa λK hK=>aam e2 ?_;refine aah (aad (hK _ _ (aak λK hK=>?_)));simp[hsrc,jz,fM,keyOf,-List.map_flatten]
  repeat refine ah ?_
  apply hK;refine aal (κ:=0) ⟨[(1000,1,.cells true false 81 (es.flatten.map CV.d))],9,mV _,by simp,by simp,by simp,?_,rfl,?_⟩
  ·intro e he;rw[List.mem_singleton.1 he];exact kM 81 es _
  ·show cO _ _ [.tmp 2]=_;simp[cO,iT,j8,bP]
theorem Eo(G:List (List DV))(o:Option (List (List DV)))(h:∀e∈sO o,e.length=3)(hl:(sO o).length<=1000000):aA prog G 48 [.c (dc o)] [] (.ret (.c (.aD 1000 0 (sO o).length 3)) [] [j7 67 o]):=by
 cases o with
 |none=>exact aA.xE (GP G none h hl)
 |some es=>
  have e2:∀es,aI prog .eql 23 (.c (.d (.sl es))) (.c (.d .nilsl))=some (.c (.d (.bool false)),[],[],True):=λes=>by kernel_rfl
  have h:∀e∈es,e.length=3:=h;have hl:es.length<=1000000:=hl;show aA prog G 48 [.c (.d (.sl es))] [] (.ret (.c (.aD 1000 0 es.length 3)) [] [.cells true false 67 (es.flatten.map CV.d)]);have hsrc:∀lv,dY lv 3 (.c (.d (.sl es)))=some (es.length,es.flatten.map CV.d):=λlv=>jM h
  refine aA.Sv func48 rfl λ_=>aab ?_;refine aaa λK hK=>aam e2 ?_;refine aah (aad (hK _ _ (aak λK hK=>?_)));simp[hsrc,jz,fM,keyOf,-List.map_flatten]
  repeat refine ah ?_
  apply hK;refine aal (κ:=0) ⟨[(1000,1,.cells true false 67 (es.flatten.map CV.d))],9,mV _,by simp,by simp,by simp,?_,rfl,?_⟩
  ·intro e he;rw[List.mem_singleton.1 he];exact kM 67 es _
  ·show cO _ _ [.tmp 2]=_;simp[cO,iT,j8,bP]
theorem Ce(G:List (List DV))(o:Option (List (List DV)))(h:∀e∈sO o,e.length=7)(hl:(sO o).length<=1000000):aA prog G 156 [.c (dc o)] [] (.ret (.c (.aD 1000 0 (sO o).length 7)) [] [j7 55 o]):=by
 cases o with
 |none=>exact aA.xE (D4 G none h hl)
 |some es=>
  have e2:∀es,aI prog .eql 24 (.c (.d (.sl es))) (.c (.d .nilsl))=some (.c (.d (.bool false)),[],[],True):=λes=>by kernel_rfl
  have h:∀e∈es,e.length=7:=h;have hl:es.length<=1000000:=hl;show aA prog G 156 [.c (.d (.sl es))] [] (.ret (.c (.aD 1000 0 es.length 7)) [] [.cells true false 55 (es.flatten.map CV.d)]);have hsrc:∀lv,dY lv 7 (.c (.d (.sl es)))=some (es.length,es.flatten.map CV.d):=λlv=>jM h
  refine aA.Sv func156 rfl λ_=>aab ?_;refine aaa λK hK=>aam e2 ?_;refine aah (aad (hK _ _ (aak λK hK=>?_)));simp[hsrc,jz,fM,keyOf,-List.map_flatten]
  repeat refine ah ?_
  apply hK;refine aal (κ:=0) ⟨[(1000,1,.cells true false 55 (es.flatten.map CV.d))],9,mV _,by simp,by simp,by simp,?_,rfl,?_⟩
  ·intro e he;rw[List.mem_singleton.1 he];exact kM 55 es _
  ·show cO _ _ [.tmp 2]=_;simp[cO,iT,j8,bP]
theorem Cj(G:List (List DV))(o:Option (List (List DV)))(h:∀e∈sO o,e.length=2)(hl:(sO o).length<=1000000):aA prog G 157 [.c (dc o)] [] (.ret (.c (.aD 1000 0 (sO o).length 2)) [] [j7 69 o]):=by
 cases o with
 |none=>exact aA.xE (EJ G none h hl)
 |some es=>
  have e2:∀es,aI prog .eql 25 (.c (.d (.sl es))) (.c (.d .nilsl))=some (.c (.d (.bool false)),[],[],True):=λes=>by kernel_rfl
  have h:∀e∈es,e.length=2:=h;have hl:es.length<=1000000:=hl;show aA prog G 157 [.c (.d (.sl es))] [] (.ret (.c (.aD 1000 0 es.length 2)) [] [.cells true false 69 (es.flatten.map CV.d)]);have hsrc:∀lv,dY lv 2 (.c (.d (.sl es)))=some (es.length,es.flatten.map CV.d):=λlv=>jM h
  refine aA.Sv func157 rfl λ_=>aab ?_;refine aaa λK hK=>aam e2 ?_;refine aah (aad (hK _ _ (aak λK hK=>?_)));simp[hsrc,jz,fM,keyOf,-List.map_flatten]
  repeat refine ah ?_
  apply hK;refine aal (κ:=0) ⟨[(1000,1,.cells true false 69 (es.flatten.map CV.d))],9,mV _,by simp,by simp,by simp,?_,rfl,?_⟩
  ·intro e he;rw[List.mem_singleton.1 he];exact kM 69 es _
  ·show cO _ _ [.tmp 2]=_;simp[cO,iT,j8,bP]
theorem I5(G:List (List DV))(p:PD)(hp:p.ok)(i:Nat)(hi:i<p.nf):aa prog G 83 [p.A,.c (.d (.int .i64 i))] (.c (.d (.int .i64 (cz p 0 i)))):=by
 have hx:=λlv=>UW hp lv (i:Int) (by omega) (by omega)
 have hc:=kW G (p.fm i).1 (p.fm i).2;simp only[Zp]at hx;refine aa.en func83 rfl λ_=>aab ?_;refine aaw 1 hc hx ?_;exact aae (au.rt rfl 4 (by simp[cz]))
def vk(n:Nd):(bf n).length<=4:=by
 have:=jW n.op;unfold bf;split
 ·rw[Ze,Nd.fI];omega
 ·exact Zi _
def J4(p:PD)(lv:Key->LB)(hp:p.ok)(i:Nat)(hi:i<p.nn):aq prog 24 lv (.c (dc p.nodes)) (.c (.d (.int .i64 (i:Int))))=some (.c (.d (.ptr (p.nd i).e)),[],[],True):=by
 have:=S3 hp lv (i:Int) (by omega) (by omega)
 rwa[Zp]at this
theorem Pr(m:Int)(p:PD)(hp:p.ok)(i:Nat)(hi:i<p.nn)(hn2:p.nn<=1000):aa prog (GG m) 85 [p.A,.c (.d (.int .i64 i))] (.c (.d (.int .i64 (cz p 2 i)))):=by
 have hx:=λlv=>J4 p lv hp i hi
 have hE:cz p 2 i=kB p i (p.nd i):=rfl;rw[hE];obtain⟨n,hn⟩:∃n,p.nd i=n:=⟨_,rfl⟩
 simp only[hn]at hx⊢;have hkn:=CY (GG m) n.op;have hwf:=jx (GG m) n.f p.nf;have hwa:=jx (GG m) n.a p.ni;have hws:=jx (GG m) n.a p.ns;have lvN:List CV:=[.d (.int .i64 n.op),.d (.int .i64 n.a),.d (.int .i64 n.b),.d (.int .i64 n.c),.d (.int .i64 n.d),.d (.int .i64 n.f),.d (.str n.v)]
 refine aa.en func85 rfl λ_=>aab ?_;refine aap hx @aj.eq_1 ?_;refine aaa λK hK=>aaf (aaa λK1 hK1=>?_)
 by_cases h1:1<=n.op/\n.op<=15
 rotate_left
 ·have hd:decide (1<=n.op/\n.op<=15)=false:=decide_eq_false h1;have hr:kB p i n=2:=by unfold kB;rw[if_pos h1]
  rw[hd]at hkn;refine AW.m0 2 hkn (hK1 _ _ ?_);refine aai (aab ?_);exact aae (au.rt rfl 4 (by simp[hr]))
 have hid:=OF m n h1.1 h1.2;have hd:decide (1<=n.op/\n.op<=15)=true:=decide_eq_true h1;rw[hd]at hkn
 cases hib:iW n with
 |false=>
  have hr:kB p i n=2:=by unfold kB;rw[if_neg (not_not_intro h1),if_pos hib]
  rw[hib]at hid;refine aac ?_;simp;refine ag.p 2 9 hkn ?_;simp;refine ag.p 2 9 hid ?_;simp;apply hK1;refine aai (aab ?_);exact aae (au.rt rfl 4 (by simp[hr]))
 |true=>
 rw[hib]at hid;have ib:¬iW n=false:=by rw[hib];decide
 refine aac ?_;simp;refine ag.p 2 9 hkn ?_;simp;refine ag.p 2 9 hid ?_;simp;apply hK1;refine aah (aaa λK1 hK1=>?_)
 by_cases h2:0<=n.f/\n.f<p.nf
 rotate_left
 ·have hd2:decide (0<=n.f/\n.f<(p.nf:Int))=false:=decide_eq_false h2;have hr:kB p i n=7:=by unfold kB;rw[if_neg (not_not_intro h1),if_neg ib,if_pos h2]
  rw[hd2]at hwf;refine aax 2 hwf @vZ (hK1 _ _ ?_);refine aai (aab ?_);exact aae (au.rt rfl 4 (by simp[hr]))
 have hd2:decide (0<=n.f/\n.f<(p.nf:Int))=true:=decide_eq_true h2;rw[hd2]at hwf;refine aax 2 hwf @vZ (hK1 _ _ ?_);refine aah ?_
 have r2:kB p i n=if n.op=1/\¬(0<=n.a/\n.a<p.ni)then 7 else if n.op=1/\(p.AR n.a.toNat).f≠n.f then 143 else if n.op=2/\((i:Int)<p.head\/¬(0<=n.a/\n.a<p.ns))then 7 else if n.op=3 then eE n.v else if (bf n).all (de p i)then 0 else 7:=by
  unfold kB;rw[if_neg (not_not_intro h1),if_neg ib,if_neg (not_not_intro h2)]
 have tail:∀(fr:Nat->AV) (κ:Nat),fr 1=.c (.d (.int .i64 i))->fr 2=.c (.ptr 0 0)->fr 5=.c (.ptr 1 0)->(kB p i n=if (bf n).all (de p i)then 0 else 7) ->
  K ⟨fr,az (az (λ_=>.hole) 0 (.cells true false 154 p.cs)) 1 (.cells true false 55 [.d (.int .i64 n.op),.d (.int .i64 n.a),.d (.int .i64 n.b),.d (.int .i64 n.c),.d (.int .i64 n.d),.d (.int .i64 n.f),.d (.str n.v)])⟩ κ:=by
  intro fr κ z1 z2 z5 hr;have hks:=OO m n;have hkl:=vk n;have lpk:∀lv,eJ prog 30 lv (.c (zC (qx n)))=some (.c (.d (.int .i64 (bf n).length)),[],[],True):=λlv=>by rw[Xr (by simp),BG]
  have ixk:∀lv (j:Nat) (hj:j<(bf n).length),aq prog 30 lv (.c (zC (qx n))) (.c (.d (.int .i64 (j:Int))))=some (.c (.d (.ptr [.int .i64 (bf n)[j]])),[],[],True):=λlv j hj=>by
   rw[Yh (by simp) lv _ (by rw[BG];exact hj)];simp only[BG]
  generalize qx n=ko at*
  generalize bf n=kl at*
  apply hK;refine aaa λK3 hK3=>AW.c2 2 hks z5 lpk ?_;refine aaf ?_
  refine aao (λ(j:Nat)=>⟨aU [(1,.c (.d (.int .i64 i))),(2,.c (.ptr 0 0)),(93,.c (zC ko)),(94,.c (.d (.int .i64 kl.length))),(95,.c (.d (.int .i64 j)))],
   az (az (λ_=>.hole) 0 (.cells true false 154 p.cs)) 1 (.cells true false 55 [.d (.int .i64 n.op),.d (.int .i64 n.a),.d (.int .i64 n.b),.d (.int .i64 n.c),.d (.int .i64 n.d),.d (.int .i64 n.f),.d (.str n.v)])⟩) 2
   (λj=>j<=kl.length/\∀q (hq:q<j) (h:q<kl.length),de p i kl[q]=true) (λj=>kl.length-j) 0 (Le.mX _ (by simp) (by simp[z1,z2])) ⟨Zi _,λq hq=>absurd hq (ZH q)⟩ ?_
  rintro j ⟨hj,hall⟩
  try simp only at hj hall
  refine aab ?_;refine aaa λK6 hK6=>?_
  by_cases hlt:j<kl.length
  ·have hlt':(j:Int)<(kl.length:Int):=by omega
   refine aag (by simp[hlt']<;>omega) (aad (hK6 _ _ (aaa λK7 hK7=>aaf (aaa λK8 hK8=>?_))));have hxk:=λlv=>ixk lv j hlt
   refine aas hxk (hK8 _ _ ?_);refine aaa λK8 hK8=>?_;have hse:=NY (GG m) p i kl[j];refine AW.m0 2 hse (hK8 _ _ ?_)
   cases hs:de p i kl[j]with
   |true=>
    refine aah (aad (hK7 _ _ ?_));have f12:=bF (n:=(j:Int)+1) (by omega) (by omega);refine aac ?_;simp[f12];refine⟨j+1,Le.mX _,⟨by omega,λq hq h=>?_⟩,by omega⟩
    by_cases hji:q=j
    ·subst hji;exact hs
    ·exact hall q (by omega) h
   |false=>
    refine aai (aab ?_)
    have hb:kB p i n=7:=by
     rw[hr,if_neg];rw[Bool.not_eq_true,acw];exact⟨kl[j],bh hlt,by rw[hs];decide⟩
    exact aae (au.rt rfl 4 (by simp[hb]))
  ·have hlt':¬(j:Int)<(kl.length:Int):=by omega
   refine aaj (by simp[hlt']<;>omega) (aan (hK3 _ _ ?_))
   have hb:kB p i n=0:=by
    rw[hr,if_pos];rw[Zb];intro x hx;obtain⟨q,hq,rfl⟩:=List.mem_iff_getElem.1 hx;exact hall q (by omega) hq
   refine aab ?_;exact aae (au.rt rfl 4 (by simp[hb]))
 by_cases h3:n.op=1
 ·have n2:¬n.op=2:=by omega
  have n3:¬n.op=3:=by omega
  have t3:(n.op=1)=True:=eq_true h3
  by_cases h4:0<=n.a/\n.a<p.ni
  rotate_left
  ·have hd4:decide (0<=n.a/\n.a<(p.ni:Int))=false:=decide_eq_false h4;have hr:kB p i n=7:=by rw[r2,if_pos ⟨h3,h4⟩]
   rw[hd4]at hwa;refine AW.c2 2 hwa t3 @zV ?_;refine aai (aab ?_);exact aae (au.rt rfl 4 (by simp[hr]))
  have hd4:decide (0<=n.a/\n.a<(p.ni:Int))=true:=decide_eq_true h4;rw[hd4]at hwa;have hxi:=λlv=>Vf hp lv n.a h4.1 h4.2
  refine AW.c2 2 hwa t3 @zV ?_;refine aah (aaa λK1 hK1=>?_)
  by_cases h5:(p.AR n.a.toNat).f=n.f
  ·have hr:kB p i n=if (bf n).all (de p i)then 0 else 7:=by
    rw[r2,if_neg (λh=>h.2 h4),if_neg (λh=>h.2 h5),if_neg (λh=>n2 h.1),if_neg n3]
   refine AW.Yk mixed t3 hxi h5 (hK1 _ _ ?_);refine aah (aam n2 ?_);refine aah (aam n3 ?_);refine aah (aad ?_);simp;exact tail _ _ (by simp) (by simp) (by simp) hr
  ·have hr:kB p i n=143:=by rw[r2,if_neg (λh=>h.2 h4),if_pos ⟨h3,h5⟩]
   refine AW.Yk mixed t3 hxi h5 (hK1 _ _ ?_);refine aai (aab ?_);exact aae (au.rt rfl 4 (by simp[hr]))
 refine aam h3 ?_;refine aah (AW.e1 mixed h3 ?_);refine aah ?_
 have r3:kB p i n=if n.op=2/\((i:Int)<p.head\/¬(0<=n.a/\n.a<p.ns))then 7 else if n.op=3 then eE n.v else if (bf n).all (de p i)then 0 else 7:=by
  rw[r2,if_neg (λh=>h3 h.1),if_neg (λh=>h3 h.1)]
 refine aaa λK1 hK1=>?_
 by_cases h6:n.op=2
 ·have n3:¬n.op=3:=by omega
  have t6:(n.op=2)=True:=eq_true h6
  by_cases h7:(i:Int)<p.head
  ·have hr:kB p i n=7:=by rw[r3,if_pos ⟨h6,.inl h7⟩]
   refine aau t6 h7 (hK1 _ _ ?_);refine aai (aab ?_);exact aae (au.rt rfl 4 (by simp[hr]))
  by_cases h8:0<=n.a/\n.a<p.ns
  ·have hd8:decide (0<=n.a/\n.a<(p.ns:Int))=true:=decide_eq_true h8;rw[hd8]at hws
   have hr:kB p i n=if (bf n).all (de p i)then 0 else 7:=by
    rw[r3,if_neg (λh=>h.2.elim h7 (λh=>h h8)),if_neg n3]
   refine aac ?_;simp[t6,h7,rZ];refine ag.p 2 9 hws ?_;simp[t6,h7];apply hK1;refine aah (aam n3 ?_);refine aah (aad ?_);simp;exact tail _ _ (by simp) (by simp) (by simp) hr
  ·have hd8:decide (0<=n.a/\n.a<(p.ns:Int))=false:=decide_eq_false h8;rw[hd8]at hws;have hr:kB p i n=7:=by rw[r3,if_pos ⟨h6,.inr h8⟩]
   refine aac ?_;simp[t6,h7,rZ];refine ag.p 2 9 hws ?_;simp[t6,h7];apply hK1;refine aai (aab ?_);exact aae (au.rt rfl 4 (by simp[hr]))
 refine aas h6 (hK1 _ _ ?_);refine aah (aaa λK1 hK1=>?_)
 have r4:kB p i n=if n.op=3 then eE n.v else if (bf n).all (de p i)then 0 else 7:=by
  rw[r3,if_neg (λh=>h6 h.1)]
 by_cases h9:n.op=3
 ·have hr:kB p i n=eE n.v:=by rw[r4,if_pos h9]
  have hck:=IP m n.v;rw[<-hr]at hck;refine aas h9 (hK1 _ _ ?_);refine aai (aar 2 hck ?_);exact aae (au.rt rfl 4 (by simp))
 ·have hr:kB p i n=if (bf n).all (de p i)then 0 else 7:=by rw[r4,if_neg h9]
  refine aas h9 (hK1 _ _ ?_);refine aah (aad ?_);simp;exact tail _ _ (by simp) (by simp) (by simp) hr
@[simp] def S9(x:Rat):List CV:=[.d (.bool (decide (x.num<0))),nC (cV x.num.natAbs),nC (eF x.den)]
def oM:ug prog 225=some (2,224,3):=by kernel_rfl
def Xa(lv:Key->LB)(κ:Key)(h:lv κ=.hole)(a b:CV):ak prog 59 2 [0,1] lv κ [.c a,.c b]=some (.c (.aD κ 0 2 1),[(κ,.cells true false 53 [a,b])],[],True):=by
 unfold ak;rw[h];kernel_rfl
theorem Ks(m:Int)(p:PD)(hp:p.ok)(i:Nat)(hi:i<p.ni):aa prog (GG m) 84 [p.A,.c (.d (.int .i64 i))] (.c (.d (.int .i64 (cz p 1 i)))):=by
 have hx:=λlv=>Vf hp lv (i:Int) (by omega) (by omega)
 simp only[Zp]at hx;have hE:cz p 1 i=vu p (p.AR i):=rfl;rw[hE];generalize p.AR i=x at*
 have hwf:=jx (GG m) x.f p.nf;have hP1:=Ax m x.lo;have hP2:=Ax m x.hi;have q1:i64.wrap 1=1:=by decide
 have q2:i64.wrap 2=2:=by decide
 have z1:=xk x.lo;have z2:=xk x.hi;refine aa.Qh func84 rfl λ_=>aab ?_;refine aap hx @aj.eq_1 ?_;refine aaa λK hK=>aaa λK1 hK1=>?_
 by_cases h1:0<=x.f/\x.f<p.nf
 rotate_left
 ·have hd:decide (0<=x.f/\x.f<(p.nf:Int))=false:=decide_eq_false h1;have hr:vu p x=7:=by unfold vu;rw[if_pos h1]
  rw[hd]at hwf;refine aax 2 hwf @vZ (hK1 _ _ ?_);refine aai (aab ?_);exact aae (au.rt (t:=4) rfl 9 (by simp[hr]))
 have hd:decide (0<=x.f/\x.f<(p.nf:Int))=true:=decide_eq_true h1;rw[hd]at hwf
 have r1:vu p x=if eE x.lo≠0 then eE x.lo else if eE x.hi≠0 then eE x.hi else if hasB (p.fm x.f.toNat).1 (p.fm x.f.toNat).2 (fL x.lo)=false then 7
  else if hasB (p.fm x.f.toNat).1 (p.fm x.f.toNat).2 (fL x.hi)=false then 7 else if 0<iS (fL x.lo) (fL x.hi)then 7 else 0:=by
  unfold vu;rw[if_neg (not_not_intro h1)]
 refine aax 2 hwf @vZ (hK1 _ _ ?_);refine aah (aad (hK _ _ (aab ?_)));refine aaa λK hK=>aaa λK1 hK1=>?_;have hbs:∀(lv:Key->LB) (h:lv 3=.hole),ak prog 59 2 [0,1] lv 3 [.c (.d (.str x.lo)),.c (.d (.str x.hi))]=some (.c (.aD 3 0 2 1),[(3,.cells true false 53 [.d (.str x.lo),.d (.str x.hi)])],[],True):=λlv h=>Xa lv 3 h _ _
 refine aac ?_;simp[hbs,-ak];apply hK1;refine aaf ?_
 refine aao (λ(k:Nat)=>⟨aU [(2,.c (.ptr 0 0)),(5,.c (.ptr 1 0)),(6,.c (.ptr 2 0)),(30,.c (.aD 3 0 2 1)),(31,.c (.d (.int .i64 2))),(32,.c (.d (.int .i64 k)))],
  az (az (az (az (λ_=>.hole) 0 (.cells true false 154 p.cs)) 1 (.cells true false 67 [.d (.int .i64 x.f),.d (.str x.lo),.d (.str x.hi)])) 2 (.cells true false 225 (S9 (if 0<k then fL x.lo else 0)++S9 (if 1<k then fL x.hi else 0)))) 3 (.cells true false 53 [.d (.str x.lo),.d (.str x.hi)])⟩) 4
  (λk=>k<=2/\(0<k->eE x.lo=0)/\(1<k->eE x.hi=0)) (λk=>2-k) 0 (Le.mX _ (by simp[nC,cV,eF])) ⟨by omega,λh=>absurd h (by omega),λh=>absurd h (by omega)⟩ ?_
 rintro k ⟨hk,k1,k2⟩
 try simp only at hk k1 k2
 refine aab ?_;refine aaa λK2 hK2=>?_;have hkc:k=0\/k=1\/k=2:=by omega
 rcases hkc with rfl|rfl|rfl
 ·refine aai (aad (hK2 _ _ (aaa λK3 hK3=>aaf (aab ?_))));refine aaw 4 hP1 @aj.eq_1 ?_;refine aaa λK4 hK4=>aab ?_
  by_cases he:eE x.lo=0
  ·refine aaj (by simp[he]<;>omega) (aad (hK4 _ _ (aaA oM @bU @aj.eq_1 (hK3 _ _ ?_))));refine aac ?_;simp[q1];exact⟨1,(Le.l5 [4] 9),⟨by omega,λ_=>he,λh=>absurd h (by omega)⟩,by omega⟩
  ·have hr:vu p x=eE x.lo:=by rw[r1,if_pos he]
   refine aag (by simp[he]<;>omega) (aab ?_);exact aae (au.rt (t:=4) rfl 9 (by simp[hr]))
 ·refine aai (aad (hK2 _ _ (aaa λK3 hK3=>aaf (aab ?_))));refine aaw 4 hP2 @aj.eq_1 ?_;refine aaa λK4 hK4=>aab ?_
  by_cases he:eE x.hi=0
  ·refine aaj (by simp[he]<;>omega) (aad (hK4 _ _ (aaA oM @bU @aj.eq_1 (hK3 _ _ ?_))));refine aac ?_;simp[q2];exact⟨2,(Le.l5 [4] 9),⟨by omega,λ_=>k1 (by omega),λ_=>he⟩,by omega⟩
  ·have hr:vu p x=eE x.hi:=by rw[r1,if_neg (not_not_intro (k1 (by omega))),if_pos he]
   refine aag (by simp[he]<;>omega) (aab ?_);exact aae (au.rt (t:=4) rfl 9 (by simp[hr]))
 ·have r2:vu p x=if hasB (p.fm x.f.toNat).1 (p.fm x.f.toNat).2 (fL x.lo)=false then 7
   else if hasB (p.fm x.f.toNat).1 (p.fm x.f.toNat).2 (fL x.hi)=false then 7 else if 0<iS (fL x.lo) (fL x.hi)then 7 else 0:=by
   rw[r1,if_neg (not_not_intro (k1 (by omega))),if_neg (not_not_intro (k2 (by omega)))]
  refine aah (aan (hK _ _ ?_));have hxf:=λlv=>UW hp lv x.f h1.1 h1.2
  generalize p.fm x.f.toNat=fe at*
  have hb1:=tV (GG m) fe.1 fe.2 (fL x.lo) z1;have hb2:=tV (GG m) fe.1 fe.2 (fL x.hi) z2;have hcm:=Iz (GG m) (fL x.lo) (fL x.hi) (bY z1 (by omega)) (bY z2 (by omega));generalize fL x.lo=a at*
  generalize fL x.hi=b at*
  refine aap hxf @aj.eq_1 ?_;refine aaa λK3 hK3=>aaa λK4 hK4=>?_
  cases g1:hasB fe.1 fe.2 a with
  |false=>
   have hr:vu p x=7:=by rw[r2,if_pos g1]
   rw[g1]at hb1;refine aax 5 hb1 oM (hK4 _ _ ?_);refine aai (aab ?_);exact aae (au.rt (t:=4) rfl 9 (by simp[hr]))
  |true=>
  rw[g1]at hb1
  cases g2:hasB fe.1 fe.2 b with
  |false=>
   have hr:vu p x=7:=by rw[r2,g1,if_neg (by decide),if_pos g2]
   rw[g2]at hb2;refine aac ?_;simp[oM];refine ag.p 5 9 hb1 ?_;simp[oM];refine ag.p 5 9 hb2 ?_;simp;apply hK4;refine aai (aab ?_);exact aae (au.rt (t:=4) rfl 9 (by simp[hr]))
  |true=>
  rw[g2]at hb2
  by_cases g3:0<iS a b
  ·have hr:vu p x=7:=by rw[r2,g1,if_neg (by decide),g2,if_neg (by decide),if_pos g3]
   refine aac ?_;simp[oM];refine ag.p 5 9 hb1 ?_;simp[oM];refine ag.p 5 9 hb2 ?_;simp[oM];refine ag.p 5 9 hcm ?_;simp;apply hK4;refine aag (by simp[g3]<;>omega) (aab ?_);exact aae (au.rt (t:=4) rfl 9 (by simp[hr]))
  ·have hr:vu p x=0:=by rw[r2,g1,if_neg (by decide),g2,if_neg (by decide),if_neg g3]
   refine aac ?_;simp[oM];refine ag.p 5 9 hb1 ?_;simp[oM];refine ag.p 5 9 hb2 ?_;simp[oM];refine ag.p 5 9 hcm ?_;simp;apply hK4;refine aaj (by simp[g3]<;>omega) (aad (hK3 _ _ (aab ?_)));exact aae (au.rt (t:=4) rfl 9 (by simp[hr]))
@[simp]theorem QL{k0 k1:Key}{b0 b1:LB}(h0:lv k0=b0)(h1:lv k1=b1):aQ lv [(k0,b0),(k1,b1)]=lv:=by
 subst h0;subst h1;funext k;simp only[aQ,List.foldl,az];split
 ·rename_i h;rw[h]
 ·split
  ·rename_i h;rw[h]
  ·rfl
abbrev cI(i:Int):List CV:=[.d (.int .i64 i)]
abbrev bI(i:Int):LB:=.cells false false 3 (cI i)
theorem KQ(G:List (List DV))(n:Nd)(i f:Int):aA prog G 165 [n.A,.c (.ptr 0 0),.c (.ptr 1 0)] [bI i,bI f] (.ret (.c (.d (.bool (iZ i f n)))) [bI i,bI f] []):=by
 refine aA.WI func165 rfl (by simp) (by simp) (λr hr=>⟨_,List.mem_singleton.1 hr⟩) λ_=>aab ?_;refine aaa λK hK=>?_
 by_cases h1:n.op=2
 ·by_cases h2:n.a=i
  ·by_cases h3:n.f=f
   ·refine aaA h1 h2 h3 (hK _ _ ?_);exact aal (κ:=0) (zP.tmp (κ:=0) rfl 9 (by simp[iZ,h1,h2,h3]) rfl (by simp) (by simp) (by simp) rfl)
   ·refine aaA h1 h2 h3 (hK _ _ ?_);exact aal (κ:=0) (zP.tmp (κ:=0) rfl 9 (by simp[iZ,h1,h2,h3]) rfl (by simp) (by simp) (by simp) rfl)
  ·refine aau h1 h2 (hK _ _ ?_);exact aal (κ:=0) (zP.tmp (κ:=0) rfl 9 (by simp[iZ,h1,h2]) rfl (by simp) (by simp) (by simp) rfl)
 ·refine aas h1 (hK _ _ ?_);exact aal (κ:=0) (zP.tmp (κ:=0) rfl 9 (by simp[iZ,h1]) rfl (by simp) (by simp) (by simp) rfl)
def Ep(i f:Int)(p:PD):Int:=match (List.range p.nn).find? (λj=>iZ i f (p.nd j))with
 |some j=>j
 |none=>-1
def Lm(i f:Int)(p:PD):decide (0<=Ep i f p)=(List.range p.nn).any (λj=>iZ i f (p.nd j)):=by
 unfold Ep
 cases h:(List.range p.nn).find? (λj=>iZ i f (p.nd j))with
 |none=>
  rw[ab2]at h
  have:(List.range p.nn).any (λj=>iZ i f (p.nd j))=false:=by
   rw[ach];exact h
  rw[this];rfl
 |some j=>
  have h1:=ab1 h;have h2:=ab0 h;have:(List.range p.nn).any (λj=>iZ i f (p.nd j))=true:=List.any_eq_true.2 ⟨j,h2,h1⟩;rw[this];exact decide_eq_true (aaU j)
abbrev W6:AV:=.c (.func (.func 165) [] [.ptr 0 0,.ptr 1 0])
def Kv(n:Nd){i f:Int}(h0:lv 0=bI i)(h1:lv 1=bI f){a:AV}(ha:a∈[n.A,.c (.ptr 0 0),.c (.ptr 1 0)])(hk:k∈hO lv a):k∈[9,0,1]:=by
 simp only[rP,Zd,or_false]at ha;rcases ha with rfl|rfl|rfl
 ·rw[cj rfl]at hk;cases hk
 ·simp[hO,fK,h0]at hk;simp[hk]
 ·simp[hO,fK,h1]at hk;simp[hk]
def Mo(p:PD){a:AV}{fn:Fn}{fs cs:List Ref}{R:List Key}(ha:a∈[AV.c (dc p.nodes),.c (.func fn fs cs)])(hk:k∈hO lv a):k∈R:=by
 simp only[rP,Zd,or_false]at ha;rcases ha with rfl|rfl
 ·rw[cj (by simp)]at hk;cases hk
 ·cases hk
theorem OP(G:List (List DV))(p:PD)(hp:p.ok)(hn:p.nn<=1000)(i f:Int):aA prog G 241 [.c (dc p.nodes),W6] [bI i,bI f] (.ret (.c (.d (.int .i64 (Ep i f p)))) [bI i,bI f] []):=by
 have ho:=λj=>KQ G (p.nd j) i f
 refine aA.WI func241 rfl (by simp) (by simp) (λr hr=>⟨_,List.mem_singleton.1 hr⟩) λ_=>aab ?_;refine aaa λK hK=>aam @iN ?_;refine aaf ?_
 refine aao (λ(j:Nat)=>⟨aU [(0,.c (dc p.nodes)),(1,W6),(7,.c (.d (.int .i64 p.nn))),(8,.c (.d (.int .i64 j)))],az (az (λ_=>.hole) 0 (bI i)) 1 (bI f)⟩) 1000
  (λj=>j<=p.nn/\∀q,q<j->iZ i f (p.nd q)=false) (λj=>p.nn-j) 0 (Le.mX _) ⟨by omega,λq hq=>absurd hq (ZH q)⟩ ?_
 rintro j ⟨hj,hall⟩
 try simp only at hj hall
 refine aab ?_;refine aaa λK2 hK2=>?_
 by_cases hlt:j<p.nn
 ·have hlt':(j:Int)<(p.nn:Int):=by omega
  refine aag (by simp[hlt']<;>omega) (aad (hK2 _ _ (aaa λK3 hK3=>aaf (aab ?_))));refine aaa λK4 hK4=>?_;have hx:=λlv=>J4 p lv hp j hlt
  refine aac ?_;simp[hx,pN,mH,nW];refine ag.Na (T0:=3) (T1:=3) (cs0:=cI i) (cs1:=cI f) 1000 9 0 1 false [9,0,1] (ho j) rfl rfl rfl (by simp) (by simp) (by decide) rfl rfl ?_ ?_ (by simp) ?_
  ·intro a b c;have:a=0\/a=1\/a=2:=by simp at b;omega
   rcases this with rfl|rfl|rfl<;>exact⟨rfl,rfl⟩
  ·intro a ha k hk;exact Kv (p.nd j) (i:=i) (f:=f) (by simp) (by simp) ha hk
  simp;apply hK4
  cases hs:iZ i f (p.nd j)with
  |true=>
   refine aai (aab ?_)
   have hr:Ep i f p=j:=by
    unfold Ep
    have:(List.range p.nn).find? (λj=>iZ i f (p.nd j))=some j:=by
     rw[List.find?_range_eq_some];exact⟨hs,List.mem_range.2 hlt,λq hq=>by rw[hall q hq];rfl⟩
    rw[this]
   exact aal (κ:=0) (zP.tmp (κ:=0) rfl 9 (by simp[hr]) rfl (by simp) (by simp) (by simp) rfl)
  |false=>
   refine aah (aad (hK3 _ _ ?_));have f12:=bF (n:=(j:Int)+1) (by omega) (by omega);refine aac ?_;simp[f12];refine⟨j+1,Le.mX _,⟨by omega,λq hq=>?_⟩,by omega⟩
   by_cases hji:q=j
   ·subst hji;exact hs
   ·exact hall q (by omega)
 ·have hlt':¬(j:Int)<(p.nn:Int):=by omega
  refine aaj (by simp[hlt']<;>omega) (aan (hK _ _ (aab ?_)))
  have hr:Ep i f p = -1:=by
   unfold Ep
   have:(List.range p.nn).find? (λj=>iZ i f (p.nd j))=none:=by
    rw[ab2];intro q hq;rw[hall q (by have:=List.mem_range.1 hq;omega)];decide
   rw[this]
  exact aal (κ:=0) (zP.tmp (κ:=0) rfl 9 (by simp[hr]) rfl (by simp) (by simp) (by simp) rfl)
theorem LA(G:List (List DV))(p:PD)(hp:p.ok)(hn:p.nn<=1000)(i f:Int):aA prog G 166 [.c (dc p.nodes),W6] [bI i,bI f] (.ret (.c (.d (.bool ((List.range p.nn).any λj=>iZ i f (p.nd j))))) [bI i,bI f] []):=by
 have hx:=OP G p hp hn i f;rw[<-Lm];generalize Ep i f p=r at*
 refine aA.WI func166 rfl (by simp) (by simp) (λr hr=>⟨_,List.mem_singleton.1 hr⟩) λ_=>aab ?_;refine aak λK hK=>?_;simp;refine ag.Na (T0:=3) (T1:=3) (cs0:=cI i) (cs1:=cI f) 1000 9 0 1 false [9] hx rfl rfl rfl (by simp) (by simp) (by decide) rfl rfl ?_ ?_ (by simp) ?_
 ·intro a b c;have:a=0\/a=1:=by simp at b;omega
  rcases this with rfl|rfl
  ·exact⟨by simp,by simp⟩
  ·exact⟨rfl,rfl⟩
 ·intro a ha k hk;exact Mo p ha hk
 simp;apply hK;exact aal (κ:=0) (zP.tmp (κ:=0) rfl 9 (by simp) rfl (by simp) (by simp) (by simp) rfl)
def kC(h:dB p=0):0<=p.head/\p.head<=p.tail/\p.tail<=p.nn/\p.nf<=6/\p.ni<=6/\p.nn<=64/\p.ns<=4:=by
 unfold dB at h;unfold PD.nf PD.ni PD.nn PD.ns
 (repeat' split at h)<;>first|omega|cases h
theorem MY(m:Int)(p:PD)(hp:p.ok)(hg:dB p=0)(i:Nat)(hi:i<p.ns):aa prog (GG m) 86 [p.A,.c (.d (.int .i64 i))] (.c (.d (.int .i64 (cz p 3 i)))):=by
 obtain⟨g1,g2,g3,_,_,g4,_⟩:=kC hg;have hx:=λlv=>W8 hp lv (i:Int) (by omega) (by omega)
 simp only[Zp]at hx;have hE:cz p 3 i=xA p i (p.st i):=rfl;rw[hE];generalize p.st i=s at*
 have hw1:=jx (GG m) s.1 p.head;have hw2:=jx (GG m) s.2 p.tail;refine aa.en func86 rfl λ_=>aab ?_;refine aap hx @aj.eq_1 ?_;refine aaa λK hK=>aaa λK1 hK1=>?_
 by_cases h1:0<=s.1/\s.1<p.head
 rotate_left
 ·have hd:decide (0<=s.1/\s.1<p.head)=false:=decide_eq_false h1;have hr:xA p i s=7:=by unfold xA;rw[if_pos h1]
  rw[hd]at hw1;refine AW.m0 3 hw1 (hK1 _ _ ?_);refine aai (aab ?_);exact aae (au.rt rfl 4 (by simp[hr]))
 have hd:decide (0<=s.1/\s.1<p.head)=true:=decide_eq_true h1;rw[hd]at hw1
 by_cases h2:0<=s.2/\s.2<p.tail
 rotate_left
 ·have hd2:decide (0<=s.2/\s.2<p.tail)=false:=decide_eq_false h2;have hr:xA p i s=7:=by unfold xA;rw[if_neg (not_not_intro h1),if_pos h2]
  rw[hd2]at hw2;refine aac ?_;simp;refine ag.p 3 9 hw1 ?_;simp;refine ag.p 3 9 hw2 ?_;simp;apply hK1;refine aai (aab ?_);exact aae (au.rt rfl 4 (by simp[hr]))
 have hd2:decide (0<=s.2/\s.2<p.tail)=true:=decide_eq_true h2;rw[hd2]at hw2;refine aac ?_;simp;refine ag.p 3 9 hw1 ?_;simp;refine ag.p 3 9 hw2 ?_;simp;apply hK1;refine aah (aad (hK _ _ (aaa λK hK=>?_)));have x1:=λlv=>S3 hp lv s.1 h1.1 (by omega)
 have x2:=λlv=>S3 hp lv s.2 h2.1 (by omega)
 have hr:xA p i s=if (p.nd s.2.toNat).f≠(p.nd s.1.toNat).f then 143 else if (List.range p.nn).any (λj=>iZ i (p.nd s.1.toNat).f (p.nd j))then 143 else 0:=by
  unfold xA;rw[if_neg (not_not_intro h1),if_neg (not_not_intro h2)]
 generalize p.nd s.1.toNat=n1 at*
 generalize p.nd s.2.toNat=n2 at*
 refine aau x1 @aj.eq_1 (hK _ _ ?_);refine aak λK hK=>?_;simp[G9,rz,xd,zH,iB];apply hK;refine aaa λK hK=>aaa λK1 hK1=>?_
 by_cases h3:n2.f=n1.f
 ·have hc:=LA (GG m) p hp (by omega) i n1.f;refine aaq mixed (by kernel_rfl) rfl ?_;simp[x2,h3];refine ag.Na (T0:=3) (T1:=3) (cs0:=cI i) (cs1:=cI n1.f) 4 9 1 3 true [9] hc rfl rfl rfl (by simp) (by simp) (by decide) rfl rfl ?_ ?_ (by simp) ?_
  ·intro a b c;have:a=0\/a=1:=by simp at b;omega
   rcases this with rfl|rfl
   ·exact⟨by simp,by simp⟩
   ·exact⟨rfl,rfl⟩
  ·intro a ha k hk;exact Mo p ha hk
  simp;refine⟨by kernel_rfl,?_⟩;apply hK1
  cases hs:(List.range p.nn).any (λj=>iZ i n1.f (p.nd j))with
  |true=>
   have hr2:xA p i s=143:=by rw[hr,if_neg (not_not_intro h3),if_pos hs]
   refine aai (aab ?_);exact aae (au.rt rfl 4 (by simp[hr2]))
  |false=>
   have hr2:xA p i s=0:=by rw[hr,if_neg (not_not_intro h3),hs,if_neg (by decide)]
   refine aah (aad (hK _ _ (aab ?_)));exact aae (au.rt rfl 4 (by simp[hr2]))
 ·have hr2:xA p i s=143:=by rw[hr,if_pos h3]
  refine AW.YW mixed x2 h3 (hK1 _ _ ?_);refine aai (aab ?_);exact aae (au.rt rfl 4 (by simp[hr2]))
def sD:Option (List (List DV))->DV
 |none=>.nilsl
 |some es=>.sl es
def NK(o:Option (List (List DV))):dc o=.d (sD o):=by cases o<;>rfl
def PD.HF(p:PD):List DV:=[sD p.f,.int .i64 p.mode,sD p.ins,sD p.nodes,.int .i64 p.head,.int .i64 p.tail,sD p.states,.int .i64 p.res]
def vz(p:PD):p.HF.map CV.d=p.cs:=by simp[PD.HF,NK]
theorem Nx(p:PD):Me (.agg p.HF)=p.A:=by show AV.agg (p.HF.map CV.d)=_;rw[vz]
theorem La(p:PD):qy p.cs=some p.HF:=by
 obtain⟨f,a,i,n,b,c,s,d⟩:=p
 cases f<;>cases i<;>cases n<;>cases s<;>rfl
def Kb(p:PD)(f:FuncId):G9 (.func f) [.agg [dc p.f,.d (.int .i64 p.mode),dc p.ins,dc p.nodes,.d (.int .i64 p.head),.d (.int .i64 p.tail),dc p.states,.d (.int .i64 p.res)]] []=some (.c (.d (.func (.func f) [.agg p.HF] [])),[],[],True):=by
 have h:=La p;simp only[PD.cs]at h;simp only[G9,rz,xd,h,zH,iB];rfl
def Xd(a b:CV):ia prog 157 [0,1] [.c a,.c b]=some (.agg [a,b],[],[],True):=by kernel_rfl
def UG(lv:Key->LB)(κ:Key)(h:lv κ=.hole)(a b c d e f g i:CV):ak prog 158 4 [0,1,2,3] lv κ [.agg [a,b],.agg [c,d],.agg [e,f],.agg [g,i]]=some (.c (.aD κ 0 4 2),[(κ,.cells true false 157 [a,b,c,d,e,f,g,i])],[],True):=by
 unfold ak;rw[h];kernel_rfl
theorem Tf(p:PD):ia prog 154 [0] [.agg [dc p.f,.d (.int .i64 p.mode),dc p.ins,dc p.nodes,.d (.int .i64 p.head),.d (.int .i64 p.tail),dc p.states,.d (.int .i64 p.res)]]=some (.agg [dc p.f,.d (.int .i64 p.mode),dc p.ins,dc p.nodes,.d (.int .i64 p.head),.d (.int .i64 p.tail),dc p.states,.d (.int .i64 p.res)],[],[],True):=
 (show ∀a b c d e f g h:CV,ia prog 154 [0] [.agg [a,b,c,d,e,f,g,h]]=some (.agg [a,b,c,d,e,f,g,h],[],[],True) from λa b c d e f g h=>by kernel_rfl) _ _ _ _ _ _ _ _
def RQ(p:PD):List CV:=[.d (.int .i64 p.nf),.d (.func (.func 83) [.agg p.HF] []),.d (.int .i64 p.ni),.d (.func (.func 84) [.agg p.HF] []),.d (.int .i64 p.nn),.d (.func (.func 85) [.agg p.HF] []),.d (.int .i64 p.ns),.d (.func (.func 86) [.agg p.HF] [])]
@[simp]def Vu(p:PD)(g:Key->Key):(RQ p).map (CV.bM g)=RQ p:=rfl
def K0(p:PD)(k:Nat)(hk:k<4):eW prog 157 ((RQ p).drop (k*2))=some (.agg [.d (.int .i64 (jo p k)),.d (.func (.func (83+k)) [.agg p.HF] [])]):=by
 have h:k=0\/k=1\/k=2\/k=3:=by omega
 rcases h with rfl|rfl|rfl|rfl<;>simp[RQ,jo]
def Ot(m:Int)(p:PD)(hp:p.ok)(hg:dB p=0)(k:Nat)(hk:k<4)(i:Nat)(hi:i<jo p k):aa prog (GG m) (83+k) [p.A,.c (.d (.int .i64 i))] (.c (.d (.int .i64 (cz p k i)))):=by
 have h:k=0\/k=1\/k=2\/k=3:=by omega
 have hr:=kC hg;rcases h with rfl|rfl|rfl|rfl
 ·exact I5 _ p hp i hi
 ·exact Ks m p hp i hi
 ·exact Pr m p hp i hi (by omega)
 ·exact MY m p hp hg i hi
def OH(k:Nat)(hk:k<4):aJ prog (83+k)=true:=by
 have h:k=0\/k=1\/k=2\/k=3:=by omega
 rcases h with rfl|rfl|rfl|rfl<;>simp
def OI(hg:dB p=0)(k:Nat)(hk:k<4):jo p k<=64:=by
 have h:k=0\/k=1\/k=2\/k=3:=by omega
 have hr:=kC hg;rcases h with rfl|rfl|rfl|rfl<;>simp only[jo]<;>omega
theorem MS(m:Int)(p:PD)(hp:p.ok):aa prog (GG m) 31 [p.A] (.tup [.c (.d (.int .i64 (dA p).1)),.c (.d (.int .i64 (dA p).2.1)),.c (.d (.int .i64 (dA p).2.2))]):=by
 have hge:=Gu (GG m) p;have hbl:∀lv (h:lv 2=.hole) (a b c d e f g i:CV),ak prog 158 4 [0,1,2,3] lv 2 [.agg [a,b],.agg [c,d],.agg [e,f],.agg [g,i]]=some (.c (.aD 2 0 4 2),[(2,.cells true false 157 [a,b,c,d,e,f,g,i])],[],True):=λlv h=>UG lv 2 h
 by_cases hg:dB p=0
 rotate_left
 ·have hr:dA p=(0,0,dB p):=by unfold dA;rw[if_pos hg]
  rw[hr];refine aa.en func31 rfl λ_=>aab ?_;refine aap @Tf @aj.eq_1 ?_;refine aaa λK hK=>aar 2 hge ?_;refine aab ?_;refine aag (by simp[hg]<;>omega) (aab ?_);exact aae (au.t3 rfl 9 (by simp) (by simp) (by simp))
 have hr:dA p=dx p 4 0:=by unfold dA;rw[if_neg (not_not_intro hg)]
 rw[hr];rw[hg]at hge;have hwi:=jx (GG m) p.res p.nn;have hse:=qZ (GG m) p p.res;refine aa.Qh func31 rfl λ_=>aab ?_;refine aap @Tf @aj.eq_1 ?_;refine aaa λK hK=>aar 2 hge ?_;refine aab ?_;refine aah (aad (hK _ _ (aak λK hK=>?_)));simp[vZ,zV,iN,rZ,Kb,Xd,hbl,-ak];apply hK;refine aaa λK hK=>aab ?_;refine aaf ?_
 refine aao (λ(k:Nat)=>⟨aU [(1,.c (.ptr 0 0)),(5,.c (.ptr 1 0)),(44,.c (.aD 2 0 4 2)),(45,.c (.d (.int .i64 4))),(46,.c (.d (.int .i64 k)))],
  az (az (az (λ_=>.hole) 0 (.cells true false 27 p.cs)) 1 (.cells true false 154 p.cs)) 2 (.cells true false 157 (RQ p))⟩) 3
  (λk=>k<=4/\dx p (4-k) k=dx p 4 0) (λk=>4-k) 0 (Le.mX _ (by simp[RQ])) ⟨by omega,rfl⟩ ?_
 rintro k ⟨hk,hpv⟩
 try simp only at hk hpv
 refine aab ?_;refine aaa λK2 hK2=>?_
 by_cases hlt:k<4
 ·have hlt':(k:Int)<4:=by omega
  have hld:=K0 p k hlt;have hle:=OI hg k hlt;have hfn:=OH k hlt;have hca:=Ot m p hp hg k hlt
  have hstep:∀i,i<jo p k->cz p k i≠0->(∀j,j<i->cz p k j=0)->dx p 4 0=((k:Int)+1,(i:Int),cz p k i):=by
   intro i hi h0 h1;rw[<-hpv,show 4-k=(4-(k+1))+1 by omega];show(match jB (cz p k) (jo p k)with|some i=>((k:Int)+1,(i:Int),cz p k i)|none=>dx p (4-(k+1)) (k+1))=_;rw[vH hi h0 h1]
  have hnext:(∀j,j<jo p k->cz p k j=0)->dx p (4-(k+1)) (k+1)=dx p 4 0:=by
   intro h1;rw[<-hpv,show 4-k=(4-(k+1))+1 by omega];show _=(match jB (cz p k) (jo p k)with|some i=>((k:Int)+1,(i:Int),cz p k i)|none=>dx p (4-(k+1)) (k+1))
   rw[vI h1]
  generalize jo p k=N at*
  generalize cz p k=E at*
  refine aag (by simp[hlt']<;>omega) (aad (hK2 _ _ (aaa λK3 hK3=>aaf (aak λK4 hK4=>?_))));simp[hlt',hld,aj,-IQ];apply hK4;refine aab ?_;refine aaf ?_
  refine aao (λ(i:Nat)=>⟨aU [(1,.c (.ptr 0 0)),(5,.c (.ptr 1 0)),(8,.c (.d (.int .i64 k))),(9,.c (.ptr 3 0)),(44,.c (.aD 2 0 4 2)),(45,.c (.d (.int .i64 4))),(46,.c (.d (.int .i64 k))),(52,.c (.d (.int .i64 N))),(53,.c (.d (.int .i64 i)))],
   az (az (az (az (λ_=>.hole) 0 (.cells true false 27 p.cs)) 1 (.cells true false 154 p.cs)) 2 (.cells true false 157 (RQ p))) 3 (.cells true false 157 [.d (.int .i64 N),.d (.func (.func (83+k)) [.agg p.HF] [])])⟩) 4
   (λi=>i<=N/\∀j,j<i->E j=0) (λi=>N-i) 0 (Le.mX _ (by simp[aj])) ⟨by omega,λj hj=>absurd hj (ZH j)⟩ ?_
  rintro i ⟨hi,hall⟩
  try simp only at hi hall
  refine aab ?_;refine aaa λK6 hK6=>?_
  by_cases hlt2:i<N
  ·have hlt2':(i:Int)<(N:Int):=by omega
   have hc:=hca i hlt2;refine aag (by simp[hlt2']<;>omega) (aad (hK6 _ _ (aaa λK7 hK7=>aaf (aab ?_))));refine AW.c4 4 hc @IZ @mH @Nx hfn ?_;refine aab ?_
   by_cases h0:E i=0
   ·refine aaj (by simp[h0]<;>omega) (aad (hK7 _ _ ?_));have f12:=bF (n:=(i:Int)+1) (by omega) (by omega);refine aac ?_;simp[f12];refine⟨i+1,Le.mX _,⟨by omega,λj hj=>?_⟩,by omega⟩
    by_cases hji:j=i
    ·subst hji;exact h0
    ·exact hall j (by omega)
   ·have hres:=hstep i hlt2 h0 hall;have f12:=bF (n:=(k:Int)+1) (by omega) (by omega);refine aag (by simp[h0]<;>omega) (aam f12 ?_);exact aae (au.t3 rfl 9 (by simp[hres]) (by simp[hres]) (by simp[hres]))
  ·have hlt2':¬(i:Int)<(N:Int):=by omega
   refine aaj (by simp[hlt2']<;>omega) (aan (hK3 _ _ ?_));have f12:=bF (n:=(k:Int)+1) (by omega) (by omega);refine aac ?_;simp[f12];exact⟨k+1,(Le.l5 [3] 9),⟨by omega,hnext λj hj=>hall j (by omega)⟩,by omega⟩
 ·have hlt':¬(k:Int)<4:=by omega
  have hk4:k=4:=by omega
  subst hk4;have hfin:dx p 4 0=if 0<=p.res/\p.res<p.nn/\jZ p p.res≠1 then(0,0,0)else(5,0,7):=by rw[<-hpv];rfl
  refine aaj (by simp[hlt']<;>omega) (aan (hK _ _ (aaa λK hK=>aaa λK1 hK1=>?_)))
  by_cases h1:0<=p.res/\p.res<p.nn
  rotate_left
  ·have hd:decide (0<=p.res/\p.res<(p.nn:Int))=false:=decide_eq_false h1;have hres:dx p 4 0=(5,0,7):=by rw[hfin,if_neg (λh=>h1 ⟨h.1,h.2.1⟩)]
   rw[hd]at hwi;refine aax 3 hwi @iN (hK1 _ _ ?_);refine aai (aab ?_);exact aae (au.t3 rfl 9 (by simp[hres]) (by simp[hres]) (by simp[hres]))
  have hd:decide (0<=p.res/\p.res<(p.nn:Int))=true:=decide_eq_true h1;rw[hd]at hwi
  by_cases h2:jZ p p.res=1
  ·have hres:dx p 4 0=(5,0,7):=by rw[hfin,if_neg (λh=>h.2.2 h2)]
   rw[h2]at hse;refine aac ?_;simp[iN];refine ag.p 3 9 hwi ?_;simp;refine ag.p 3 9 hse ?_;simp;apply hK1;refine aai (aab ?_);exact aae (au.t3 rfl 9 (by simp[hres]) (by simp[hres]) (by simp[hres]))
  ·have hres:dx p 4 0=(0,0,0):=by rw[hfin,if_pos ⟨h1.1,h1.2,h2⟩]
   refine aac ?_;simp[iN];refine ag.p 3 9 hwi ?_;simp;refine ag.p 3 9 hse ?_;simp[h2];apply hK1;refine aaj (by simp[h2]<;>omega) (aad (hK _ _ (aab ?_)));exact aae (au.t3 rfl 9 (by simp[hres]) (by simp[hres]) (by simp[hres]))
def so(m:Int)(p:PD)(hp:p.ok):aa prog (GG m) 45 [p.A] (.c (.d (.int .i64 (dA p).2.2))):=by
 have h:=MS m p hp;generalize dA p=v at*
 refine aa.en func45 rfl λ_=>aab ?_;refine aar 1 h ?_;refine aab ?_;exact aae (au.rt rfl 2 (by simp))
def HS(own fz:Bool)(T:TypeId)(l:List DV)(g:Key->Key):(LB.cells own fz T (l.map CV.d)).like (.cells own fz T (l.map CV.d)) g:=LB.m9.2 ⟨rfl,rfl,by rw[ZC];rfl,id⟩
def Nc(T:TypeId)(p:PD)(g:Key->Key):(LB.cells true false T p.cs).like (.cells true false T p.cs) g:=by
 rw[<-vz];exact HS ..
def LI(l:List Int)(g:Key->Key):(LB.cells true false 3 (zK l)).like (.cells true false 3 (zK l)) g:=by
 rw[uw];exact HS ..
theorem iq(h:lv k=.hole):az lv k .hole=lv:=by
 funext j;unfold az;split
 ·rename_i e;rw[e,h]
 ·rfl
def zB(l:List Int):LB:=if l=[]then .hole else .cells true false 3 (zK l)
def Qz(k:Key)(l:List Int):AV:=if l=[]then .c (.d .nilsl)else .c (.aD k 0 l.length 1)
def Wp(lv:Key->LB)(κ:Key)(h:lv κ=.hole)(a:CV):ak prog 30 1 [0] lv κ [.c a]=some (.c (.aD κ 0 1 1),[(κ,.cells true false 3 [a])],[],True):=by
 unfold ak;rw[h];kernel_rfl
def Q4{l:List DV}(h:lv k=.cells own fz T (l.map CV.d))(hl:l.length<=1000):eP lv (.c (.aD k 0 l.length 1))=some (.c (.d (.sl (l.map λx=>[x]))),[k]):=by
 have h1:((l.map CV.d).drop 0).take (l.length*1)=l.map CV.d:=by rw[Y9,Z0];exact aa5 (by simp)
 have h2:0+l.length*1<=(l.map CV.d).length/\l.length<=9223372036854775807:=⟨by simp,by omega⟩
 show(cR lv 8 (.aD k 0 l.length 1)).map _=_;simp only[cR,h];rw[if_pos h2,h1,ua];simp only[Zs,pP]
theorem Pn(h:lv k=.cells own fz T (zK l))(hl:l.length<=1000):eP lv (.c (.aD k 0 l.length 1))=some (.c (zC (some l)),[k]):=by
 have:=Q4 (l:=l.map λx=>DV.int .i64 x) (by rw[<-uw];exact h) (by simpa using hl);rwa[Zt,ZC]at this
def Wu(p:PD)(lv:Key->LB)(hp:p.ok)(i:Nat)(hi:i<p.ni):aq prog 23 lv (.c (dc p.ins)) (.c (.d (.int .i64 (i:Int))))=some (.c (.d (.ptr (p.AR i).e)),[],[],True):=by
 have:=Vf hp lv (i:Int) (by omega) (by omega)
 rwa[Zp]at this
def HR(l:List Int)(x:Int):zB (l++[x])=.cells true false 3 (zK l++[.d (.int .i64 x)]):=by
 unfold zB;rw[if_neg (by simp)];simp[zK]
def IB(k:Key)(l:List Int)(x:Int):Qz k (l++[x])=.c (.aD k 0 (l.length+1) 1):=by
 unfold Qz;rw[if_neg (by simp)];simp
def Hw(h:(dA p).2.2=0):dB p=0:=by
 unfold dA at h
 by_cases hg:dB p=0
 ·exact hg
 ·rw[if_pos hg]at h;exact absurd h hg
theorem ET{p:PD}:∀(n k:Nat),(dx p n k).2.2=0->(∀j,k<=j->j<k+n->∀i,i<jo p j->cz p j i=0)/\(0<=p.res/\p.res<p.nn/\jZ p p.res≠1)
 |0,k,h=>by
  refine⟨λj h1 h2=>by omega,?_⟩
  by_cases hc:0<=p.res/\p.res<p.nn/\jZ p p.res≠1
  ·exact hc
  ·have e:dx p 0 k=(5,0,7):=if_neg hc;rw[e]at h;cases h
 |n+1,k,h=>by
  have e:dx p (n+1) k=match jB (cz p k) (jo p k)with|some i=>((k:Int)+1,(i:Int),cz p k i)|none=>dx p n (k+1):=rfl
  rw[e]at h
  cases hf:jB (cz p k) (jo p k)with
  |some i=>
   rw[hf]at h;unfold jB at hf;have:=ab1 hf;exact absurd h (by simpa using this)
  |none=>
   rw[hf]at h;obtain⟨h1,h2⟩:=ET n (k+1) h;refine⟨λj g1 g2 i hi=>?_,h2⟩
   by_cases hj:j=k
   ·subst hj;unfold jB at hf;rw[ab2]at hf;have:=hf i (List.mem_range.2 hi);simpa using this
   ·exact h1 j (by omega) (by omega) i hi
structure PD.good(p:PD):Prop where
 ok:p.ok
 gen:dB p=0
 XL:∀i,i<p.nf->fT (p.fm i).1 (p.fm i).2=0
 ins:∀i,i<p.ni->vu p (p.AR i)=0
 nodes:∀i,i<p.nn->kB p i (p.nd i)=0
 states:∀i,i<p.ns->xA p i (p.st i)=0
 res:0<=p.res/\p.res<p.nn/\jZ p p.res≠1
theorem ou(hp:p.ok)(h:(dA p).2.2=0):p.good:=by
 have hg:=Hw h;have e:dA p=dx p 4 0:=by unfold dA;rw[if_neg (not_not_intro hg)]
 rw[e]at h;obtain⟨h1,h2⟩:=ET 4 0 h;exact⟨hp,hg,h1 0 (by omega) (by omega),h1 1 (by omega) (by omega),h1 2 (by omega) (by omega),h1 3 (by omega) (by omega),h2⟩
@[simp]def VV(E:TypeId)(o:Option (List (List DV)))(g:Key->Key):(j7 E o).bM g=j7 E o:=by
 cases o with
 |none=>rfl
 |some es=>simp only[j7,LB.kJ,DD]
@[simp]def VH(E:TypeId)(o:Option (List (List DV)))(b:Bool):(j7 E o).fix b=j7 E o:=by cases o<;>rfl
def Ck(E:TypeId)(o:Option (List (List DV))):j7 E o≠.hole:=by cases o<;>(intro h;cases h)
def Ro(E:TypeId)(o:Option (List (List DV)))(g:Key->Key):(j7 E o).like (j7 E o) g:=by
 cases o with
 |none=>rfl
 |some es=>exact kM E es g
abbrev lP(p:PD)(a b c d:Key):List CV:=[.aD a 0 p.nf 2,.d (.int .i64 p.mode),.aD b 0 p.ni 3,.aD c 0 p.nn 7,.d (.int .i64 p.head),.d (.int .i64 p.tail),.aD d 0 p.ns 2,.d (.int .i64 p.res)]
structure PD.Cx(p:PD):Prop where
 f:p.nf<=1000
 i:p.ni<=1000
 n:p.nn<=1000
 s:p.ns<=1000
def yN(a b c d e f g h:CV):eW prog 27 [a,b,c,d,e,f,g,h]=some (.agg [a,b,c,d,e,f,g,h]):=by kernel_rfl
theorem JU(G:List (List DV))(p:PD)(hp:p.ok)(ht:p.Cx):aA prog G 78 [p.A] [] (.ret (.agg (lP p 1000 1001 1002 1003)) [] [j7 81 p.f,j7 67 p.ins,j7 55 p.nodes,j7 69 p.states]):=by
 have c1:=Ea G p.f (λe he=>iI (hp.f e he)) (Zf ht.f (by decide));have c2:=Eo G p.ins (λe he=>mW (hp.ins e he)) (Zf ht.i (by decide));have c3:=Ce G p.nodes (λe he=>mO (hp.nodes e he)) (Zf ht.n (by decide));have c4:=Cj G p.states (λe he=>iI (hp.states e he)) (Zf ht.s (by decide));refine aA.Sv func78 rfl λ_=>aab ?_;refine aaa λK hK=>?_;refine aaq mixed (by kernel_rfl) rfl ?_;simp;refine ag.PY 3 19 [2] [j7 81 p.f] c1 (by simp) (by simp) (by simp) rfl (by simp) (by simp) (by simp[Ck]) ?_;simp[bD,aG];refine ag.PY 4 19 [3] [j7 67 p.ins] c2 (by simp) (by simp) (by simp) rfl (by simp) (by simp) (by simp[Ck]) ?_;simp[bD,aG,aj];refine⟨by kernel_rfl,?_⟩;apply hK;refine aaa λK hK=>?_;refine aaq mixed (by kernel_rfl) rfl ?_;simp;refine ag.PY 5 19 [4] [j7 55 p.nodes] c3 (by simp) (by simp) (by simp) rfl (by simp) (by simp) (by simp[Ck]) ?_;simp[bD,aG];refine ag.PY 6 19 [5] [j7 69 p.states] c4 (by simp) (by simp) (by simp) rfl (by simp) (by simp) (by simp[Ck]) ?_;simp[bD,aG,aj];refine⟨by kernel_rfl,?_⟩;apply hK;refine aab ?_;refine aal (κ:=0) ⟨[(1000,2,j7 81 p.f),(1001,3,j7 67 p.ins),(1002,4,j7 55 p.nodes),(1003,5,j7 69 p.states)],19,tY _ _ _ _,by simp,by simp,by simp,?_,rfl,?_⟩
 ·simp[Ro]
 ·show cO _ _ [.cell 2 27]=_;simp[cO,iT,j8,bP,aj,PD.nf,PD.ni,PD.nn,PD.ns]
def aa.L7{us:List AV}{X:AV}{ks:List Key}(h:aA P G f us [] (.ret X [] ν))(hd:fF (bq [] ν) X=some (x,ks)):aa P G f us x:=by
 refine aa.yf (lv':=bq [] ν) (λF β w vs hS hl hv=>?_) hd;have hlv:bq [] []=λ_=>LB.hole:=gW
 have h2:=h F β w vs (by rw[hlv];exact hS) hl (by rw[hlv];exact hv);refine h2.mono λe w' he=>?_;obtain⟨v,F',β',h3,h4,h5⟩:=he;exact⟨v,F',β',h3,by rw[hlv]at h4;exact h4,h5⟩
theorem jY(h:lv k=j7 E o)(hs:∀e∈sO o,e.length=sz)(hl:(sO o).length<=1000):
 cR lv (n+1) (.aD k 0 (sO o).length sz)=some (sD o,if o.isSome then[k]else[]):=by
 cases o with
 |none=>simp only[j7]at h;simp only[cR,h];rfl
 |some es=>
  simp only[j7]at h;have hs:∀e∈es,e.length=sz:=hs;have hl:es.length<=1000:=hl;have h1:=mL (sz:=sz) h hs (by omega);show cR lv (n+1) (.aD k 0 es.length sz)=some (.sl es,[k])
  have hlen:es.flatten.length=es.length*sz:=by
   rw[List.length_flatten]
   have:∀l:List (List DV),(∀e∈l,e.length=sz)->(l.map List.length).sum=l.length*sz:=by
    intro l
    induction l with
    |nil=>intro _;simp
    |cons a l ih=>intro h;simp[ih λx hx=>h x (by simp[hx]),h a (by simp),Nat.succ_mul];omega
   exact this es hs
  have ht:(es.flatten.map CV.d).take (es.length*sz)=es.flatten.map CV.d:=aa5 (by rw[Zt,hlen];exact aY _);have hl2:es.length<=9223372036854775807:=by omega
  simp only[cR,h,Zt,hlen,Zw,aY,hl2,and_self,if_true,Y9,ht,ua,Zs,qN es hs]
theorem IK{c:Key}(hp:p.ok)(ht:p.Cx)(h1:lv a=j7 81 p.f)(h2:lv b=j7 67 p.ins)(h3:lv c=j7 55 p.nodes)(h4:lv d=j7 69 p.states):
 eP lv (.agg (lP p a b c d))=some (p.A,(if p.f.isSome then[a]else[])++((if p.ins.isSome then[b]else[])++((if p.nodes.isSome then[c]else[])++(if p.states.isSome then[d]else[])))):=by
 have e1:=jY (n:=7) h1 (λe he=>iI (hp.f e he)) ht.f;have e2:=jY (n:=7) h2 (λe he=>mW (hp.ins e he)) ht.i;have e3:=jY (n:=7) h3 (λe he=>mO (hp.nodes e he)) ht.n;have e4:=jY (n:=7) h4 (λe he=>iI (hp.states e he)) ht.s;have f1:∀n:Int,cR lv 8 (.d (.int .i64 n))=some (.int .i64 n,[]):=λn=>rfl
 simp only[eP,PD.nf,PD.ni,PD.nn,PD.ns,fN,e1,e2,e3,e4,f1,Zs,ZL,aaS];show some (AV.agg (p.HF.map CV.d),_)=_;rw[vz]
def II(G:List (List DV))(p:PD)(hp:p.ok)(ht:p.Cx):aa prog G 78 [p.A] p.A:=
 aa.L7 (JU G p hp ht) (IK hp ht (by rw[tY];simp) (by rw[tY];simp) (by rw[tY];simp) (by rw[tY];simp))
def iU:PD:=⟨none,0,none,none,0,0,none,0⟩
def Q7:ia prog 27 [] []=some (.agg iU.cs,[],[],True):=by kernel_rfl
theorem nR(lv:Key->LB)(p:PD)(n:Int):fF lv (.tup [p.A,.c (.d (.int .i64 n))])=some (.tup [p.A,.c (.d (.int .i64 n))],[]):=by
 obtain⟨f,a,i,nn,b,c,s,d⟩:=p
 cases f<;>cases i<;>cases nn<;>cases s<;>rfl
@[simp]theorem PD.YE(p:PD)(n:Int):(AV.tup [.agg [dc p.f,.d (.int .i64 p.mode),dc p.ins,dc p.nodes,.d (.int .i64 p.head),.d (.int .i64 p.tail),dc p.states,.d (.int .i64 p.res)],.c (.d (.int .i64 n))]).pure=true:=by
 obtain⟨f,a,i,nn,b,c,s,d⟩:=p
 cases f<;>cases i<;>cases nn<;>cases s<;>rfl
def E3(h:(dA p).2.2=0):p.Cx:=by
 have:=kC (Hw h);exact⟨by omega,by omega,by omega,by omega⟩
theorem A7{w:World}{F W:Nat->Prop}{iV:Key->LB}{b:Key->Nat}{q:PD}{e:Int}{t u:Nat}{s:aE}(hP:P=prog)(hr:fn.results=#[.cell t 27,.tmp u])(k:Key)(ht:s.fr t=.c (.ptr k 0):=by simp)(hk:s.lv k=.cells true false 27 q.cs:=by simp[aj])(hu:s.fr u=.c (.d (.int .i64 e)):=by simp):
 bO ⟨P,G,w,F,W,n,iV,b⟩ fn (.tup [q.A,.c (.d (.int .i64 e))]) .ret s 0:=by
 subst hP;refine bO.jQ (κ:=0) (T:=27) (k:=k) (off:=0) (own:=true) (fz:=false) (U:=27) (cs:=q.cs) hr ht hk ?_ hu rfl rfl;rw[Y9];exact yN ..
def S7(p:PD):PD:=if (dA p).2.2=0 then p else iU
def PD.Rn(p:PD)(n:Int):PD:=⟨p.f,p.mode,p.ins,p.nodes,p.head,p.tail,p.states,n⟩
def S0(p:PD)(n:Int):PD×Int:=if (dA p).2.2≠0 then(iU,(dA p).2.2)else if 0<=n/\n<p.nn/\jZ p n≠1 then(p.Rn n,0)else(iU,7)
def gm(l:List Nd):List CV:=(l.flatMap Nd.e).map CV.d
def WZ(l:List In):List CV:=(l.flatMap In.e).map CV.d
def MN(n:Nd)(l:List Nd):gm (n::l)=[CV.d (.int .i64 n.op),.d (.int .i64 n.a),.d (.int .i64 n.b),.d (.int .i64 n.c),.d (.int .i64 n.d),.d (.int .i64 n.f),.d (.str n.v)]++gm l:=by
 simp[gm]
def Nd.W2(n:Nd)(x:Int):Nd:=⟨n.op,n.a,n.b,n.c,n.d,x,n.v⟩
def In.Wt(n:In)(a b:List UInt8):In:=⟨n.f,a,b⟩
theorem gN(l:List Nd):(gm l).length=l.length*7:=by
 induction l with
 |nil=>rfl
 |cons a l ih=>rw[MN,Zg,ih];simp;omega
def PD.N(p:PD):List Nd:=(sO p.nodes).map Py
def PD.I(p:PD):List In:=(sO p.ins).map Rt
def PD.El(p:PD):p.N.length=p.nn:=by simp[PD.N,PD.nn]
def nP(lv:Key->LB)(k:Key)(E:TypeId)(o:Option (List (List DV))):Prop:=match o with
 |none=>lv k=.nils
 |some es=>∃own fz,lv k=.cells own fz E (es.flatten.map CV.d)
theorem pI(h:nP lv k E o)(hs:∀e∈sO o,e.length=sz)(hl:(sO o).length<=1000):
 cR lv (n+1) (.aD k 0 (sO o).length sz)=some (sD o,if o.isSome then[k]else[]):=by
 cases o with
 |none=>exact jY (E:=E) h hs hl
 |some es=>
  obtain⟨own,fz,h⟩:=h
  have e:cR lv (n+1) (.aD k 0 (sO (some es)).length sz)=cR (az lv k (.cells true false E (es.flatten.map CV.d))) (n+1) (.aD k 0 (sO (some es)).length sz):=by
   simp only[cR,h,aC];rw[jX (f:=cR lv n) (g:=cR (az lv k (.cells true false E (es.flatten.map CV.d))) n)];intro x hx;have hx:=aa1 (aa8 hx);obtain⟨d,_,rfl⟩:=List.mem_map.1 hx
   cases n<;>rfl
  rw[e];exact jY (E:=E) (aC _ _ _) hs hl
theorem J6{c:Key}(hp:p.ok)(ht:p.Cx)(h1:nP lv a 81 p.f)(h2:nP lv b 67 p.ins)(h3:nP lv c 55 p.nodes)(h4:nP lv d 69 p.states):
 eP lv (.agg (lP p a b c d))=some (p.A,(if p.f.isSome then[a]else[])++((if p.ins.isSome then[b]else[])++((if p.nodes.isSome then[c]else[])++(if p.states.isSome then[d]else[])))):=by
 have e1:=pI (n:=7) h1 (λe he=>iI (hp.f e he)) ht.f;have e2:=pI (n:=7) h2 (λe he=>mW (hp.ins e he)) ht.i;have e3:=pI (n:=7) h3 (λe he=>mO (hp.nodes e he)) ht.n;have e4:=pI (n:=7) h4 (λe he=>iI (hp.states e he)) ht.s;have f1:∀n:Int,cR lv 8 (.d (.int .i64 n))=some (.int .i64 n,[]):=λn=>rfl
 simp only[eP,PD.nf,PD.ni,PD.nn,PD.ns,fN,e1,e2,e3,e4,f1,Zs,ZL,aaS];show some (AV.agg (p.HF.map CV.d),_)=_;rw[vz]
def zS(k:Key)(E:TypeId):Option (List (List DV))->List (Key×TypeId×List CV)
 |none=>[]
 |some es=>[(k,E,es.flatten.map CV.d)]
def PC(k:Key)(E:TypeId)(o:Option (List (List DV))):(zS k E o).map (·.1)=if o.isSome then[k]else[]:=by cases o<;>rfl
theorem sH{Z:List (Key×TypeId×List CV)}(h:lv k=j7 E o)(hn:(Z.map (·.1)).Nodup)(hz:∀z∈zS k E o,z∈Z)(hk:o=none->k∉Z.map (·.1)):nP (aQ lv (dS Z)) k E o:=by
 cases o with
 |none=>
  show aQ lv (dS Z) k=.nils;rw[cu (by rw[gR];exact hk rfl)];exact h
 |some es=>
  have hm:=hz (k,E,es.flatten.map CV.d) (by simp[zS]);refine⟨true,true,?_⟩;exact jT (by rw[gR];exact hn) (by simp only[dS,ZX];exact⟨_,hm,rfl⟩)
theorem MR{c:Key}(h1:nP lv a 81 p.f)(h2:nP lv b 67 p.ins)(h3:nP lv c 55 p.nodes)(h4:nP lv d 69 p.states)(hk:k∈hO lv (.agg (lP p a b c d))):k=a\/k=b\/k=c\/k=d:=by
 have key:∀{k':Key}{E:TypeId}{o:Option (List (List DV))}{n sz:Nat},nP lv k' E o->k∈fK lv 8 (.aD k' 0 n sz)->k=k':=by
  intro k' E o n sz h hm;simp only[fK,rP]at hm;rcases hm with hm|hm
  ·exact hm
  ·exfalso
   cases o with
   |none=>rw[show lv k'=.nils from h]at hm;cases hm
   |some es=>
    obtain⟨own,fz,h⟩:=h;rw[h]at hm;simp only[aaK,ZX]at hm;obtain⟨x,⟨y,_,rfl⟩,hx⟩:=hm
    cases hx
 simp only[hO,aaK,rP,Zd,or_false]at hk;obtain⟨x,hx,hk⟩:=hk;rcases hx with rfl|rfl|rfl|rfl|rfl|rfl|rfl|rfl
 ·exact .inl (key h1 hk)
 ·cases hk
 ·exact .inr (.inl (key h2 hk))
 ·exact .inr (.inr (.inl (key h3 hk)))
 ·cases hk
 ·cases hk
 ·exact .inr (.inr (.inr (key h4 hk)))
 ·cases hk
theorem ag.prog'(κ' kh a b d e:Key)(p:PD)(hp:p.ok)(ht:p.Cx)(hc:aa c.P c.G f [p.A] x)(hx:x.pure=true)
 (h1:lv a=j7 81 p.f) (h2:lv b=j7 67 p.ins) (h3:lv d=j7 55 p.nodes) (h4:lv e=j7 69 p.states) (hn:[a,b,d,e].Nodup) (hh:lv kh=.hole)
 (hK:∀us,(∀k,k≠a->k≠b->k≠d->k≠e->aQ lv us k=lv k)->nP (aQ lv us) a 81 p.f->nP (aQ lv us) b 67 p.ins->nP (aQ lv us) d 55 p.nodes->nP (aQ lv us) e 69 p.states->K x us [kh,a,b,d,e] κ'):ag c f [.agg (lP p a b d e)] lv K:=by
 obtain⟨Z,hZ⟩:∃Z,Z=zS a 81 p.f++(zS b 67 p.ins++(zS d 55 p.nodes++zS e 69 p.states)):=⟨_,rfl⟩
 have hZk:Z.map (·.1)=(if p.f.isSome then[a]else[])++((if p.ins.isSome then[b]else[])++((if p.nodes.isSome then[d]else[])++(if p.states.isSome then[e]else[]))):=by
  rw[hZ];simp only[aaR,PC]
 simp only[List.nodup_cons,rP,Zd,or_false,not_or,List.nodup_nil,and_true,not_false_eq_true]at hn;obtain⟨⟨n1,n2,n3⟩,⟨n4,n5⟩,n6⟩:=hn
 have hsub:∀k,k∈Z.map (·.1)->k=a\/k=b\/k=d\/k=e:=by
  intro k hk;rw[hZk]at hk;simp only[Z5]at hk;rcases hk with h|h|h|h<;>split at h<;>simp_all
 have hZn:(Z.map (·.1)).Nodup:=by
  rw[hZk]
  (repeat' split)<;>simp_all
 have hmem:∀z∈Z,lv z.1=.cells true false z.2.1 z.2.2:=by
  have g:∀{k E o},lv k=j7 E o->∀z∈zS k E o,lv z.1=.cells true false z.2.1 z.2.2:=by
   intro k E o h z hz
   cases o with
   |none=>cases hz
   |some es=>simp only[zS,ZV]at hz;subst hz;exact h
  intro z hz;rw[hZ]at hz;simp only[Z5]at hz;rcases hz with h|h|h|h
  ·exact g h1 z h
  ·exact g h2 z h
  ·exact g h3 z h
  ·exact g h4 z h
 have q1:nP (aQ lv (dS Z)) a 81 p.f:=sH h1 hZn (λz hz=>by rw[hZ];simp[hz]) (λh=>by rw[hZk,h];intro hk;simp only[Z5]at hk;(rcases hk with h|h|h|h<;>split at h<;>simp_all));have q2:nP (aQ lv (dS Z)) b 67 p.ins:=sH h2 hZn (λz hz=>by rw[hZ];simp[hz]) (λh=>by rw[hZk,h];intro hk;simp only[Z5]at hk;(rcases hk with h|h|h|h<;>split at h<;>simp_all));have q3:nP (aQ lv (dS Z)) d 55 p.nodes:=sH h3 hZn (λz hz=>by rw[hZ];simp[hz]) (λh=>by rw[hZk,h];intro hk;simp only[Z5]at hk;(rcases hk with h|h|h|h<;>split at h<;>simp_all));have q4:nP (aQ lv (dS Z)) e 69 p.states:=sH h4 hZn (λz hz=>by rw[hZ];simp[hz]) (λh=>by rw[hZk,h];intro hk;simp only[Z5]at hk;(rcases hk with h|h|h|h<;>split at h<;>simp_all));refine ag.Ug (us:=[p.A]) κ' kh Z [kh,a,b,d,e] hc hx hmem hZn hh rfl (λi p' q'=>?_) (λx hx k hk=>?_) (by simp) (hK _ (λk k1 k2 k3 k4=>?_) q1 q2 q3 q4)
 ·have hi:i=0:=by simp at p';omega
  subst hi;right;exact⟨_,J6 hp ht q1 q2 q3 q4,λk hk=>by rw[hZk];exact hk⟩
 ·simp only[ZV]at hx;subst hx;left;rcases MR q1 q2 q3 q4 hk with h|h|h|h<;>simp[h]
 ·refine cu ?_;rw[gR];intro hk;rcases hsub k hk with h|h|h|h
  ·exact k1 h
  ·exact k2 h
  ·exact k3 h
  ·exact k4 h
def ag.prog(κ' kh a b d e:Key)(p:PD)(hp:p.ok)(ht:p.Cx)(hc:aa c.P c.G f [p.A] x)(hx:x.pure=true)
 (h1:lv a=j7 81 p.f) (h2:lv b=j7 67 p.ins) (h3:lv d=j7 55 p.nodes) (h4:lv e=j7 69 p.states) (hn:[a,b,d,e].Nodup) (hh:lv kh=.hole)
 (hK:∀us,(∀k,k≠a->k≠b->k≠d->k≠e->aQ lv us k=lv k)->K x us [kh,a,b,d,e] κ'):ag c f [.agg (lP p a b d e)] lv K:=
 ag.prog' κ' kh a b d e p hp ht hc hx h1 h2 h3 h4 hn hh λus h _ _ _ _=>hK us h
def MQ(l:List Nd)(fs:List Int):Nat->List Nd
 |0=>l
 |i+1=>(MQ l fs i).set i ((l.getD i default).W2 (fs.getD i 0))
def Nk(l:List In)(lo hi:List (List UInt8)):Nat->List In
 |0=>l
 |i+1=>(Nk l lo hi i).set i ((l.getD i default).Wt (lo.getD i []) (hi.getD i []))
def PD.UO(p:PD)(l:List Nd):PD:=⟨p.f,p.mode,p.ins,some (l.map Nd.e),p.head,p.tail,p.states,p.res⟩
def PD.Tv(p:PD)(l:List In):PD:=⟨p.f,p.mode,if p.ins.isSome then some (l.map In.e)else none,p.nodes,p.head,p.tail,p.states,p.res⟩
def PD.QC(p:PD){i:Nat}(hi:i<p.N.length):p.N[i]=p.nd i:=by
 unfold PD.N PD.nd at*
 simp only[Zt]at hi;rw[Za,Y8,cy hi];rfl
@[simp]def LB.Sf{b:Bool}{cs:List CV}:(LB.cells own fz T cs).fix b=.cells (own ||b) fz T cs:=rfl
@[simp]def ct(l:List Nd)(g:Key->Key):(gm l).map (CV.bM g)=gm l:=by
 unfold gm;rw[ZC];rfl
@[simp]def Vc(l:List In)(g:Key->Key):(WZ l).map (CV.bM g)=WZ l:=by
 unfold WZ;rw[ZC];rfl
def Ys(p:PD)(fs:List Int):PD×Int:=
 if (dA p).2.2≠0 then(iU,(dA p).2.2)
 else if fs.length≠p.nn then(iU,2)
 else if fs.all (λf=>decide (0<=f/\f<(p.nf:Int)))=true then(S7 (p.UO (MQ p.N fs p.nn)),(dA (p.UO (MQ p.N fs p.nn))).2.2)
 else(iU,7)
theorem CI(h:dB p=0):∃es,p.nodes=some es:=by
 have h1:p.nn≠0:=by
  intro h0;unfold dB at h;unfold PD.nn at h0;rw[h0]at h;split at h
  ·cases h
  ·simp at h
 cases e:p.nodes with
 |none=>exact absurd (by simp[PD.nn,e,sO]) h1
 |some es=>exact⟨es,rfl⟩
theorem oh(h:gY lv)(k:Key):gY (az lv k .nils):=by
 intro k' own es h';unfold az at h';split at h'
 ·cases h'
 ·exact h _ _ _ h'
@[simp]theorem Ba(h:gY lv)(k:Key)(E:TypeId)(o:Option (List (List DV))):gY (az lv k (j7 E o)):=by
 cases o with
 |none=>intro k' own es h';simp only[j7,az]at h';split at h';cases h';exact h _ _ _ h'
 |some es=>exact pS h k true false E (es.flatten.map CV.d)
def tD(l:List (List UInt8)):List (List DV):=l.map λs=>[DV.str s]
def tC:Option (List (List UInt8))->CV
 |none=>.d .nilsl
 |some l=>.d (.sl (tD l))
def tL(o:Option (List (List UInt8))):List (List UInt8):=o.getD []
@[simp]def Vr(o:Option (List (List UInt8))):(AV.c (tC o)).pure=true:=by cases o<;>rfl
@[simp]def Un(o:Option (List (List UInt8))):(AV.c (tC o)).bC=true:=by cases o<;>rfl
@[simp]def V8(o:Option (List (List UInt8)))(g:Key->Key):(tC o).bM g=tC o:=by cases o<;>rfl
def YS(p:PD)(lo hi:List (List UInt8)):PD×Int:=
 if (dA p).2.2≠0 then(iU,(dA p).2.2)
 else if lo.length≠p.ni\/hi.length≠p.ni then(iU,2)
 else(S7 (p.Tv (Nk p.I lo hi p.ni)),(dA (p.Tv (Nk p.I lo hi p.ni))).2.2)
def sub_self{p:PD}(hp:p.ok)(h:(dA p).2.2=0):S0 p p.res=(p,0):=by
 have hg:=ou hp h;unfold S0;rw[if_neg (not_not_intro h),if_pos hg.res];rfl
def jr(p q:PD):Bool:=decide (p.mode=q.mode)&&decide (p.head=q.head)&&decide (p.tail=q.tail)&&decide (p.res=q.res) &&
 Fl (sO p.f) (sO q.f)&&Fl (sO p.ins) (sO q.ins)&&Fl (sO p.nodes) (sO q.nodes)&&Fl (sO p.states) (sO q.states)
theorem Aw(h:J8 e):uq e e=true:=by obtain⟨a,b,rfl⟩:=h;simp[uq,VG]
theorem Jh(h:Qx e):uq e e=true:=by obtain⟨a,b,c,rfl⟩:=h;simp[uq,VG]
def Jk(h:P3 e):uq e e=true:=by obtain⟨a1,a2,a3,a4,a5,a6,s,rfl⟩:=h;simp[uq,VG]
theorem oZ:∀{l:List (List DV)},(∀e∈l,uq e e=true)->Fl l l=true
 |[],_=>rfl
 |a::l,h=>by simp only[Fl,cn];exact⟨h a (aaJ ..),oZ λe he=>h e (aaI _ he)⟩
theorem y8(h:p.ok):jr p p=true:=by
 simp[jr,oZ (λe he=>Aw (h.f e he)),oZ (λe he=>Jh (h.ins e he)),oZ (λe he=>Jk (h.nodes e he)),oZ (λe he=>Aw (h.states e he))]
def tK(l:List (List UInt8)):List CV:=l.map λs=>CV.d (.str s)
def tB(l:List (List UInt8)):LB:=if l=[]then .hole else .cells true false 53 (tK l)
def Y5(k:Key)(l:List (List UInt8)):AV:=if l=[]then .c (.d .nilsl)else .c (.aD k 0 l.length 1)
def nv(l:List Int)(kk i j:Nat)(x:Int):Int:=if j<i/\j<kk then l.getD x.toNat 0 else x
def Nd.Ue(n:Nd)(l:List Int)(i:Nat):Nd:=⟨n.op,nv l (bS n.op) i 0 n.a,nv l (bS n.op) i 1 n.b,nv l (bS n.op) i 2 n.c,nv l (bS n.op) i 3 n.d,n.f,n.v⟩
def Nd.gZ(n:Nd)(l:List Int):Nd:=n.Ue l 4
def Ia(l:List Int)(kk i j:Nat)(x:Int)(h:j≠i):nv l kk (i+1) j x=nv l kk i j x:=by
 unfold nv
 by_cases h1:j<i/\j<kk
 ·rw[if_pos h1,if_pos ⟨by omega,h1.2⟩]
 ·rw[if_neg h1,if_neg (by omega)]
def N5(l:List Int)(kk j:Nat)(x:Int):nv l kk 0 j x=x:=by unfold nv;rw[if_neg (by omega)]
theorem P1(f:Key->LB)(x y z x':LB):az (az (az (az f 1000 x) 1001 y) 1002 z) 1000 x'=az (az (az f 1000 x') 1001 y) 1002 z:=by
 funext k;simp only[az]
 by_cases h1:k=1000
 ·subst h1;rfl
 ·simp[h1]
def KV(a b c d e f g:CV):eW prog 55 [a,b,c,d,e,f,g]=some (.agg [a,b,c,d,e,f,g]):=by kernel_rfl
abbrev bZ(l:List Int):LB:=.cells false false 3 (zK l)
def tJ(b:LB):bq [b] []=az (λ_=>.hole) 0 b:=sC b
def TS(lv:Key->LB)(κ:Key)(h:lv κ=.hole)(a b c d:CV):ak prog 220 4 [0,1,2,3] lv κ [.c a,.c b,.c c,.c d]=some (.c (.aD κ 0 4 1),[(κ,.cells true false 219 [a,b,c,d])],[],True):=by
 unfold ak;rw[h];kernel_rfl
theorem Nt(m:Int)(n:Nd)(h1:1<=n.op)(h2:n.op<=15)(l:List Int)(hl:l.length<=1000)(hk:∀x∈bf n,0<=x/\x<l.length):
 aA prog (GG m) 80 [n.A,.c (.aD 0 0 l.length 1)] [bZ l] (.ret (n.gZ l).A [bZ l] []):=by
 obtain⟨rest,hix⟩:=WK h1 h2;have hkl:bf n=n.l4.take (bS n.op):=by unfold bf;rw[if_pos ⟨h1,h2⟩]
 rw[hkl]at hk;have hle:=jW n.op;have hren:∀i,n.Ue l i=⟨n.op,nv l (bS n.op) i 0 n.a,nv l (bS n.op) i 1 n.b,nv l (bS n.op) i 2 n.c,nv l (bS n.op) i 3 n.d,n.f,n.v⟩:=λi=>rfl
 unfold Nd.gZ;simp only[hren];clear hren;generalize bS n.op=kk at*
 refine aA.BX func80 rfl (by rw[Tryz.ntmps80];simp) ?_;rintro⟨_,_,w0,F0,W0,_,iV,β0⟩ rfl rfl rfl hlv0;simp only at hlv0;rw[tJ]at hlv0⊢;refine aab ?_;refine aaa λK hK=>aaa λK1 hK1=>?_;have hbs:∀(lv:Key->LB) (h:lv 1002=.hole) (a b c d:CV),ak prog 220 4 [0,1,2,3] lv 1002 [.c a,.c b,.c c,.c d]=some (.c (.aD 1002 0 4 1),[(1002,.cells true false 219 [a,b,c,d])],[],True):=λlv h a b c d=>TS lv 1002 h a b c d
 refine aac ?_;simp[hbs,-ak];apply hK1;refine aaf ?_
 refine aao (λ(i:Nat)=>⟨aU [(1,.c (.aD 0 0 l.length 1)),(2,.c (.ptr 1000 0)),(4,.c (.ptr 1001 0)),(11,.c (.aD 1002 0 4 1)),(12,.c (.d (.int .i64 4))),(13,.c (.d (.int .i64 i)))],
  az (az (az (az (λ_=>.hole) 0 (bZ l)) 1000 (.cells true false 55 ((⟨n.op,nv l kk i 0 n.a,nv l kk i 1 n.b,nv l kk i 2 n.c,nv l kk i 3 n.d,n.f,n.v⟩:Nd).e.map CV.d))) 1001 (.cells true false 55 ((⟨0,0,0,0,0,0,[]⟩:Nd).e.map CV.d))) 1002 (.cells true false 219 [.ptr 1000 1,.ptr 1000 2,.ptr 1000 3,.ptr 1000 4])⟩) 1003
  (λi=>i<=4) (λi=>4-i) 0 (Le.mX _ (by simp[N5])) (Zi _) ?_
 rintro i hi
 try simp only at hi
 refine aab ?_;refine aaa λK2 hK2=>?_
 by_cases hlt:i<4
 ·have hlt':(i:Int)<4:=by omega
  refine aag (by simp[hlt,hlt']<;>omega) (aad (hK2 _ _ (aaa λK3 hK3=>aaf (aaa λK4 hK4=>?_))));have hc4:i=0\/i=1\/i=2\/i=3:=by omega
  rcases hc4 with rfl|rfl|rfl|rfl
  ·
   refine aas @aj.eq_1 (hK4 _ _ ?_);have hw:=bF (n:=1) (by omega) (by omega);have nve:∀k x,k≠0->nv l kk 1 k x=nv l kk 0 k x:=λk x h=>Ia l kk 0 k x h
   have eo:nv l kk 0 0 n.a=n.a:=by unfold nv;rw[if_neg (by omega)]
   by_cases hjk:0<kk
   ·have hjk':(0:Int)<(kk:Int):=by omega
    have hm:=hk n.a (by
     rw[abl];exact⟨0,by rw[Nd.fI];omega,rfl⟩)
    obtain⟨q,hq⟩:∃q:Nat,n.a=q:=⟨n.a.toNat,by omega⟩
    have hql:q<l.length:=by rw[hq]at hm;omega
    have hql':(q:Int)<(l.length:Int):=by omega
    have hld:=ez (P:=prog) (T:=3) (by simp) hql;have en:nv l kk 1 0 n.a=l[q]:=by unfold nv;rw[if_pos (by omega),hq,Zp,Y8,cy hql];rfl
    have eo2:nv l kk 0 0 n.a=(q:Int):=by rw[eo,hq]
    refine aaC @M3 hix hjk' ?_;refine aai (aay eo2 hql' hld @aj.eq_1 (hK3 _ _ ?_));refine aac ?_;simp;refine⟨1,Le.mX _ (by simp[nve,en,P1]) (by simp[hw]),by omega,by omega⟩
   ·refine aaa λK5 hK5=>?_;have hjk':¬(0:Int)<(kk:Int):=by omega
    have en:nv l kk 1 0 n.a=n.a:=by unfold nv;rw[if_neg (by omega)]
    refine aaA @M3 hix hjk' (hK5 _ _ ?_);refine aah (aad (hK3 _ _ (aac ?_)));simp;refine⟨1,Le.mX _ (by simp[nve,en,eo]) (by simp[hw]),by omega,by omega⟩
  ·
   refine aas @aj.eq_1 (hK4 _ _ ?_);have hw:=bF (n:=2) (by omega) (by omega);have nve:∀k x,k≠1->nv l kk 2 k x=nv l kk 1 k x:=λk x h=>Ia l kk 1 k x h
   have eo:nv l kk 1 1 n.b=n.b:=by unfold nv;rw[if_neg (by omega)]
   by_cases hjk:1<kk
   ·have hjk':(1:Int)<(kk:Int):=by omega
    have hm:=hk n.b (by
     rw[abl];exact⟨1,by rw[Nd.fI];omega,rfl⟩)
    obtain⟨q,hq⟩:∃q:Nat,n.b=q:=⟨n.b.toNat,by omega⟩
    have hql:q<l.length:=by rw[hq]at hm;omega
    have hql':(q:Int)<(l.length:Int):=by omega
    have hld:=ez (P:=prog) (T:=3) (by simp) hql;have en:nv l kk 2 1 n.b=l[q]:=by unfold nv;rw[if_pos (by omega),hq,Zp,Y8,cy hql];rfl
    have eo2:nv l kk 1 1 n.b=(q:Int):=by rw[eo,hq]
    refine aaC @M3 hix hjk' ?_;refine aai (aay eo2 hql' hld @aj.eq_1 (hK3 _ _ ?_));refine aac ?_;simp;refine⟨2,Le.mX _ (by simp[nve,en,P1]) (by simp[hw]),by omega,by omega⟩
   ·refine aaa λK5 hK5=>?_;have hjk':¬(1:Int)<(kk:Int):=by omega
    have en:nv l kk 2 1 n.b=n.b:=by unfold nv;rw[if_neg (by omega)]
    refine aaA @M3 hix hjk' (hK5 _ _ ?_);refine aah (aad (hK3 _ _ (aac ?_)));simp;refine⟨2,Le.mX _ (by simp[nve,en,eo]) (by simp[hw]),by omega,by omega⟩
  ·
   refine aas @aj.eq_1 (hK4 _ _ ?_);have hw:=bF (n:=3) (by omega) (by omega);have nve:∀k x,k≠2->nv l kk 3 k x=nv l kk 2 k x:=λk x h=>Ia l kk 2 k x h
   have eo:nv l kk 2 2 n.c=n.c:=by unfold nv;rw[if_neg (by omega)]
   by_cases hjk:2<kk
   ·have hjk':(2:Int)<(kk:Int):=by omega
    have hm:=hk n.c (by
     rw[abl];exact⟨2,by rw[Nd.fI];omega,rfl⟩)
    obtain⟨q,hq⟩:∃q:Nat,n.c=q:=⟨n.c.toNat,by omega⟩
    have hql:q<l.length:=by rw[hq]at hm;omega
    have hql':(q:Int)<(l.length:Int):=by omega
    have hld:=ez (P:=prog) (T:=3) (by simp) hql;have en:nv l kk 3 2 n.c=l[q]:=by unfold nv;rw[if_pos (by omega),hq,Zp,Y8,cy hql];rfl
    have eo2:nv l kk 2 2 n.c=(q:Int):=by rw[eo,hq]
    refine aaC @M3 hix hjk' ?_;refine aai (aay eo2 hql' hld @aj.eq_1 (hK3 _ _ ?_));refine aac ?_;simp;refine⟨3,Le.mX _ (by simp[nve,en,P1]) (by simp[hw]),by omega,by omega⟩
   ·refine aaa λK5 hK5=>?_;have hjk':¬(2:Int)<(kk:Int):=by omega
    have en:nv l kk 3 2 n.c=n.c:=by unfold nv;rw[if_neg (by omega)]
    refine aaA @M3 hix hjk' (hK5 _ _ ?_);refine aah (aad (hK3 _ _ (aac ?_)));simp;refine⟨3,Le.mX _ (by simp[nve,en,eo]) (by simp[hw]),by omega,by omega⟩
  ·
   refine aas @aj.eq_1 (hK4 _ _ ?_);have hw:=bF (n:=4) (by omega) (by omega);have nve:∀k x,k≠3->nv l kk 4 k x=nv l kk 3 k x:=λk x h=>Ia l kk 3 k x h
   have eo:nv l kk 3 3 n.d=n.d:=by unfold nv;rw[if_neg (by omega)]
   by_cases hjk:3<kk
   ·have hjk':(3:Int)<(kk:Int):=by omega
    have hm:=hk n.d (by
     rw[abl];exact⟨3,by rw[Nd.fI];omega,rfl⟩)
    obtain⟨q,hq⟩:∃q:Nat,n.d=q:=⟨n.d.toNat,by omega⟩
    have hql:q<l.length:=by rw[hq]at hm;omega
    have hql':(q:Int)<(l.length:Int):=by omega
    have hld:=ez (P:=prog) (T:=3) (by simp) hql;have en:nv l kk 4 3 n.d=l[q]:=by unfold nv;rw[if_pos (by omega),hq,Zp,Y8,cy hql];rfl
    have eo2:nv l kk 3 3 n.d=(q:Int):=by rw[eo,hq]
    refine aaC @M3 hix hjk' ?_;refine aai (aay eo2 hql' hld @aj.eq_1 (hK3 _ _ ?_));refine aac ?_;simp;refine⟨4,Le.mX _ (by simp[nve,en,P1]) (by simp[hw]),by omega,by omega⟩
   ·refine aaa λK5 hK5=>?_;have hjk':¬(3:Int)<(kk:Int):=by omega
    have en:nv l kk 4 3 n.d=n.d:=by unfold nv;rw[if_neg (by omega)]
    refine aaA @M3 hix hjk' (hK5 _ _ ?_);refine aah (aad (hK3 _ _ (aac ?_)));simp;refine⟨4,Le.mX _ (by simp[nve,en,eo]) (by simp[hw]),by omega,by omega⟩
 have hi4:i=4:=by omega
 subst hi4;refine aah (aan (hK _ _ (aam @aj.eq_1 ?_)));refine aal ?_;refine⟨[(0,0,bZ l)],9,?_,by simp,by simp,by simp,?_,?_,rfl,?_⟩
 ·rw[tJ];rfl
 ·intro k hk;simp only[hlv0,az]at hk;split at hk
  ·rename_i h0;subst h0;exact .inr (by simp[bP])
  ·exact absurd rfl hk
 ·intro e he;simp only[rP,Zd,or_false]at he;subst he;show(LB.cells false false 3 (zK l)).like (.cells false false 3 (zK l)) _;rw[uw];exact HS ..
 ·simp[Tryz.f80,cO,iT,j8,KV]
def iC(p:PD)(now:List Int)(s:List Int×List Nd)(i:Nat):List Int×List Nd:=
 if (p.nd i).op=2 then(s.1.set i (now.getD (p.nd i).a.toNat 0),s.2)
 else(s.1.set i s.2.length,s.2++[(p.nd i).gZ (s.1.set i s.2.length)])
def cZ(p:PD)(now:List Int)(s:List Int×List Nd)(i k:Nat):List Int×List Nd:=(List.range' i k).foldl (iC p now) s
def Jc(p:PD)(now:List Int)(s:List Int×List Nd)(i:Nat):(iC p now s i).1.length=s.1.length:=by unfold iC;split<;>simp
def Lo(p:PD)(now:List Int)(s:List Int×List Nd)(i:Nat):s.2.length<=(iC p now s i).2.length/\(iC p now s i).2.length<=s.2.length+1:=by unfold iC;split<;>simp
def fO(p:PD)(now:List Int)(s:List Int×List Nd)(i k:Nat):cZ p now s i (k+1)=iC p now (cZ p now s i k) (i+k):=by
 unfold cZ;rw[List.range'_concat,List.foldl_append];simp
def je(p:PD)(now:List Int)(s:List Int×List Nd)(i k:Nat):(cZ p now s i k).1.length=s.1.length:=by
 induction k with
 |zero=>rfl
 |succ k ih=>rw[fO,Jc,ih]
def jP(p:PD)(now:List Int)(s:List Int×List Nd)(i k:Nat):s.2.length<=(cZ p now s i k).2.length/\(cZ p now s i k).2.length<=s.2.length+k:=by
 induction k with
 |zero=>exact⟨aY _,aY _⟩
 |succ k ih=>rw[fO];have:=Lo p now (cZ p now s i k) (i+k);omega
abbrev qC(p:PD)(v:CV):List CV:=[dc p.f,.d (.int .i64 p.mode),dc p.ins,v,.d (.int .i64 p.head),.d (.int .i64 p.tail),.d .nilsl,.d (.int .i64 p.res)]
def qS(k:Key)(L:List Nd):CV:=if L=[]then .d .nilsl else .aD k 0 L.length 7
def qB(L:List Nd):LB:=if L=[]then .hole else .cells false false 55 (gm L)
def rV(L0 L:List Nd):CV:=if L.length=L0.length then qS 6 L else .aD 7 0 L.length 7
def r6(L0 L:List Nd):LB:=if L.length=L0.length then qB L else if L0=[]then .hole else .dead
def r7(L0 L:List Nd):LB:=if L.length=L0.length then .hole else .cells false false 55 (gm L)
abbrev Oo(p:PD)(now at':List Int)(v:CV)(b6 b7:LB):Key->LB:=
 az (az (az (az (az (az (az (az (λ_=>.hole) 0 (.cells false false 27 p.cs)) 1 (.cells false false 30 [.aD 4 0 now.length 1])) 2 (.cells false false 30 [.aD 5 0 at'.length 1])) 3 (.cells false false 27 (qC p v))) 4 (bZ now)) 5 (bZ at')) 6 b6) 7 b7
def bp(l:List Int)(g:Key->Key):(zK l).map (CV.bM g)=zK l:=by rw[uw,ZC];rfl
def nq(n:Nd):(gm [n]).length=7:=by rw[gN];rfl
def uo(n:Nd):List.take 7 (gm [n])=gm [n]:=aa5 (by rw[nq];exact aY _)
def xO(L M:List Nd):gm (L++M)=gm L++gm M:=by unfold gm;rw[List.flatMap_append,aaR]
def FW(h:L0.length<=L.length)(n:Nd):rV L0 (L++[n])=.aD 7 0 (L.length+1) 7:=by
 unfold rV;rw[if_neg (by simp;omega)];simp
def uR(h:L0.length<=L.length)(n:Nd):r7 L0 (L++[n])=.cells false false 55 (gm (L++[n])):=by
 unfold r7;rw[if_neg (by simp;omega)]
def vn(h:L0.length<=L.length)(n:Nd):r6 L0 (L++[n])=if L0=[]then .hole else .dead:=by
 unfold r6;rw[if_neg (by simp;omega)]
theorem ag.AM(κ' kh k:Key){x0:AV}(hc:aA c.P c.G f [x0,.c (.aD 0 0 n 1)] [bZ l] (.ret x [bZ l] []))(hx:x.pure=true)(hx0:x0.pure=true)
 (hk:lv k=.cells own false 3 (zK l)) (hh:lv kh=.hole) (hkk:kh≠k) (hK:K x [(k,.cells own false 3 (zK l))] [kh,k] κ'):ag c f [x0,.c (.aD k 0 n 1)] lv K:=by
 refine ag.Qq κ' kh own [k] [bZ l] [bZ l] [kh,k] hc (by simp) (by simpa using hkk) rfl rfl (by simp) (λi p q=>?_) hh (by simp[LB.pass]) (by simp) (λho k' hk'=>?_) rfl (λi p q=>?_) (λa ha j hj=>?_) (by simp) ?_
 ·have hi:i=0:=by simp at p;omega
  subst hi;exact⟨own,zK l,hk,(bp l _).symm,λh=>by cases h⟩
 ·simp only[rP,Zd,or_false]at hk';subst hk';rw[hk];exact ho
 ·have hi:i=0\/i=1:=by simp at p;omega
  rcases hi with rfl|rfl
  ·exact⟨AV.bx hx0,(AV.aT hx0 _).symm⟩
  ·exact⟨rfl,rfl⟩
 ·simp only[rP,Zd,or_false]at ha;rcases ha with rfl|rfl
  ·rw[cj hx0]at hj;cases hj
  ·simp only[hO,fK,hk,rP,aaK]at hj;rcases hj with rfl|⟨y,hy,hj⟩
   ·simp
   ·unfold zK at hy;rw[ZX]at hy;obtain⟨z,_,rfl⟩:=hy;cases hj
 ·rw[AV.aT hx]
  have e:bD (aG [k] [] kh) own [k] [bZ l]=[(k,.cells own false 3 (zK l))]:=by
   simp only[bD,acf,List.zipWith_nil_left,LB.kJ,bp,LB.fix,Bool.false_or]
  rw[e];exact hK
def Rm(lv:Key->LB)(κ:Key)(h:lv κ=.hole)(n:Nd):ak prog 24 1 [0] lv κ [n.A]=some (.c (.aD κ 0 1 7),[(κ,.cells true false 55 (gm [n]))],[],True):=by
 unfold ak;rw[h];kernel_rfl
def Ip(h:gY lv){b:LB}(hb:∀own es,b≠.map own es)(k:Key):gY (az lv k b):=by
 intro k' own es h';unfold az at h';split at h'
 ·exact hb _ _ h'
 ·exact h _ _ _ h'
def TR(L:List Nd):∀own es,qB L≠.map own es:=by intro own es h;unfold qB at h;split at h<;>cases h
def RX(p:PD)(now av:List Int)(v:CV){b6 b7:LB}(h6:∀own es,b6≠.map own es)(h7:∀own es,b7≠.map own es):gY (Oo p now av v b6 b7):=by
 refine Ip (Ip ?_ h6 _) h7 _
 repeat (first|exact bg|refine pS ?_ _ _ _ _ _)
def Dy(L:List Nd)(g:Key->Key):(LB.cells false false 55 (gm L)).like (.cells false false 55 (gm L)) g:=⟨false,_,rfl,(ct L g).symm,id⟩
def OB(L:List Nd)(g:Key->Key):(qB L).like (qB L) g:=by
 unfold qB;split
 ·rfl
 ·exact Dy L g
def m4(L0 L:List Nd)(g:Key->Key):(r6 L0 L).like (r6 L0 L) g:=by
 unfold r6;split
 ·exact OB L g
 ·split
  ·rfl
  ·exact λh=>by cases h
def xI(L0 L:List Nd)(g:Key->Key):(r7 L0 L).like (r7 L0 L) g:=by
 unfold r7;split
 ·rfl
 ·exact Dy L g
def rO(L0 L:List Nd):CV:=if L.length=L0.length then qS 6 L else .aD 1000 0 L.length 7
abbrev Yo(p:PD)(now at':List Int)(v:CV)(b6 b7:LB):Key->LB:=
 az (az (az (az (az (az (az (az (λ_=>.hole) 0 (.cells false false 27 p.cs)) 1 (.cells false false 30 [.aD 4 0 now.length 1])) 2 (.cells false false 30 [.aD 5 0 at'.length 1])) 3 (.cells false false 27 (qC p v))) 4 (bZ now)) 5 (bZ at')) 6 b6) 1000 b7
def g10:Key->Key:=λk=>if k=0 then 0 else if k=1 then 1 else if k=2 then 2 else if k=3 then 3 else if k=4 then 4 else if k=5 then 5 else if k=6 then 6 else if k=1000 then 7 else 9
theorem KT(a b d e f g h i:LB):bP [(0,0,a),(1,1,b),(2,2,d),(3,3,e),(4,4,f),(5,5,g),(6,6,h),(1000,7,i)] 9=g10:=by
 funext k;unfold g10
 by_cases h0:k=0
 ·subst h0;rfl
 by_cases h1:k=1
 ·subst h1;rfl
 by_cases h2:k=2
 ·subst h2;rfl
 by_cases h3:k=3
 ·subst h3;rfl
 by_cases h4:k=4
 ·subst h4;rfl
 by_cases h5:k=5
 ·subst h5;rfl
 by_cases h6:k=6
 ·subst h6;rfl
 by_cases h7:k=1000
 ·subst h7;rfl
 rw[if_neg h0,if_neg h1,if_neg h2,if_neg h3,if_neg h4,if_neg h5,if_neg h6,if_neg h7];have e:∀j:Key,k≠j->(j==k)=false:=λj hj=>by simpa using λh=>hj h.symm
 simp[bP,List.find?,e _ h0,e _ h1,e _ h2,e _ h3,e _ h4,e _ h5,e _ h6,e _ h7]
def QT(L0 L:List Nd):(rO L0 L).bM g10=rV L0 L:=by
 unfold rO rV qS;split
 ·split<;>rfl
 ·rfl
def g7(k7:Key):Key->Key:=λk=>if k=0 then 0 else if k=1 then 1 else if k=2 then 2 else if k=3 then 3 else if k=4 then 4 else if k=5 then 5 else if k=6 then 6 else if k=7 then k7 else 9
theorem Pz(k7:Key)(a b d e f g h i:LB):bP [(0,0,a),(1,1,b),(2,2,d),(3,3,e),(4,4,f),(5,5,g),(6,6,h),(7,k7,i)] 9=g7 k7:=by
 funext k;unfold g7
 by_cases h0:k=0
 ·subst h0;rfl
 by_cases h1:k=1
 ·subst h1;rfl
 by_cases h2:k=2
 ·subst h2;rfl
 by_cases h3:k=3
 ·subst h3;rfl
 by_cases h4:k=4
 ·subst h4;rfl
 by_cases h5:k=5
 ·subst h5;rfl
 by_cases h6:k=6
 ·subst h6;rfl
 by_cases h7:k=7
 ·subst h7;rfl
 rw[if_neg h0,if_neg h1,if_neg h2,if_neg h3,if_neg h4,if_neg h5,if_neg h6,if_neg h7];have e:∀j:Key,k≠j->(j==k)=false:=λj hj=>by simpa using λh=>hj h.symm
 simp[bP,List.find?,e _ h0,e _ h1,e _ h2,e _ h3,e _ h4,e _ h5,e _ h6,e _ h7]
def fR(p:PD)(g:Key->Key):p.cs.map (CV.bM g)=p.cs:=by
 rw[<-vz,ZC];rfl
def RO(L0 L:List Nd):(rV L0 L).bM (g7 7)=rV L0 L:=by
 unfold rV qS;split
 ·split<;>rfl
 ·rfl
def l7(l:List Int)(i:Nat)(x:Int)(h:i<l.length):aj (zK l) i [CV.d (.int .i64 x)]=zK (l.set i x):=by
 unfold aj zK;rw[List.set_eq_take_append_cons_drop,if_pos h];simp[abD,List.map_drop]
theorem Vi(v v':CV)(b6 b7:LB)(k7:Key)(l:List (Nat×AV))(hl0:c.iV=Oo p now dm v0 b60 .hole)(hk7:([0,1,2,3,4,5,6,k7]:List Key).Nodup)
 (h0:lv 0=.cells false false 27 p.cs) (h1:lv 1=.cells false false 30 [.aD 4 0 now.length 1]) (h2:lv 2=.cells false false 30 [.aD 5 0 av.length 1]) (h3:lv 3=.cells false false 27 (qC p v')) (h4:lv 4=bZ now) (h5:lv 5=bZ av)
 (h6:∀g,(lv 6).like b6 g) (h7:∀g,(lv k7).like b7 g) (h9:lv 9=.hole) (hv:v'=v.bM (g7 k7)) (hl:∀x∈l,x.2.bC=true/\fr x.1=x.2.bM (g7 k7)):Le c ⟨fr,lv⟩ ⟨aU l,Oo p now av v b6 b7⟩:=by
 refine⟨g7 k7,?_⟩;have hk:=Pz k7 (.cells false false 27 p.cs) (.cells false false 30 [.aD 4 0 now.length 1]) (.cells false false 30 [.aD 5 0 av.length 1]) (.cells false false 27 (qC p v)) (bZ now) (bZ av) b6 b7;rw[<-hk];refine ei.keys (s:=⟨fr,lv⟩) [(0,0,.cells false false 27 p.cs),(1,1,.cells false false 30 [.aD 4 0 now.length 1]),(2,2,.cells false false 30 [.aD 5 0 av.length 1]),(3,3,.cells false false 27 (qC p v)),(4,4,bZ now),(5,5,bZ av),(6,6,b6),(7,k7,b7)] 9 l rfl ?_ (by simp) ?_ h9 ?_ (by rw[hk];exact hl)
 ·intro k hk';rw[hk,hl0]at*
  by_cases q0:k=0
  ·subst q0;exact .inr rfl
  by_cases q1:k=1
  ·subst q1;exact .inr rfl
  by_cases q2:k=2
  ·subst q2;exact .inr rfl
  by_cases q3:k=3
  ·subst q3;exact .inr rfl
  by_cases q4:k=4
  ·subst q4;exact .inr rfl
  by_cases q5:k=5
  ·subst q5;exact .inr rfl
  by_cases q6:k=6
  ·subst q6;exact .inr rfl
  exfalso;apply hk';unfold Oo az
  by_cases q7:k=7
  ·rw[if_pos q7]
  ·rw[if_neg q7,if_neg q6,if_neg q5,if_neg q4,if_neg q3,if_neg q2,if_neg q1,if_neg q0]
 ·exact hk7
 ·rw[hk];intro x hx;simp only[rP,Zd,or_false]at hx;rcases hx with rfl|rfl|rfl|rfl|rfl|rfl|rfl|rfl
  ·exact⟨false,p.cs,h0,(fR p _).symm,id⟩
  ·exact⟨false,_,h1,rfl,id⟩
  ·exact⟨false,_,h2,rfl,id⟩
  ·refine⟨false,_,h3,?_,id⟩;rw[hv];simp[qC]
  ·exact⟨false,_,h4,(bp now _).symm,id⟩
  ·exact⟨false,_,h5,(bp av _).symm,id⟩
  ·exact h6 _
  ·exact h7 _
theorem Xh(hr:fn.results=#[]){κ:Nat}{σ':List LB}(hl0:c.iV=Oo p now dm v0 b60 .hole)(hlv:lv=Oo p now av (rV L0 L) (r6 L0 L) (r7 L0 L))(hσ':bq σ' ν=Yo p now av (rO L0 L) (r6 L0 L) (r7 L0 L)):Mm c fn (.tup []) σ' ν .normal ⟨fr,lv⟩ κ:=by
 subst hlv;have hk:=KT (.cells false false 27 p.cs) (.cells false false 30 [.aD 4 0 now.length 1]) (.cells false false 30 [.aD 5 0 av.length 1]) (.cells false false 27 (qC p (rO L0 L))) (bZ now) (bZ av) (r6 L0 L) (r7 L0 L);refine⟨[(0,0,.cells false false 27 p.cs),(1,1,.cells false false 30 [.aD 4 0 now.length 1]),(2,2,.cells false false 30 [.aD 5 0 av.length 1]),(3,3,.cells false false 27 (qC p (rO L0 L))),(4,4,bZ now),(5,5,bZ av),(6,6,r6 L0 L),(1000,7,r7 L0 L)],9,hσ',by simp,by simp,rfl,?_,?_,rfl,?_⟩
 ·intro k hk';rw[hk,hl0]at*
  by_cases q0:k=0
  ·subst q0;exact .inr rfl
  by_cases q1:k=1
  ·subst q1;exact .inr rfl
  by_cases q2:k=2
  ·subst q2;exact .inr rfl
  by_cases q3:k=3
  ·subst q3;exact .inr rfl
  by_cases q4:k=4
  ·subst q4;exact .inr rfl
  by_cases q5:k=5
  ·subst q5;exact .inr rfl
  by_cases q6:k=6
  ·subst q6;exact .inr rfl
  exfalso;apply hk';unfold Oo az
  by_cases q7:k=7
  ·rw[if_pos q7]
  ·rw[if_neg q7,if_neg q6,if_neg q5,if_neg q4,if_neg q3,if_neg q2,if_neg q1,if_neg q0]
 ·rw[hk];intro x hx;simp only[rP,Zd,or_false]at hx;rcases hx with rfl|rfl|rfl|rfl|rfl|rfl|rfl|rfl
  ·exact⟨false,p.cs,rfl,(fR p _).symm,id⟩
  ·exact⟨false,_,rfl,rfl,id⟩
  ·exact⟨false,_,rfl,rfl,id⟩
  ·refine⟨false,_,rfl,?_,id⟩;have:=QT L0 L;simp[qC,this]
  ·exact⟨false,_,rfl,(bp now _).symm,id⟩
  ·exact⟨false,_,rfl,(bp av _).symm,id⟩
  ·exact m4 _ _ _
  ·exact xI _ _ _
 ·rw[hr];rfl
theorem Lj(m:Int)(p:PD)(hp:p.ok)(now:List Int)(dm:List Int)(L0:List Nd)(i0 e:Nat)(hi0:i0<=e)(hi:e<=p.nn)(hn:p.nn<=1000)(hL:L0.length<=20000)(hat:dm.length=p.nn)(hnow:now.length<=1000)
 (hop:∀i,i<p.nn->1<=(p.nd i).op/\(p.nd i).op<=15) (hst:∀i,i<p.nn->(p.nd i).op=2->0<=(p.nd i).a/\(p.nd i).a<now.length) (hkd:∀i,i<p.nn->∀x∈bf (p.nd i),0<=x/\x<p.nn)
 (σ σ' ν:List LB) (hσ:bq σ []=Oo p now dm (qS 6 L0) (qB L0) .hole) (hσ':bq σ' ν=Yo p now (cZ p now (dm,L0) i0 (e-i0)).1 (rO L0 (cZ p now (dm,L0) i0 (e-i0)).2) (r6 L0 (cZ p now (dm,L0) i0 (e-i0)).2) (r7 L0 (cZ p now (dm,L0) i0 (e-i0)).2)) :
 aA prog (GG m) 79 [.c (.d (.int .i64 i0)),.c (.d (.int .i64 e)),.c (.ptr 0 0),.c (.ptr 1 0),.c (.ptr 2 0),.c (.ptr 3 0)] σ (.ret (.tup []) σ' ν):=by
 refine aA.BX func79 rfl (by rw[Tryz.ntmps79];simp) ?_;rintro⟨_,_,w0,F0,W0,_,iV,β0⟩ rfl rfl rfl hlv0;simp only at hlv0;rw[hσ]at hlv0⊢;refine aab ?_;refine aaf ?_
 refine aao (λ(i:Nat)=>⟨aU [(1,.c (.d (.int .i64 e))),(2,.c (.ptr 0 0)),(3,.c (.ptr 1 0)),(4,.c (.ptr 2 0)),(5,.c (.ptr 3 0)),(8,.c (.d (.int .i64 i)))],
  Oo p now (cZ p now (dm,L0) i0 (i-i0)).1 (rV L0 (cZ p now (dm,L0) i0 (i-i0)).2) (r6 L0 (cZ p now (dm,L0) i0 (i-i0)).2) (r7 L0 (cZ p now (dm,L0) i0 (i-i0)).2)⟩) 1000
  (λi=>i0<=i/\i<=e) (λi=>e-i) i0 (Le.mk' _ (by simp[cZ,rV,r6,r7]) (RX _ _ _ _ (TR _) (λ_ _ h=>by cases h)) (by simp)) ⟨aY _,hi0⟩ ?_
 rintro i ⟨hj,hj2⟩
 try simp only at hj hj2
 have e1:=je p now (dm,L0) i0 (i-i0);have e2:=jP p now (dm,L0) i0 (i-i0);have e3:=fO p now (dm,L0) i0 (i-i0);rw[show i-i0+1=i+1-i0 by omega,show i0+(i-i0)=i by omega]at e3;obtain⟨⟨av,L⟩,hgs⟩:∃s,cZ p now (dm,L0) i0 (i-i0)=s:=⟨_,rfl⟩
 rw[hgs]at e1 e2 e3;simp only[hgs];simp only at e1 e2 e3;refine aaa λK3 hK3=>aab ?_
 by_cases hlt:i<e
 ·have hlt':(i:Int)<(e:Int):=by omega
  have hin:i<p.nn:=by omega
  have hx:=λlv=>J4 p lv hp i hin
  have hw:=bF (n:=(i:Int)+1) (by omega) (by omega);refine aag (by simp[hlt']<;>omega) (aad (hK3 _ _ (aaa λK5 hK5=>aaf (aap hx @aj.eq_1 ?_))));refine aaa λK7 hK7=>aab ?_
  by_cases h2:(p.nd i).op=2
  ·have h2':((p.nd i).op=2)=True:=by simp[h2]
   obtain⟨ha0,ha1⟩:=hst i hin h2;obtain⟨q,hq⟩:∃q:Nat,(p.nd i).a=q:=⟨(p.nd i).a.toNat,by omega⟩
   have hql:q<now.length:=by rw[hq]at ha1;omega
   have hql':(q:Int)<(now.length:Int):=by omega
   have hia:(i:Int)<(av.length:Int):=by omega
   have hld:=ez (P:=prog) (T:=3) (by simp) hql;refine aag (by simp[h2']<;>omega) (aaa λK8 hK8=>?_);refine aaq mixed (by kernel_rfl) rfl ?_;simp[hq,hql',hia,hld];refine⟨by omega,?_⟩;refine⟨by kernel_rfl,?_⟩;apply hK8;refine aan (hK5 _ _ (aac ?_));simp[hw]
   have hs:iC p now (av,L) i=(av.set i now[q],L):=by
    unfold iC;rw[if_pos h2,hq,Zp,Y8,cy hql];rfl
   refine⟨i+1,?_,⟨by omega,by omega⟩,by omega⟩;simp only[e3,hs];exact Vi _ (rV L0 L) _ _ 7 _ hlv0 (by decide) rfl rfl (by simp) rfl rfl (by simp[l7 av i now[q] (by omega)]) (λg=>m4 _ _ g) (λg=>xI _ _ g) rfl (RO _ _).symm (by simp[g7])
  ·have h2':((p.nd i).op=2)=False:=by simp[h2]
   have hra:=Nt m (p.nd i) (hop i hin).1 (hop i hin).2 (av.set i L.length) (by simp;omega) (by intro x hx;have:=hkd i hin x hx;simp;omega);have hia:(i:Int)<(av.length:Int):=by omega
   have hia1:i+1<=av.length:=by omega
   have hs:iC p now (av,L) i=(av.set i L.length,L++[(p.nd i).gZ (av.set i L.length)]):=by
    unfold iC;rw[if_neg h2]
   refine aaj (by simp[h2']<;>omega) (aad (hK7 _ _ (aaa λK8 hK8=>?_)))
   by_cases hA:L=[]
   ·subst hA;have hz:([]:List Nd).length=L0.length:=(Nat.le_zero.1 e2.1).symm;have hL0:L0=[]:=Z4 hz.symm;have hr:rV L0 []=.d .nilsl:=by unfold rV;rw[if_pos hz];rfl
    have h6:r6 L0 []=.hole:=by unfold r6;rw[if_pos hz];rfl
    have h7:r7 L0 []=.hole:=by unfold r7;rw[if_pos hz]
    have lp0:∀lv,eJ prog 24 lv (.c (.d .nilsl))=some (.c (.d (.int .i64 0)),[],[],True):=λlv=>cE (o:=none) (by simp)
    have hbs:∀(lv:Key->LB) (h:lv 1001=.hole) (n:Nd),ak prog 24 1 [0] lv 1001 [n.A]=some (.c (.aD 1001 0 1 7),[(1001,.cells true false 55 (gm [n]))],[],True):=λlv h n=>Rm lv 1001 h n
    have hz2:=l7 av i 0 (by omega);refine aac ?_;simp[hr,hia,lp0,hz2];refine⟨hia1,?_⟩;apply hK8;clear hK8 K8;refine aaq mixed (by kernel_rfl) rfl ?_;simp[hr,hia];refine ag.AM 1001 9 5 (by simpa using hra) (by rfl) (by rfl) rfl rfl (by decide) ?_;simp[hbs,dY,keyOf,nq,uo,aj,-ak];refine⟨by kernel_rfl,?_⟩;apply hK5;refine aac ?_;simp[hw];refine⟨i+1,?_,⟨by omega,by omega⟩,by omega⟩;simp only[e3,hs];rw[FW e2.1,vn e2.1,uR e2.1];exact Vi _ (.aD 1002 0 1 7) _ _ 1002 _ hlv0 (by decide) rfl rfl (by simp) (by simp) rfl (by simp) (λg=>by rw[if_pos hL0];show(r6 L0 []).like _ g;rw[h6];rfl) (λg=>⟨true,_,by simp,(ct _ g).symm,λh=>by cases h⟩) rfl rfl (by simp[g7])
   have hLp:0<L.length:=List.length_pos_iff.2 hA;have hLb:(L.length:Int)<=9223372036854775807:=by omega
   have hz2:=l7 av i L.length (by omega);have hbs:∀(lv:Key->LB) (h:lv 1001=.hole) (n:Nd),ak prog 24 1 [0] lv 1001 [n.A]=some (.c (.aD 1001 0 1 7),[(1001,.cells true false 55 (gm [n]))],[],True):=λlv h n=>Rm lv 1001 h n
   by_cases hB:L.length=L0.length
   ·have hL0:L0≠[]:=λh=>by rw[h]at hB;simp at hB;exact hA hB
    have hr:rV L0 L=.aD 6 0 L.length 7:=by unfold rV;rw[if_pos hB];unfold qS;rw[if_neg hA]
    have h6:r6 L0 L=.cells false false 55 (gm L):=by unfold r6;rw[if_pos hB];unfold qB;rw[if_neg hA]
    have h7:r7 L0 L=.hole:=by unfold r7;rw[if_pos hB]
    refine aac ?_;simp[hr,h6,hia,hz2,gN];refine⟨hLb,hia1,?_⟩;apply hK8;clear hK8 K8;refine aaq mixed (by kernel_rfl) rfl ?_;simp[hr,h6,hia];refine ag.AM 1001 9 5 (by simpa using hra) (by rfl) (by rfl) rfl rfl (by decide) ?_;simp[hbs,dY,keyOf,nq,uo,aj,hr,h6,gN,-ak]
    repeat refine ah ?_
    refine⟨by kernel_rfl,?_⟩;apply hK5;refine aac ?_;simp[hw];refine⟨i+1,?_,⟨by omega,by omega⟩,by omega⟩;simp only[e3,hs];rw[FW e2.1,vn e2.1,uR e2.1,xO];exact Vi _ (.aD 1002 0 (L.length+1) 7) _ _ 1002 _ hlv0 (by decide) rfl rfl (by simp) (by simp) rfl (by simp) (λg=>by rw[if_neg hL0];exact λh=>by cases h) (λg=>⟨false,gm L++gm [(p.nd i).gZ (av.set i L.length)],by simp,by rw[aaR,ct,ct],id⟩) rfl rfl (by simp[g7])
   ·have hr:rV L0 L=.aD 7 0 L.length 7:=by unfold rV;rw[if_neg hB]
    have h6:r6 L0 L=if L0=[]then .hole else .dead:=by unfold r6;rw[if_neg hB]
    have h7:r7 L0 L=.cells false false 55 (gm L):=by unfold r7;rw[if_neg hB]
    refine aac ?_;simp[hr,h7,hia,hz2,gN];refine⟨hLb,hia1,?_⟩;apply hK8;clear hK8 K8;refine aaq mixed (by kernel_rfl) rfl ?_;simp[hr,h7,hia];refine ag.AM 1001 9 5 (by simpa using hra) (by rfl) (by rfl) rfl rfl (by decide) ?_;simp[hbs,dY,keyOf,nq,uo,aj,hr,h7,gN,-ak]
    repeat refine ah ?_
    refine⟨by kernel_rfl,?_⟩;apply hK5;refine aac ?_;simp[hw];refine⟨i+1,?_,⟨by omega,by omega⟩,by omega⟩;simp only[e3,hs];rw[FW e2.1,vn e2.1,uR e2.1,xO];exact Vi _ (.aD 1002 0 (L.length+1) 7) _ _ 1002 _ hlv0 (by decide) rfl rfl (by simp) (by simp) rfl (by simp) (λg=>by show(r6 L0 L).like _ g;rw[<-h6];exact m4 L0 L g) (λg=>⟨false,gm L++gm [(p.nd i).gZ (av.set i L.length)],by simp,by rw[aaR,ct,ct],id⟩) rfl rfl (by simp[g7])
 have hie:i=e:=by omega
 subst hie;refine aah (aan ?_);simp;rw[hgs]at hσ';exact Xh rfl hlv0 rfl hσ'
theorem OG{l:List Nat}(h:ok B l)(ht:l=[]\/B^(l.length-1)<=val B l):can B l:=by
 refine⟨h,λx hx=>?_⟩;rcases abu l with rfl|⟨xs,y,rfl⟩
 ·cases hx
 ·rw[abv]at*
  simp only[List.getLast?_append,List.getLast?_singleton,Option.some_or,ai]at hx;subst hx;intro h0;subst h0;rcases ht with e|ht
  ·simp at e
  ·rw[eY]at ht;simp only[Zg,ZY,ab6,Z7,ZO]at ht;have:=fu (cA.1 h).1;omega
def GB{l:List Nat}(h:can B l)(h0:l≠[]):B^(l.length-1)<=val B l:=by
 rcases abu l with rfl|⟨xs,y,rfl⟩
 ·exact absurd rfl h0
 ·rw[abv]at*
  have hy:y≠0:=h.2 y (by simp);rw[eY];simp only[Zg,ZY,ab6];have:B^xs.length*1<=B^xs.length*y:=ZD _ (by omega);omega
def rC:Option (List Nat)->CV
 |none=>.d .nilsl
 |some l=>.d (.sl (dK .i64 l))
def fX(o:Option (List Nat)):nK .i64 o=.c (rC o):=by cases o<;>rfl
@[simp]def fC(lv:Key->LB)(s:Int)(p q:Option (List Nat)):fF lv (.agg [.d (.int .i64 s),rC p,rC q])=some (.agg [.d (.int .i64 s),rC p,rC q],[]):=by
 cases p<;>cases q<;>rfl
@[simp]def Vp(o:Option (List Nat)):(rC o).pure=true:=by cases o<;>rfl
@[simp]def TF(o:Option (List Nat)):(AV.c (rC o)).bC=true:=by cases o<;>rfl
@[simp]def Tz(o:Option (List Nat)):(AV.c (rC o)).pure=true:=by cases o<;>rfl
@[simp]def Wd(o:Option (List Nat))(g:Key->Key):(rC o).bM g=rC o:=by cases o<;>rfl
abbrev rA(s:Int)(p q:Option (List Nat)):AV:=.agg [.d (.int .i64 s),rC p,rC q]
@[simp]def V3(s:Int)(p q:Option (List Nat)):(AV.agg [.d (.int .i64 s),rC p,rC q]).pure=true:=by cases p<;>cases q<;>rfl
def Ub:ia prog 215 [] []=some (.agg [.d (.int .i64 0),.d .nilsl,.d .nilsl],[],[],True):=by kernel_rfl
def bR(b p q:CV):ia prog 215 [0,1,2] [.c b,.c p,.c q]=some (.agg [b,p,q],[],[],True):=by kernel_rfl
def js(b p q:CV):eW prog 215 [b,p,q]=some (.agg [b,p,q]):=by kernel_rfl
def DS(lv:Key->LB)(κ:Key)(h:lv κ=.hole)(a:CV):ak prog 213 1 [0] lv κ [.c a]=some (.c (.aD κ 0 1 1),[(κ,.cells true false 2 [a])],[],True):=by
 unfold ak;rw[h];kernel_rfl
def uU(x k:Nat):(x:Int).tmod (k:Int)=((x%k:Nat):Int):=by rw[ab5 (by omega)];omega
def nS(x k:Nat):(x:Int).tdiv (k:Int)=((x/k:Nat):Int):=by rw[ab4 (by omega)];omega
def Hy{κ:Key}{k:IntKind}{l:List Nat}(h:lv κ=.cells own fz T (wK k l))(hl:l.length<=9223372036854775807):fF lv (.c (.aD κ 0 l.length 1))=some (nK k (some l),[κ]):=Ct h hl
theorem Ei(G:List (List DV)):aa prog G 221 [] (nK .i64 (some [1])):=by
 refine aa.ed func221 rfl λ_=>aab ?_;refine aak λK hK=>?_;simp[DS,-ak];apply hK;refine aal (κ:=0) (jU.tmp (κ:=0) (X:=.c (.aD 0 0 1 1)) (ks:=[0]) rfl (by simp) ?_);exact Hy (own:=true) (fz:=false) (T:=2) (l:=[1]) (by simp[wK]) (by simp)
def LG(s:Int)(q:Option (List Nat)):Option (List Nat):=if s=0 then some [1]else q
def E2(G:List (List DV))(s:Int)(p q:Option (List Nat)):aa prog G 249 [rA s p q] (.c (rC (LG s q))):=by
 have h1:=Ei G;rw[fX]at h1;refine aa.en func249 rfl λ_=>aab ?_;refine aaa λK hK=>aab ?_
 by_cases hs:s=0
 ·refine aag (by simp[hs]<;>omega) (aar 1 h1 ?_);exact aae (au.rt (t:=2) rfl 9 (by simp[LG,hs]))
 ·refine aaj (by simp[hs]<;>omega) (aad (hK _ _ (aab ?_)));exact aae (au.rt (t:=2) rfl 9 (by simp[LG,hs]))
theorem jH(G:List (List DV))(l:List Nat)(hl:l.length<=1000000000000):aa prog G 289 [nK .i64 (some l)] (nK .i64 (some (di l))):=by
 have dKl:∀(l:List Nat),∀e∈dK .i64 l,e.length=1:=by
  intro l e he;obtain⟨x,_,rfl⟩:=List.mem_map.1 he;rfl
 refine aa.en func289 rfl λ_=>aab ?_;refine aaa λK hK=>aaf ?_;refine aao (λl'=>⟨aU [(0,nK .i64 (some l'))],λ_=>.hole⟩) 0 (λl'=>l'.length<=l.length/\N.di l'=N.di l) (λl'=>l'.length) l (Le.slots _ (by simp) (by simp)) (by simp) ?_;rintro l' ⟨h0,h1⟩
 have fin:∀(fr:Nat->AV) (κ:Nat),fr 0=nK .i64 (some (N.di l))->K ⟨fr,λ_=>.hole⟩ κ:=by
  intro fr κ h;apply hK;refine aab ?_;exact aal (au.tmp rfl 0 (by simp[h]) rfl rfl (by simp))
 refine aaa λK2 hK2=>aaa λK3 hK3=>?_;refine aat rfl ?_;rcases abu l' with rfl|⟨xs,x,rfl⟩
 ·simp;apply hK3;refine aah (aan ?_);simp;apply fin;simp[<-h1]
 ·rw[abv]at*
  have h3:xs.length+1<=1000000000000:=by simp at h0;omega
  have h4:i64.wrap ((xs.length:Int))=xs.length:=bF (by omega) (by omega);have h2:(0:Int)<(xs.length:Int)+1:=by omega
  by_cases hx:x=0
  ·subst hx;simp[nK,dK,eJ,lE,B0,Mx,h2,h4]
   repeat refine ah ?_
   apply hK3;refine aai (aad (hK2 _ _ (aaf (aac ?_))));simp[nK,dK,eJ,lE,B0,h2,h4];refine⟨⟨by omega,λe he=>?_⟩,?_⟩
   ·rcases he with⟨y,_,rfl⟩|rfl<;>rfl
   refine⟨xs,Le.slots [(0,nK .i64 (some xs))] (by simp[nK,dK]) (by simp),⟨by simp at h0;omega,by rw[<-h1,iQ]⟩,by omega⟩
  ·have hx':¬((x:Int)=0):=by omega
   simp[nK,dK,eJ,lE,B0,Mx,h2,h4,hx']
   repeat refine ah ?_
   apply hK3;refine aaj (by simp[hx]<;>omega) (aan ?_);simp;apply fin;simp[nK,dK,<-h1,jI hx]
theorem nu(G:List (List DV)){a b:Option (List Nat)}(ha:can 1000000000 (dO a))(hb:can 1000000000 (dO b)):aa prog G 247 [nK .i64 a,nK .i64 b] (.c (.d (.int .i64 (ec (val 1000000000 (dO a)) (val 1000000000 (dO b)))))):=by
 refine aA.jR 0 (by simp) (λV v h=>iJ h) λhra=>?_;refine aA.jR 1 (by simp) (λV v h=>iJ h) λhrb=>?_;refine aa.en func247 rfl λ_=>aab ?_;refine aaa λK hK=>aab ?_
 by_cases hl:(dO a).length=(dO b).length
 ·refine aaj (by simp[hl]<;>omega) (aad (hK _ _ (aaa λK hK=>aak λK1 hK1=>?_)));simp;have e1:=bF (n:=((dO a).length:Int)-1) (by omega) (by omega);simp only[e1];apply hK1;refine aaf ?_;refine aao (λ(k:Nat)=>⟨aU [(0,nK .i64 a),(1,nK .i64 b),(5,.c (.d (.int .i64 ((k:Int)-1))))],λ_=>.hole⟩) 0 (λk=>k<=(dO a).length/\(dO a).drop k=(dO b).drop k) (λk=>k) (dO a).length (Le.mk' _ rfl bg (by simp)) ⟨aY _,by rw[List.drop_length,hl,List.drop_length]⟩ ?_;rintro k ⟨h1,h2⟩;refine aaa λK3 hK3=>aab ?_
  cases k with
  |zero=>
   refine aah (aan (hK _ _ (aab ?_)));simp only[Y9]at h2;exact aae (au.rt rfl 0 (by simp[nU (congrArg (val 1000000000) h2)]))
  |succ k=>
   have h3:k<(dO b).length:=by omega
   have h4:k<(dO a).length:=by omega
   have e2:((k+1:Nat):Int)-1=k:=by omega
   simp only[e2];refine aai (aad (hK3 _ _ (aaa λK5 hK5=>aaf (aaa λK6 hK6=>aaa λK7 hK7=>?_))));refine aav mixed (by kernel_rfl) rfl rfl ?_;simp[h3,h4];apply hK7
   by_cases hlt:(dO a)[k]<(dO b)[k]
   ·refine aag (by simp[hlt]<;>omega) (aaa λK7 hK7=>aaD (hK7 _ _ ?_));have:=pK ha.1 h4 h3 h2 hlt;exact aae (au.rt rfl 0 (by simp[jO this]))
   ·refine aaj (by simp[hlt]<;>omega) (aad (hK6 _ _ (aaa λK7 hK7=>?_)));refine aav mixed (by kernel_rfl) rfl rfl ?_;simp[h3,h4];apply hK7
    by_cases hgt:(dO b)[k]<(dO a)[k]
    ·refine aag (by simp[hgt]<;>omega) (aaa λK7 hK7=>aaD (hK7 _ _ ?_));have:=pK hb.1 h3 h4 h2.symm hgt;exact aae (au.rt rfl 0 (by simp[kI this]))
    ·refine aaj (by simp[hgt]<;>omega) (aad (hK5 _ _ (aac ?_)));simp;have e3:=bF (n:=(k:Int)-1) (by omega) (by omega);simp[e3];have he:(dO a)[k]=(dO b)[k]:=by omega
     refine⟨k,Le.mk' _ (by simp) (by simp) (by simp[e3]),⟨by omega,?_⟩,by omega⟩;rw[Z6 h4,Z6 h3,he,h2]
 ·refine aag (by simp[hl]<;>omega) (aaa λK2 hK2=>aab ?_)
  by_cases hlt:(dO a).length<(dO b).length
  ·refine aag (by simp[hlt]<;>omega) (aab ?_);exact aae (au.rt rfl 0 (by simp[jO (lz (by omega) ha hb hlt)]))
  ·refine aaj (by simp[hlt]<;>omega) (aad (hK2 _ _ (aab ?_)));exact aae (au.rt rfl 0 (by simp[kI (lz (by omega) hb ha (by omega))]))
theorem Nu(G:List (List DV))(a:Option (List Nat)):aa prog G 321 [nK .i64 a] (.c (.d (.bool (decide (val 1000000000 (dO a)%2=1))))):=by
 refine aa.en func321 rfl λ_=>aab ?_;refine aaa λK hK=>?_
 cases hd:dO a with
 |nil=>
  have h1:(dO a).length=0:=by rw[hd];rfl
  refine aas h1 (hK _ _ ?_);exact aae (au.rt rfl 0 (by simp[hd]))
 |cons x l=>
  have h1:0<(dO a).length:=by rw[hd];simp
  have h1':(0:Int)<((dO a).length:Int):=by omega
  have h2:(dO a)[0]=x:=by simp[hd]
  have h4:=gA (P:=prog) (T:=213) (lv:=λ_=>.hole) (k:=.i64) (k':=.i64) (o:=a) (i:=0) (by simp) h1;simp only[abK,h2]at h4;have h5:(x:Int).tmod 2=((x%2:Nat):Int):=uU x 2;have h6:val 1000000000 (dO a)%2=x%2:=by rw[hd,bT];omega
  refine aay h1 h1' h4 h5 (hK _ _ ?_);rw[h6];have h7:(x:Int)%2=1↔x%2=1:=by omega
  exact aae (au.rt rfl 0 (by simp[h7]))
def CF(k:IntKind)(l:List Nat)(x:Nat):wK k l++[CV.d (.int k (x:Int))]=wK k (l++[x]):=by simp[wK]
def Rc(k:IntKind)(l:List Nat)(g:Key->Key):(wK k l).map (CV.bM g)=wK k l:=by unfold wK;rw[ZC];rfl
def lf(k:IntKind)(T:TypeId)(l:List Nat)(g:Key->Key):(LB.cells true false T (wK k l)).like (.cells true false T (wK k l)) g:=LB.m9.2 ⟨rfl,rfl,(Rc k l g).symm,id⟩
theorem Lf(G:List (List DV))(a b:Option (List Nat))(ha:can 1000000000 (dO a))(hb:can 1000000000 (dO b))(hal:(dO a).length<=1000000)(hbl:(dO b).length<=1000000):
 aa prog G 324 [nK .i64 a,nK .i64 b] (nK .i64 (some (aK 1000000000 (val 1000000000 (dO a)+val 1000000000 (dO b))))):=by
 have hbs:∀(lv:Key->LB) (h:lv 1=.hole) (a:CV),ak prog 213 1 [0] lv 1 [.c a]=some (.c (.aD 1 0 1 1),[(1,.cells true false 2 [a])],[],True):=λlv h a=>DS lv 1 h a
 obtain⟨M,hM⟩:∃M,M=max (dO a).length (dO b).length:=⟨_,rfl⟩
 have hmx:(if ((dO a).length:Int)<((dO b).length:Int)then((dO b).length:Int)else((dO a).length:Int))=(M:Int):=by split<;>omega
 have hmx':(if (dO a).length<(dO b).length then((dO b).length:Int)else((dO a).length:Int))=(M:Int):=by split<;>omega
 have hM6:M<=1000000:=by omega
 have e0:=bF (n:=(M:Int)+1) (by omega) (by omega);refine aa.ed func324 rfl λ_=>aab ?_;refine aak λK hK=>?_;simp[dL,hmx,hmx',e0]
 repeat refine ah ?_
 apply hK;refine aab ?_;refine aaa λK hK=>aab ?_;refine aaf ?_
 refine aao (λ(p:List Nat×Nat)=>⟨aU [(0,nK .i64 a),(1,nK .i64 b),(5,.c (.aD 0 0 p.1.length 1)),(6,.c (.d (.int .i64 p.2))),(7,.c (.d (.int .i64 p.1.length)))],
  az (λ_=>.hole) 0 (.cells true false 2 (wK .i64 p.1))⟩) 1
  (λp=>ok 1000000000 p.1/\p.2<=1/\val 1000000000 p.1+1000000000^p.1.length*p.2=val 1000000000 ((dO a).take p.1.length)+val 1000000000 ((dO b).take p.1.length)/\(p.1.length<=M\/(p.1.length=M+1/\p.2=0/\1000000000^M<=val 1000000000 (dO a)+val 1000000000 (dO b))))
  (λp=>M+2-p.1.length) ([],0) (Le.mk' _ (by simp[wK]) (by simp) (by simp)) (by simp[cC]) ?_
 rintro⟨pre,c⟩ ⟨h1,h2,h3,h4⟩;simp only at h1 h2 h3 h4;have w7:=bF (n:=(pre.length:Int)+1) (by omega) (by omega);refine aaa λK3 hK3=>aaa λK4 hK4=>?_
 have body:(pre.length<(dO a).length\/pre.length<(dO b).length\/0<c)->∀(fr:Nat->AV) (κ:Nat),fr 0=nK .i64 a->fr 1=nK .i64 b->fr 5=.c (.aD 0 0 pre.length 1)->fr 6=.c (.d (.int .i64 c))->fr 7=.c (.d (.int .i64 pre.length)) ->
  K3 ⟨fr,az (λ_=>.hole) 0 (.cells true false 2 (wK .i64 pre))⟩ κ:=by
  intro hgo fr κ z0 z1 z5 z6 z7;apply hK3;refine aaa λK5 hK5=>aaf (aaa λK6 hK6=>?_)
  have g2:∀(x:Nat) (fr:Nat->AV) (κ:Nat),x<1000000000->val 1000000000 ((dO a).take (pre.length+1))=val 1000000000 ((dO a).take pre.length)+1000000000^pre.length*x->fr 0=nK .i64 a->fr 1=nK .i64 b->fr 5=.c (.aD 0 0 pre.length 1)->fr 6=.c (.d (.int .i64 ((c+x:Nat):Int)))->fr 7=.c (.d (.int .i64 pre.length)) ->
   K6 ⟨fr,az (λ_=>.hole) 0 (.cells true false 2 (wK .i64 pre))⟩ κ:=by
   intro x fr κ hx hxv z0 z1 z5 z6 z7;apply hK6;refine aaa λK8 hK8=>?_
   have g3:∀(y:Nat) (fr:Nat->AV) (κ:Nat),y<1000000000->val 1000000000 ((dO b).take (pre.length+1))=val 1000000000 ((dO b).take pre.length)+1000000000^pre.length*y->fr 0=nK .i64 a->fr 1=nK .i64 b->fr 5=.c (.aD 0 0 pre.length 1)->fr 6=.c (.d (.int .i64 ((c+x+y:Nat):Int)))->fr 7=.c (.d (.int .i64 pre.length)) ->
    K8 ⟨fr,az (λ_=>.hole) 0 (.cells true false 2 (wK .i64 pre))⟩ κ:=by
    intro y fr κ hy hyv z0 z1 z5 z6 z7;apply hK8;refine aaz 1 ?_;have e1:(((c+x+y:Nat):Int)).tmod 1000000000=(((c+x+y)%1000000000:Nat):Int):=uU _ _;have e2:(((c+x+y:Nat):Int)).tdiv 1000000000=(((c+x+y)/1000000000:Nat):Int):=nS _ _;have e3:=bF (n:=(((c+x+y)/1000000000:Nat):Int)) (by omega) (by omega);generalize hm:c+x+y=m at*
    have hlen:pre.length+1<=9223372036854775807/\(pre.length+1)*8<=140737488355328:=by omega
    refine aak λK9 hK9=>?_;simp[z5,z6,hbs,dY,keyOf,e1,CF,-ak,-Int.natCast_emod,-Int.natCast_ediv,-Int.natCast_add]
    repeat refine ah ?_
    apply hK9;refine aac ?_;simp[z6,e2,e3,-Int.natCast_emod,-Int.natCast_ediv];apply hK5;refine aac ?_;simp[z7,w7]
    have hM2:pre.length<=M:=by
     rcases h4 with h4|⟨h4,h5,_⟩
     ·exact h4
     ·omega
    refine⟨pre++[m%1000000000],m/1000000000,Le.keys [(0,2,.cells true false 2 (wK .i64 (pre++[m%1000000000])))] 19 _ rfl rfl (by simp) (by simp) (by simp) ?_ ?_,⟨cA.2 ⟨h1,bJ.2 ⟨by omega,cC _⟩⟩,by omega,?_,?_⟩,by simp;omega⟩
    ·intro e he;simp only[rP,Zd,or_false]at he;subst he;simpa using lf .i64 2 (pre++[m%1000000000]) _
    ·simp[bP,z0,z1]
    ·have:=nH 1000000000 pre m;rw[Zg,ZY,this,hxv,hyv,<-hm,Zc,Zc];omega
    ·simp only[Zg,ZY]
     by_cases hlt:pre.length<M
     ·exact .inl (by omega)
     ·right;have hx0:pre.length=M:=by omega
      have c1:c=1:=by omega
      have ea:val 1000000000 ((dO a).take pre.length)=val 1000000000 (dO a):=aN (by omega);have eb:val 1000000000 ((dO b).take pre.length)=val 1000000000 (dO b):=aN (by omega);have ea2:val 1000000000 ((dO a).take (pre.length+1))=val 1000000000 (dO a):=aN (by omega);have eb2:val 1000000000 ((dO b).take (pre.length+1))=val 1000000000 (dO b):=aN (by omega);have hp:0<1000000000^pre.length:=Zv (by decide);rw[ea,ea2]at hxv;rw[eb,eb2]at hyv
      have hx00:x=0:=by
       rcases abm x with h|h
       ·exact h
       ·have:=Z1 hp h;omega
      have hy00:y=0:=by
       rcases abm y with h|h
       ·exact h
       ·have:=Z1 hp h;omega
      rw[ea,eb,c1,Z0]at h3;refine⟨by omega,by omega,?_⟩;rw[<-hx0];omega
   refine aap z1 z7 ?_
   by_cases hlb:pre.length<(dO b).length
   ·have hy:(dO b)[pre.length]<1000000000:=hb.1 _ (bh hlb);have hyv:=bA (B:=1000000000) hlb;have e5:i64.wrap (((c+x:Nat):Int)+((dO b)[pre.length]:Nat))=((c+x+(dO b)[pre.length]:Nat):Int):=by rw[bF (by omega) (by omega)];omega
    refine aag (by simp[hlb]<;>omega) (aac ?_);simp[z1,z6,z7,hlb,e5,-Int.natCast_add];exact g3 _ _ _ hy hyv (by simp[z0]) (by simp[z1]) (by simp[z5]) (by simp) (by simp[z7])
   ·refine aaj (by simp[hlb]<;>omega) (aad ?_);simp;exact g3 0 _ _ (by omega) (by rw[aN (by omega),aN (by omega)];rfl) (by simp[z0]) (by simp[z1]) (by simp[z5]) (by simp[z6]) (by simp[z7])
  refine aap z0 z7 ?_
  by_cases hla:pre.length<(dO a).length
  ·have hx:(dO a)[pre.length]<1000000000:=ha.1 _ (bh hla);have hxv:=bA (B:=1000000000) hla;have e5:i64.wrap ((c:Int)+((dO a)[pre.length]:Nat))=((c+(dO a)[pre.length]:Nat):Int):=by rw[bF (by omega) (by omega)];omega
   refine aag (by simp[hla]<;>omega) (aac ?_);simp[z0,z6,z7,hla,e5,-Int.natCast_add];exact g2 _ _ _ hx hxv (by simp[z0]) (by simp[z1]) (by simp[z5]) (by simp) (by simp[z7])
  ·refine aaj (by simp[hla]<;>omega) (aad ?_);simp;exact g2 0 _ _ (by omega) (by rw[aN (by omega),aN (by omega)];rfl) (by simp[z0]) (by simp[z1]) (by simp[z5]) (by simp[z6]) (by simp[z7])
 by_cases c1:pre.length<(dO a).length
 ·refine aas c1 (hK4 _ _ ?_);refine aag (by simp[c1]<;>omega) (aad ?_);simp;exact body (.inl c1) _ _ (by simp) (by simp) (by simp) (by simp) (by simp)
 by_cases c2:pre.length<(dO b).length
 ·refine aau c1 c2 (hK4 _ _ ?_);refine aag (by simp[c2]<;>omega) (aad ?_);simp;exact body (.inr (.inl c2)) _ _ (by simp) (by simp) (by simp) (by simp) (by simp)
 by_cases c3:0<c
 ·have c3':(0:Int)<(c:Int):=by omega
  refine aay c1 c2 c3 c3' (hK4 _ _ ?_);refine aai (aad ?_);simp;exact body (.inr (.inr c3)) _ _ (by simp) (by simp) (by simp) (by simp) (by simp)
 obtain rfl:c=0:=by omega
 refine aau c1 c2 (hK4 _ _ ?_);refine aah (aan (hK _ _ (aab ?_)));rw[Z7,ZO,aN (by omega),aN (by omega)]at h3
 have hc:can 1000000000 pre:=by
  refine OG h1 ?_;rcases h4 with h4|⟨h4,_,h5⟩
  ·by_cases hM0:M=0
   ·exact .inl (Z4 (by omega))
   ·right;have hpm:pre.length=M:=by omega
    rw[h3,hpm]
    by_cases hq:(dO a).length=M
    ·have:=GB ha (λe=>hM0 (by rw[<-hq,e];rfl));rw[hq]at this;omega
    ·have hq2:(dO b).length=M:=by omega
     have:=GB hb (λe=>hM0 (by rw[<-hq2,e];rfl));rw[hq2]at this;omega
  ·right;rw[h3,h4];exact h5
 have hout:=ig (by decide:2<=1000000000) hc h3;refine aal (κ:=0) (jU.tmp (κ:=0) (X:=.c (.aD 0 0 pre.length 1)) (ks:=[0]) rfl (by simp) ?_);rw[<-hout];exact Hy (own:=true) (fz:=false) (T:=2) (l:=pre) (by simp) (by omega)
end Go.Am
