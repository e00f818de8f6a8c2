/- Helpers. -/
import Derived.Test.YtldhlnmnfokbeaaGreatDoorTn04

set_option linter.all false
set_option maxHeartbeats 8000000
set_option maxRecDepth 100000
open Go.IntKind
open Go.Proofs.Tryz
namespace Go.Am
variable {s:List UInt8}{e:Int}
abbrev agm:=@Int.natAbs_neg
abbrev agD:=@Nat.gcd_zero_left
abbrev adW:=@Int.toNat_natCast
abbrev af2:=@List.all_eq_false
open Go.Am.Ty Go.Proofs N
theorem Ow{p:UInt8->Bool}:∀{l:List UInt8},l.dropWhile p=[]->∀x∈l,p x=true
 |[],_,x,hx=>by cases hx
 |a::l,h,x,hx=>by
  simp only[List.dropWhile]at h;split at h
  ·rename_i ha
   rcases List.mem_cons.1 hx with rfl|hx
   ·exact ha
   ·exact Ow h x hx
  grind
theorem Li(h:xR s=[]):zn s:=by
 have h1:∀x∈lT s,lO x=true:=Ow h;have h2:∀x∈s.reverse.dropWhile lO,lO x=true:=λx hx=>h1 x (by unfold lT;grind)
 have h3:∀x∈s.reverse,lO x=true:=by
  intro x hx;rw[<-List.takeWhile_append_dropWhile (p:=lO) (l:=s.reverse),afW]at hx;rcases hx with hx|hx
  ·have:=List.all_takeWhile (p:=lO) (l:=s.reverse)
   grind
  ·grind
 intro c hc;have:=h3 c (List.mem_reverse.2 hc);simpa[lO]using this
theorem rm(h:gP s=true):zn s/\s≠[]:=by
 unfold gP at h;simp only[adS,aeM,decide_eq_false_iff_not,decide_eq_true_eq]at h;exact⟨Li h.1.2,h.1.1⟩
abbrev nm0:AV:=p7 false none none
def kD(neg:Bool)(top bot:List UInt8)(brk:Bool):Bool:=!gP top ||(neg&&decide (top=[48])) ||(brk&&(!gP bot ||decide (bot=[48]) ||decide (bot=[49])))
abbrev sG(s:List UInt8):Option (List Nat):=some (aL 4294967296 (bg s 0))
def gW(neg:Bool)(top bot:List UInt8)(brk:Bool):AV:=
 if kD neg top bot brk=true then .tup [nm0,.c (.d (.int .i64 6))]
 else if 2000<max top.length bot.length then .tup [nm0,.c (.d (.int .i64 3))]
 else if brk=false then .tup [l7 neg (sG top) (some (aL 4294967296 1)),.c (.d (.int .i64 0))]
 else if val 4294967296 (dO (gO (sG top) (sG bot)))=1 then .tup [p7 neg (sG top) (sG bot),.c (.d (.int .i64 0))]
 else .tup [nm0,.c (.d (.int .i64 6))]
theorem Hj(lv:Key->LB)(neg:Bool)(top bot:List UInt8)(brk:Bool):gq lv (gW neg top bot brk)=some (gW neg top bot brk,[]):=by
 have h1:∀b p q n,gq lv (.tup [p7 b p q,.c (.d (.int .i64 n))])=some (.tup [p7 b p q,.c (.d (.int .i64 n))],[]):=by
  intro b p q n;cases p<;>cases q<;>rfl
 unfold gW l7
 grind
theorem GB(G:List (List DV))(h:gP s=true)(hl:s.length<=2000):aa prog G 102 [.c (.d (.str s))] (.c (nC (sG s))):=by
 obtain⟨h1,h2⟩:=rm h;have:=BG G s h1 zd
 have e:oO (!s.isEmpty) (bg s 0)=sG s:=by
  cases s with
  |nil=>grind
  |cons a l=>rfl
 rw[e,iX]at this;omega
theorem Fq(m:Int)(r:List UInt8):
 aa prog (GG m) 43 [.c (.d (.str r))] (gW (ur r [45]) (wh (nM r [45]) [47]) (vM (nM r [45]) [47]) (decide (0<=nI (nM r [45]) [47]))):=by
 refine aQ.nc 0 zp (λV v h=>(show r.length<=9223372036854775807 by cases h.1 with|str _ hl=>exact hl)) λhr=>?_
 have hcl:(nM r [45]).length<=9223372036854775807:=by
  unfold nM;split
  ·grind
  ·exact hr
 have hcp:=Ec (GG m) r [45];have hct:=R4 m (nM r [45]) 47
 have hta:(wh (nM r [45]) [47]).length<=9223372036854775807:=by
  unfold wh;split
  ·grind
  ·omega
 have htb:(vM (nM r [45]) [47]).length<=9223372036854775807:=by
  unfold vM;split
  ·grind
  ·simp
 generalize ur r [45]=neg at*
 generalize nM r [45]=s at*
 generalize wh s [47]=top at*
 generalize vM s [47]=bot at*
 generalize decide (0<=nI s [47])=brk at*
 refine aa.enc func43 rfl (λlv=>Hj lv _ _ _ _) λ_=>aah ?_;refine aaF λK hK=>?_;simp;refine ag.pure 1 9 hcp rfl zp zp ?_;simp;apply hK;refine aaF λK hK=>?_;simp;refine ag.pure 1 9 hct rfl zp zp ?_;simp;apply hK;refine aac λK hK=>aaw (aac λK1 hK1=>?_)
 have row1:=N2 m top;have row2:=N2 m bot
 have hbad:∀(fr:Nat->AV) (κ:Nat),fr 2=.c (.ptr 0 0)->fr 22=.c (.d (.bool true))->kD neg top bot brk=true ->
  K1 ⟨fr,aM (λ_=>.hole) 0 (.cells true false 34 [.d (.bool false),.d .nilsl,.d .nilsl])⟩ κ:=by
  intro fr κ z2 z22 hb;apply hK1;refine aaB yk (abk z2 @Cx ?_);refine aal ?_;simp only[gW,if_pos hb];refine aF.ox (κ:=0) (T:=34) (t:=2) (u:=3) (k:=0) (off:=0) (own:=true) (fz:=false) (U:=34) (cs:=[.d (.bool false),.d .nilsl,.d .nilsl]) rfl ?_ ?_ ?_ ?_ rfl rfl
  ·simp[z2]
  ·rfl
  ·rfl
  ·simp
 have hgood:∀(fr:Nat->AV) (κ:Nat),fr 2=.c (.ptr 0 0)->fr 5=.c (.d (.bool neg))->fr 6=.c (.d (.str top))->fr 7=.c (.d (.str bot))->fr 8=.c (.d (.bool brk))->fr 22=.c (.d (.bool false)) ->
  gP top=true->(brk=true->gP bot=true)->kD neg top bot brk=false ->
  K1 ⟨fr,aM (λ_=>.hole) 0 (.cells true false 34 [.d (.bool false),.d .nilsl,.d .nilsl])⟩ κ:=by
  intro fr κ z2 z5 z6 z7 z8 z22 g1 g2 hb;apply hK1;refine aaD yk (aac λK2 hK2=>?_)
  have hmx:∀(a b:Nat),(List.foldl (λa b:Int=>if a<b then b else a) (a:Int) [(b:Int)])=((max a b:Nat):Int):=by
   intro a b;simp only[List.foldl];split<;>omega
  refine aai ?_;simp[z6,z7,eN,hmx,-List.foldl_cons,-List.foldl_nil];apply hK2;have hbf:¬kD neg top bot brk=true:=sv
  by_cases hl:2000<max top.length bot.length
  ·have hl':(2000:Int)<((max top.length bot.length:Nat):Int):=by omega
   refine aaB yk (abk z2 @Cx ?_);refine aal ?_;simp only[gW,if_neg hbf,if_pos hl];refine aF.ox (κ:=0) (T:=34) (t:=2) (u:=3) (k:=0) (off:=0) (own:=true) (fz:=false) (U:=34) (cs:=[.d (.bool false),.d .nilsl,.d .nilsl]) rfl ?_ ?_ ?_ ?_ rfl rfl
   ·simp[z2]
   ·rfl
   ·rfl
   ·simp
  have hl':¬(2000:Int)<((max top.length bot.length:Nat):Int):=zd
  refine aaD yk (aan (hK _ _ ?_));have ht2:top.length<=2000:=zd
  have hb2:bot.length<=2000:=zd
  have rd1:=GB (GG m) g1 ht2;have hof:=fK (GG m) 1 zr;have c1:can 4294967296 (dO (sG top)):=bO zr _;have c2:can 4294967296 (dO (some (aL 4294967296 1))):=bO zr _
  have dlen:∀(u:List UInt8),zn u->u.length<=2000->(dO (sG u)).length<1000000000000:=by
   intro u hu hlu;have h1:=pL hu;have h2:(10:Nat)^u.length<=4294967296^u.length:=afq zr _;have:=cE (B:=4294967296) (n:=bg u 0) (m:=u.length) zr zd;simp only[aS];omega
  have l1:=dlen top (rm g1).1 ht2;have l2:(dO (some (aL 4294967296 1))).length<1000000000000:=aeR (cE (m:=1) zr zr) zr;refine aac λK3 hK3=>aaN z8 ?_
  cases hk:brk with
  |false=>
   rw[hk]at hbf;have hmade:=tr (GG m) neg (sG top) (some (aL 4294967296 1)) c1 c2 (by intro h;exact absurd ((cL zr).1 h) zr) l1 l2;simp only[iX]at hmade hof;refine aaE (aaF λK4 hK4=>?_);simp[z5,z6];refine ag.pure κ 9 rd1 zp zp zp ?_;simp;refine ag.pure κ 9 hof zp zp zp ?_;simp
   by_cases hz:dO (sG top)=[]
   ·simp only[l7,if_pos hz]at hmade;refine ag.pure κ 9 hmade zp zp zp ?_;simp[z2];apply hK4;refine aal ?_;simp only[gW,if_neg hbf,if_neg hl,reduceIte,l7,if_pos hz];refine aF.ox (κ:=0) (T:=34) (t:=2) (u:=3) (k:=0) (off:=0) (own:=true) (fz:=false) (U:=34) (cs:=[.d (.bool false),nC none,nC none]) rfl ?_ ?_ ?_ ?_ rfl rfl
    ·simp[z2]
    ·rfl
    ·rfl
    ·simp
   ·simp only[l7,if_neg hz]at hmade;refine ag.pure κ 9 hmade zp zp zp ?_;simp[z2];apply hK4;refine aal ?_;simp only[gW,if_neg hbf,if_neg hl,reduceIte,l7,if_neg hz];refine aF.ox (κ:=0) (T:=34) (t:=2) (u:=3) (k:=0) (off:=0) (own:=true) (fz:=false) (U:=34) (cs:=[.d (.bool neg),nC (mP (sG top) (some (aL 4294967296 1))),nC (mQ (sG top) (some (aL 4294967296 1)))]) rfl ?_ ?_ ?_ ?_ rfl rfl
    ·simp[z2]
    ·rfl
    ·rfl
    ·simp
  |true=>
   rw[hk]at hbf;have g3:=g2 hk;have rd2:=GB (GG m) g3 hb2;have c3:can 4294967296 (dO (sG bot)):=bO zr _;have l3:=dlen bot (rm g3).1 hb2;have hgcd:=uA (GG m) (sG top) (sG bot) c1 c3 l1 l3;have his:=mB (GG m) (gO (sG top) (sG bot)) (by unfold gO;rw[AO c1 c3];exact bO zr _);change aa _ _ 105 _ (nK .u32 (gO (sG top) (sG bot)))at hgcd;simp only[iX]at hgcd his;refine aax (aan (hK3 _ _ (aaF λK4 hK4=>?_)));simp[z6];refine ag.pure κ 9 rd1 zp zp zp ?_;simp[z7];refine ag.pure κ 9 rd2 zp zp zp ?_;simp;apply hK4;refine aac λK4 hK4=>aaF λK5 hK5=>?_;simp;refine ag.pure κ 9 hgcd zp zp zp ?_;simp;refine ag.pure κ 9 his zp zp zp ?_;simp;apply hK5
   by_cases h1:val 4294967296 (dO (gO (sG top) (sG bot)))=1
   ·refine aaD yk (aan (hK4 _ _ (abN z2 z5 @Il ?_)));refine aal ?_;have hp:gW neg top bot brk=.tup [p7 neg (sG top) (sG bot),.c (.d (.int .i64 0))]:=by rw[hk];unfold gW;rw[if_neg hbf,if_neg hl,if_neg zr,if_pos h1]
    rw[hp];refine aF.ox (κ:=0) (T:=34) (t:=2) (u:=3) (k:=0) (off:=0) (own:=true) (fz:=false) (U:=34) (cs:=[.d (.bool neg),nC (sG top),nC (sG bot)]) rfl ?_ ?_ ?_ ?_ rfl rfl
    ·simp[z2]
    ·rfl
    ·rfl
    ·simp
   ·refine aaB yk (abk z2 @Cx ?_);refine aal ?_;have hp:gW neg top bot brk=.tup [nm0,.c (.d (.int .i64 6))]:=by rw[hk];unfold gW;rw[if_neg hbf,if_neg hl,if_neg zr,if_neg h1]
    rw[hp];refine aF.ox (κ:=0) (T:=34) (t:=2) (u:=3) (k:=0) (off:=0) (own:=true) (fz:=false) (U:=34) (cs:=[.d (.bool false),.d .nilsl,.d .nilsl]) rfl ?_ ?_ ?_ ?_ rfl rfl
    ·simp[z2]
    ·rfl
    ·rfl
    ·simp
 refine aai ?_;simp;refine ag.pure 1 9 row1 zp zp zp ?_
 cases g1:gP top with
 |false=>
  simp;exact hbad _ _ zp zp (by simp[kD,g1])
 |true=>
  cases hn:neg with
  |true=>
   by_cases h48:top=[48]
   ·have e48:decide (top=[48])=true:=decide_eq_true h48;simp[eqStr,e48];exact hbad _ _ zp zp (by simp[kD,hn,h48])
   ·cases hk:brk with
    |false=>
     simp[eqStr,h48];exact hgood _ _ zp co zp zp dT zp g1 (λh=>by grind) (by simp[kD,g1,hn,h48,hk])
    |true=>
     simp[eqStr,h48];refine ag.pure 1 9 row2 zp zp zp ?_
     cases g2:gP bot with
     |false=>
      simp;exact hbad _ _ zp zp (by simp[kD,g2,hk])
     |true=>
      by_cases b48:bot=[48]
      ·have e:decide (bot=[48])=true:=decide_eq_true b48;simp[eqStr,e];exact hbad _ _ zp zp gf
      ·by_cases b49:bot=[49]
       ·have e:decide (bot=[49])=true:=decide_eq_true b49;simp[eqStr,b48,e];exact hbad _ _ zp zp gf
       ·simp[eqStr,b48,b49];exact hgood _ _ zp co zp zp dT zp g1 (λ_=>g2) (by simp[kD,g1,hn,h48,hk,g2,b48,b49])
  |false=>
   cases hk:brk with
   |false=>
    simp;exact hgood _ _ zp co zp zp dT zp g1 (λh=>by grind) (by simp[kD,g1,hn,hk])
   |true=>
    simp;refine ag.pure 1 9 row2 zp zp zp ?_
    cases g2:gP bot with
    |false=>
     simp;exact hbad _ _ zp zp (by simp[kD,g2,hk])
    |true=>
     by_cases b48:bot=[48]
     ·have e:decide (bot=[48])=true:=decide_eq_true b48;simp[eqStr,e];exact hbad _ _ zp zp gf
     ·by_cases b49:bot=[49]
      ·have e:decide (bot=[49])=true:=decide_eq_true b49;simp[eqStr,b48,e];exact hbad _ _ zp zp gf
      ·simp[eqStr,b48,b49];exact hgood _ _ zp co zp zp dT zp g1 (λ_=>g2) (by simp[kD,g1,hn,hk,g2,b48,b49])
def fD(neg:Bool)(top bot:List UInt8)(brk:Bool):Int:=
 if kD neg top bot brk=true then 6
 else if 2000<max top.length bot.length then 3
 else if brk=false then 0
 else if val 4294967296 (dO (gO (sG top) (sG bot)))=1 then 0 else 6
theorem GU(neg:Bool)(top bot:List UInt8)(brk:Bool):∃b p q,gW neg top bot brk=.tup [p7 b p q,.c (.d (.int .i64 (fD neg top bot brk)))]:=by
 unfold gW fD l7
 (repeat' split)<;>exact⟨_,_,_,rfl⟩
theorem BE(m:Int)(r:List UInt8):
 aa prog (GG m) 169 [.c (.d (.str r))] (.c (.d (.int .i64 (fD (ur r [45]) (wh (nM r [45]) [47]) (vM (nM r [45]) [47]) (decide (0<=nI (nM r [45]) [47])))))):=by
 have hp:=Fq m r;obtain⟨b,p,q,e⟩:=GU (ur r [45]) (wh (nM r [45]) [47]) (vM (nM r [45]) [47]) (decide (0<=nI (nM r [45]) [47]));rw[e]at hp;generalize fD (ur r [45]) (wh (nM r [45]) [47]) (vM (nM r [45]) [47]) (decide (0<=nI (nM r [45]) [47]))=n at*
 have hpu:(AV.tup [p7 b p q,.c (.d (.int .i64 n))]).pure=true:=by cases p<;>cases q<;>rfl
 refine aa.en func169 rfl λ_=>aah ?_;refine aaF λK hK=>?_;simp;refine ag.pure 0 9 hp hpu zp rfl ?_;simp;apply hK;refine aah ?_;exact aaq (aD.rt rfl 9 zp)
def iV(e p:Int):Int:=if e<2\/11<e\/p<2\/113<p\/e+p<5 then 2 else 0
theorem mR(G:List (List DV))(e p:Int):aa prog G 166 [.agg [.d (.int .i64 e),.d (.int .i64 p)]] (.c (.d (.int .i64 (iV e p)))):=by
 refine aa.en func166 rfl λ_=>aah ?_;refine aac λK hK=>aac λK1 hK1=>?_
 have bad:∀(fr:Nat->AV) (κ:Nat) (lv:Key->LB),lv 9=.hole->fr 28=.c (.d (.bool true))->iV e p=2->K1 ⟨fr,lv⟩ κ:=by
  intro fr κ lv h9 z hf;apply hK1;refine aaB yk (aah ?_);exact aal (κ:=0) (aD.tmp (κ:=0) rfl 9 dE rfl oi rfl)
 by_cases h1:e<2
 ·refine aai ?_;simp[h1];exact bad _ _ _ zp zp vy
 by_cases h2:11<e
 ·refine aai ?_;simp[h1,h2];exact bad _ _ _ zp zp vy
 by_cases h3:p<2
 ·refine aai ?_;simp[h1,h2,h3];exact bad _ _ _ zp zp vy
 by_cases h4:113<p
 ·refine aai ?_;simp[h1,h2,h3,h4];exact bad _ _ _ zp zp vy
 have hw:i64.wrap (e+p)=e+p:=bP zd zd
 by_cases h5:e+p<5
 ·refine aai ?_;simp[h1,h2,h3,h4,hw,h5];exact bad _ _ _ zp zp vy
 refine aai ?_;simp[h1,h2,h3,h4,hw,h5];apply hK1;refine aax (aan (hK _ _ (aah ?_)));have hf:iV e p=0:=by unfold iV;rw[if_neg zd]
 exact aaq (aD.rt rfl 9 dE)
@[simp]theorem W2(cs:List CV):(AV.agg cs).pure=cs.all CV.pure:=rfl
@[simp]theorem aar(x:DV):(CV.d x).pure=true:=rfl
@[simp]theorem WH(o:Option (List (List DV))):(dc o).pure=true:=by cases o<;>rfl
@[simp]theorem X2(l:List AV):(AV.tup l).pure=l.all AV.rE:=rfl
@[simp]theorem ZZ(x:CV):(AV.c x).rE=x.pure:=rfl
@[simp]theorem Wy(cs:List CV):(AV.agg cs).rE=cs.all CV.pure:=rfl
def bX(e:Int):Int:=(2:Int)^(e-1).toNat-1
theorem wB(h1:2<=e)(h2:e<=11):1<=bX e/\bX e<=1023/\aU prog .shl 3 (.c (.d (.int .i64 1))) (.c (.d (.int .i64 (e-1))))=some (.c (.d (.int .i64 (bX e+1))),[],[],True):=by
 have h:e=2\/e=3\/e=4\/e=5\/e=6\/e=7\/e=8\/e=9\/e=10\/e=11:=zd
 rcases h with rfl|rfl|rfl|rfl|rfl|rfl|rfl|rfl|rfl|rfl<;>refine⟨zr,zr,?_⟩<;>rw[Pt]<;>congr 1<;>congr 1<;>first|rfl|decide|(congr 1;congr 1;decide)
abbrev fA(e p:Int):AV:=.agg [.d (.int .i64 e),.d (.int .i64 p)]
abbrev Wk(e p m b:Int):AV:=.agg [.d (.int .i64 e),.d (.int .i64 p),.d (.int .i64 m),.d (.int .i64 b)]
theorem Yv:bM prog 238 [] []=some (Wk 0 0 0 0,[],[],True):=zt
theorem abO(a b c d:CV):bM prog 238 [0,1,2] [.agg [a,b],.c c,.c d]=some (.agg [a,b,c,d],[],[],True):=zt
theorem Qt(a b c d:CV):iq prog 238 [a,b,c,d]=some (.agg [a,b,c,d]):=zt
theorem lu{p:Int}(h:iV e p=0):2<=e/\e<=11/\2<=p/\p<=113/\5<=e+p:=by
 unfold iV at h;omega
theorem lpN(T:TypeId)(h:(fU prog T).isSome=true)(lv:Key->LB):eT prog T lv (.c (.d .nilsl))=some (.c (.d (.int .i64 0)),[],[],True):=fP (o:=none) h
theorem Q2(G:List (List DV))(e p:Int)(hf:iV e p=0):aa prog G 211 [fA e p,.c (.d (.int .i64 0)),.c (.d .nilsl)] (.tup [Wk e p 0 (bX e),.c (.d (.int .i64 0))]):=by
 obtain⟨f1,f2,f3,f4,f5⟩:=lu hf;obtain⟨g1,g2,hsh⟩:=wB f1 f2;have hc:=mR G e p;rw[hf]at hc;have w1:i64.wrap (e-1)=e-1:=bP zd zd;have w2:i64.wrap (bX e+1-1)=bX e:=by rw[bP zd zd];omega
 have w2':i64.wrap (bX e)=bX e:=bP zd zd;have lpn:=lpN 273 zp;generalize bX e=b at*
 refine aa.enc func211 rfl (λlv=>rfl) λ_=>aah ?_;refine aac λK hK=>abi 2 hc ?_;refine aax (aan (hK _ _ (aac λK hK=>?_)));refine aaT mixed zt rfl ?_;simp[w1,hsh,w2',abO,-Pt];refine⟨zt,?_⟩;apply hK;refine aac λK hK=>aaN lpn ?_;refine aaw ?_
 refine aaY (λ(_:Unit)=>⟨aT [(6,.c (.ptr 1 0)),(8,.c (.ptr 2 0)),(32,.c (.d .nilsl)),(33,.c (.d (.int .i64 0))),(34,.c (.d (.int .i64 0)))],
  aM (aM (aM (λ_=>.hole) 0 (.cells true false 119 [.d (.int .i64 e),.d (.int .i64 p)])) 1 (.cells true false 238 [.d (.int .i64 0),.d (.int .i64 0),.d (.int .i64 0),.d (.int .i64 0)])) 2 (.cells true false 238 [.d (.int .i64 e),.d (.int .i64 p),.d (.int .i64 0),.d (.int .i64 b)])⟩) 3
  (λ_=>True) (λ_=>0) () (Le.fJ _) trivial ?_
 rintro⟨⟩ _;refine aah ?_;refine aac λK3 hK3=>aax (aaR (hK _ _ (abk @Qt @ai.eq_1 ?_)))
 refine aal ?_;rfl
theorem PF(G:List (List DV))(e p:Int)(hf:iV e p≠0):aa prog G 211 [fA e p,.c (.d (.int .i64 0)),.c (.d .nilsl)] (.tup [Wk 0 0 0 0,.c (.d (.int .i64 2))]):=by
 have hc:=mR G e p;refine aa.enc func211 rfl (λlv=>rfl) λ_=>aah ?_;refine aac λK hK=>abx 2 hc hf ?_;refine aaB xr (aaN Yv ?_);refine aal ?_;rfl
theorem L8(G:List (List DV))(k:Int)(h1:-20000<=k)(h2:k<=20000):aa prog G 258 [.c (.d (.int .i64 k))] (bu (aH 1 k)):=by
 have h:=Rq G k h1 h2;generalize aH 1 k=r at*
 refine aa.enc func258 rfl (λlv=>bZ lv _ _ _) λ_=>aah ?_;refine abi 1 h ?_;refine abk @j5 @ai.eq_1 ?_;refine aal ?_;rfl
theorem xG(G:List (List DV))(x:Rat)(k:Int)(hx:bF x 10000000000)(h1:-20000<=k)(h2:k<=20000):aa prog G 212 [bu x,.c (.d (.int .i64 k))] (bu (aH x k)):=by
 have h:=xj G x k hx h1 h2;generalize aH x k=r at*
 refine aa.enc func212 rfl (λlv=>bZ lv _ _ _) λ_=>aah ?_;refine abi 2 h ?_;refine abk @j5 @ai.eq_1 ?_;refine aal ?_;rfl
theorem Mi(G:List (List DV))(x:Rat)(hx:x≠0)(hs:bF x 10000000):aa prog G 214 [bu x] (.c (.d (.int .i64 (dm x)))):=by
 have h:=R3 G x hx hs;refine aa.en func214 rfl λ_=>aah ?_;refine abi 1 h ?_;refine aah ?_;exact aaq (aD.rt rfl 2 zp)
theorem CQ(G:List (List DV))(e p m b:Int)(h1:0<=b)(h2:b<=100000):aa prog G 256 [Wk e p m b] (.c (.d (.int .i64 (1-b)))):=by
 have w:i64.wrap (1-b)=1-b:=bP zd zd;refine aa.en func256 rfl λ_=>aah ?_;refine aaN w ?_;exact aaq (aD.rt rfl 2 zp)
def lE(p b l:Int):Int:=max l (1-b)-p+1
theorem IG(G:List (List DV))(e p m b l:Int)(h1:0<=b)(h2:b<=100000)(h3:0<=p)(h4:p<=100000)(h5:-1000000<=l)(h6:l<=1000000):aa prog G 213 [Wk e p m b,.c (.d (.int .i64 l))] (.c (.d (.int .i64 (lE p b l)))):=by
 have h:=CQ G e p m b h1 h2;have mx:(List.foldl (λa b:Int=>if a<b then b else a) l [1-b])=max l (1-b):=vx
 have w1:i64.wrap (max l (1-b)-p)=max l (1-b)-p:=bP zd zd;have w2:i64.wrap (max l (1-b)-p+1)=lE p b l:=by unfold lE;exact bP zd zd
 refine aa.en func213 rfl λ_=>aah ?_;refine aac λK hK=>?_;refine aaT mixed zt rfl ?_;simp;refine ag.p 1 9 h ?_;simp[eN,mx,w1,w2,-List.foldl_cons,-List.foldl_nil];refine⟨zt,?_⟩;apply hK;exact aaq (aD.rt rfl 4 zp)
def gY(p b:Int):Rat:=aH (aH 1 p-1) (b-p+1)
theorem ki(L:Nat)(h:1<=L):bF 1 L:=⟨re,re⟩
theorem ue(p:Int)(h1:0<=p)(h2:p<=10000):bF (aH 1 p-1) 1000:=by
 rw[afs];have h:=cZ (ki 1 (bf _)) p;have:=JB (au h (show 1+p.natAbs/32+1<=400 by omega)) (fk (ki 400 zd));exact au this zd
theorem CK(p b:Int)(h1:0<=p)(h2:p<=10000)(h3:0<=b)(h4:b<=5000):bF (gY p b) 2000:=by
 refine au (cZ (ue p h1 h2) _) zd
theorem AF(G:List (List DV))(e p m b:Int)(h1:0<=b)(h2:b<=5000)(h3:0<=p)(h4:p<=10000):aa prog G 216 [Wk e p m b] (bu (gY p b)):=by
 have k1:=L8 G p zd zd;have k2:aa prog G 49 [.c (.d (.int .i64 1))] (bu (1:Rat)):=mD G 1 zr zr;have k3:=r9 G (aH 1 p) 1 (au (cZ (ki 1 (bf _)) p) zd) (ki _ zd);have k4:=xG G (aH 1 p-1) (b-p+1) (au (ue p h3 h4) zd) zd zd;rw[show aH (aH 1 p-1) (b-p+1)=gY p b from rfl]at k4;have w1:i64.wrap (b-p)=b-p:=bP zd zd;have w2:i64.wrap (b-p+1)=b-p+1:=bP zd zd;generalize gY p b=r at*
 generalize aH 1 p-1=r2 at*
 generalize aH 1 p=r1 at*
 generalize (1:Rat)=r0 at*
 refine aa.enc func216 rfl (λlv=>bZ lv _ _ _) λ_=>aah ?_;refine aac λK hK=>?_;refine aaT mixed zt rfl ?_;simp;refine ag.p 2 9 k1 ?_;simp;refine ag.p 2 9 k2 ?_;simp;refine ag.p 2 9 k3 ?_;simp[w1,w2];refine ag.p 2 9 k4 ?_;simp;refine⟨zt,?_⟩;apply hK;refine aal ?_;rfl
def jq(x:Rat):Rat:=if x<0 then -x else x
theorem Vn(x:Rat):bu (jq x)=p7 false (aW x.num.natAbs) (bB x.den):=by
 unfold jq;split
 ·rename_i h
  have:x.num<0:=by
   have:=(Rat.lt_iff x 0).1 h;simpa using this
  show p7 (decide ((-x).num<0)) (aW (-x).num.natAbs) (bB (-x).den)=_;rw[afc,afN,agm,decide_eq_false zd]
 ·rename_i h
  have:¬x.num<0:=λhn=>h ((Rat.lt_iff x 0).2 yk)
  grind
theorem Qz(G:List (List DV))(x:Rat):aa prog G 142 [bu x] (bu (jq x)):=by
 rw[Vn];exact zw _ _ _ _
theorem y8{x:Rat}{L:Nat}(h:bF x L):bF (jq x) L:=by
 unfold jq;split
 ·exact fk h
 omega
theorem Cm(G:List (List DV))(x:Rat):aa prog G 215 [bu x] (.c (.d (.bool (decide (x.den=1))))):=by
 have h:=Dz G (decide (x.num<0)) (aW x.num.natAbs) (bB x.den);have e:(bB x.den).isNone=decide (x.den=1):=by unfold bB;split<;>simp_all
 grind
def hasB(e p:Int)(x:Rat):Bool:=
 decide (iV e p=0)&&(decide (x=0) ||(decide ((aH x (-(lE p (bX e) (dm x)))).den=1)&&decide (bS (jq x) (gY p (bX e))<=0)))
theorem vE(G:List (List DV))(e p:Int)(x:Rat)(hs:bF x 300):aa prog G 167 [fA e p,bu x] (.c (.d (.bool (hasB e p x)))):=by
 by_cases hf:iV e p=0
 rotate_left
 ·have hw:=PF G e p hf;have hb:hasB e p x=false:=by unfold hasB;rw[decide_eq_false hf];rfl
  refine aa.en func167 rfl λ_=>aah ?_;refine abi 2 hw ?_;refine aac λK hK=>aaw (aah ?_)
  refine aaE (aah ?_);exact aaq (aD.rt rfl 4 se)
 obtain⟨f1,f2,f3,f4,f5⟩:=lu hf;obtain⟨g1,g2,_⟩:=wB f1 f2;have hw:=Q2 G e p hf;have hg:=dr G (decide (x.num<0)) (aW x.num.natAbs) (bB x.den)
 by_cases hx:x=0
 ·have hb:hasB e p x=true:=by unfold hasB;rw[decide_eq_true hf,decide_eq_true hx];rfl
  have hz:=vD hx;refine aa.en func167 rfl λ_=>aah ?_;refine abi 2 hw ?_;refine aac λK hK=>aaw (aah ?_)
  refine aax (abx 3 hg hz ?_);refine aaB xr (aah ?_);exact aaq (aD.rt rfl 4 se)
 have hne:=En hx;have hl:=Mi G x hx (au hs zd);obtain⟨l1,l2⟩:=jv hx hs;have hst:=IG G e p 0 (bX e) (dm x) zd zd zd zd zd zd;have s1:-20000<=-(lE p (bX e) (dm x)):=by unfold lE;omega
 have s2:-(lE p (bX e) (dm x))<=20000:=by unfold lE;omega
 have hsh:=xG G x (-(lE p (bX e) (dm x))) (au hs zd) s1 s2;have hin:=Cm G (aH x (-(lE p (bX e) (dm x))));have hab:=Qz G x;have hgr:=AF G e p 0 (bX e) zd zd zd zd;have hcm:=iZ G (jq x) (gY p (bX e)) (au (y8 hs) zd) (au (CK p (bX e) zd zd zd zd) zd)
 have hb:hasB e p x=(decide ((aH x (-(lE p (bX e) (dm x)))).den=1)&&decide (bS (jq x) (gY p (bX e))<=0)):=by
  unfold hasB;rw[decide_eq_true hf,decide_eq_false hx];rfl
 have w:i64.wrap (-(lE p (bX e) (dm x))) = -(lE p (bX e) (dm x)):=bP zd zd;generalize bS (jq x) (gY p (bX e))=cm at*
 generalize gY p (bX e)=gr at*
 generalize jq x=ab at*
 generalize aH x (-(lE p (bX e) (dm x)))=sh at*
 generalize lE p (bX e) (dm x)=st at*
 generalize dm x=lo at*
 generalize bX e=b at*
 by_cases hi:sh.den=1
 ·have hb2:hasB e p x=decide (cm<=0):=by rw[hb,decide_eq_true hi];rfl
  refine aa.en func167 rfl λ_=>aah ?_;refine abi 2 hw ?_;refine aac λK hK=>aaw (aah ?_)
  refine aax (abx 3 hg hne ?_);refine aaD xr (aan (hK _ _ (aac λK hK=>?_)));refine aaT mixed zt rfl ?_;simp[ai];refine ag.p 3 9 hl ?_;simp;refine ag.p 3 9 hst ?_;simp[w];refine ag.p 3 9 hsh ?_;simp;refine ag.p 3 9 hin ?_;simp[hi];refine ag.p 3 9 hab ?_;simp;refine ag.p 3 9 hgr ?_;simp;refine ag.p 3 9 hcm ?_;simp;refine⟨zt,?_⟩;apply hK;exact aaq (aD.rt rfl 4 (by simp[hb2]))
 ·have hb2:hasB e p x=false:=by rw[hb,decide_eq_false hi];rfl
  refine aa.en func167 rfl λ_=>aah ?_;refine abi 2 hw ?_;refine aac λK hK=>aaw (aah ?_)
  refine aax (abx 3 hg hne ?_);refine aaD xr (aan (hK _ _ (aac λK hK=>?_)));refine aaT mixed zt rfl ?_;simp[ai];refine ag.p 3 9 hl ?_;simp;refine ag.p 3 9 hst ?_;simp[w];refine ag.p 3 9 hsh ?_;simp;refine ag.p 3 9 hin ?_;simp[hi];refine⟨zt,?_⟩;apply hK;exact aaq (aD.rt rfl 4 (by simp[hb2]))
theorem zl(h:gP s=true)(h0:s≠[48])(h1:s≠[49]):2<=bg s 0:=by
 obtain⟨hD,hne⟩:=rm h;unfold gP at h;simp only[adS,aeY,aeM,decide_eq_true_eq,decide_eq_false_iff_not]at h
 have h4:s.getD 0 0≠48:=by
  rcases h.2 with h3|h3
  ·exact absurd h3 h0
  ·exact h3
 cases s with
 |nil=>grind
 |cons c l=>
  have hc:=hD c zp;have hc48:c≠48:=h4;have hcn:c.toNat≠48:=λe=>hc48 (UInt8.toNat_inj.1 ti)
  have e:bg (c::l) 0=(c.toNat-48)*10^l.length+bg l 0:=by
   show bg l (10*0+(c.toNat-48))=_;rw[iw,aeU,aej]
  rw[e]
  cases l with
  |nil=>
   have hc49:c.toNat≠49:=λe=>h1 (by rw[UInt8.toNat_inj.1 (show c.toNat=(49:UInt8).toNat by rw[e];rfl)])
   grind
  |cons d l=>
   have h10:10<=10^(d::l).length:=by
    rw[aeq,adk];have:=adR (a:=10) (n:=l.length) zr;omega
   have:1*10<=(c.toNat-48)*10^(d::l).length:=ae3 zd h10;omega
def qy(neg:Bool)(top bot:List UInt8)(brk:Bool):Rat:=if fD neg top bot brk=0 then mkRat (ei neg (bg top 0)) (if brk=true then bg bot 0 else 1)else 0
theorem NT(s:List UInt8):(val 4294967296 (dO (sG s)))=bg s 0:=by show val 4294967296 (aL 4294967296 (bg s 0))=_;rw[b7]
theorem Da(s:List UInt8):can 4294967296 (dO (sG s)):=eR _
theorem X5(s t:List UInt8):(val 4294967296 (dO (gO (sG s) (sG t))))=Nat.gcd (bg s 0) (bg t 0):=by
 unfold gO;rw[AO (Da s) (Da t),b7,NT,NT]
theorem Jj{neg:Bool}{top bot:List UInt8}{brk:Bool}(h:kD neg top bot brk=false):gP top=true/\(brk=true->gP bot=true/\bot≠[48]/\bot≠[49]):=by
 unfold kD at h
 grind
theorem Ji(neg:Bool)(top bot:List UInt8)(brk:Bool):gW neg top bot brk=.tup [bu (qy neg top bot brk),.c (.d (.int .i64 (fD neg top bot brk)))]:=by
 by_cases h1:kD neg top bot brk=true
 ·have e:fD neg top bot brk=6:=by unfold fD;rw[if_pos h1]
  have e2:qy neg top bot brk=0:=by unfold qy;rw[e,if_neg zr]
  rw[e,e2];unfold gW;rw[if_pos h1];rfl
 by_cases h2:2000<max top.length bot.length
 ·have e:fD neg top bot brk=3:=by unfold fD;rw[if_neg h1,if_pos h2]
  have e2:qy neg top bot brk=0:=by unfold qy;rw[e,if_neg zr]
  rw[e,e2];unfold gW;rw[if_neg h1,if_pos h2];rfl
 obtain⟨g1,g2⟩:=Jj (by simpa using h1)
 by_cases h3:brk=false
 ·have e:fD neg top bot brk=0:=by unfold fD;rw[if_neg h1,if_neg h2,if_pos h3]
  have e2:qy neg top bot brk=mkRat (ei neg (bg top 0)) 1:=by unfold qy;rw[e,if_pos rfl,h3];rfl
  rw[e,e2];unfold gW;rw[if_neg h1,if_neg h2,if_pos h3];rw[BX neg (Da top) (q:=some (aL 4294967296 1)) (eR 1) (iF zr),NT,aS,b7]
 have hb:brk=true:=by simpa using h3
 obtain⟨r1,r2,r3⟩:=g2 hb;have hge:=zl r1 r2 r3
 by_cases h4:(val 4294967296 (dO (gO (sG top) (sG bot))))=1
 ·have e:fD neg top bot brk=0:=by unfold fD;rw[if_neg h1,if_neg h2,if_neg h3,if_pos h4]
  have e2:qy neg top bot brk=mkRat (ei neg (bg top 0)) (bg bot 0):=by unfold qy;rw[e,if_pos rfl,hb];rfl
  rw[e,e2];unfold gW;rw[if_neg h1,if_neg h2,if_neg h3,if_pos h4];rw[X5]at h4;have ha:bg top 0≠0:=by intro h0;rw[h0,agD]at h4;omega
  obtain⟨n1,n2⟩:=jY neg (a:=bg top 0) (b:=bg bot 0) zd;rw[h4,afb]at n1 n2;show AV.tup [p7 neg (some (aL 4294967296 (bg top 0))) (some (aL 4294967296 (bg bot 0))),_]=AV.tup [p7 (decide ((mkRat (ei neg (bg top 0)) (bg bot 0)).num<0)) (aW (mkRat (ei neg (bg top 0)) (bg bot 0)).num.natAbs) (bB (mkRat (ei neg (bg top 0)) (bg bot 0)).den),_];rw[n1,n2,rX,KL neg ha];unfold aW bB
  grind
 ·have e:fD neg top bot brk=6:=by unfold fD;rw[if_neg h1,if_neg h2,if_neg h3,if_neg h4]
  have e2:qy neg top bot brk=0:=by unfold qy;rw[e,if_neg zr]
  rw[e,e2];unfold gW;rw[if_neg h1,if_neg h2,if_neg h3,if_neg h4];rfl
theorem qX(L:Nat)(h:1<=L):bF 0 L:=⟨kc,re⟩
theorem vN(h:zn s)(hl:s.length<=2000):nl (bg s 0)<=300:=by
 have:=Jh (pL h);omega
theorem QO(neg:Bool)(top bot:List UInt8)(brk:Bool):bF (qy neg top bot brk) 300:=by
 unfold qy;split
 ·rename_i h
  have h1:¬kD neg top bot brk=true:=by
   intro hb;unfold fD at h;rw[if_pos hb]at h;cases h
  have h2:¬2000<max top.length bot.length:=by
   intro hb;unfold fD at h;rw[if_neg h1,if_pos hb]at h;cases h
  obtain⟨g1,g2⟩:=Jj (by simpa using h1);split
  ·rename_i hb
   obtain⟨r1,r2,r3⟩:=g2 hb;have hge:=zl r1 r2 r3;exact jF _ zd (vN (rm g1).1 zd) (vN (rm r1).1 zd)
  ·exact jF _ zr (vN (rm g1).1 zd) sc
 ·exact qX _ zr
def cz(r:List UInt8):Int:=fD (ur r [45]) (wh (nM r [45]) [47]) (vM (nM r [45]) [47]) (decide (0<=nI (nM r [45]) [47]))
def cj(r:List UInt8):Rat:=qy (ur r [45]) (wh (nM r [45]) [47]) (vM (nM r [45]) [47]) (decide (0<=nI (nM r [45]) [47]))
theorem j6(r:List UInt8):bF (cj r) 300:=QO ..
theorem oU(m:Int)(r:List UInt8):aa prog (GG m) 43 [.c (.d (.str r))] (.tup [bu (cj r),.c (.d (.int .i64 (cz r)))]):=by
 have h:=Fq m r;rw[Ji]at h;exact h
theorem LG(m:Int)(r:List UInt8):aa prog (GG m) 169 [.c (.d (.str r))] (.c (.d (.int .i64 (cz r)))):=BE m r
structure PD where
 f:Option (List (List DV))
 mode:Int
 ins:Option (List (List DV))
 nodes:Option (List (List DV))
 head:Int
 tail:Int
 states:Option (List (List DV))
 res:Int
@[simp] def PD.cs(p:PD):List CV:=[dc p.f,.d (.int .i64 p.mode),dc p.ins,dc p.nodes,.d (.int .i64 p.head),.d (.int .i64 p.tail),dc p.states,.d (.int .i64 p.res)]
abbrev PD.A(p:PD):AV:=.agg p.cs
structure PD.ok(p:PD):Prop where
 f:∀e∈sO p.f,Xo e
 ins:∀e∈sO p.ins,ZL e
 nodes:∀e∈sO p.nodes,is7 e
 states:∀e∈sO p.states,Xo e
theorem ld(G:List (List DV))(n m:Int):aa prog G 96 [.c (.d (.int .i64 n)),.c (.d (.int .i64 m))] (.c (.d (.bool (decide (0<=n/\n<m))))):=by
 refine aa.en func96 rfl λ_=>aah ?_;refine aac λK hK=>?_
 by_cases h:0<=n
 ·refine aby h (hK _ _ ?_);exact aaq (aD.rt rfl 4 pi)
 ·refine aby h (hK _ _ ?_);exact aaq (aD.rt rfl 4 pi)
theorem FI(G:List (List DV))(n:Int):aa prog G 106 [.c (.d (.int .i64 n))] (.c (.d (.bool (decide (1<=n/\n<=15))))):=by
 refine aa.en func106 rfl λ_=>aah ?_;refine aac λK hK=>?_
 by_cases h:1<=n
 ·refine aby h (hK _ _ ?_);exact aaq (aD.rt rfl 2 pi)
 ·refine aby h (hK _ _ ?_);exact aaq (aD.rt rfl 2 pi)
def ot(p:PD)(i:Int):Int:=if i<p.head then 0 else if i<p.tail then 1 else 2
theorem tI(G:List (List DV))(p:PD)(i:Int):aa prog G 97 [p.A,.c (.d (.int .i64 i))] (.c (.d (.int .i64 (ot p i)))):=by
 refine aa.en func97 rfl λ_=>aah ?_;refine aac λK hK=>aaw (aah ?_)
 by_cases h:i<p.head
 ·refine aaB yk (aah ?_);exact aaq (aD.rt rfl 4 (by simp[ot,h]))
 ·refine aaD yk (aah ?_)
  by_cases h2:i<p.tail
  ·refine aaB yk (aah ?_);exact aaq (aD.rt rfl 4 gl)
  ·refine aaD yk (aan (hK _ _ (aah ?_)));exact aaq (aD.rt rfl 4 gl)
@[simp]theorem PD.adu(p:PD):(AV.agg [dc p.f,.d (.int .i64 p.mode),dc p.ins,dc p.nodes,.d (.int .i64 p.head),.d (.int .i64 p.tail),dc p.states,.d (.int .i64 p.res)]).pure=true:=by
 obtain⟨f,a,i,n,b,c,s,d⟩:=p
 cases f<;>cases i<;>cases n<;>cases s<;>rfl
def fM(p:PD)(i k:Int):Bool:=decide (0<=k/\k<i)&&(decide (ot p k=0) ||decide (ot p k=ot p i))
theorem QD(G:List (List DV))(p:PD)(i k:Int):aa prog G 170 [p.A,.c (.d (.int .i64 i)),.c (.d (.int .i64 k))] (.c (.d (.bool (fM p i k)))):=by
 refine aa.en func170 rfl λ_=>aah ?_;refine aac λK hK=>aac λK1 hK1=>?_
 by_cases h1:k<0
 ·have h1':¬0<=k:=by omega
  refine aby h1 (hK1 _ _ ?_);refine aaE (aah ?_);exact aaq (aD.rt rfl 6 (by simp[fM,h1']))
 have h0:0<=k:=zd
 by_cases h2:i<=k
 ·have h2':¬k<i:=by omega
  refine abG h1 h2 (hK1 _ _ ?_);refine aaE (aah ?_);exact aaq (aD.rt rfl 6 (by simp[fM,h2']))
 have h2':k<i:=zd
 refine abG h1 h2 (hK1 _ _ ?_);refine aax (aan (hK _ _ (aaF λK hK=>?_)));simp;refine ag.pure 1 9 (tI _ p k) zp zp rfl ?_;simp;apply hK;refine aac λK hK=>?_
 by_cases h3:ot p k=0
 ·refine aby h3 (hK _ _ ?_);exact aaq (aD.rt rfl 6 (by simp[fM,h0,h2',h3]))
 ·refine aai ?_;simp[h3];refine ag.pure 1 9 (tI _ p i) zp zp rfl ?_;simp;apply hK;exact aaq (aD.rt rfl 6 (by simp[fM,h0,h2',h3]))
def gj(p:PD):Int:=
 if 6<(sO p.f).length\/6<(sO p.ins).length\/64<(sO p.nodes).length\/4<(sO p.states).length then 3
 else if (sO p.f).length=0\/(sO p.nodes).length=0\/p.mode<0\/4<p.mode then 2
 else if p.head<0\/p.tail<p.head\/((sO p.nodes).length:Int)<p.tail then 2
 else if (sO p.states).length=0/\p.head≠(sO p.nodes).length then 2 else 0
theorem IP(G:List (List DV))(p:PD):aa prog G 91 [p.A] (.c (.d (.int .i64 (gj p)))):=by
 have lp0:∀(lv:Key->LB) (o:Option (List (List DV))),eT prog 22 lv (Ry o)=some (.c (.d (.int .i64 (sO o).length)),[],[],True):=λlv o=>fP zp
 have lp2:∀(lv:Key->LB) (o:Option (List (List DV))),eT prog 23 lv (Ry o)=some (.c (.d (.int .i64 (sO o).length)),[],[],True):=λlv o=>fP zp
 have lp3:∀(lv:Key->LB) (o:Option (List (List DV))),eT prog 24 lv (Ry o)=some (.c (.d (.int .i64 (sO o).length)),[],[],True):=λlv o=>fP zp
 have lp6:∀(lv:Key->LB) (o:Option (List (List DV))),eT prog 25 lv (Ry o)=some (.c (.d (.int .i64 (sO o).length)),[],[],True):=λlv o=>fP zp
 refine aa.en func91 rfl λ_=>aah ?_;refine aaN lp3 ?_;refine aac λK hK=>aaw (aac λK1 hK1=>?_)
 have toK1:∀(fr:Nat->AV) (κ:Nat) (b:Bool),fr 1=.c (.ptr 0 0)->fr 3=.c (.d (.int .i64 (sO p.nodes).length))->fr 8=.c (.d (.bool b)) ->
  (b=decide (6<(sO p.f).length\/6<(sO p.ins).length\/64<(sO p.nodes).length\/4<(sO p.states).length)) ->
  K1 ⟨fr,aM (λ_=>.hole) 0 (.cells true false 128 p.cs)⟩ κ:=by
  intro fr κ b z1 z3 z8 hb;apply hK1
  cases b with
  |true=>
   have h:=of_decide_eq_true hb.symm;refine aaB (by simp[z8]<;>omega) (aah ?_);exact aaq (aD.rt rfl 9 (by simp[gj,if_pos h]))
  |false=>
   have h:=of_decide_eq_false hb.symm;refine aaD (by simp[z8]<;>omega) (aac λK2 hK2=>?_)
   have toK2:∀(fr:Nat->AV) (κ:Nat) (b:Bool),fr 1=.c (.ptr 0 0)->fr 3=.c (.d (.int .i64 (sO p.nodes).length))->fr 26=.c (.d (.bool b)) ->
    (b=decide ((sO p.f).length=0\/(sO p.nodes).length=0\/p.mode<0\/4<p.mode)) ->
    K2 ⟨fr,aM (λ_=>.hole) 0 (.cells true false 128 p.cs)⟩ κ:=by
    intro fr κ b y1 y3 y26 hb2;apply hK2
    cases b with
    |true=>
     have h2:=of_decide_eq_true hb2.symm;refine aaB (by simp[y26]<;>omega) (aah ?_);have hg:gj p=2:=by unfold gj;rw[if_neg h,if_pos h2]
     exact aaq (aD.rt rfl 9 po)
    |false=>
     have h2:=of_decide_eq_false hb2.symm;refine aaD (by simp[y26]<;>omega) (aac λK3 hK3=>?_)
     have toK3:∀(fr:Nat->AV) (κ:Nat) (b:Bool),fr 1=.c (.ptr 0 0)->fr 3=.c (.d (.int .i64 (sO p.nodes).length))->fr 42=.c (.d (.bool b)) ->
      (b=decide (p.head<0\/p.tail<p.head\/((sO p.nodes).length:Int)<p.tail)) ->
      K3 ⟨fr,aM (λ_=>.hole) 0 (.cells true false 128 p.cs)⟩ κ:=by
      intro fr κ b x1 x3 x42 hb3;apply hK3
      cases b with
      |true=>
       have h3:=of_decide_eq_true hb3.symm;refine aaB (by simp[x42]<;>omega) (aah ?_);have hg:gj p=2:=by unfold gj;rw[if_neg h,if_neg h2,if_pos h3]
       exact aaq (aD.rt rfl 9 po)
      |false=>
       have h3:=of_decide_eq_false hb3.symm;refine aaD (by simp[x42]<;>omega) (aac λK4 hK4=>?_)
       have fin0:gj p=0->∀(fr:Nat->AV) (κ:Nat) (lv:Key->LB),lv 9=.hole->K ⟨fr,lv⟩ κ:=by
        intro hg fr κ lv h9;apply hK;refine aah ?_;exact aal (κ:=0) (aD.tmp (κ:=0) rfl 9 po rfl oi rfl)
       by_cases e1:sO p.states=[]
       ·by_cases e2:p.head=((sO p.nodes).length:Int)
        ·have hg:gj p=0:=by unfold gj;rw[if_neg h,if_neg h2,if_neg h3,if_neg (λhh=>hh.2 e2)]
         refine aai ?_;simp[x1,x3,lp6,e1,e2];apply hK4;refine aax (aan ?_)
         simp_all
        ·have hg:gj p=2:=by unfold gj;rw[if_neg h,if_neg h2,if_neg h3,if_pos ⟨by rw[e1];rfl,e2⟩]
         refine aai ?_;simp[x1,x3,lp6,e1,e2];apply hK4;refine aaE (aah ?_);exact aaq (aD.rt rfl 9 po)
       ·have hg:gj p=0:=by unfold gj;rw[if_neg h,if_neg h2,if_neg h3,if_neg (λhh=>e1 (List.length_eq_zero_iff.1 hh.1))]
        refine AW.l4 x1 x3 lp6 e1 (hK4 _ _ ?_);refine aax (aan ?_);simp;exact fin0 hg _ _ _ zp
     refine aaN y1 ?_
     by_cases f1:p.head<0
     ·refine aaB (by simp[f1]<;>omega) (aan ?_);simp;exact toK3 _ _ true (by simp[y1]) (by simp[y3]) (by simp[f1]) (by simp[f1])
     refine aaD (by simp[f1]<;>omega) (aaN y1 ?_)
     by_cases f2:p.tail<p.head
     ·refine aaB (by simp[f2]<;>omega) (aan ?_);simp;exact toK3 _ _ true (by simp[y1]) (by simp[y3]) ST ST
     refine aaD (by simp[f2]<;>omega) (aai ?_);simp[y1,y3];exact toK3 _ _ (decide (((sO p.nodes).length:Int)<p.tail)) (by simp[y1]) (by simp[y3]) zp yn
   refine abk z1 lp0 ?_
   by_cases c1:(sO p.f).length=0
   ·have c1l:sO p.f=[]:=List.length_eq_zero_iff.1 c1;refine aaB yk (aan ?_)
    simp_all
   have c1l:¬sO p.f=[]:=λe=>c1 ti
   refine aaD (by simp[c1l]<;>omega) (aaN z3 ?_)
   by_cases c2:(sO p.nodes).length=0
   ·have c2l:sO p.nodes=[]:=List.length_eq_zero_iff.1 c2;refine aaB yk (aan ?_)
    simp_all
   have c2l:¬sO p.nodes=[]:=λe=>c2 ti
   refine aaD (by simp[c2l]<;>omega) (aaN z1 ?_)
   by_cases c3:p.mode<0
   ·refine aaB (by simp[c3]<;>omega) (aan ?_);simp;exact toK2 _ _ true sk (by simp[z3]) (by simp[c3]) (by simp[c3])
   refine aaD (by simp[c3]<;>omega) (aai ?_);simp[z1];exact toK2 _ _ (decide (4<p.mode)) sk (by simp[z3]) zp yn
 refine aaN lp0 ?_
 by_cases d1:6<(sO p.f).length
 ·have d1':(6:Int)<((sO p.f).length:Int):=by omega
  refine aaB yk (aan ?_)
  simp_all
 have d1':¬(6:Int)<((sO p.f).length:Int):=zd
 refine aaD yk (aaN lp2 ?_)
 by_cases d2:6<(sO p.ins).length
 ·have d2':(6:Int)<((sO p.ins).length:Int):=by omega
  refine aaB yk (aan ?_)
  simp_all
 have d2':¬(6:Int)<((sO p.ins).length:Int):=zd
 refine aaD yk (aah ?_)
 by_cases d3:64<(sO p.nodes).length
 ·have d3':(64:Int)<((sO p.nodes).length:Int):=by omega
  refine aaB yk (aan ?_)
  simp_all
 have d3':¬(64:Int)<((sO p.nodes).length:Int):=zd
 refine aaD yk (aai ?_);simp[lp6];have d4:((4:Int)<((sO p.states).length:Int))↔4<(sO p.states).length:=zd
 exact toK1 _ _ (decide (4<(sO p.states).length)) zp zp (by simp[d4]) yn
end Go.Am
namespace Go.Am
variable {fn:Func}{x:AV}{lv:Key->LB}{es:List (List DV)}{sz:Nat}
theorem aa.ed{P:Program}{G:List (List DV)}{f:FuncId}{code:Code}{args:List AV}(hf:P.funcs[f]?=some fn)(hb:fn.body=some code)
 (h:∀z:Ev,AW ⟨P,G,z.w,z.F,z.W,fn.ntmps,λ_=>.hole,z.b,z.d⟩ none code ⟨λt=>args.getD t .undef,λ_=>.hole⟩ 0 (cq ⟨P,G,z.w,z.F,z.W,fn.ntmps,λ_=>.hole,z.b,z.d⟩ fn x)) (hl:Nat.ble args.length fn.ntmps=true:=by kernel_rfl):aa P G f args x:=
 aa.MU hf hb (ae2 hl) λ⟨_,_,w,F,W,_,q,b,d⟩ h1 h2 h3 h4=>by cases h1;cases h2;cases h3;cases h4;exact h ⟨w,F,W,λ_=>.hole,b,d⟩
theorem zv{lv:Key->LB}{n:Nat}:∀(l:List DV),ji (fX lv n) (l.map CV.d)=some (l,[])
 |[]=>rfl
 |x::l=>by
  have ih:=zv (lv:=lv) (n:=n) l;simp only[adi,ji]at ih⊢;rw[ih]
  cases n<;>rfl
theorem zV{α:Type}{sz:Nat}:∀(es:List (List α)),(∀e∈es,e.length=sz)->chunk sz es.length es.flatten=es
 |[],_=>rfl
 |e::es,h=>by
  have he:e.length=sz:=h e zp;have ih:=zV es λx hx=>h x rc
  have hlen:es.flatten.length=es.length*sz:=by
   rw[List.length_flatten]
   have:∀l:List (List α),(∀e∈l,e.length=sz)->(l.map List.length).sum=l.length*sz:=by
    intro l
    induction l with
    |nil=>simp
    |cons a l ih=>grind
   exact this es λx hx=>h x rc
  unfold chunk at ih⊢;rw[aeq,List.range_succ_eq_map,adi,adT];congr 1
  ·grind
  ·conv=>rhs;rw[<-ih]
   apply aen;intro i _;simp only[Function.comp,agj];have:(i+1)*sz=e.length+i*sz:=by rw[he,Nat.succ_mul];omega
   rw[Nat.succ_eq_add_one,this,List.drop_append,aeQ zd,afC,aew]
theorem cq.tmp{c:Ctx}{X:AV}{t:Nat}{s:aJ}{κ:Nat}{ks:List Key}(hr:fn.results=#[.tmp t])(hx:s.fr t=X)(hd:gq s.lv X=some (x,ks)):cq c fn x .ret s κ:=
 ⟨X,ks,by rw[hr];simp[fq,kH,mj,hx],hd⟩
theorem ob{k:Key}{own fz:Bool}{T:TypeId}(h:lv k=.cells own fz T (es.flatten.map CV.d))(hs:∀e∈es,e.length=sz)(hl:es.length<=9223372036854775807):
 gq lv (.c (.aO k 0 es.length sz))=some (.c (.d (.sl es)),[k]):=by
 have hlen:es.flatten.length=es.length*sz:=by
  rw[List.length_flatten]
  have:∀l:List (List DV),(∀e∈l,e.length=sz)->(l.map List.length).sum=l.length*sz:=by
   intro l
   induction l with
   |nil=>simp
   |cons a l ih=>grind
  exact this es hs
 have ht:(es.flatten.map CV.d).take (es.length*sz)=es.flatten.map CV.d:=aeE yn;simp only[gq,fO,fX,h,sC,hlen,aej,bf,hl,and_self,if_true,ady,ht,zv,ad2,zV es hs]
theorem Sc(h:∀e∈es,e.length=sz):cC lv sz (.c (.d (.sl es)))=some (es.length,es.flatten.map CV.d):=by
 have h1:es.all (λe=>e.length==sz)=true:=by rw[adG];intro e he;simp[h e he]
 simp[cC,h1]
end Go.Am
namespace Go.Am
open Go.Am.Ty Go.Proofs N
variable {T:TypeId}{i n:Nat}{P:Program}{op:Int}
structure Nd where
 op:Int
 a:Int
 b:Int
 c:Int
 d:Int
 f:Int
 v:List UInt8
 deriving DecidableEq,Inhabited
structure In where
 f:Int
 lo:List UInt8
 hi:List UInt8
 deriving DecidableEq,Inhabited
@[simp] def Nd.e(n:Nd):List DV:=[.int .i64 n.op,.int .i64 n.a,.int .i64 n.b,.int .i64 n.c,.int .i64 n.d,.int .i64 n.f,.str n.v]
@[simp] def In.e(n:In):List DV:=[.int .i64 n.f,.str n.lo,.str n.hi]
@[simp] def prE(n:Int×Int):List DV:=[.int .i64 n.1,.int .i64 n.2]
abbrev Nd.A(n:Nd):AV:=.agg [.d (.int .i64 n.op),.d (.int .i64 n.a),.d (.int .i64 n.b),.d (.int .i64 n.c),.d (.int .i64 n.d),.d (.int .i64 n.f),.d (.str n.v)]
def Xm:List DV->Nd
 |[.int _ o,.int _ a,.int _ b,.int _ c,.int _ d,.int _ f,.str v]=>⟨o,a,b,c,d,f,v⟩
 |_=>default
def YK:List DV->In
 |[.int _ f,.str a,.str b]=>⟨f,a,b⟩
 |_=>default
def U4:List DV->Int×Int
 |[.int _ a,.int _ b]=>(a,b)
 |_=>(0,0)
theorem U2{e:List DV}(h:is7 e):e=(Xm e).e:=by obtain⟨a1,a2,a3,a4,a5,a6,s,rfl⟩:=h;rfl
theorem VK{e:List DV}(h:ZL e):e=(YK e).e:=by obtain⟨a,s,t,rfl⟩:=h;rfl
theorem Ot{e:List DV}(h:Xo e):e=prE (U4 e):=by obtain⟨a,b,rfl⟩:=h;rfl
def PD.nf(p:PD):Nat:=(sO p.f).length
def PD.ni(p:PD):Nat:=(sO p.ins).length
def PD.nn(p:PD):Nat:=(sO p.nodes).length
def PD.ns(p:PD):Nat:=(sO p.states).length
def PD.fm(p:PD)(i:Nat):Int×Int:=U4 ((sO p.f).getD i [])
def PD.inp(p:PD)(i:Nat):In:=YK ((sO p.ins).getD i [])
def PD.nd(p:PD)(i:Nat):Nd:=Xm ((sO p.nodes).getD i [])
def PD.st(p:PD)(i:Nat):Int×Int:=U4 ((sO p.states).getD i [])
section
variable {p:PD}(hp:p.ok) (lv:Key->LB) (k:Int) (h0:0<=k)
theorem ixA{lv:Key->LB}{o:Option (List (List DV))}{k:Int}{sz:Nat}{e:List DV}(h:(fU P T).map (·.2)=some sz)(h0:0<=k)(hi:k<(sO o).length)(he:(sO o).getD k.toNat []=e)(hs:e.length=sz):
 aq P T lv (Ry o) (.c (.d (.int .i64 k)))=some (.c (.d (.ptr e)),[],[],True):=by
 obtain⟨i,rfl⟩:∃i:Nat,k=i:=⟨k.toNat,zd⟩
 have hi':i<(sO o).length:=zd
 have e1:(sO o)[i]=e:=by rw[<-he,adW,ab6,fy hi'];rfl
 rw[D9 h hi' (by rw[e1];exact hs),e1]
theorem gD{l:List (List DV)}{q:List DV->Prop}(h:∀e∈l,q e)(hi:i<l.length):q (l.getD i []):=by
 grind
include hp h0
theorem ixF(hi:k<p.nf):aq prog 22 lv (.c (dc p.f)) (.c (.d (.int .i64 k)))=some (.c (.d (.ptr (prE (p.fm k.toNat)))),[],[],True):=
 ixA zp h0 hi (Ot (gD hp.f (by unfold PD.nf at hi;omega))) rfl
theorem Zz(hi:k<p.ni):aq prog 23 lv (.c (dc p.ins)) (.c (.d (.int .i64 k)))=some (.c (.d (.ptr (p.inp k.toNat).e)),[],[],True):=
 ixA zp h0 hi (VK (gD hp.ins (by unfold PD.ni at hi;omega))) rfl
theorem Xh(hi:k<p.nn):aq prog 24 lv (.c (dc p.nodes)) (.c (.d (.int .i64 k)))=some (.c (.d (.ptr (p.nd k.toNat).e)),[],[],True):=
 ixA zp h0 hi (U2 (gD hp.nodes (by unfold PD.nn at hi;omega))) rfl
theorem ixS(hi:k<p.ns):aq prog 25 lv (.c (dc p.states)) (.c (.d (.int .i64 k)))=some (.c (.d (.ptr (prE (p.st k.toNat)))),[],[],True):=
 ixA zp h0 hi (Ot (gD hp.states (by unfold PD.ns at hi;omega))) rfl
end
theorem CD(p:PD)(lv:Key->LB):eT prog 22 lv (.c (dc p.f))=some (.c (.d (.int .i64 p.nf)),[],[],True):=fP zp
theorem MI(p:PD)(lv:Key->LB):eT prog 23 lv (.c (dc p.ins))=some (.c (.d (.int .i64 p.ni)),[],[],True):=fP zp
theorem s8(p:PD)(lv:Key->LB):eT prog 24 lv (.c (dc p.nodes))=some (.c (.d (.int .i64 p.nn)),[],[],True):=fP zp
theorem Qa(p:PD)(lv:Key->LB):eT prog 25 lv (.c (dc p.states))=some (.c (.d (.int .i64 p.ns)),[],[],True):=fP zp
def cH(op:Int):Nat:=if op<=3 then 0 else if op<=7 then 1 else if op<=13 then 2 else if op=14 then 3 else 4
def kO(op:Int):Nat:=if op=1\/op=2 then 1 else cH op
def Gl:List DV:=[.int .i64 0,.int .i64 0,.int .i64 0,.int .i64 1,.int .i64 0,.int .i64 1,.int .i64 0,.int .i64 0,.int .i64 1,.int .i64 1,.int .i64 1,.int .i64 1,.int .i64 1,.int .i64 1,.int .i64 1,.int .i64 1,.int .i64 2,.int .i64 2,.int .i64 2,.int .i64 2,.int .i64 2,.int .i64 2,.int .i64 2,.int .i64 2,.int .i64 2,.int .i64 2,.int .i64 2,.int .i64 2,.int .i64 3,.int .i64 3,.int .i64 4,.int .i64 4]
theorem GG1(m:Int):(GG m)[0]?=some Gl:=rfl
theorem Rk(h1:1<=op)(h2:op<=15):op=1\/op=2\/op=3\/op=4\/op=5\/op=6\/op=7\/op=8\/op=9\/op=10\/op=11\/op=12\/op=13\/op=14\/op=15:=zd
theorem ixU(h1:1<=op)(h2:op<=15):∃rest,∀lv:Key->LB,aq prog 151 lv (.c (.d (.ptr Gl))) (.c (.d (.int .i64 op)))=some (.c (.d (.ptr (.int .i64 (cH op)::.int .i64 (kO op)::rest))),[],[],True):=by
 have ha:wW prog 151=some (16,150,2):=zt
 have key:∀(op:Int) (rest:List DV),0<=op->op<16->Gl.drop (op.toNat*2)=.int .i64 (cH op)::.int .i64 (kO op)::rest->op.toNat*2<=Gl.length->∃rest,∀lv:Key->LB,aq prog 151 lv (.c (.d (.ptr Gl))) (.c (.d (.int .i64 op)))=some (.c (.d (.ptr (.int .i64 (cH op)::.int .i64 (kO op)::rest))),[],[],True):=by
  intro op rest g1 g2 g3 g4;refine⟨rest,λlv=>?_⟩;unfold aq;rw[ha];show some (AV.c (.d (.ptr (Gl.drop (op.toNat*2)))),([]:List (Key×LB)),([]:List Key),(0<=op/\op<((16:Nat):Int)/\op.toNat*2<=Gl.length))=_;rw[g3,eq_true (show 0<=op/\op<((16:Nat):Int)/\op.toNat*2<=Gl.length from⟨g1,zd,g4⟩)]
 rcases Rk h1 h2 with rfl|rfl|rfl|rfl|rfl|rfl|rfl|rfl|rfl|rfl|rfl|rfl|rfl|rfl|rfl<;>exact key _ _ zr zr rfl zr
def Nd.l4(n:Nd):List Int:=[n.a,n.b,n.c,n.d]
def aP(n:Nd):List Int:=if 1<=n.op/\n.op<=15 then n.l4.take (cH n.op)else[]
def js(n:Nd):Option (List Int):=if 1<=n.op/\n.op<=15 then some (n.l4.take (cH n.op))else none
def oM(n:Nd):Bool:=(n.l4.drop (kO n.op)).all (λx=>decide (x=0))&&(decide (n.v=[]) ||decide (n.op=3))
def zD(l:List Int):List (List DV):=l.map λx=>[DV.int .i64 x]
def zC:Option (List Int)->CV
 |none=>.d .nilsl
 |some l=>.d (.sl (zD l))
def zL(o:Option (List Int)):List Int:=o.getD []
theorem HH(o:Option (List Int)):zC o=dc (o.map zD):=by cases o<;>rfl
@[simp]theorem R2(o:Option (List Int)):(AV.c (zC o)).pure=true:=by cases o<;>rfl
@[simp]theorem Py(o:Option (List Int)):(AV.c (zC o)).cG=true:=by cases o<;>rfl
@[simp]theorem aat(o:Option (List (List DV)))(g:Key->Key):(dc o).dA g=dc o:=by cases o<;>rfl
@[simp]theorem ab8(o:Option (List Nat))(g:Key->Key):(nC o).dA g=nC o:=by cases o<;>rfl
def zK(l:List Int):List CV:=l.map λx=>CV.d (.int .i64 x)
@[simp]theorem Qe(l:List Int):(zK l).length=l.length:=by simp[zK]
theorem EK(ha:fV P T=some false){l:List Int}(h:i<l.length):iq P T ((zK l).drop i)=some (.c (.d (.int .i64 l[i]))):=by
 have:(zK l).drop i=CV.d (.int .i64 l[i])::(zK l).drop (i+1):=by
  rw[adP yk];simp[zK]
 simp_all
theorem Db(l:List Int):zK l=(l.map λx=>DV.int .i64 x).map CV.d:=by simp[zK]
theorem PG{lv:Key->LB}(l:List Int):ji (fX lv n) (zK l)=some (l.map λx=>DV.int .i64 x,[]):=by rw[Db];exact zv _
theorem Un(h:(fU prog T).isSome=true)(lv:Key->LB)(o:Option (List Int)):eT prog T lv (.c (zC o))=some (.c (.d (.int .i64 (zL o).length)),[],[],True):=by
 rw[HH];rw[fP h]
 cases o<;>simp[sO,zL,zD]
theorem V6(h:(fU prog T).map (·.2)=some 1)(lv:Key->LB)(o:Option (List Int))(hi:i<(zL o).length):aq prog T lv (.c (zC o)) (.c (.d (.int .i64 (i:Int))))=some (.c (.d (.ptr [.int .i64 (zL o)[i]])),[],[],True):=by
 cases o with
 |none=>cases hi
 |some l=>
  rw[HH];have hi0:i<l.length:=hi;have hi':i<(sO (Option.map zD (some l))).length:=by show i<(zD l).length;unfold zD;rw[sC];exact hi0
  have e:(sO (Option.map zD (some l)))[i]=[.int .i64 (zL (some l))[i]]:=by simp[sO,zD,zL]
  rw[D9 h hi' ti,e];rfl
def wO(p:PD)(x:In):Int:=
 if ¬(0<=x.f/\x.f<p.nf)then 7
 else if cz x.lo≠0 then cz x.lo
 else if cz x.hi≠0 then cz x.hi
 else if hasB (p.fm x.f.toNat).1 (p.fm x.f.toNat).2 (cj x.lo)=false then 7
 else if hasB (p.fm x.f.toNat).1 (p.fm x.f.toNat).2 (cj x.hi)=false then 7
 else if 0<bS (cj x.lo) (cj x.hi)then 7 else 0
def l6(p:PD)(i:Int)(n:Nd):Int:=
 if ¬(1<=n.op/\n.op<=15)then 2
 else if oM n=false then 2
 else if ¬(0<=n.f/\n.f<p.nf)then 7
 else if n.op=1/\¬(0<=n.a/\n.a<p.ni)then 7
 else if n.op=1/\(p.inp n.a.toNat).f≠n.f then 143
 else if n.op=2/\(i<p.head\/¬(0<=n.a/\n.a<p.ns))then 7
 else if n.op=3 then cz n.v
 else if (aP n).all (fM p i)then 0 else 7
def lJ(i f:Int)(n:Nd):Bool:=decide (n.op=2)&&decide (n.a=i)&&!decide (n.f=f)
def zR(p:PD)(i:Int)(s:Int×Int):Int:=
 if ¬(0<=s.1/\s.1<p.head)then 7
 else if ¬(0<=s.2/\s.2<p.tail)then 7
 else if (p.nd s.2.toNat).f≠(p.nd s.1.toNat).f then 143
 else if (List.range p.nn).any (λj=>lJ i (p.nd s.1.toNat).f (p.nd j))then 143 else 0
def kS(e:Nat->Int)(n:Nat):Option Nat:=(List.range n).find? λi=>decide (e i≠0)
theorem xX{e:Nat->Int}(h:∀j,j<n->e j=0):kS e n=none:=by
 unfold kS
 grind
theorem xK{e:Nat->Int}(hi:i<n)(h:e i≠0)(h0:∀j,j<i->e j=0):kS e n=some i:=by
 unfold kS
 simp_all
def kM(p:PD):Nat->Nat
 |0=>p.nf
 |1=>p.ni
 |2=>p.nn
 |_=>p.ns
def dF(p:PD):Nat->Nat->Int
 |0,i=>iV (p.fm i).1 (p.fm i).2
 |1,i=>wO p (p.inp i)
 |2,i=>l6 p i (p.nd i)
 |_,i=>zR p i (p.st i)
def fC(p:PD):Nat->Nat->Int×Int×Int
 |0,_=>if 0<=p.res/\p.res<p.nn/\ot p p.res≠1 then(0,0,0)else(5,0,7)
 |n+1,k=>match kS (dF p k) (kM p k)with
  |some i=>(k+1,i,dF p k i)
  |none=>fC p n (k+1)
def jT(p:PD):Int×Int×Int:=if gj p≠0 then(0,0,gj p)else fC p 4 0
end Go.Am
namespace Go.Am
open Go.Am.Ty Go.Proofs N
variable {lv:Key->LB}{T:TypeId}{k:Key}{p:PD}{own fz:Bool}{l:List Bool}{i:Nat}{a:AV}
theorem HO(G:List (List DV))(o:Option (List (List DV)))(h:∀e∈sO o,e.length=1)(hl:(sO o).length<=1000000):aa prog G 107 [.c (dc o)] (.c (dc o)):=by
 have e1:aU prog .eql 92 (.c (.d .nilsl)) (.c (.d .nilsl))=some (.c (.d (.bool true)),[],[],True):=zt
 have e2:∀es,aU prog .eql 92 (.c (.d (.sl es))) (.c (.d .nilsl))=some (.c (.d (.bool false)),[],[],True):=λes=>by kernel_rfl
 cases o with
 |none=>
  show aa prog G 107 [.c (.d .nilsl)] (.c (.d .nilsl));refine aa.ed func107 rfl λ_=>aah ?_;refine aac λK hK=>aaN e1 ?_;refine aaE (aah ?_);exact aal (κ:=0) (cq.tmp (κ:=0) (X:=.c (.d .nilsl)) (ks:=[]) rfl zp rfl)
 |some es=>
  have h:∀e∈es,e.length=1:=h;have hl:es.length<=1000000:=hl;show aa prog G 107 [.c (.d (.sl es))] (.c (.d (.sl es)));have hsrc:∀lv,cC lv 1 (.c (.d (.sl es)))=some (es.length,es.flatten.map CV.d):=λlv=>Sc h
  refine aa.ed func107 rfl λ_=>aah ?_;refine aac λK hK=>aaN e2 ?_;refine aax (aan (hK _ _ (aaF λK hK=>?_)));simp[hsrc,gh,ic,keyOf]
  repeat refine az ?_
  apply hK;refine aal (κ:=0) (cq.tmp (κ:=0) (X:=.c (.aO 1 0 es.length 1)) (ks:=[1]) rfl zp ?_);exact ob (own:=true) (fz:=false) (T:=3) zp h zd
theorem O0(T:TypeId)(s t:List UInt8):aU prog .eql T (.c (.d (.str s))) (.c (.d (.str t)))=some (.c (.d (.bool (decide (s=t)))),[],[],True):=by
 rw[<-QH];rfl
theorem b85(a b c d:CV):bM prog 147 [0,1,2,3] [.c a,.c b,.c c,.c d]=some (.agg [a,b,c,d],[],[],True):=zt
theorem Ye:wW prog 147=some (4,3,1):=zt
theorem ag.abY{c:Ctx}{f:FuncId}{K:AV->List (Key×LB)->List Key->Nat->Prop}(κ' kh κb:Key){l:List Int}{x:AV}(n:Nat)(hn:n<=l.length)(hl:l.length<=100)(hk:lv κb=.cells true false T (zK l))
 (hc:aa c.P c.G f [.c (zC (some (l.take n)))] x) (hx:x.pure=true) (hh:lv kh=.hole) (hkh:kh≠κb) (hK:K x [(κb,.cells true true T (zK l))] [kh] κ'):ag c f [.c (.aO κb 0 n 1)] lv K:=by
 refine ag.MD κ' kh κb T (zK l) [kh] hc hx hk hh hkh rfl (λi p q=>?_) (λa ha j hj=>?_) zp hK
 ·have hi:i=0:=by simp at p;omega
  subst hi;right;have h1:(zK l).take n=zK (l.take n):=by simp[zK,List.map_take]
  have hln:(l.take n).length=n:=db
  simp only[aeC,fO,fX,aI,Qe,aeu,aej,ady,h1,PG,ad2];rw[if_pos ⟨hn,zd⟩];have h2:=rY ((l.take n).map λ(x:Int)=>DV.int .i64 x);rw[sC,hln]at h2;simp only[ad2,h2];simp[zC,zD];rfl
 ·simp only[aeH]at ha;subst ha;simp only[ql,jB,aZ,aI]at hj;rcases hj with rfl|hj
  ·simp
  ·simp only[aeO]at hj;obtain⟨y,hy,hj⟩:=hj;simp only[zK,aeA]at hy;obtain⟨z,_,rfl⟩:=hy
   cases hj
theorem Mk(G:List (List DV))(o:Option (List Int))(hl:(zL o).length<=1000000):aa prog G 107 [.c (zC o)] (.c (zC o)):=by
 rw[HH];refine HO G _ ?_ ?_
 ·cases o with
  |none=>intro e he;cases he
  |some l=>intro e he;simp only[sO,ad2,aga,zD,aeA]at he;grind
 ·cases o with
  |none=>simp[sO]
  |some l=>simpa[sO,zD,zL]using hl
theorem lF(op:Int):cH op<=4:=by unfold cH;grind
theorem FL(op:Int):kO op<=4:=by have:=lF op;unfold kO;grind
theorem Nd.qV(n:Nd):n.l4.length=4:=rfl
theorem mG(n:Nd):zL (js n)=aP n:=by unfold js aP;split<;>rfl
theorem vq(m:Int)(n:Nd):aa prog (GG m) 44 [n.A] (.c (zC (js n))):=by
 have hkn:=FI (GG m) n.op
 by_cases hk:1<=n.op/\n.op<=15
 ·obtain⟨rest,hix⟩:=ixU hk.1 hk.2;have hcl:=Mk (GG m) (some (n.l4.take (cH n.op))) (by simp only[zL,aga,acM,Nd.qV];omega);have hko:js n=some (n.l4.take (cH n.op)):=by unfold js;rw[if_pos hk]
  have hle:=lF n.op;rw[hko];have hd:decide (1<=n.op/\n.op<=15)=true:=decide_eq_true hk;rw[hd]at hkn;generalize cH n.op=kk at*
  refine aa.en func44 rfl λ_=>aah ?_;refine aac λK hK=>abi 1 hkn ?_;refine aax (aan (hK _ _ (abk @b85 @ai.eq_1 ?_)));refine aac λK hK=>?_;refine AW.oc ?_;refine kG.run 5 rfl ?_;simp[GG1,hix];refine kG.ij (x:=.c (.aO 1 0 kk 1)) (us:=[]) (rds:=[1]) 2 rfl rfl ?_ ?_
  ·simp[Am.ij,Op.operands,FX,pT];omega
  refine kG.run 2 rfl ?_;simp[];refine ag.abY (l:=n.l4) (T:=147) 2 9 1 kk hle (by simp[Nd.qV]) rfl hcl zp zp zr ?_;simp;refine kG.done ?_;apply hK;exact aaq (aD.rt rfl 2 zp)
 ·have hko:js n=none:=by unfold js;rw[if_neg hk]
  have hd:decide (1<=n.op/\n.op<=15)=false:=decide_eq_false hk;rw[hd]at hkn;rw[hko];refine aa.en func44 rfl λ_=>aah ?_;refine aac λK hK=>abi 1 hkn ?_;refine aaE (aah ?_);exact aaq (aD.rt rfl 2 (by simp[zC]))
theorem Se(m:Int)(n:Nd)(h1:1<=n.op)(h2:n.op<=15):aa prog (GG m) 168 [n.A] (.c (.d (.bool (oM n)))):=by
 obtain⟨rest,hix⟩:=ixU h1 h2;have hle:=FL n.op;have hib:oM n=((n.l4.drop (kO n.op)).all (λx=>decide (x=0))&&(decide (n.v=[]) ||decide (n.op=3))):=rfl;have hzk:[CV.d (.int .i64 n.a),.d (.int .i64 n.b),.d (.int .i64 n.c),.d (.int .i64 n.d)]=zK n.l4:=rfl;have fin:(n.l4.drop (kO n.op)).all (λx=>decide (x=0))=true->oM n=(decide (n.v=[]) ||decide (n.op=3)):=by intro h;rw[hib,h];rfl
 have lp0:∀lv,eT prog 92 lv (.c (.d (.sl [])))=some (.c (.d (.int .i64 0)),[],[],True):=λlv=>Un (T:=92) zp lv (some [])
 refine aa.en func168 rfl λ_=>aah ?_;refine abk @b85 @ai.eq_1 ?_;refine aac λK hK=>?_
 have tail:∀(fr:Nat->AV) (κ:Nat) (lv:Key->LB),fr 1=.c (.ptr 0 0)->lv 0=.cells true false 85 [.d (.int .i64 n.op),.d (.int .i64 n.a),.d (.int .i64 n.b),.d (.int .i64 n.c),.d (.int .i64 n.d),.d (.int .i64 n.f),.d (.str n.v)]->lv 9=.hole ->
  (n.l4.drop (kO n.op)).all (λx=>decide (x=0))=true->K ⟨fr,lv⟩ κ:=by
  intro fr κ lv z1 hl0 h9 hall;have hf:=fin hall;apply hK
  by_cases hv:n.v=[]
  ·refine acw z1 hl0 @O0 hv ?_;exact aal (κ:=0) (aD.tmp (κ:=0) rfl 9 yk rfl oi rfl)
  ·refine acw z1 hl0 @O0 hv ?_;exact aal (κ:=0) (aD.tmp (κ:=0) rfl 9 yk rfl oi rfl)
 refine aac λK1 hK1=>?_
 by_cases hu:kO n.op=4
 ·refine AW.oc ?_;refine kG.run 5 rfl ?_;simp[GG1,hix];refine kG.HZ (κ:=1) (off:=0) (n:=4) (e:=3) (sz:=1) (l:=4) (own:=true) (fz:=false) (T':=147) 2 rfl rfl rfl zp wr Ye (by simp[hu]) zp zr zr ?_;refine kG.run 2 rfl ?_;simp[lp0];refine kG.done ?_;apply hK1;refine aaw ?_
  refine aaY (λ(_:Unit)=>⟨aT [(1,.c (.ptr 0 0)),(20,.c (.d (.sl []))),(21,.c (.d (.int .i64 0))),(22,.c (.d (.int .i64 0)))],
   aM (aM (λ_=>.hole) 0 (.cells true false 85 [.d (.int .i64 n.op),.d (.int .i64 n.a),.d (.int .i64 n.b),.d (.int .i64 n.c),.d (.int .i64 n.d),.d (.int .i64 n.f),.d (.str n.v)])) 1 (.cells true false 147 (zK n.l4))⟩) 2
   (λ_=>True) (λ_=>0) () (Le.fJ _) trivial ?_
  rintro⟨⟩ _;refine aah ?_;refine aac λK3 hK3=>aax (aaR ?_)
  simp;exact tail _ _ _ zp zp zp (by rw[hu];rfl)
 have hu4:kO n.op<4:=zd
 have hdrop:∀i,i<4-kO n.op->kO n.op+i<n.l4.length:=by intro i hi;rw[Nd.qV];omega
 generalize hue:kO n.op=u at*
 refine AW.oc ?_;refine kG.run 5 rfl ?_;simp[GG1,hix];refine kG.ij (x:=.c (.aO 1 u (4-u) 1)) (us:=[]) (rds:=[1]) 2 rfl rfl ?_ ?_
 ·simp[Am.ij,Op.operands,FX,pT];omega
 have e4:((4-u:Nat):Int)<=9223372036854775807:=zd
 refine kG.run 2 rfl ?_;simp[e4];refine kG.done ?_;apply hK1;refine aaw ?_
 refine aaY (λ(i:Nat)=>⟨aT [(1,.c (.ptr 0 0)),(20,.c (.aO 1 u (4-u) 1)),(21,.c (.d (.int .i64 (4-u:Nat)))),(22,.c (.d (.int .i64 i)))],
  aM (aM (λ_=>.hole) 0 (.cells true false 85 [.d (.int .i64 n.op),.d (.int .i64 n.a),.d (.int .i64 n.b),.d (.int .i64 n.c),.d (.int .i64 n.d),.d (.int .i64 n.f),.d (.str n.v)])) 1 (.cells true false 147 (zK n.l4))⟩) 2
  (λi=>i<=4-u/\∀j (hj:j<i) (h:u+j<n.l4.length),n.l4[u+j]=0) (λi=>4-u-i) 0 (Le.fJ _) ⟨zd,λj hj=>absurd hj (aer j)⟩ ?_
 rintro i ⟨hi,hall⟩
 try simp only at hi hall
 refine aah ?_;refine aac λK2 hK2=>?_
 by_cases hlt:i<4-u
 ·have hlt':(i:Int)<((4-u:Nat):Int):=by omega
  refine aaB xv (aan (hK2 _ _ (aac λK3 hK3=>aaw (aac λK4 hK4=>?_))));have hx:=EK (P:=prog) (T:=3) zp (hdrop i hlt);refine abG hlt' hx (hK4 _ _ ?_);refine aah ?_
  by_cases h0:n.l4[u+i]'(hdrop i hlt)=0
  ·refine aaD ws (aan (hK3 _ _ ?_));have f12:=bP (n:=(i:Int)+1) zd zd;refine aai ?_;simp[f12];refine⟨i+1,Le.fJ _,⟨zd,λj hj h=>?_⟩,zd⟩
   grind
  ·refine aaB ws (aah ?_)
   have hb:oM n=false:=by
    rw[hib]
    have:(n.l4.drop u).all (λx=>decide (x=0))=false:=by
     rw[af2];refine⟨n.l4[u+i]'(hdrop i hlt),?_,yn⟩;rw[List.mem_iff_getElem];exact⟨i,yn,zp⟩
    rw[this];rfl
   exact aaq (aD.rt rfl 2 se)
 ·have hlt':¬(i:Int)<((4-u:Nat):Int):=by omega
  refine aaD xv (aaR ?_);simp;refine tail _ _ _ zp zp zp ?_;rw[adG];intro x hx;obtain⟨j,hj,rfl⟩:=List.mem_iff_getElem.1 hx;rw[afl,Nd.qV]at hj
  grind
theorem Lo(G:List (List DV))(p:PD)(hp:p.ok)(i:Nat)(hi:i<p.nf):aa prog G 92 [p.A,.c (.d (.int .i64 i))] (.c (.d (.int .i64 (dF p 0 i)))):=by
 have hx:=λlv=>ixF hp lv (i:Int) zd zd
 have hc:=mR G (p.fm i).1 (p.fm i).2;simp only[adW]at hx;refine aa.en func92 rfl λ_=>aah ?_;refine abx 1 hc hx ?_;exact aaq (aD.rt rfl 4 xr)
theorem oN(n:Nd):(aP n).length<=4:=by
 have:=lF n.op;unfold aP
 grind
theorem wI(p:PD)(lv:Key->LB)(hp:p.ok)(i:Nat)(hi:i<p.nn):aq prog 24 lv (.c (dc p.nodes)) (.c (.d (.int .i64 (i:Int))))=some (.c (.d (.ptr (p.nd i).e)),[],[],True):=by
 have:=Xh hp lv (i:Int) zd zd
 grind
theorem RH(m:Int)(p:PD)(hp:p.ok)(i:Nat)(hi:i<p.nn)(hn2:p.nn<=1000):aa prog (GG m) 94 [p.A,.c (.d (.int .i64 i))] (.c (.d (.int .i64 (dF p 2 i)))):=by
 have hx:=λlv=>wI p lv hp i hi
 have hE:dF p 2 i=l6 p i (p.nd i):=rfl;rw[hE];obtain⟨n,hn⟩:∃n,p.nd i=n:=⟨_,rfl⟩
 simp only[hn]at hx⊢;have hkn:=FI (GG m) n.op;have hwf:=ld (GG m) n.f p.nf;have hwa:=ld (GG m) n.a p.ni;have hws:=ld (GG m) n.a p.ns;have lvN:List CV:=[.d (.int .i64 n.op),.d (.int .i64 n.a),.d (.int .i64 n.b),.d (.int .i64 n.c),.d (.int .i64 n.d),.d (.int .i64 n.f),.d (.str n.v)]
 refine aa.en func94 rfl λ_=>aah ?_;refine abk hx @ai.eq_1 ?_;refine aac λK hK=>aaw (aac λK1 hK1=>?_)
 by_cases h1:1<=n.op/\n.op<=15
 rotate_left
 ·have hd:decide (1<=n.op/\n.op<=15)=false:=decide_eq_false h1;have hr:l6 p i n=2:=by unfold l6;rw[if_pos h1]
  rw[hd]at hkn;refine acq 2 hkn (hK1 _ _ ?_);refine aaE (aah ?_);exact aaq (aD.rt rfl 4 xf)
 have hid:=Se m n h1.1 h1.2;have hd:decide (1<=n.op/\n.op<=15)=true:=decide_eq_true h1;rw[hd]at hkn
 cases hib:oM n with
 |false=>
  have hr:l6 p i n=2:=ph
  rw[hib]at hid;refine aai ?_;simp;refine ag.p 2 9 hkn ?_;simp;refine ag.p 2 9 hid ?_;simp;apply hK1;refine aaE (aah ?_);exact aaq (aD.rt rfl 4 xf)
 |true=>
 rw[hib]at hid;have ib:¬oM n=false:=by rw[hib];decide
 refine aai ?_;simp;refine ag.p 2 9 hkn ?_;simp;refine ag.p 2 9 hid ?_;simp;apply hK1;refine aax (aac λK1 hK1=>?_)
 by_cases h2:0<=n.f/\n.f<p.nf
 rotate_left
 ·have hd2:decide (0<=n.f/\n.f<(p.nf:Int))=false:=decide_eq_false h2;have hr:l6 p i n=7:=by unfold l6;rw[if_neg (not_not_intro h1),if_neg ib,if_pos h2]
  rw[hd2]at hwf;refine abI 2 hwf @CD (hK1 _ _ ?_);refine aaE (aah ?_);exact aaq (aD.rt rfl 4 xf)
 have hd2:decide (0<=n.f/\n.f<(p.nf:Int))=true:=decide_eq_true h2;rw[hd2]at hwf;refine abI 2 hwf @CD (hK1 _ _ ?_);refine aax ?_
 have r2:l6 p i n=if n.op=1/\¬(0<=n.a/\n.a<p.ni)then 7 else if n.op=1/\(p.inp n.a.toNat).f≠n.f then 143 else if n.op=2/\((i:Int)<p.head\/¬(0<=n.a/\n.a<p.ns))then 7 else if n.op=3 then cz n.v else if (aP n).all (fM p i)then 0 else 7:=by
  unfold l6;rw[if_neg (not_not_intro h1),if_neg ib,if_neg (not_not_intro h2)]
 have tail:∀(fr:Nat->AV) (κ:Nat),fr 1=.c (.d (.int .i64 i))->fr 2=.c (.ptr 0 0)->fr 5=.c (.ptr 1 0)->(l6 p i n=if (aP n).all (fM p i)then 0 else 7) ->
  K ⟨fr,aM (aM (λ_=>.hole) 0 (.cells true false 128 p.cs)) 1 (.cells true false 85 [.d (.int .i64 n.op),.d (.int .i64 n.a),.d (.int .i64 n.b),.d (.int .i64 n.c),.d (.int .i64 n.d),.d (.int .i64 n.f),.d (.str n.v)])⟩ κ:=by
  intro fr κ z1 z2 z5 hr;have hks:=vq m n;have hkl:=oN n;have lpk:∀lv,eT prog 92 lv (.c (zC (js n)))=some (.c (.d (.int .i64 (aP n).length)),[],[],True):=λlv=>by rw[Un zp,mG]
  have ixk:∀lv (j:Nat) (hj:j<(aP n).length),aq prog 92 lv (.c (zC (js n))) (.c (.d (.int .i64 (j:Int))))=some (.c (.d (.ptr [.int .i64 (aP n)[j]])),[],[],True):=λlv j hj=>by
   rw[V6 zp lv _ (by rw[mG];exact hj)];simp only[mG]
  generalize js n=ko at*
  generalize aP n=kl at*
  apply hK;refine aac λK3 hK3=>AW.c2 2 hks z5 lpk ?_;refine aaw ?_
  refine aaY (λ(j:Nat)=>⟨aT [(1,.c (.d (.int .i64 i))),(2,.c (.ptr 0 0)),(93,.c (zC ko)),(94,.c (.d (.int .i64 kl.length))),(95,.c (.d (.int .i64 j)))],
   aM (aM (λ_=>.hole) 0 (.cells true false 128 p.cs)) 1 (.cells true false 85 [.d (.int .i64 n.op),.d (.int .i64 n.a),.d (.int .i64 n.b),.d (.int .i64 n.c),.d (.int .i64 n.d),.d (.int .i64 n.f),.d (.str n.v)])⟩) 2
   (λj=>j<=kl.length/\∀q (hq:q<j) (h:q<kl.length),fM p i kl[q]=true) (λj=>kl.length-j) 0 (Le.fJ _ zp (by simp[z1,z2])) ⟨ab5 _,λq hq=>absurd hq (aer q)⟩ ?_
  rintro j ⟨hj,hall⟩
  try simp only at hj hall
  refine aah ?_;refine aac λK6 hK6=>?_
  by_cases hlt:j<kl.length
  ·have hlt':(j:Int)<(kl.length:Int):=by omega
   refine aaB xv (aan (hK6 _ _ (aac λK7 hK7=>aaw (aac λK8 hK8=>?_))));have hxk:=λlv=>ixk lv j hlt
   refine aby hxk (hK8 _ _ ?_);refine aac λK8 hK8=>?_;have hse:=QD (GG m) p i kl[j];refine acq 2 hse (hK8 _ _ ?_)
   cases hs:fM p i kl[j]with
   |true=>
    refine aax (aan (hK7 _ _ ?_));have f12:=bP (n:=(j:Int)+1) zd zd;refine aai ?_;simp[f12];refine⟨j+1,Le.fJ _,⟨zd,λq hq h=>?_⟩,zd⟩
    grind
   |false=>
    refine aaE (aah ?_)
    have hb:l6 p i n=7:=by
     rw[hr,if_neg];rw[Bool.not_eq_true,af2];exact⟨kl[j],cn hlt,by rw[hs];decide⟩
    exact aaq (aD.rt rfl 4 se)
  ·have hlt':¬(j:Int)<(kl.length:Int):=by omega
   refine aaD xv (aaR (hK3 _ _ ?_))
   have hb:l6 p i n=0:=by
    rw[hr,if_pos];rw[adG];intro x hx;obtain⟨q,hq,rfl⟩:=List.mem_iff_getElem.1 hx;exact hall q zd hq
   refine aah ?_;exact aaq (aD.rt rfl 4 se)
 by_cases h3:n.op=1
 ·have n2:¬n.op=2:=by omega
  have n3:¬n.op=3:=zd
  have t3:(n.op=1)=True:=eq_true h3
  by_cases h4:0<=n.a/\n.a<p.ni
  rotate_left
  ·have hd4:decide (0<=n.a/\n.a<(p.ni:Int))=false:=decide_eq_false h4;have hr:l6 p i n=7:=by rw[r2,if_pos ⟨h3,h4⟩]
   rw[hd4]at hwa;refine AW.c2 2 hwa t3 @MI ?_;refine aaE (aah ?_);exact aaq (aD.rt rfl 4 xf)
  have hd4:decide (0<=n.a/\n.a<(p.ni:Int))=true:=decide_eq_true h4;rw[hd4]at hwa;have hxi:=λlv=>Zz hp lv n.a h4.1 h4.2
  refine AW.c2 2 hwa t3 @MI ?_;refine aax (aac λK1 hK1=>?_)
  by_cases h5:(p.inp n.a.toNat).f=n.f
  ·have hr:l6 p i n=if (aP n).all (fM p i)then 0 else 7:=by
    rw[r2,if_neg (λh=>h.2 h4),if_neg (λh=>h.2 h5),if_neg (λh=>n2 h.1),if_neg n3]
   refine AW.el3 mixed t3 hxi h5 (hK1 _ _ ?_);refine aax (aaN n2 ?_);refine aax (aaN n3 ?_);refine aax (aan ?_)
   simp_all
  ·have hr:l6 p i n=143:=by rw[r2,if_neg (λh=>h.2 h4),if_pos ⟨h3,h5⟩]
   refine AW.el3 mixed t3 hxi h5 (hK1 _ _ ?_);refine aaE (aah ?_);exact aaq (aD.rt rfl 4 xf)
 refine aaN h3 ?_;refine aax (AW.e1 mixed h3 ?_);refine aax ?_
 have r3:l6 p i n=if n.op=2/\((i:Int)<p.head\/¬(0<=n.a/\n.a<p.ns))then 7 else if n.op=3 then cz n.v else if (aP n).all (fM p i)then 0 else 7:=by
  rw[r2,if_neg (λh=>h3 h.1),if_neg (λh=>h3 h.1)]
 refine aac λK1 hK1=>?_
 by_cases h6:n.op=2
 ·have n3:¬n.op=3:=by omega
  have t6:(n.op=2)=True:=eq_true h6
  by_cases h7:(i:Int)<p.head
  ·have hr:l6 p i n=7:=by rw[r3,if_pos ⟨h6,.inl h7⟩]
   refine abG t6 h7 (hK1 _ _ ?_);refine aaE (aah ?_);exact aaq (aD.rt rfl 4 xf)
  by_cases h8:0<=n.a/\n.a<p.ns
  ·have hd8:decide (0<=n.a/\n.a<(p.ns:Int))=true:=decide_eq_true h8;rw[hd8]at hws
   have hr:l6 p i n=if (aP n).all (fM p i)then 0 else 7:=by
    rw[r3,if_neg (λh=>h.2.elim h7 (λh=>h h8)),if_neg n3]
   refine aai ?_;simp[t6,h7,Qa];refine ag.p 2 9 hws ?_;simp;apply hK1;refine aax (aaN n3 ?_);refine aax (aan ?_)
   simp_all
  ·have hd8:decide (0<=n.a/\n.a<(p.ns:Int))=false:=decide_eq_false h8;rw[hd8]at hws;have hr:l6 p i n=7:=by rw[r3,if_pos ⟨h6,.inr h8⟩]
   refine aai ?_;simp[t6,h7,Qa];refine ag.p 2 9 hws ?_;simp;apply hK1;refine aaE (aah ?_);exact aaq (aD.rt rfl 4 xf)
 refine aby h6 (hK1 _ _ ?_);refine aax (aac λK1 hK1=>?_)
 have r4:l6 p i n=if n.op=3 then cz n.v else if (aP n).all (fM p i)then 0 else 7:=by
  rw[r3,if_neg (λh=>h6 h.1)]
 by_cases h9:n.op=3
 ·have hr:l6 p i n=cz n.v:=by rw[r4,if_pos h9]
  have hck:=LG m n.v;rw[<-hr]at hck;refine aby h9 (hK1 _ _ ?_);refine aaE (abi 2 hck ?_);exact aaq (aD.rt rfl 4 zp)
 ·have hr:l6 p i n=if (aP n).all (fM p i)then 0 else 7:=by rw[r4,if_neg h9]
  refine aby h9 (hK1 _ _ ?_);refine aax (aan ?_)
  simp_all
@[simp] def Y1(x:Rat):List CV:=[.d (.bool (decide (x.num<0))),nC (aW x.num.natAbs),nC (bB x.den)]
theorem Nl:wW prog 187=some (2,34,3):=zt
theorem abj(lv:Key->LB)(κ:Key)(h:lv κ=.hole)(a b:CV):aB prog 188 2 [0,1] lv κ [.c a,.c b]=some (.c (.aO κ 0 2 1),[(κ,.cells true false 59 [a,b])],[],True):=by
 unfold aB;rw[h];rfl
theorem Qc(m:Int)(p:PD)(hp:p.ok)(i:Nat)(hi:i<p.ni):aa prog (GG m) 93 [p.A,.c (.d (.int .i64 i))] (.c (.d (.int .i64 (dF p 1 i)))):=by
 have hx:=λlv=>Zz hp lv (i:Int) zd zd
 simp only[adW]at hx;have hE:dF p 1 i=wO p (p.inp i):=rfl;rw[hE];generalize p.inp i=x at*
 have hwf:=ld (GG m) x.f p.nf;have hP1:=oU m x.lo;have hP2:=oU m x.hi;have q1:i64.wrap 1=1:=zr
 have q2:i64.wrap 2=2:=zr
 have z1:=j6 x.lo;have z2:=j6 x.hi;refine aa.ML func93 rfl λ_=>aah ?_;refine abk hx @ai.eq_1 ?_;refine aac λK hK=>aac λK1 hK1=>?_
 by_cases h1:0<=x.f/\x.f<p.nf
 rotate_left
 ·have hd:decide (0<=x.f/\x.f<(p.nf:Int))=false:=decide_eq_false h1;have hr:wO p x=7:=by unfold wO;rw[if_pos h1]
  rw[hd]at hwf;refine abI 2 hwf @CD (hK1 _ _ ?_);refine aaE (aah ?_);exact aaq (aD.rt (t:=4) rfl 9 xf)
 have hd:decide (0<=x.f/\x.f<(p.nf:Int))=true:=decide_eq_true h1;rw[hd]at hwf
 have r1:wO p x=if cz x.lo≠0 then cz x.lo else if cz x.hi≠0 then cz x.hi else if hasB (p.fm x.f.toNat).1 (p.fm x.f.toNat).2 (cj x.lo)=false then 7
  else if hasB (p.fm x.f.toNat).1 (p.fm x.f.toNat).2 (cj x.hi)=false then 7 else if 0<bS (cj x.lo) (cj x.hi)then 7 else 0:=by
  unfold wO;rw[if_neg (not_not_intro h1)]
 refine abI 2 hwf @CD (hK1 _ _ ?_);refine aax (aan (hK _ _ (aah ?_)));refine aac λK hK=>aac λK1 hK1=>?_;have hbs:∀(lv:Key->LB) (h:lv 3=.hole),aB prog 188 2 [0,1] lv 3 [.c (.d (.str x.lo)),.c (.d (.str x.hi))]=some (.c (.aO 3 0 2 1),[(3,.cells true false 59 [.d (.str x.lo),.d (.str x.hi)])],[],True):=λlv h=>abj lv 3 h _ _
 refine aai ?_;simp[hbs,-aB];apply hK1;refine aaw ?_
 refine aaY (λ(k:Nat)=>⟨aT [(2,.c (.ptr 0 0)),(5,.c (.ptr 1 0)),(6,.c (.ptr 2 0)),(30,.c (.aO 3 0 2 1)),(31,.c (.d (.int .i64 2))),(32,.c (.d (.int .i64 k)))],
  aM (aM (aM (aM (λ_=>.hole) 0 (.cells true false 128 p.cs)) 1 (.cells true false 121 [.d (.int .i64 x.f),.d (.str x.lo),.d (.str x.hi)])) 2 (.cells true false 187 (Y1 (if 0<k then cj x.lo else 0)++Y1 (if 1<k then cj x.hi else 0)))) 3 (.cells true false 59 [.d (.str x.lo),.d (.str x.hi)])⟩) 4
  (λk=>k<=2/\(0<k->cz x.lo=0)/\(1<k->cz x.hi=0)) (λk=>2-k) 0 (Le.fJ _ xr) ⟨zd,λh=>absurd h zd,λh=>absurd h zd⟩ ?_
 rintro k ⟨hk,k1,k2⟩
 try simp only at hk k1 k2
 refine aah ?_;refine aac λK2 hK2=>?_;have hkc:k=0\/k=1\/k=2:=zd
 rcases hkc with rfl|rfl|rfl
 ·refine aaE (aan (hK2 _ _ (aac λK3 hK3=>aaw (aah ?_))));refine abx 4 hP1 @ai.eq_1 ?_;refine aac λK4 hK4=>aah ?_
  by_cases he:cz x.lo=0
  ·refine aaD fx (aan (hK4 _ _ (acm Nl @j5 @ai.eq_1 (hK3 _ _ ?_))));refine aai ?_;simp[q1];exact⟨1,(Le.Cu [4] 9),⟨zd,λ_=>he,λh=>absurd h zd⟩,zd⟩
  ·have hr:wO p x=cz x.lo:=by rw[r1,if_pos he]
   refine aaB yk (aah ?_);exact aaq (aD.rt (t:=4) rfl 9 xf)
 ·refine aaE (aan (hK2 _ _ (aac λK3 hK3=>aaw (aah ?_))));refine abx 4 hP2 @ai.eq_1 ?_;refine aac λK4 hK4=>aah ?_
  by_cases he:cz x.hi=0
  ·refine aaD yk (aan (hK4 _ _ (acm Nl @j5 @ai.eq_1 (hK3 _ _ ?_))));refine aai ?_;simp[q2];exact⟨2,(Le.Cu [4] 9),⟨zd,λ_=>k1 zd,λ_=>he⟩,zd⟩
  ·have hr:wO p x=cz x.hi:=by rw[r1,if_neg (not_not_intro (k1 zd)),if_pos he]
   refine aaB yk (aah ?_);exact aaq (aD.rt (t:=4) rfl 9 xf)
 ·have r2:wO p x=if hasB (p.fm x.f.toNat).1 (p.fm x.f.toNat).2 (cj x.lo)=false then 7
   else if hasB (p.fm x.f.toNat).1 (p.fm x.f.toNat).2 (cj x.hi)=false then 7 else if 0<bS (cj x.lo) (cj x.hi)then 7 else 0:=by
   rw[r1,if_neg (not_not_intro (k1 zd)),if_neg (not_not_intro (k2 zd))]
  refine aax (aaR (hK _ _ ?_));have hxf:=λlv=>ixF hp lv x.f h1.1 h1.2
  generalize p.fm x.f.toNat=fe at*
  have hb1:=vE (GG m) fe.1 fe.2 (cj x.lo) z1;have hb2:=vE (GG m) fe.1 fe.2 (cj x.hi) z2;have hcm:=iZ (GG m) (cj x.lo) (cj x.hi) (au z1 zd) (au z2 zd);generalize cj x.lo=a at*
  generalize cj x.hi=b at*
  refine abk hxf @ai.eq_1 ?_;refine aac λK3 hK3=>aac λK4 hK4=>?_
  cases g1:hasB fe.1 fe.2 a with
  |false=>
   have hr:wO p x=7:=by rw[r2,if_pos g1]
   rw[g1]at hb1;refine abI 5 hb1 Nl (hK4 _ _ ?_);refine aaE (aah ?_);exact aaq (aD.rt (t:=4) rfl 9 xf)
  |true=>
  rw[g1]at hb1
  cases g2:hasB fe.1 fe.2 b with
  |false=>
   have hr:wO p x=7:=by rw[r2,g1,if_neg zr,if_pos g2]
   rw[g2]at hb2;refine aai ?_;simp;refine ag.p 5 9 hb1 ?_;simp;refine ag.p 5 9 hb2 ?_;simp;apply hK4;refine aaE (aah ?_);exact aaq (aD.rt (t:=4) rfl 9 xf)
  |true=>
  rw[g2]at hb2
  by_cases g3:0<bS a b
  ·have hr:wO p x=7:=by rw[r2,g1,if_neg zr,g2,if_neg zr,if_pos g3]
   refine aai ?_;simp;refine ag.p 5 9 hb1 ?_;simp;refine ag.p 5 9 hb2 ?_;simp;refine ag.p 5 9 hcm ?_;simp;apply hK4;refine aaB yk (aah ?_);exact aaq (aD.rt (t:=4) rfl 9 xf)
  ·have hr:wO p x=0:=by rw[r2,g1,if_neg zr,g2,if_neg zr,if_neg g3]
   refine aai ?_;simp;refine ag.p 5 9 hb1 ?_;simp;refine ag.p 5 9 hb2 ?_;simp;refine ag.p 5 9 hcm ?_;simp;apply hK4;refine aaD yk (aan (hK3 _ _ (aah ?_)));exact aaq (aD.rt (t:=4) rfl 9 xf)
@[simp]theorem T8{k0 k1:Key}{b0 b1:LB}(h0:lv k0=b0)(h1:lv k1=b1):b8 lv [(k0,b0),(k1,b1)]=lv:=by
 subst h0;subst h1;funext k;simp only[b8,List.foldl,aM];split
 ·rename_i h;rw[h]
 ·split
  ·rename_i h;rw[h]
  ·rfl
abbrev cI(i:Int):List CV:=[.d (.int .i64 i)]
abbrev bI(i:Int):LB:=.cells false false 3 (cI i)
theorem NX(G:List (List DV))(n:Nd)(i f:Int):aQ prog G 171 [n.A,.c (.ptr 0 0),.c (.ptr 1 0)] [bI i,bI f] (.ret (.c (.d (.bool (lJ i f n)))) [bI i,bI f] []):=by
 refine aQ.en2 func171 rfl zp zp (λr hr=>⟨_,List.mem_singleton.1 hr⟩) λ_=>aah ?_;refine aac λK hK=>?_
 by_cases h1:n.op=2
 ·by_cases h2:n.a=i
  ·by_cases h3:n.f=f
   ·refine acm h1 h2 h3 (hK _ _ ?_);exact aal (κ:=0) (Av.tmp (κ:=0) rfl 9 (by simp[lJ,h1,h2,h3]) rfl zp zp zp rfl)
   ·refine acm h1 h2 h3 (hK _ _ ?_);exact aal (κ:=0) (Av.tmp (κ:=0) rfl 9 (by simp[lJ,h1,h2,h3]) rfl zp zp zp rfl)
  ·refine abG h1 h2 (hK _ _ ?_);exact aal (κ:=0) (Av.tmp (κ:=0) rfl 9 (by simp[lJ,h1,h2]) rfl zp zp zp rfl)
 ·refine aby h1 (hK _ _ ?_);exact aal (κ:=0) (Av.tmp (κ:=0) rfl 9 (by simp[lJ,h1]) rfl zp zp zp rfl)
def Gi(i f:Int)(p:PD):Int:=match (List.range p.nn).find? (λj=>lJ i f (p.nd j))with
 |some j=>j
 |none=>-1
theorem NM(i f:Int)(p:PD):decide (0<=Gi i f p)=(List.range p.nn).any (λj=>lJ i f (p.nd j)):=by
 unfold Gi
 grind
abbrev clO:AV:=.c (.func (.func 171) [] [.ptr 0 0,.ptr 1 0])
theorem NK(n:Nd){i f:Int}(h0:lv 0=bI i)(h1:lv 1=bI f)(ha:a∈[n.A,.c (.ptr 0 0),.c (.ptr 1 0)])(hk:k∈ql lv a):k∈[9,0,1]:=by
 simp only[aZ,bw,or_false]at ha;rcases ha with rfl|rfl|rfl
 ·rw[dX rfl]at hk;cases hk
 ·simp[ql,jB,h0]at hk;simp[hk]
 ·simp[ql,jB,h1]at hk;simp[hk]
theorem P7(p:PD){fn:Fn}{fs cs:List Ref}{R:List Key}(ha:a∈[AV.c (dc p.nodes),.c (.func fn fs cs)])(hk:k∈ql lv a):k∈R:=by
 simp only[aZ,bw,or_false]at ha;rcases ha with rfl|rfl
 ·rw[dX zp]at hk;cases hk
 ·cases hk
theorem SN(G:List (List DV))(p:PD)(hp:p.ok)(hn:p.nn<=1000)(i f:Int):aQ prog G 217 [.c (dc p.nodes),clO] [bI i,bI f] (.ret (.c (.d (.int .i64 (Gi i f p)))) [bI i,bI f] []):=by
 have ho:=λj=>NX G (p.nd j) i f
 refine aQ.en2 func217 rfl zp zp (λr hr=>⟨_,List.mem_singleton.1 hr⟩) λ_=>aah ?_;refine aac λK hK=>aaN @s8 ?_;refine aaw ?_
 refine aaY (λ(j:Nat)=>⟨aT [(0,.c (dc p.nodes)),(1,clO),(7,.c (.d (.int .i64 p.nn))),(8,.c (.d (.int .i64 j)))],aM (aM (λ_=>.hole) 0 (bI i)) 1 (bI f)⟩) 1000
  (λj=>j<=p.nn/\∀q,q<j->lJ i f (p.nd q)=false) (λj=>p.nn-j) 0 (Le.fJ _) ⟨zd,λq hq=>absurd hq (aer q)⟩ ?_
 rintro j ⟨hj,hall⟩
 try simp only at hj hall
 refine aah ?_;refine aac λK2 hK2=>?_
 by_cases hlt:j<p.nn
 ·have hlt':(j:Int)<(p.nn:Int):=by omega
  refine aaB xv (aan (hK2 _ _ (aac λK3 hK3=>aaw (aah ?_))));refine aac λK4 hK4=>?_;have hx:=λlv=>wI p lv hp j hlt
  refine aai ?_;simp[hx,wQ,xg,oS];refine ag.OF (T0:=3) (T1:=3) (cs0:=cI i) (cs1:=cI f) 1000 9 0 1 false [9,0,1] (ho j) rfl rfl rfl zp zp zr rfl rfl ?_ ?_ zp ?_
  ·intro a b c;have:a=0\/a=1\/a=2:=by simp at b;omega
   rcases this with rfl|rfl|rfl<;>exact⟨rfl,rfl⟩
  ·intro a ha k hk;exact NK (p.nd j) (i:=i) (f:=f) zp zp ha hk
  simp;apply hK4
  cases hs:lJ i f (p.nd j)with
  |true=>
   refine aaE (aah ?_)
   have hr:Gi i f p=j:=by
    unfold Gi
    have:(List.range p.nn).find? (λj=>lJ i f (p.nd j))=some j:=by
     rw[List.find?_range_eq_some];exact⟨hs,List.mem_range.2 hlt,λq hq=>by rw[hall q hq];rfl⟩
    rw[this]
   exact aal (κ:=0) (Av.tmp (κ:=0) rfl 9 xf rfl zp zp zp rfl)
  |false=>
   refine aax (aan (hK3 _ _ ?_));have f12:=bP (n:=(j:Int)+1) zd zd;refine aai ?_;simp[f12];refine⟨j+1,Le.fJ _,⟨zd,λq hq=>?_⟩,zd⟩
   grind
 ·have hlt':¬(j:Int)<(p.nn:Int):=by omega
  refine aaD xv (aaR (hK _ _ (aah ?_)))
  have hr:Gi i f p = -1:=by
   unfold Gi
   have:(List.range p.nn).find? (λj=>lJ i f (p.nd j))=none:=by
    rw[List.find?_eq_none];intro q hq;rw[hall q (by have:=List.mem_range.1 hq;omega)];decide
   rw[this]
  exact aal (κ:=0) (Av.tmp (κ:=0) rfl 9 xf rfl zp zp zp rfl)
theorem Nf(G:List (List DV))(p:PD)(hp:p.ok)(hn:p.nn<=1000)(i f:Int):aQ prog G 172 [.c (dc p.nodes),clO] [bI i,bI f] (.ret (.c (.d (.bool ((List.range p.nn).any λj=>lJ i f (p.nd j))))) [bI i,bI f] []):=by
 have hx:=SN G p hp hn i f;rw[<-NM];generalize Gi i f p=r at*
 refine aQ.en2 func172 rfl zp zp (λr hr=>⟨_,List.mem_singleton.1 hr⟩) λ_=>aah ?_;refine aaF λK hK=>?_;simp;refine ag.OF (T0:=3) (T1:=3) (cs0:=cI i) (cs1:=cI f) 1000 9 0 1 false [9] hx rfl rfl rfl zp zp zr rfl rfl ?_ ?_ zp ?_
 ·intro a b c;have:a=0\/a=1:=by simp at b;omega
  rcases this with rfl|rfl
  ·simp
  ·exact⟨rfl,rfl⟩
 ·intro a ha k hk;exact P7 p ha hk
 simp;apply hK;exact aal (κ:=0) (Av.tmp (κ:=0) rfl 9 zp rfl zp zp zp rfl)
theorem eX(h:gj p=0):0<=p.head/\p.head<=p.tail/\p.tail<=p.nn/\p.nf<=6/\p.ni<=6/\p.nn<=64/\p.ns<=4:=by
 unfold gj at h;unfold PD.nf PD.ni PD.nn PD.ns;omega
theorem PE(m:Int)(p:PD)(hp:p.ok)(hg:gj p=0)(i:Nat)(hi:i<p.ns):aa prog (GG m) 95 [p.A,.c (.d (.int .i64 i))] (.c (.d (.int .i64 (dF p 3 i)))):=by
 obtain⟨g1,g2,g3,_,_,g4,_⟩:=eX hg;have hx:=λlv=>ixS hp lv (i:Int) zd zd
 simp only[adW]at hx;have hE:dF p 3 i=zR p i (p.st i):=rfl;rw[hE];generalize p.st i=s at*
 have hw1:=ld (GG m) s.1 p.head;have hw2:=ld (GG m) s.2 p.tail;refine aa.en func95 rfl λ_=>aah ?_;refine abk hx @ai.eq_1 ?_;refine aac λK hK=>aac λK1 hK1=>?_
 by_cases h1:0<=s.1/\s.1<p.head
 rotate_left
 ·have hd:decide (0<=s.1/\s.1<p.head)=false:=decide_eq_false h1;have hr:zR p i s=7:=by unfold zR;rw[if_pos h1]
  rw[hd]at hw1;refine acq 3 hw1 (hK1 _ _ ?_);refine aaE (aah ?_);exact aaq (aD.rt rfl 4 xf)
 have hd:decide (0<=s.1/\s.1<p.head)=true:=decide_eq_true h1;rw[hd]at hw1
 by_cases h2:0<=s.2/\s.2<p.tail
 rotate_left
 ·have hd2:decide (0<=s.2/\s.2<p.tail)=false:=decide_eq_false h2;have hr:zR p i s=7:=by unfold zR;rw[if_neg (not_not_intro h1),if_pos h2]
  rw[hd2]at hw2;refine aai ?_;simp;refine ag.p 3 9 hw1 ?_;simp;refine ag.p 3 9 hw2 ?_;simp;apply hK1;refine aaE (aah ?_);exact aaq (aD.rt rfl 4 xf)
 have hd2:decide (0<=s.2/\s.2<p.tail)=true:=decide_eq_true h2;rw[hd2]at hw2;refine aai ?_;simp;refine ag.p 3 9 hw1 ?_;simp;refine ag.p 3 9 hw2 ?_;simp;apply hK1;refine aax (aan (hK _ _ (aac λK hK=>?_)));have x1:=λlv=>Xh hp lv s.1 h1.1 zd
 have x2:=λlv=>Xh hp lv s.2 h2.1 zd
 have hr:zR p i s=if (p.nd s.2.toNat).f≠(p.nd s.1.toNat).f then 143 else if (List.range p.nn).any (λj=>lJ i (p.nd s.1.toNat).f (p.nd j))then 143 else 0:=by
  unfold zR;rw[if_neg (not_not_intro h1),if_neg (not_not_intro h2)]
 generalize p.nd s.1.toNat=n1 at*
 generalize p.nd s.2.toNat=n2 at*
 refine abG x1 @ai.eq_1 (hK _ _ ?_);refine aaF λK hK=>?_;simp[oQ,lK,lZ,mZ,cQ];apply hK;refine aac λK hK=>aac λK1 hK1=>?_
 by_cases h3:n2.f=n1.f
 ·have hc:=Nf (GG m) p hp zd i n1.f;refine aaT mixed zt rfl ?_;simp[x2,h3];refine ag.OF (T0:=3) (T1:=3) (cs0:=cI i) (cs1:=cI n1.f) 4 9 1 3 true [9] hc rfl rfl rfl zp zp zr rfl rfl ?_ ?_ zp ?_
  ·intro a b c;have:a=0\/a=1:=by simp at b;omega
   rcases this with rfl|rfl
   ·simp
   ·exact⟨rfl,rfl⟩
  ·intro a ha k hk;exact P7 p ha hk
  simp;refine⟨zt,?_⟩;apply hK1
  cases hs:(List.range p.nn).any (λj=>lJ i n1.f (p.nd j))with
  |true=>
   have hr2:zR p i s=143:=by rw[hr,if_neg (not_not_intro h3),if_pos hs]
   refine aaE (aah ?_);exact aaq (aD.rt rfl 4 kt)
  |false=>
   have hr2:zR p i s=0:=by rw[hr,if_neg (not_not_intro h3),hs,if_neg zr]
   refine aax (aan (hK _ _ (aah ?_)));exact aaq (aD.rt rfl 4 kt)
 ·have hr2:zR p i s=143:=by rw[hr,if_pos h3]
  refine AW.dl2 mixed x2 h3 (hK1 _ _ ?_);refine aaE (aah ?_);exact aaq (aD.rt rfl 4 kt)
def sD:Option (List (List DV))->DV
 |none=>.nilsl
 |some es=>.sl es
theorem Vh(o:Option (List (List DV))):dc o=.d (sD o):=by cases o<;>rfl
def PD.ME(p:PD):List DV:=[sD p.f,.int .i64 p.mode,sD p.ins,sD p.nodes,.int .i64 p.head,.int .i64 p.tail,sD p.states,.int .i64 p.res]
theorem UO(p:PD):p.ME.map CV.d=p.cs:=by simp[PD.ME,Vh]
theorem PA(p:PD):Lj (.agg p.ME)=p.A:=by show AV.agg (p.ME.map CV.d)=_;rw[UO]
theorem ON(p:PD):tg p.cs=some p.ME:=by
 obtain⟨f,a,i,n,b,c,s,d⟩:=p
 cases f<;>cases i<;>cases n<;>cases s<;>rfl
theorem On(p:PD)(f:FuncId):oQ (.func f) [.agg [dc p.f,.d (.int .i64 p.mode),dc p.ins,dc p.nodes,.d (.int .i64 p.head),.d (.int .i64 p.tail),dc p.states,.d (.int .i64 p.res)]] []=some (.c (.d (.func (.func f) [.agg p.ME] [])),[],[],True):=by
 have h:=ON p;simp only[PD.cs]at h;simp only[oQ,lK,lZ,h,mZ,cQ];rfl
theorem acU(a b:CV):bM prog 131 [0,1] [.c a,.c b]=some (.agg [a,b],[],[],True):=zt
theorem Xl(lv:Key->LB)(κ:Key)(h:lv κ=.hole)(a b c d e f g i:CV):aB prog 132 4 [0,1,2,3] lv κ [.agg [a,b],.agg [c,d],.agg [e,f],.agg [g,i]]=some (.c (.aO κ 0 4 2),[(κ,.cells true false 131 [a,b,c,d,e,f,g,i])],[],True):=by
 unfold aB;rw[h];rfl
theorem Yh(p:PD):bM prog 128 [0] [.agg [dc p.f,.d (.int .i64 p.mode),dc p.ins,dc p.nodes,.d (.int .i64 p.head),.d (.int .i64 p.tail),dc p.states,.d (.int .i64 p.res)]]=some (.agg [dc p.f,.d (.int .i64 p.mode),dc p.ins,dc p.nodes,.d (.int .i64 p.head),.d (.int .i64 p.tail),dc p.states,.d (.int .i64 p.res)],[],[],True):=
 (show ∀a b c d e f g h:CV,bM prog 128 [0] [.agg [a,b,c,d,e,f,g,h]]=some (.agg [a,b,c,d,e,f,g,h],[],[],True) from λa b c d e f g h=>by kernel_rfl) _ _ _ _ _ _ _ _
def VC(p:PD):List CV:=[.d (.int .i64 p.nf),.d (.func (.func 92) [.agg p.ME] []),.d (.int .i64 p.ni),.d (.func (.func 93) [.agg p.ME] []),.d (.int .i64 p.nn),.d (.func (.func 94) [.agg p.ME] []),.d (.int .i64 p.ns),.d (.func (.func 95) [.agg p.ME] [])]
@[simp]theorem ZX(p:PD)(g:Key->Key):(VC p).map (CV.dA g)=VC p:=rfl
theorem M4(p:PD)(k:Nat)(hk:k<4):iq prog 131 ((VC p).drop (k*2))=some (.agg [.d (.int .i64 (kM p k)),.d (.func (.func (92+k)) [.agg p.ME] [])]):=by
 have h:k=0\/k=1\/k=2\/k=3:=zd
 rcases h with rfl|rfl|rfl|rfl<;>simp[VC,kM]
theorem Rt(m:Int)(p:PD)(hp:p.ok)(hg:gj p=0)(k:Nat)(hk:k<4)(i:Nat)(hi:i<kM p k):aa prog (GG m) (92+k) [p.A,.c (.d (.int .i64 i))] (.c (.d (.int .i64 (dF p k i)))):=by
 have h:k=0\/k=1\/k=2\/k=3:=zd
 have hr:=eX hg;rcases h with rfl|rfl|rfl|rfl
 ·exact Lo _ p hp i hi
 ·exact Qc m p hp i hi
 ·exact RH m p hp i hi zd
 ·exact PE m p hp hg i hi
theorem QG(k:Nat)(hk:k<4):aE prog (92+k)=true:=by
 have h:k=0\/k=1\/k=2\/k=3:=zd
 rcases h with rfl|rfl|rfl|rfl<;>simp
theorem QZ(hg:gj p=0)(k:Nat)(hk:k<4):kM p k<=64:=by
 have h:k=0\/k=1\/k=2\/k=3:=zd
 have hr:=eX hg;rcases h with rfl|rfl|rfl|rfl<;>simp only[kM]<;>omega
theorem MN(m:Int)(p:PD)(hp:p.ok):aa prog (GG m) 40 [p.A] (.tup [.c (.d (.int .i64 (jT p).1)),.c (.d (.int .i64 (jT p).2.1)),.c (.d (.int .i64 (jT p).2.2))]):=by
 have hge:=IP (GG m) p;have hbl:∀lv (h:lv 2=.hole) (a b c d e f g i:CV),aB prog 132 4 [0,1,2,3] lv 2 [.agg [a,b],.agg [c,d],.agg [e,f],.agg [g,i]]=some (.c (.aO 2 0 4 2),[(2,.cells true false 131 [a,b,c,d,e,f,g,i])],[],True):=λlv h=>Xl lv 2 h
 by_cases hg:gj p=0
 rotate_left
 ·have hr:jT p=(0,0,gj p):=by unfold jT;rw[if_pos hg]
  rw[hr];refine aa.en func40 rfl λ_=>aah ?_;refine abk @Yh @ai.eq_1 ?_;refine aac λK hK=>abi 2 hge ?_;refine aah ?_;refine aaB yk (aah ?_);exact aaq (aD.t3 rfl 9 zp zp zp)
 have hr:jT p=fC p 4 0:=sq
 rw[hr];rw[hg]at hge;have hwi:=ld (GG m) p.res p.nn;have hse:=tI (GG m) p p.res;refine aa.ML func40 rfl λ_=>aah ?_;refine abk @Yh @ai.eq_1 ?_;refine aac λK hK=>abi 2 hge ?_;refine aah ?_;refine aax (aan (hK _ _ (aaF λK hK=>?_)));simp[CD,MI,s8,Qa,On,acU,hbl,-aB];apply hK;refine aac λK hK=>aah ?_;refine aaw ?_
 refine aaY (λ(k:Nat)=>⟨aT [(1,.c (.ptr 0 0)),(5,.c (.ptr 1 0)),(44,.c (.aO 2 0 4 2)),(45,.c (.d (.int .i64 4))),(46,.c (.d (.int .i64 k)))],
  aM (aM (aM (λ_=>.hole) 0 (.cells true false 27 p.cs)) 1 (.cells true false 128 p.cs)) 2 (.cells true false 131 (VC p))⟩) 3
  (λk=>k<=4/\fC p (4-k) k=fC p 4 0) (λk=>4-k) 0 (Le.fJ _ (by simp[VC])) ⟨zd,rfl⟩ ?_
 rintro k ⟨hk,hpv⟩
 try simp only at hk hpv
 refine aah ?_;refine aac λK2 hK2=>?_
 by_cases hlt:k<4
 ·have hlt':(k:Int)<4:=by omega
  have hld:=M4 p k hlt;have hle:=QZ hg k hlt;have hfn:=QG k hlt;have hca:=Rt m p hp hg k hlt
  have hstep:∀i,i<kM p k->dF p k i≠0->(∀j,j<i->dF p k j=0)->fC p 4 0=((k:Int)+1,(i:Int),dF p k i):=by
   intro i hi h0 h1;rw[<-hpv,show 4-k=(4-(k+1))+1 by omega];show(match kS (dF p k) (kM p k)with|some i=>((k:Int)+1,(i:Int),dF p k i)|none=>fC p (4-(k+1)) (k+1))=_;rw[xK hi h0 h1]
  have hnext:(∀j,j<kM p k->dF p k j=0)->fC p (4-(k+1)) (k+1)=fC p 4 0:=by
   intro h1;rw[<-hpv,show 4-k=(4-(k+1))+1 by omega];show _=(match kS (dF p k) (kM p k)with|some i=>((k:Int)+1,(i:Int),dF p k i)|none=>fC p (4-(k+1)) (k+1))
   rw[xX h1]
  generalize kM p k=N at*
  generalize dF p k=E at*
  refine aaB yk (aan (hK2 _ _ (aac λK3 hK3=>aaw (aaF λK4 hK4=>?_))));simp[hlt',hld,ai,-Mw];apply hK4;refine aah ?_;refine aaw ?_
  refine aaY (λ(i:Nat)=>⟨aT [(1,.c (.ptr 0 0)),(5,.c (.ptr 1 0)),(8,.c (.d (.int .i64 k))),(9,.c (.ptr 3 0)),(44,.c (.aO 2 0 4 2)),(45,.c (.d (.int .i64 4))),(46,.c (.d (.int .i64 k))),(52,.c (.d (.int .i64 N))),(53,.c (.d (.int .i64 i)))],
   aM (aM (aM (aM (λ_=>.hole) 0 (.cells true false 27 p.cs)) 1 (.cells true false 128 p.cs)) 2 (.cells true false 131 (VC p))) 3 (.cells true false 131 [.d (.int .i64 N),.d (.func (.func (92+k)) [.agg p.ME] [])])⟩) 4
   (λi=>i<=N/\∀j,j<i->E j=0) (λi=>N-i) 0 (Le.fJ _ zp) ⟨zd,λj hj=>absurd hj (aer j)⟩ ?_
  rintro i ⟨hi,hall⟩
  try simp only at hi hall
  refine aah ?_;refine aac λK6 hK6=>?_
  by_cases hlt2:i<N
  ·have hlt2':(i:Int)<(N:Int):=by omega
   have hc:=hca i hlt2;refine aaB xv (aan (hK6 _ _ (aac λK7 hK7=>aaw (aah ?_))));refine AW.c4 4 hc @Lz @xg @PA hfn ?_;refine aah ?_
   by_cases h0:E i=0
   ·refine aaD yk (aan (hK7 _ _ ?_));have f12:=bP (n:=(i:Int)+1) zd zd;refine aai ?_;simp[f12];refine⟨i+1,Le.fJ _,⟨zd,λj hj=>?_⟩,zd⟩
    grind
   ·have hres:=hstep i hlt2 h0 hall;have f12:=bP (n:=(k:Int)+1) zd zd;refine aaB yk (aaN f12 ?_);exact aaq (aD.t3 rfl 9 wb wb wb)
  ·have hlt2':¬(i:Int)<(N:Int):=by omega
   refine aaD xv (aaR (hK3 _ _ ?_));have f12:=bP (n:=(k:Int)+1) zd zd;refine aai ?_;simp[f12];exact⟨k+1,(Le.Cu [3] 9),⟨zd,hnext λj hj=>hall j zd⟩,zd⟩
 ·have hlt':¬(k:Int)<4:=by omega
  have hk4:k=4:=zd
  subst hk4;have hfin:fC p 4 0=if 0<=p.res/\p.res<p.nn/\ot p p.res≠1 then(0,0,0)else(5,0,7):=by rw[<-hpv];rfl
  refine aaD xr (aaR (hK _ _ (aac λK hK=>aac λK1 hK1=>?_)))
  by_cases h1:0<=p.res/\p.res<p.nn
  rotate_left
  ·have hd:decide (0<=p.res/\p.res<(p.nn:Int))=false:=decide_eq_false h1;have hres:fC p 4 0=(5,0,7):=by rw[hfin,if_neg (λh=>h1 ⟨h.1,h.2.1⟩)]
   rw[hd]at hwi;refine abI 3 hwi @s8 (hK1 _ _ ?_);refine aaE (aah ?_);exact aaq (aD.t3 rfl 9 wb wb wb)
  have hd:decide (0<=p.res/\p.res<(p.nn:Int))=true:=decide_eq_true h1;rw[hd]at hwi
  by_cases h2:ot p p.res=1
  ·have hres:fC p 4 0=(5,0,7):=by rw[hfin,if_neg (λh=>h.2.2 h2)]
   rw[h2]at hse;refine aai ?_;simp[s8];refine ag.p 3 9 hwi ?_;simp;refine ag.p 3 9 hse ?_;simp;apply hK1;refine aaE (aah ?_);exact aaq (aD.t3 rfl 9 wb wb wb)
  ·have hres:fC p 4 0=(0,0,0):=by rw[hfin,if_pos ⟨h1.1,h1.2,h2⟩]
   refine aai ?_;simp[s8];refine ag.p 3 9 hwi ?_;simp;refine ag.p 3 9 hse ?_;simp[h2];apply hK1;refine aaD xr (aan (hK _ _ (aah ?_)));exact aaq (aD.t3 rfl 9 wb wb wb)
theorem PM(l:List Int)(g:Key->Key):(LB.cells true false 3 (zK l)).like (.cells true false 3 (zK l)) g:=by
 rw[Db];simp
theorem PY(h:lv k=.hole):aM lv k .hole=lv:=by
 funext j
 simp_all
def zB(l:List Int):LB:=if l=[]then .hole else .cells true false 3 (zK l)
def Ts(k:Key)(l:List Int):AV:=if l=[]then .c (.d .nilsl)else .c (.aO k 0 l.length 1)
theorem abm(lv:Key->LB)(κ:Key)(h:lv κ=.hole)(a:CV):aB prog 92 1 [0] lv κ [.c a]=some (.c (.aO κ 0 1 1),[(κ,.cells true false 3 [a])],[],True):=by
 unfold aB;rw[h];rfl
theorem Qg{l:List DV}(h:lv k=.cells own fz T (l.map CV.d))(hl:l.length<=1000):fO lv (.c (.aO k 0 l.length 1))=some (.c (.d (.sl (l.map λx=>[x]))),[k]):=by
 have h1:((l.map CV.d).drop 0).take (l.length*1)=l.map CV.d:=by rw[ady,aeu];exact aeE zp
 have h2:0+l.length*1<=(l.map CV.d).length/\l.length<=9223372036854775807:=⟨zp,zd⟩
 show(fX lv 8 (.aO k 0 l.length 1)).map _=_;simp only[fX,h];rw[if_pos h2,h1,zv];simp only[ad2,rY]
theorem RZ{l:List Int}(h:lv k=.cells own fz T (zK l))(hl:l.length<=1000):fO lv (.c (.aO k 0 l.length 1))=some (.c (zC (some l)),[k]):=by
 have:=Qg (l:=l.map λx=>DV.int .i64 x) (by rw[<-Db];exact h) yn;rw[sC,adT]at this;exact this
theorem abu(p:PD)(lv:Key->LB)(hp:p.ok)(i:Nat)(hi:i<p.ni):aq prog 23 lv (.c (dc p.ins)) (.c (.d (.int .i64 (i:Int))))=some (.c (.d (.ptr (p.inp i).e)),[],[],True):=by
 have:=Zz hp lv (i:Int) zd zd
 grind
theorem Jv(l:List Int)(x:Int):zB (l++[x])=.cells true false 3 (zK l++[.d (.int .i64 x)]):=by
 unfold zB;rw[if_neg zp];simp[zK]
theorem J3(k:Key)(l:List Int)(x:Int):Ts k (l++[x])=.c (.aO k 0 (l.length+1) 1):=by
 unfold Ts;simp
theorem S2(h:(jT p).2.2=0):gj p=0:=by
 unfold jT at h
 grind
theorem G8{p:PD}:∀(n k:Nat),(fC p n k).2.2=0->(∀j,k<=j->j<k+n->∀i,i<kM p j->dF p j i=0)/\(0<=p.res/\p.res<p.nn/\ot p p.res≠1)
 |0,k,h=>by
  refine⟨λj h1 h2=>by omega,?_⟩
  by_cases hc:0<=p.res/\p.res<p.nn/\ot p p.res≠1
  ·exact hc
  ·have e:fC p 0 k=(5,0,7):=if_neg hc
   grind
 |n+1,k,h=>by
  have e:fC p (n+1) k=match kS (dF p k) (kM p k)with|some i=>((k:Int)+1,(i:Int),dF p k i)|none=>fC p n (k+1):=rfl
  rw[e]at h
  cases hf:kS (dF p k) (kM p k)with
  |some i=>
   rw[hf]at h;unfold kS at hf
   grind
  |none=>
   rw[hf]at h;obtain⟨h1,h2⟩:=G8 n (k+1) h;refine⟨λj g1 g2 i hi=>?_,h2⟩
   by_cases hj:j=k
   ·subst hj;unfold kS at hf
    grind
   grind
structure PD.good(p:PD):Prop where
 ok:p.ok
 gen:gj p=0
 aeo:∀i,i<p.nf->iV (p.fm i).1 (p.fm i).2=0
 ins:∀i,i<p.ni->wO p (p.inp i)=0
 nodes:∀i,i<p.nn->l6 p i (p.nd i)=0
 states:∀i,i<p.ns->zR p i (p.st i)=0
 res:0<=p.res/\p.res<p.nn/\ot p p.res≠1
theorem vf(hp:p.ok)(h:(jT p).2.2=0):p.good:=by
 have hg:=S2 h;have e:jT p=fC p 4 0:=sq
 rw[e]at h;obtain⟨h1,h2⟩:=G8 4 0 h;exact⟨hp,hg,h1 0 zd zd,h1 1 zd zd,h1 2 zd zd,h1 3 zd zd,h2⟩
def bD(l:List Bool):List (List DV):=l.map λx=>[DV.bool x]
def bC:Option (List Bool)->CV
 |none=>.d .nilsl
 |some l=>.d (.sl (bD l))
def bL(o:Option (List Bool)):List Bool:=o.getD []
theorem Pk(o:Option (List Bool)):bC o=dc (o.map bD):=by cases o<;>rfl
def bK(l:List Bool):List CV:=l.map λx=>CV.d (.bool x)
@[simp]theorem abw(l:List Bool):(bK l).length=l.length:=by simp[bK]
theorem DS{P:Program}(ha:fV P T=some false)(h:i<l.length):iq P T ((bK l).drop i)=some (.c (.d (.bool l[i]))):=by
 have:(bK l).drop i=CV.d (.bool l[i])::(bK l).drop (i+1):=by
  rw[adP yk];simp[bK]
 simp_all
theorem T3(l:List Bool):bK l=(l.map λx=>DV.bool x).map CV.d:=by simp[bK]
theorem El(n:Nat):bK (List.replicate n false)=List.replicate n (CV.d (.bool false)):=by unfold bK;simp
theorem EC(l:List Bool)(i:Nat)(x:Bool)(h:i<l.length):ai (bK l) i [CV.d (.bool x)]=bK (l.set i x):=by
 unfold ai bK;rw[List.map_set,List.set_eq_take_append_cons_drop,if_pos yn];simp
theorem Jq(h:lv k=.cells own fz T (bK l))(hl:l.length<=1000):fO lv (.c (.aO k 0 l.length 1))=some (.c (bC (some l)),[k]):=by
 have:=Qg (l:=l.map λx=>DV.bool x) (by rw[<-T3];exact h) yn;rw[sC,adT]at this;exact this
theorem lpB(h:(fU prog T).isSome=true)(lv:Key->LB)(o:Option (List Bool)):eT prog T lv (.c (bC o))=some (.c (.d (.int .i64 (bL o).length)),[],[],True):=by
 rw[Pk];rw[fP h]
 cases o<;>simp[sO,bL,bD]
theorem Wv(h:(fU prog T).map (·.2)=some 1)(lv:Key->LB)(o:Option (List Bool))(hi:i<(bL o).length):aq prog T lv (.c (bC o)) (.c (.d (.int .i64 (i:Int))))=some (.c (.d (.ptr [.bool (bL o)[i]])),[],[],True):=by
 cases o with
 |none=>cases hi
 |some l=>
  rw[Pk];have hi0:i<l.length:=hi;have hi':i<(sO (Option.map bD (some l))).length:=by show i<(bD l).length;unfold bD;rw[sC];exact hi0
  have e:(sO (Option.map bD (some l)))[i]=[.bool (bL (some l))[i]]:=by simp[sO,bD,bL]
  rw[D9 h hi' ti,e];rfl
theorem Bj(h:i<l.length):l.getD i false=l[i]:=by
 grind
end Go.Am
