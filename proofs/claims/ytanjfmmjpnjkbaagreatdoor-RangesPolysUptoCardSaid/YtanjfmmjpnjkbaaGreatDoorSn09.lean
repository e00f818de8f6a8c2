/- Helpers: an abstract machine for Go functions, and walks of functions of the program. -/
import Derived.Test.YtanjfmmjpnjkbaaGreatDoorSn08
import Derived.Lib.IndexMore

set_option linter.all false
set_option maxHeartbeats 8000000
set_option maxRecDepth 100000
namespace Go.Am
variable {i m t k κ L u n:Nat}{x y r:Rat}{c:Ctx}{fn:Func}{s:aB}{a:Iv}{f:Sq}{l:List Rat}
abbrev cy:=@List.not_mem_nil
abbrev agX:=@Nat.gcd_zero_left
abbrev aeA:=@Int.toNat_natCast
abbrev afs:=@List.take_length
abbrev agm:=@List.sum_append
abbrev agG:=@List.range_succ
abbrev agH:=@List.flatMap_nil
abbrev agI:=@List.flatten_append
open Go.Am.Ty Go.Proofs N
theorem aM.num(hr:c.P=Tryz.prog/\fn.results=#[.cell t 27])(ht:s.fr t=.c (.ptr k 0))
 (hk:s.lv k=.cells true false 27 [.d (.bool (decide (r.num<0))),nC (aL r.num.natAbs),nC (bw r.den)]):aM c fn (bC r) .ret s κ:=
 aM.cell hr.2 ht hk (by rw[hr.1,aeu,ql])
theorem aM.LJ{y:CV}(hr:c.P=Tryz.prog/\fn.results=#[.cell t 27,.tmp u])(ht:s.fr t=.c (.ptr k 0))
 (hk:s.lv k=.cells true false 27 [.d (.bool (decide (r.num<0))),nC (aL r.num.natAbs),nC (bw r.den)]) (hy:s.fr u=.c y):aM c fn (.tup [bC r,.c y]) .ret s κ:=
 aM.rN hr.2 ht hk (by rw[hr.1,aeu,ql]) hy rfl rfl
theorem j5(a b:Bool):aO Tryz.prog .neq 4 (.c (.d (.bool a))) (.c (.d (.bool b)))=some (.c (.d (.bool (a != b))),[],[],True):=by
 cases a<;>cases b<;>kernel_rfl
theorem iE(G:List (List DV))(x y:Rat)(hx:br x 10000000000)(hy:br y 10000000000):aa Tryz.prog G 50 [bC x,bC y] (bC (x*y)):=by
 have hbx:=bM G (decide (x.num<0)) (aL x.num.natAbs) (bw x.den);have hby:=bM G (decide (y.num<0)) (aL y.num.natAbs) (bw y.den);have m1:=cB G (aL x.num.natAbs) (aL y.num.natAbs) (by rw[dJ];have:=hx.1;omega) (by rw[dJ];have:=hy.1;omega);have m2:=cB G (some (aG 4294967296 x.den)) (some (aG 4294967296 y.den)) (by show nl _<=_;have:=hx.2;omega) (by show nl _<=_;have:=hy.2;omega);rw[oQ]at hbx hby;simp only[jN,aR,cK,gy]at m1 m2;have e1:=bO x.num.natAbs y.num.natAbs;have e2:=bO x.den y.den;have mk:=kP G (decide (x.num<0) != decide (y.num<0)) (x.num.natAbs*y.num.natAbs) (x.den*y.den) (aeE (aeh x.den_pos y.den_pos)) (by have:=hx.1;have:=hy.1;omega) (by have:=hx.2;have:=hy.2;omega);rw[<-C4]at mk;generalize x*y=r at *
 refine aa.enc Tryz.func50 rfl (λlv=>cg lv _ _ _) λ_=>aah ?_;refine aaa λK hK=>?_;refine abx mixed (by kernel_rfl) rfl ?_;simp[j5];refine ag.p 3 9 m1 ?_;simp[j5];refine ag.p 3 9 hbx ?_;simp[j5];refine ag.p 3 9 hby ?_;simp[j5];refine ag.p 3 9 m2 ?_;simp[j5];refine ag.p 3 9 mk ?_;simp;refine⟨by kernel_rfl,?_⟩
 repeat refine aj ?_
 apply hK;exact aaH (aM.num (κ:=0) (t:=4) (k:=2) ⟨rfl,rfl⟩ (by simp) (by simp[ai]))
theorem Km(G:List (List DV))(x y:Rat)(hx:br x 10000000000)(hy:br y 10000000000):aa Tryz.prog G 93 [bC x,bC y] (.tup [bC (x/y),.c (.d (.int .i64 (if y=0 then 8 else 0)))]):=by
 have hg:=fK G (decide (y.num<0)) (aL y.num.natAbs) (bw y.den)
 by_cases h0:y=0
 ·have e:x/y=0:=by rw[h0,Rat.div_def,Rat.inv_zero,afV]
  rw[D4 h0]at hg;rw[e,if_pos h0];have bz:eS Tryz.prog 27 [] []=some (bC 0,[],[],True):=AX;generalize (0:Rat)=z at *
  refine aa.enc Tryz.func93 rfl (λlv=>pG lv _ _ _ _) λ_=>aah ?_;refine aaa λK hK=>aaa λK1 hK1=>aar ?_;simp;refine ag.p 3 9 hg ?_;simp
  repeat refine aj ?_
  apply hK1;refine abl (aaa λK1 hK1=>aar ?_);simp[bz]
  repeat refine aj ?_
  apply hK1;exact aaH (aM.LJ (κ:=0) (t:=4) (k:=2) (u:=5) ⟨rfl,rfl⟩ (by simp) (by simp[ai]) (by simp))
 have hne:=Nz h0;have hbx:=bM G (decide (x.num<0)) (aL x.num.natAbs) (bw x.den);have hby:=bM G (decide (y.num<0)) (aL y.num.natAbs) (bw y.den);have m1:=cB G (aL x.num.natAbs) (some (aG 4294967296 y.den)) (by rw[dJ];have:=hx.1;omega) (by show nl _<=_;have:=hy.2;omega);have m2:=cB G (some (aG 4294967296 x.den)) (aL y.num.natAbs) (by show nl _<=_;have:=hx.2;omega) (by rw[dJ];have:=hy.1;omega);rw[oQ]at hbx hby;simp only[jN,aR,cK,gy]at m1 m2;have e1:=bO x.num.natAbs y.den;have e2:=bO x.den y.num.natAbs;have mk:=kP G (decide (x.num<0) != decide (y.num<0)) (x.num.natAbs*y.den) (x.den*y.num.natAbs) (aeE (aeh x.den_pos (aeZ (Io h0)))) (by have:=hx.1;have:=hy.2;omega) (by have:=hx.2;have:=hy.1;omega);rw[<-Hi h0]at mk;rw[if_neg h0];generalize x/y=r at *
 refine aa.enc Tryz.func93 rfl (λlv=>pG lv _ _ _ _) λ_=>aah ?_;refine aaa λK hK=>acA 3 hg hne ?_;refine abd (by simp[hne]<;>omega) (aav (hK _ _ (aaa λK hK=>?_)));refine abx mixed (by kernel_rfl) rfl ?_;simp[j5];refine ag.p 3 9 hby ?_;simp[j5];refine ag.p 3 9 m1 ?_;simp[j5];refine ag.p 3 9 hbx ?_;simp[j5];refine ag.p 3 9 m2 ?_;simp[j5];refine ag.p 3 9 mk ?_;simp;refine⟨by kernel_rfl,?_⟩
 repeat refine aj ?_
 apply hK;exact aaH (aM.LJ (κ:=0) (t:=4) (k:=2) (u:=5) ⟨rfl,rfl⟩ (by simp) (by simp[ai]) (by simp))
theorem VE(G:List (List DV))(x:Rat):aa Tryz.prog G 162 [bC x] (bC (EH x)):=by
 have h:=II G (decide (x.num<0)) (aL x.num.natAbs) (bw x.den)
 have h1:x.num<0↔x<0:=by
  rw[<-Rat.not_le,<-Rat.num_nonneg];omega
 have e:pY false (aL x.num.natAbs) (bw x.den)=bC (EH x):=by
  unfold EH;split
  ·rename_i hn
   have:=h1.2 hn;show pY _ _ _=pY (decide ((-x).num<0)) (aL (-x).num.natAbs) (bw (-x).den);rw[Rat.neg_num,Int.natAbs_neg,Rat.neg_den,decide_eq_false (by omega)]
  ·rename_i hn
   have:¬x.num<0:=λh=>hn (h1.1 h)
   show pY _ _ _=pY (decide (x.num<0)) _ _;rw[decide_eq_false this]
 rw[<-e];exact h
theorem j8:eN x y<0↔x<y:=by unfold eN;(repeat' split)<;>simp_all
theorem mZ:0<eN x y↔y<x:=by
 unfold eN;split
 ·rename_i h;simp;exact λh'=>by grind
 ·split<;>simp_all
theorem I2(G:List (List DV))(x y:Rat)(hx:br x 10000000000)(hy:br y 10000000000):aa Tryz.prog G 24 [bC x,bC y] (bC (jz x y)):=by
 have hc:=mo G x y hx hy
 by_cases h:x<y
 ·have h':=j8.2 h;unfold jz;rw[if_pos h];generalize eN x y=n at *
  refine aa.enc Tryz.func24 rfl (λlv=>cg lv _ _ _) λ_=>aah ?_;refine aaa λK hK=>acA 3 hc h' ?_;refine aaX (by simp[h']<;>omega) (aah ?_);exact aaH (aM.num (κ:=0) (t:=4) (k:=2) ⟨rfl,rfl⟩ (by simp) (by simp[ai]))
 ·have h':¬eN x y<0:=λe=>h (j8.1 e)
  unfold jz;rw[if_neg h];generalize eN x y=n at *
  refine aa.enc Tryz.func24 rfl (λlv=>cg lv _ _ _) λ_=>aah ?_;refine aaa λK hK=>acA 3 hc h' ?_;refine abd (by simp[h']<;>omega) (aav (hK _ _ (aah ?_)));exact aaH (aM.num (κ:=0) (t:=4) (k:=2) ⟨rfl,rfl⟩ (by simp) (by simp[ai]))
theorem Kh(G:List (List DV))(x y:Rat)(hx:br x 10000000000)(hy:br y 10000000000):aa Tryz.prog G 25 [bC x,bC y] (bC (iJ x y)):=by
 have hc:=mo G x y hx hy
 by_cases h:x<y
 ·have h':=j8.2 h;unfold iJ;rw[if_pos h];generalize eN x y=n at *
  refine aa.enc Tryz.func25 rfl (λlv=>cg lv _ _ _) λ_=>aah ?_;refine aaa λK hK=>acA 3 hc h' ?_;refine aaX (by simp[h']<;>omega) (aah ?_);exact aaH (aM.num (κ:=0) (t:=4) (k:=2) ⟨rfl,rfl⟩ (by simp) (by simp[ai]))
 ·have h':¬eN x y<0:=λe=>h (j8.1 e)
  unfold iJ;rw[if_neg h];generalize eN x y=n at *
  refine aa.enc Tryz.func25 rfl (λlv=>cg lv _ _ _) λ_=>aah ?_;refine aaa λK hK=>acA 3 hc h' ?_;refine abd (by simp[h']<;>omega) (aav (hK _ _ (aah ?_)));exact aaH (aM.num (κ:=0) (t:=4) (k:=2) ⟨rfl,rfl⟩ (by simp) (by simp[ai]))
theorem R3(x:Rat):dO (sE (aL x.num.natAbs) (some (aG 4294967296 x.den)))=(aG 4294967296 (x.num.natAbs/x.den)):=by rw[OP,jN,aR,cK]
theorem KJ(G:List (List DV))(x:Rat)(away:Bool)(hx:br x 10000000000):aa Tryz.prog G 230 [bC x,.c (.d (.bool away))] (bC (kj x away)):=by
 have hb:=bM G (decide (x.num<0)) (aL x.num.natAbs) (bw x.den);rw[oQ]at hb;have hd:=jv G (aL x.num.natAbs) (some (aG 4294967296 x.den)) (k6 _) (ff _) (jg x.den_nz) (by rw[dJ];have:=hx.1;omega);have hq:=R3 x;have hr:dO (kL (aL x.num.natAbs) (some (aG 4294967296 x.den)))=(aG 4294967296 (x.num.natAbs%x.den)):=by rw[BP (k6 _),jN,aR,cK]
 have ho:=dX G 1 (by decide);have hl:nl (x.num.natAbs/x.den)<=10000000000:=Ju (dc (afq _ _)) hx.1;generalize sE (aL x.num.natAbs) (some (aG 4294967296 x.den))=q at *
 generalize kL (aL x.num.natAbs) (some (aG 4294967296 x.den))=r at *
 have hrl:0<(dO r).length↔x.num.natAbs%x.den≠0:=by
  rw[hr,List.length_pos_iff,Ne,cL (by decide)]
 have hqc:can 4294967296 (dO q):=by rw[hq];exact ff _
 have hqv:(val 4294967296 (dO q))=x.num.natAbs/x.den:=by rw[hq,cK]
 have hadd:=kI G q (some (aG 4294967296 1)) (by rw[hq];show nl _<=_;omega) (by show nl 1<=_;rw[eK];decide);rw[hqv,aR,cK]at hadd;have m1:=pM G (decide (x.num<0)) q (some (aG 4294967296 1)) hqc (ff _) (jg (by decide)) (by rw[hq];show nl _<_;omega) (by show nl 1<_;rw[eK];decide);have hl2:=mB (x.num.natAbs/x.den) 1;rw[eK]at hl2;have m2:=kP G (decide (x.num<0)) (x.num.natAbs/x.den+1) 1 (by decide) (by omega) (by rw[eK];decide);rw[hqv,aR,cK,vA]at m1;rw[vA]at m2;simp only[gy]at ho hadd hd;have hdt:=mX q r;simp only[gy]at hdt
 by_cases ha:away=true/\x.num.natAbs%x.den≠0
 ·have e:kj x away=((dh (decide (x.num<0)) (x.num.natAbs/x.den+1):Int):Rat):=by unfold kj;rw[if_pos ha]
  rw[e];obtain⟨rfl,ha2⟩:=ha;have hr1:=hrl.2 ha2;generalize ((dh (decide (x.num<0)) (x.num.natAbs/x.den+1):Int):Rat)=w at *
  refine aa.enc Tryz.func230 rfl (λlv=>cg lv _ _ _) λ_=>aah ?_;refine aaa λK hK=>?_;refine abx mixed (by kernel_rfl) rfl ?_;simp;refine ag.p 2 9 hb ?_;simp;refine ag.pure 2 9 hd hdt (by simp) (by simp) ?_;simp;refine⟨by kernel_rfl,?_⟩
  repeat refine aj ?_
  apply hK;refine aaa λK hK=>ace @Zf hr1 ?_;refine aaX (by simp[hr1]<;>omega) (aar ?_);simp;refine ag.p 2 9 ho ?_;simp;refine ag.p 2 9 hadd ?_;simp
  repeat refine aj ?_
  apply hK;refine aaa λK hK=>?_;refine abx mixed (by kernel_rfl) rfl ?_;simp;refine ag.p 2 9 ho ?_;simp;refine ag.p 2 9 m2 ?_;simp;refine⟨by kernel_rfl,?_⟩
  repeat refine aj ?_
  apply hK;exact aaH (aM.num (κ:=0) (t:=4) (k:=1) ⟨rfl,rfl⟩ (by simp) (by simp[ai]))
 ·have e:kj x away=((dh (decide (x.num<0)) (x.num.natAbs/x.den):Int):Rat):=by unfold kj;rw[if_neg ha,aeI]
  rw[e];have ha':¬(away=true/\0<(dO r).length):=λh=>ha ⟨h.1,hrl.1 h.2⟩
  generalize ((dh (decide (x.num<0)) (x.num.natAbs/x.den):Int):Rat)=w at *
  refine aa.enc Tryz.func230 rfl (λlv=>cg lv _ _ _) λ_=>aah ?_;refine aaa λK hK=>?_;refine abx mixed (by kernel_rfl) rfl ?_;simp;refine ag.p 2 9 hb ?_;simp;refine ag.pure 2 9 hd hdt (by simp) (by simp) ?_;simp;refine⟨by kernel_rfl,?_⟩
  repeat refine aj ?_
  apply hK
  cases away with
  |false=>
   refine aaa λK hK=>aah ?_;refine aba (aav (hK _ _ (aaa λK hK=>?_)));refine abx mixed (by kernel_rfl) rfl ?_;simp;refine ag.p 2 9 ho ?_;simp;refine ag.p 2 9 m1 ?_;simp;refine⟨by kernel_rfl,?_⟩
   repeat refine aj ?_
   apply hK;exact aaH (aM.num (κ:=0) (t:=4) (k:=1) ⟨rfl,rfl⟩ (by simp) (by simp[ai]))
  |true=>
   have hr1:¬0<(dO r).length:=λh=>ha' ⟨rfl,h⟩
   refine aaa λK hK=>ace @Zf hr1 ?_;refine abd (by simp[hr1]<;>omega) (aav (hK _ _ (aaa λK hK=>?_)));refine abx mixed (by kernel_rfl) rfl ?_;simp;refine ag.p 2 9 ho ?_;simp;refine ag.p 2 9 m1 ?_;simp;refine⟨by kernel_rfl,?_⟩
   repeat refine aj ?_
   apply hK;exact aaH (aM.num (κ:=0) (t:=4) (k:=1) ⟨rfl,rfl⟩ (by simp) (by simp[ai]))
theorem Wv(b:Int):1<=yQ b/\yQ b<=4000:=by unfold yQ;omega
theorem GU(G:List (List DV))(b:Int):aa Tryz.prog G 229 [.c (.d (.int .i64 b))] (.c (.d (.int .i64 (yQ b)))):=by
 have e1:(List.foldl (λa b:Int=>if a<b then b else a) b [1])=max b 1:=by simp only[List.foldl];split<;>omega
 have e2:(List.foldl (λa b:Int=>if b<a then b else a) (max b 1) [4000])=yQ b:=by unfold yQ;simp only[List.foldl];split<;>omega
 refine aa.en Tryz.func229 rfl λ_=>aah ?_;refine aaF λK hK=>?_;simp[dF,e1,e2,-List.foldl_cons,-List.foldl_nil]
 repeat refine aj ?_
 apply hK;exact abe (aN.rt rfl 2 (by simp))
theorem EO(G:List (List DV))(x:Rat)(bits:Int)(away:Bool)(hx:br x 10000):aa Tryz.prog G 206 [bC x,.c (.d (.int .i64 bits)),.c (.d (.bool away))] (bC (EW x bits away)):=by
 have hg:=fK G (decide (x.num<0)) (aL x.num.natAbs) (bw x.den)
 by_cases h0:x=0
 ·have e:EW x bits away=x:=if_pos h0;rw[D4 h0]at hg;rw[e];refine aa.enc Tryz.func206 rfl (λlv=>cg lv _ _ _) λ_=>aah ?_;refine aaa λK hK=>acH 2 hg ?_;refine abl (aah ?_);exact aaH (aM.num (κ:=0) (t:=6) (k:=1) ⟨rfl,rfl⟩ (by simp) (by simp[ai]))
 have hne:=Nz h0;have hl:=RG G x h0 (au hx (by omega));have hlr:=Pe h0 hx;have hi:=GU G bits;obtain⟨b1,b2⟩:=Wv bits;have e:EW x bits away=gp (kj (gp x (-(yb x-yQ bits+1))) away) (yb x-yQ bits+1):=if_neg h0;rw[e];generalize yb x=l at *
 generalize yQ bits=b at *
 have w1:IntKind.i64.wrap (l-b)=l-b:=bB (by omega) (by omega);obtain⟨k,hk,k1,k2⟩:∃k,l-b+1=k/\-325000<=k/\k<=325000:=⟨_,rfl,by omega,by omega⟩
 rw[hk];have w2:IntKind.i64.wrap k=k:=bB (by omega) (by omega);have w3:IntKind.i64.wrap (-k) = -k:=bB (by omega) (by omega);have z1:=KS hx (-k);have z2:=L2 z1 away;have s1:=wq G x (-k) (au hx (by omega)) (by omega) (by omega);have s2:=KJ G (gp x (-k)) away (au z1 (by omega));have s3:=wq G (kj (gp x (-k)) away) k (au z2 (by omega)) (by omega) (by omega);generalize gp (kj (gp x (-k)) away) k=r at *
 generalize kj (gp x (-k)) away=u at *
 generalize gp x (-k)=v at *
 refine aa.enc Tryz.func206 rfl (λlv=>cg lv _ _ _) λ_=>aah ?_;refine aaa λK hK=>acA 2 hg hne ?_;refine abd (by simp[hne]<;>omega) (aav (hK _ _ (aaa λK hK=>aar ?_)));simp;refine ag.p 2 9 hl ?_;simp;refine ag.p 2 9 hi ?_;simp[w1,hk,w2]
 repeat refine aj ?_
 apply hK;refine aaa λK hK=>aar ?_;simp[w3];refine ag.p 2 9 s1 ?_;simp[w3];refine ag.p 2 9 s2 ?_;simp;refine ag.p 2 9 s3 ?_;simp
 repeat refine aj ?_
 apply hK;exact aaH (aM.num (κ:=0) (t:=6) (k:=1) ⟨rfl,rfl⟩ (by simp) (by simp[ai]))
theorem EC(G:List (List DV))(x:Rat)(bits:Int)(hx:br x 10000):aa Tryz.prog G 163 [bC x,.c (.d (.int .i64 bits))] (bC (zG x bits)):=by
 have h:aa Tryz.prog G 206 [bC x,.c (.d (.int .i64 bits)),.c (.d (.bool (decide (x.num<0))))] (bC (zG x bits)):=EO G x bits (decide (x.num<0)) hx;generalize zG x bits=r at *
 refine aa.enc Tryz.func163 rfl (λlv=>cg lv _ _ _) λ_=>aah ?_;refine acH 2 h ?_;exact aaH (aM.num (κ:=0) (t:=4) (k:=1) ⟨rfl,rfl⟩ (by simp) (by simp[ai]))
theorem Qm(G:List (List DV))(x:Rat)(bits:Int)(hx:br x 10000):aa Tryz.prog G 164 [bC x,.c (.d (.int .i64 bits))] (bC (U6 x bits)):=by
 have h:aa Tryz.prog G 206 [bC x,.c (.d (.int .i64 bits)),.c (.d (.bool (!decide (x.num<0))))] (bC (U6 x bits)):=EO G x bits (!decide (x.num<0)) hx;generalize U6 x bits=r at *
 refine aa.enc Tryz.func164 rfl (λlv=>cg lv _ _ _) λ_=>aaa λK hK=>aar ?_;simp
 repeat refine aj ?_
 apply hK;refine aaa λK hK=>aar ?_;simp;refine ag.p 2 9 h ?_;simp
 repeat refine aj ?_
 apply hK;exact aaH (aM.num (κ:=0) (t:=4) (k:=1) ⟨rfl,rfl⟩ (by simp) (by simp[ai]))
theorem mL{a:Nat}(h:nl a<=L)(n:Nat):nl (a^n)<=n*L+1:=by
 induction n with
 |zero=>rw[Nat.pow_zero,eK];omega
 |succ n ih=>
  rw[adR];have:=bO (a^n) a;rw[agd];omega
theorem RB(x:Rat)(n:Nat):dh (decide (x.num<0)&&decide (n%2=1)) (x.num.natAbs^n)=x.num^n:=by
 induction n with
 |zero=>simp[dh]
 |succ n ih=>
  rw[Int.pow_succ,<-ih,adR];have e:x.num=dh (decide (x.num<0)) x.num.natAbs:=(mC x).symm
  have e2:(decide (x.num<0)&&decide ((n+1)%2=1))=((decide (x.num<0)&&decide (n%2=1)) != decide (x.num<0)):=by
   by_cases hx:x.num<0
   ·rw[decide_eq_true hx]
    by_cases h2:n%2=1
    ·rw[decide_eq_true h2,decide_eq_false (show ¬(n+1)%2=1 by omega)];rfl
    ·rw[decide_eq_false h2,decide_eq_true (show(n+1)%2=1 by omega)];rfl
   ·rw[decide_eq_false hx];rfl
  rw[e2,Cx,<-e]
theorem OF(x:Rat)(n:Nat):x^n=mkRat (dh (decide (x.num<0)&&decide (n%2=1)) (x.num.natAbs^n)) (x.den^n):=by
 rw[RB]
 induction n with
 |zero=>rw[Rat.pow_zero,Int.pow_zero,Nat.pow_zero];rfl
 |succ n ih=>
  have e:x=mkRat x.num x.den:=(agB x).symm;have e2:x^n*x=x^n*mkRat x.num x.den:=by rw[<-e]
  rw[afE,e2,ih,Rat.mkRat_mul_mkRat,Int.pow_succ,adR]
theorem qm(h:br x L)(n:Nat):br (x^n) (n*L+1):=by
 rw[OF];exact hJ _ (aeE (aeb x.den_pos)) (mL h.1 n) (mL h.2 n)
theorem LU(G:List (List DV))(x:Rat)(n:Nat)(hn:n<=64)(hx:br x 1000000000):aa Tryz.prog G 49 [bC x,.c (.d (.int .i64 n))] (.tup [bC (x^n),.c (.d (.int .i64 0))]):=by
 have hof:=dX G 1 (by decide);have hb:=bM G (decide (x.num<0)) (aL x.num.natAbs) (bw x.den);rw[oQ]at hb;have p1:=λi=>mL hx.1 i
 have p2:=λi=>mL hx.2 i
 have m1:=λi (hi:i<=64)=>cB G (some (aG 4294967296 (x.num.natAbs^i))) (aL x.num.natAbs) (by have:=p1 i;have:i*1000000000<=64*1000000000:=adJ _ hi;show nl _<=_;omega) (by rw[dJ];have:=hx.1;omega)
 have m2:=λi (hi:i<=64)=>cB G (some (aG 4294967296 (x.den^i))) (some (aG 4294967296 x.den)) (by have:=p2 i;have:i*1000000000<=64*1000000000:=adJ _ hi;show nl _<=_;omega) (by have:=hx.2;show nl _<=_;omega)
 have mk:=kP G (decide (x.num<0)&&decide (n%2=1)) (x.num.natAbs^n) (x.den^n) (aeE (aeb x.den_pos)) (by have:=p1 n;have:n*1000000000<=64*1000000000:=adJ _ hn;omega) (by have:=p2 n;have:n*1000000000<=64*1000000000:=adJ _ hn;omega);rw[<-OF]at mk;simp only[jN,aR,cK,gy]at hof m1 m2;simp only[<-adR]at m1 m2;have h1:¬(n:Int) < -64:=by omega
 have h2:¬64<(n:Int):=by omega
 have h3:¬(n:Int)<0:=by omega
 have h4:((n:Int).tmod 2=1)=(n%2=1):=by
  rw[aep (by omega)];apply propext;omega
 generalize x^n=r at *
 refine aa.enc Tryz.func49 rfl (λlv=>pG lv _ _ _ _) λ_=>aah ?_;refine aaa λK hK=>ace h1 h2 ?_;refine aba (aav (hK _ _ (aaa λK hK=>abf h3 ?_)));refine abd (by simp[h3]<;>omega) (aav (hK _ _ (aaF λK hK=>?_)));simp;refine ag.p 3 9 hof ?_;simp;refine ag.p 3 9 hof ?_;simp
 repeat refine aj ?_
 apply hK;refine aaa λK hK=>aah ?_;refine aaE ?_
 refine abr (λ(i:Nat)=>⟨aU [(1,.c (.d (.int .i64 n))),(2,.c (.ptr 0 0)),(4,.c (.ptr 1 0)),(8,.c (nC (some (aG 4294967296 (x.num.natAbs^i))))),(9,.c (nC (some (aG 4294967296 (x.den^i))))),(37,.c (.d (.int .i64 n))),(38,.c (.d (.int .i64 i)))],
  az (az (λ_=>.hole) 0 (.cells true false 27 [.d (.bool (decide (x.num<0))),nC (aL x.num.natAbs),nC (bw x.den)])) 1 (.cells true false 27 [.d (.bool false),.d .nilsl,.d .nilsl])⟩) 10
  (λi=>i<=n) (λi=>n-i) 0 (Le.eY _) (aa2 _) ?_
 rintro i hi
 try simp only at hi ⊢
 refine aah ?_;refine aaa λK2 hK2=>?_
 by_cases hlt:i<n
 ·have hlt':(i:Int)<(n:Int):=by omega
  have f38:=bB (n:=(i:Int)+1) (by omega) (by omega);have c1:=m1 i (by omega);have c2:=m2 i (by omega);refine aaX (by simp[hlt']<;>omega) (aav ?_);simp
  repeat refine aj ?_
  apply hK2;refine aaa λK4 hK4=>aaE ?_;refine abx mixed (by kernel_rfl) rfl ?_;simp;refine ag.p 20 9 c1 ?_;simp;refine ag.p 20 9 hb ?_;simp;refine ag.p 20 9 c2 ?_;simp;refine⟨by kernel_rfl,?_⟩
  repeat refine aj ?_
  apply hK4;refine aar ?_;simp[f38];exact⟨i+1,Le.eY _,by omega,by omega⟩
 ·have hin:i=n:=by omega
  subst hin;refine aba (abn ?_);simp
  repeat refine aj ?_
  apply hK;refine aaa λK hK=>?_
  by_cases hng:x.num<0
  ·simp only[hng,decide_true,Bool.true_and]at mk;refine aar ?_;simp[hng,h4];refine ag.p 20 9 mk ?_;simp[ai]
   repeat refine aj ?_
   apply hK;exact aaH (aM.LJ (κ:=0) (t:=4) (k:=1) (u:=5) ⟨rfl,rfl⟩ (by simp) (by simp[ai]) (by simp))
  ·simp only[hng,decide_false,Bool.false_and]at mk;refine aar ?_;simp[hng,h4];refine ag.p 20 9 mk ?_;simp[ai]
   repeat refine aj ?_
   apply hK;exact aaH (aM.LJ (κ:=0) (t:=4) (k:=1) (u:=5) ⟨rfl,rfl⟩ (by simp) (by simp[ai]) (by simp))
abbrev jC(a:Iv):AV:=.agg [.d (.bool (decide (a.1.num<0))),nC (aL a.1.num.natAbs),nC (bw a.1.den),.d (.bool (decide (a.2.num<0))),nC (aL a.2.num.natAbs),nC (bw a.2.den)]
theorem SF(b p q b' p' q':CV):eS Tryz.prog 29 [0,1] [.agg [b,p,q],.agg [b',p',q']]=some (.agg [b,p,q,b',p',q'],[],[],True):=by kernel_rfl
theorem TG:eS Tryz.prog 29 [] []=some (jC (0,0),[],[],True):=by kernel_rfl
theorem Im(b p q b' p' q':CV):gA Tryz.prog 29 [b,p,q,b',p',q']=some (.agg [b,p,q,b',p',q']):=by kernel_rfl
theorem ic(o:Option (List Nat)):nC o=.d (nD o):=by cases o<;>rfl
@[simp]theorem adA(g:Key->Key)(o:Option (List Nat)):(nC o).bY g=nC o:=by cases o<;>rfl
@[simp]theorem gC(lv:Key->LB)(b b':Bool)(p q p' q':Option (List Nat)):dI lv (.agg [.d (.bool b),nC p,nC q,.d (.bool b'),nC p',nC q'])=some (.agg [.d (.bool b),nC p,nC q,.d (.bool b'),nC p',nC q'],[]):=by
 simp only[ic];rfl
@[simp]theorem lA(lv:Key->LB)(b b':Bool)(p q p' q':Option (List Nat))(n:DV)(hn:n.pK=true):dI lv (.tup [.agg [.d (.bool b),nC p,nC q,.d (.bool b'),nC p',nC q'],.c (.d n)])=some (.tup [.agg [.d (.bool b),nC p,nC q,.d (.bool b'),nC p',nC q'],.c (.d n)],[]):=by
 simp only[ic];rfl
@[simp]theorem S5(b b':Bool)(p q p' q':Option (List Nat)):(AV.agg [.d (.bool b),nC p,nC q,.d (.bool b'),nC p',nC q']).pure=true:=by
 simp only[ic];rfl
@[simp]theorem YZ(b b':Bool)(p q p' q':Option (List Nat))(n:DV):(AV.tup [.agg [.d (.bool b),nC p,nC q,.d (.bool b'),nC p',nC q'],.c (.d n)]).pure=true:=by
 simp only[ic];rfl
theorem aM.iv(hr:c.P=Tryz.prog/\fn.results=#[.cell t 29])(ht:s.fr t=.c (.ptr k 0))
 (hk:s.lv k=.cells true false 29 [.d (.bool (decide (a.1.num<0))),nC (aL a.1.num.natAbs),nC (bw a.1.den),.d (.bool (decide (a.2.num<0))),nC (aL a.2.num.natAbs),nC (bw a.2.den)]):aM c fn (jC a) .ret s κ:=
 aM.cell hr.2 ht hk (by rw[hr.1,aeu,Im])
theorem aM.VN{y:CV}(hr:c.P=Tryz.prog/\fn.results=#[.cell t 29,.tmp u])(ht:s.fr t=.c (.ptr k 0))
 (hk:s.lv k=.cells true false 29 [.d (.bool (decide (a.1.num<0))),nC (aL a.1.num.natAbs),nC (bw a.1.den),.d (.bool (decide (a.2.num<0))),nC (aL a.2.num.natAbs),nC (bw a.2.den)]) (hy:s.fr u=.c y):aM c fn (.tup [jC a,.c y]) .ret s κ:=
 aM.rN hr.2 ht hk (by rw[hr.1,aeu,Im]) hy rfl rfl
def Iv.sz(a:Iv)(L:Nat):Prop:=br a.1 L/\br a.2 L
theorem Iv.TP{M:Nat}(h:a.sz L)(hm:L<=M):a.sz M:=⟨au h.1 hm,au h.2 hm⟩
theorem xL:eN x y<=0↔x<=y:=by
 rw[<-Rat.not_lt,<-mZ];omega
theorem JF:0<=eN x y↔y<=x:=by
 rw[<-Rat.not_lt,<-j8];omega
theorem ZV(G:List (List DV))(a:Iv):aa Tryz.prog G 9 [jC a] (bC a.1):=by
 obtain⟨a1,a2⟩:=a;refine aa.enc Tryz.func9 rfl (λlv=>cg lv _ _ _) λ_=>aah ?_;refine aah ?_;exact aaH (aM.num (κ:=0) (t:=2) (k:=1) ⟨rfl,rfl⟩ (by simp) (by simp[ai]))
theorem Zc(G:List (List DV))(a:Iv):aa Tryz.prog G 11 [jC a] (bC a.2):=by
 obtain⟨a1,a2⟩:=a;refine aa.enc Tryz.func11 rfl (λlv=>cg lv _ _ _) λ_=>aah ?_;refine aah ?_;exact aaH (aM.num (κ:=0) (t:=2) (k:=1) ⟨rfl,rfl⟩ (by simp) (by simp[ai]))
theorem Wt(G:List (List DV))(a:Iv)(x:Rat)(ha:a.sz 10000000000)(hx:br x 10000000000):aa Tryz.prog G 26 [jC a,bC x] (.c (.d (.bool (decide (a.has x))))):=by
 obtain⟨a1,a2⟩:=a;have c1:=mo G a1 x ha.1 hx;have c2:=mo G a2 x ha.2 hx;have e1:eN a1 x<=0↔a1<=x:=xL;have e2:0<=eN a2 x↔x<=a2:=JF
 by_cases g1:a1<=x
 ·have d1:=e1.2 g1
  by_cases g2:x<=a2
  ·have d2:=e2.2 g2;rw[show decide (Iv.has (a1,a2) x)=true from decide_eq_true ⟨g1,g2⟩];generalize eN a1 x=n1 at *
   generalize eN a2 x=n2 at *
   refine aa.en Tryz.func26 rfl λ_=>aah ?_;refine aaF λK hK=>?_;simp;refine ag.p 2 9 c1 ?_;simp[d1];refine ag.p 2 9 c2 ?_;simp[d2]
   repeat refine aj ?_
   apply hK;exact abe (aN.rt rfl 4 (by simp))
  ·have d2:¬0<=eN a2 x:=λh=>g2 (e2.1 h)
   rw[show decide (Iv.has (a1,a2) x)=false from decide_eq_false λh=>g2 h.2];generalize eN a1 x=n1 at *
   generalize eN a2 x=n2 at *
   refine aa.en Tryz.func26 rfl λ_=>aah ?_;refine aaF λK hK=>?_;simp;refine ag.p 2 9 c1 ?_;simp[d1];refine ag.p 2 9 c2 ?_;simp[d2]
   repeat refine aj ?_
   apply hK;exact abe (aN.rt rfl 4 (by simp))
 ·have d1:¬eN a1 x<=0:=λh=>g1 (e1.1 h)
  rw[show decide (Iv.has (a1,a2) x)=false from decide_eq_false λh=>g1 h.1];generalize eN a1 x=n1 at *
  refine aa.en Tryz.func26 rfl λ_=>aah ?_;refine acA 2 c1 d1 ?_;exact abe (aN.rt rfl 4 (by simp))
theorem WG(G:List (List DV))(a b:Iv)(ha:a.sz 10000000000)(hb:b.sz 10000000000):aa Tryz.prog G 123 [jC a,jC b] (jC (a.add b)):=by
 have c1:=lU G a.1 b.1 ha.1 hb.1;have c2:=lU G a.2 b.2 ha.2 hb.2;unfold Iv.add;generalize a.1+b.1=r1 at *
 generalize a.2+b.2=r2 at *
 refine aa.enc Tryz.func123 rfl (λlv=>gC lv _ _ _ _ _ _) λ_=>aah ?_;refine aaa λK hK=>?_;refine abx mixed (by kernel_rfl) rfl ?_;simp;refine ag.p 3 9 c1 ?_;simp;refine ag.p 3 9 c2 ?_;simp[SF];refine⟨by kernel_rfl,?_⟩
 repeat refine aj ?_
 apply hK;exact aaH (aM.iv (κ:=0) (t:=4) (k:=2) ⟨rfl,rfl⟩ (by simp) (by simp[ai]))
theorem Vs(G:List (List DV))(a b:Iv)(ha:a.sz 10000000000)(hb:b.sz 10000000000):aa Tryz.prog G 204 [jC a,jC b] (jC (a.sub b)):=by
 have c1:=xO G a.1 b.2 ha.1 hb.2;have c2:=xO G a.2 b.1 ha.2 hb.1;unfold Iv.sub;generalize a.1-b.2=r1 at *
 generalize a.2-b.1=r2 at *
 refine aa.enc Tryz.func204 rfl (λlv=>gC lv _ _ _ _ _ _) λ_=>aah ?_;refine aaa λK hK=>?_;refine abx mixed (by kernel_rfl) rfl ?_;simp;refine ag.p 3 9 c1 ?_;simp;refine ag.p 3 9 c2 ?_;simp[SF];refine⟨by kernel_rfl,?_⟩
 repeat refine aj ?_
 apply hK;exact aaH (aM.iv (κ:=0) (t:=4) (k:=2) ⟨rfl,rfl⟩ (by simp) (by simp[ai]))
theorem Rm(G:List (List DV))(a b:Iv)(ha:a.sz 10000000000)(hb:b.sz 10000000000):aa Tryz.prog G 276 [jC a,jC b] (jC (a.join b)):=by
 have c1:=Kh G a.1 b.1 ha.1 hb.1;have c2:=I2 G a.2 b.2 ha.2 hb.2;unfold Iv.join;generalize iJ a.1 b.1=r1 at *
 generalize jz a.2 b.2=r2 at *
 refine aa.enc Tryz.func276 rfl (λlv=>gC lv _ _ _ _ _ _) λ_=>aah ?_;refine aaa λK hK=>?_;refine abx mixed (by kernel_rfl) rfl ?_;simp;refine ag.p 3 9 c1 ?_;simp;refine ag.p 3 9 c2 ?_;simp[SF];refine⟨by kernel_rfl,?_⟩
 repeat refine aj ?_
 apply hK;exact aaH (aM.iv (κ:=0) (t:=4) (k:=2) ⟨rfl,rfl⟩ (by simp) (by simp[ai]))
theorem VZ(G:List (List DV))(a:Iv)(bits:Int)(ha:a.sz 10000):aa Tryz.prog G 125 [jC a,.c (.d (.int .i64 bits))] (jC (zG a.1 bits,U6 a.2 bits)):=by
 have c1:=EC G a.1 bits ha.1;have c2:=Qm G a.2 bits ha.2;generalize zG a.1 bits=r1 at *
 generalize U6 a.2 bits=r2 at *
 refine aa.enc Tryz.func125 rfl (λlv=>gC lv _ _ _ _ _ _) λ_=>aah ?_;refine aaa λK hK=>?_;refine abx mixed (by kernel_rfl) rfl ?_;simp;refine ag.p 2 9 c1 ?_;simp;refine ag.p 2 9 c2 ?_;simp[SF];refine⟨by kernel_rfl,?_⟩
 repeat refine aj ?_
 apply hK;exact aaH (aM.iv (κ:=0) (t:=4) (k:=1) ⟨rfl,rfl⟩ (by simp) (by simp[ai]))
theorem Cf(G:List (List DV))(a:Iv):aa Tryz.prog G 203 [jC a] (jC a.neg):=by
 have c1:=xN G a.2;have c2:=xN G a.1;unfold Iv.neg;generalize -a.2=r1 at *
 generalize -a.1=r2 at *
 refine aa.enc Tryz.func203 rfl (λlv=>gC lv _ _ _ _ _ _) λ_=>aah ?_;refine aaa λK hK=>?_;refine abx mixed (by kernel_rfl) rfl ?_;simp;refine ag.p 2 9 c1 ?_;simp;refine ag.p 2 9 c2 ?_;simp[SF];refine⟨by kernel_rfl,?_⟩
 repeat refine aj ?_
 apply hK;exact aaH (aM.iv (κ:=0) (t:=2) (k:=1) ⟨rfl,rfl⟩ (by simp) (by simp[ai]))
theorem gS(L:Nat)(h:1<=L):br 0 L:=⟨by show nl 0<=_;exact aa2 _,by show nl 1<=_;rw[eK];exact h⟩
def ov(x y:Rat):Iv:=if x<=y then(x,y)else(0,0)
theorem SZ(G:List (List DV))(x y:Rat)(hx:br x 10000000000)(hy:br y 10000000000):aa Tryz.prog G 35 [bC x,bC y] (.tup [jC (ov x y),.c (.d (.int .i64 (if x<=y then 0 else 7)))]):=by
 have c1:=mo G x y hx hy
 by_cases h:x<=y
 ·have h':¬0<eN x y:=by have:=xL.2 h;omega
  rw[if_pos h,show ov x y=(x,y) from if_pos h];generalize eN x y=n at *
  refine aa.enc Tryz.func35 rfl (λlv=>lA lv _ _ _ _ _ _ _ rfl) λ_=>aah ?_;refine aaa λK hK=>acA 3 c1 h' ?_;refine abd (by simp[h']<;>omega) (aav (hK _ _ (abf @SF ?_)));exact aaH (aM.VN (κ:=0) (t:=4) (k:=2) (u:=5) ⟨rfl,rfl⟩ (by simp) (by simp[ai]) (by simp))
 ·have h':0<eN x y:=mZ.2 (Rat.not_le.1 h);rw[if_neg h,show ov x y=(0,0) from if_neg h];generalize eN x y=n at *
  refine aa.enc Tryz.func35 rfl (λlv=>lA lv _ _ _ _ _ _ _ rfl) λ_=>aah ?_;refine aaa λK hK=>acA 3 c1 h' ?_;refine aaX (by simp[h']<;>omega) (abf TG ?_);exact aaH (aM.VN (κ:=0) (t:=4) (k:=2) (u:=5) ⟨rfl,rfl⟩ (by simp) (by simp[ai]) (by simp))
theorem T9(G:List (List DV))(x y:Rat)(hx:br x 10000000000)(hy:br y 10000000000):aa Tryz.prog G 103 [bC x,bC y] (bC (x/y)):=by
 have c1:=Km G x y hx hy;generalize x/y=r at *
 generalize (if y=0 then(8:Int)else 0)=n at *
 refine aa.enc Tryz.func103 rfl (λlv=>cg lv _ _ _) λ_=>aah ?_;refine acH 3 c1 ?_;refine abf @ai.eq_1 ?_;exact aaH (aM.num (κ:=0) (t:=4) (k:=2) ⟨rfl,rfl⟩ (by simp) (by simp[ai]))
def iQ(x:Rat):List DV:=[.bool (decide (x.num<0)),nD (aL x.num.natAbs),nD (bw x.den)]
abbrev jD(l:List Rat):AV:=.c (.d (.sl (l.map iQ)))
abbrev RS:AV:=.c (.d (.func (.func 27) [] []))
theorem za(l:List Rat)(lv:Key->LB):fX Tryz.prog 48 lv (jD l)=some (.c (.d (.int .i64 l.length)),[],[],True):=by
 simp[fX,jA,keyOf]
theorem HN(l:List Rat)(lv:Key->LB)(i:Nat)(x:Rat)(h:l[i]?=some x):aq Tryz.prog 48 lv (jD l) (.c (.d (.int .i64 (i:Int))))=some (.c (.d (.ptr (iQ x))),[],[],True):=by
 obtain⟨hi,e⟩:=List.getElem?_eq_some_iff.1 h;have hi':(i:Int)<(l.length:Int):=by omega
 simp[hi,e,iQ]
def lP(l:List Rat)(m:Rat):Rat:=l.foldl (λm x=>iJ x m) m
def lO(l:List Rat)(m:Rat):Rat:=l.foldl (λm x=>jz m x) m
theorem pZ(x y:Rat):iJ x y=iJ y x:=by unfold iJ;split<;>split<;>grind
theorem KQ(w x y z:Rat):(lP [x,y,z] w,lO [x,y,z] w)=tg w x y z:=by
 simp only[lP,lO,List.foldl,tg,pZ z,pZ y,pZ x]
theorem uT{m:Rat}(h:l[i]?=some x):lP (l.drop i) m=lP (l.drop (i+1)) (iJ x m):=by
 obtain⟨hi,e⟩:=List.getElem?_eq_some_iff.1 h;rw[adT hi,e];rfl
theorem uZ{m:Rat}(h:l[i]?=some x):lO (l.drop i) m=lO (l.drop (i+1)) (jz m x):=by
 obtain⟨hi,e⟩:=List.getElem?_eq_some_iff.1 h;rw[adT hi,e];rfl
theorem yF(G:List (List DV))(l:List Rat)(x0:Rat)(h0:l[0]?=some x0)(hn:l.length<=1000)(hs:∀x∈l,br x 10000000000):
 aa Tryz.prog G 67 [jD l,RS] (bC (lP (l.drop 1) x0)):=by
 have hl:0<l.length:=(List.getElem?_eq_some_iff.1 h0).1;have hl1:¬(l.length:Int)<1:=by omega
 have e0:l[0]'hl=x0:=(List.getElem?_eq_some_iff.1 h0).2;generalize hR:lP (l.drop 1) x0=R;refine aa.enc Tryz.func67 rfl (λlv=>cg lv _ _ _) λ_=>aah ?_;refine aaa λK hK=>ace @za hl1 ?_;refine abd (by simp[hl1]<;>omega) (aav ?_);simp
 repeat refine aj ?_
 apply hK;refine aaa λK hK=>aar ?_;simp[h0,hl,e0,iQ,<-ic,ai]
 repeat refine aj ?_
 apply hK;refine aaa λK hK=>aaa λK1 hK1=>aar ?_;simp
 repeat refine aj ?_
 apply hK1;refine aaE ?_
 refine abr (λ(p:Nat×Rat)=>⟨aU [(0,jD l),(1,RS),(4,.c (.ptr 0 0)),(5,.c (.ptr 1 0)),(6,.c (.d (.int .i64 (p.1:Int))))],
  az (az (λ_=>.hole) 0 (.cells true false 27 [.d (.bool false),.d .nilsl,.d .nilsl])) 1 (.cells true false 27 [.d (.bool (decide (p.2.num<0))),nC (aL p.2.num.natAbs),nC (bw p.2.den)])⟩) 2
  (λp=>1<=p.1/\p.1<=l.length/\br p.2 10000000000/\lP (l.drop p.1) p.2=R) (λp=>l.length-p.1) (1,x0) (Le.eY _) ⟨bh _,hl,hs _ (afg h0),hR⟩ ?_
 rintro⟨i,m⟩ ⟨h1,h2,h3,h4⟩;simp only at h1 h2 h3 h4;refine aaa λK2 hK2=>abf @za ?_
 by_cases hlt:i<l.length
 ·have hlt':(i:Int)<(l.length:Int):=by omega
  obtain⟨x,hx⟩:∃x,l[i]?=some x:=⟨_,fy hlt⟩
  have hxs:=hs _ (afg hx);have hix:=λlv=>HN l lv i x hx
  have hc:=mo G x m hxs h3;have f12:=bB (n:=(i:Int)+1) (by omega) (by omega);refine aaX (by simp[hlt']<;>omega) (aav (hK2 _ _ (aaa λK4 hK4=>aaE (aaa λK5 hK5=>?_))));refine abx mixed (by kernel_rfl) rfl ?_;simp[hix,iQ,<-ic];refine ag.p 2 9 hc ?_;simp[hix,iQ,<-ic];refine⟨by kernel_rfl,?_⟩
  repeat refine aj ?_
  apply hK5
  by_cases hm:x<m
  ·have hm':=j8.2 hm;refine aaX (by simp[hm']<;>omega) (aar ?_);simp[hix,iQ,<-ic]
   repeat refine aj ?_
   apply hK4;refine aar ?_;simp[f12];refine⟨i+1,x,Le.eY _ (by simp[ai]),⟨by omega,by omega,hxs,?_⟩,by omega⟩;rw[<-h4,uT hx,show iJ x m=x from if_pos hm]
  ·have hm':¬eN x m<0:=λh=>hm (j8.1 h)
   refine abd (by simp[hm']<;>omega) (aav (hK4 _ _ (aar ?_)));simp[f12];refine⟨i+1,m,Le.eY _,⟨by omega,by omega,h3,?_⟩,by omega⟩;rw[<-h4,uT hx,show iJ x m=m from if_neg hm]
 ·have hlt':¬(i:Int)<(l.length:Int):=by omega
  have hd:l.drop i=[]:=aeH (by omega);rw[hd]at h4;have h5:m=R:=h4;refine abd (by simp[hlt']<;>omega) (abn (hK _ _ (aah ?_)));subst h5;exact aaH (aM.num (κ:=0) (t:=4) (k:=0) ⟨rfl,rfl⟩ (by simp) (by simp[ai]))
theorem zZ(G:List (List DV))(l:List Rat)(x0:Rat)(h0:l[0]?=some x0)(hn:l.length<=1000)(hs:∀x∈l,br x 10000000000):
 aa Tryz.prog G 68 [jD l,RS] (bC (lO (l.drop 1) x0)):=by
 have hl:0<l.length:=(List.getElem?_eq_some_iff.1 h0).1;have hl1:¬(l.length:Int)<1:=by omega
 have e0:l[0]'hl=x0:=(List.getElem?_eq_some_iff.1 h0).2;generalize hR:lO (l.drop 1) x0=R;refine aa.enc Tryz.func68 rfl (λlv=>cg lv _ _ _) λ_=>aah ?_;refine aaa λK hK=>ace @za hl1 ?_;refine abd (by simp[hl1]<;>omega) (aav (hK _ _ (aaF λK hK=>?_)));simp[h0,hl,e0,iQ,<-ic,ai]
 repeat refine aj ?_
 apply hK;refine aaa λK hK=>aaa λK1 hK1=>aar ?_;simp
 repeat refine aj ?_
 apply hK1;refine aaE ?_
 refine abr (λ(p:Nat×Rat)=>⟨aU [(0,jD l),(1,RS),(4,.c (.ptr 0 0)),(5,.c (.ptr 1 0)),(6,.c (.d (.int .i64 (p.1:Int))))],
  az (az (λ_=>.hole) 0 (.cells true false 27 [.d (.bool false),.d .nilsl,.d .nilsl])) 1 (.cells true false 27 [.d (.bool (decide (p.2.num<0))),nC (aL p.2.num.natAbs),nC (bw p.2.den)])⟩) 2
  (λp=>1<=p.1/\p.1<=l.length/\br p.2 10000000000/\lO (l.drop p.1) p.2=R) (λp=>l.length-p.1) (1,x0) (Le.eY _) ⟨bh _,hl,hs _ (afg h0),hR⟩ ?_
 rintro⟨i,m⟩ ⟨h1,h2,h3,h4⟩;simp only at h1 h2 h3 h4;refine aaa λK2 hK2=>abf @za ?_
 by_cases hlt:i<l.length
 ·have hlt':(i:Int)<(l.length:Int):=by omega
  obtain⟨x,hx⟩:∃x,l[i]?=some x:=⟨_,fy hlt⟩
  have hxs:=hs _ (afg hx);have hix:=λlv=>HN l lv i x hx
  have hc:=mo G x m hxs h3;have f12:=bB (n:=(i:Int)+1) (by omega) (by omega);refine aaX (by simp[hlt']<;>omega) (aav (hK2 _ _ (aaa λK4 hK4=>aaE (aaa λK5 hK5=>?_))));refine abx mixed (by kernel_rfl) rfl ?_;simp[hix,iQ,<-ic];refine ag.p 2 9 hc ?_;simp[hix,iQ,<-ic];refine⟨by kernel_rfl,?_⟩
  repeat refine aj ?_
  apply hK5
  by_cases hm:m<x
  ·have hm':=mZ.2 hm;refine aaX (by simp[hm']<;>omega) (aar ?_);simp[hix,iQ,<-ic]
   repeat refine aj ?_
   apply hK4;refine aar ?_;simp[f12];refine⟨i+1,x,Le.eY _ (by simp[ai]),⟨by omega,by omega,hxs,?_⟩,by omega⟩;rw[<-h4,uZ hx,show jz m x=x from if_pos hm]
  ·have hm':¬0<eN x m:=λh=>hm (mZ.1 h)
   refine abd (by simp[hm']<;>omega) (aav (hK4 _ _ (aar ?_)));simp[f12];refine⟨i+1,m,Le.eY _,⟨by omega,by omega,h3,?_⟩,by omega⟩;rw[<-h4,uZ hx,show jz m x=m from if_neg hm]
 ·have hlt':¬(i:Int)<(l.length:Int):=by omega
  have hd:l.drop i=[]:=aeH (by omega);rw[hd]at h4;have h5:m=R:=h4;refine abd (by simp[hlt']<;>omega) (abn (hK _ _ (aah ?_)));subst h5;exact aaH (aM.num (κ:=0) (t:=4) (k:=0) ⟨rfl,rfl⟩ (by simp) (by simp[ai]))
theorem Rb(G:List (List DV))(w x y z:Rat)(h1:br w 10000000000)(h2:br x 10000000000)(h3:br y 10000000000)(h4:br z 10000000000):
 aa Tryz.prog G 28 [jD [w,x,y,z]] (jC (tg w x y z)):=by
 have hs:∀u∈[w,x,y,z],br u 10000000000:=by
  intro u hu;simp only[aY,cy,or_false]at hu;rcases hu with rfl|rfl|rfl|rfl<;>assumption
 have c1:=yF G [w,x,y,z] w rfl (by simp) hs;have c2:=zZ G [w,x,y,z] w rfl (by simp) hs;rw[<-KQ];change aa _ _ _ _ (bC (lP [x,y,z] w))at c1;change aa _ _ _ _ (bC (lO [x,y,z] w))at c2;generalize lP [x,y,z] w=r1 at *
 generalize lO [x,y,z] w=r2 at *
 generalize [w,x,y,z]=l at *
 refine aa.enc Tryz.func28 rfl (λlv=>gC lv _ _ _ _ _ _) λ_=>aah ?_;refine aaF λK hK=>?_;simp;refine ag.p 1 9 c1 ?_;simp;refine ag.p 1 9 c2 ?_;simp[SF]
 repeat refine aj ?_
 apply hK;exact aaH (aM.iv (κ:=0) (t:=2) (k:=0) ⟨rfl,rfl⟩ (by simp) (by simp[ai]))
theorem ag.Vp{f:FuncId}{lv:Key->LB}{K:AV->List (Key×LB)->List Key->Nat->Prop}(κ' kh κb:Key){T:TypeId}{w z:Rat}{X:AV}
 (hk:lv κb=.cells true false T (((iQ w++iQ x)++(iQ y++iQ z)).map CV.d)) (hc:aa c.P c.G f [jD [w,x,y,z]] X) (hX:X.pure=true) (hh:lv kh=.hole) (hkh:kh≠κb)
 (hK:K X [(κb,.cells true true T (((iQ w++iQ x)++(iQ y++iQ z)).map CV.d))] [kh] κ'):ag c f [.c (.aH κb 0 4 3)] lv K:=by
 refine ag.Ya κ' kh κb T _ [kh] hc hX hk hh hkh rfl (λi p q=>?_) (λa ha j hj=>?_) (by simp) hK
 ·have hi:i=0:=by simp at p;omega
  subst hi;right;simp only[aeQ,eZ,gu,aA];rfl
 ·simp only[afe]at ha;subst ha;simp only[wm,jb,aY,aA]at hj;rcases hj with rfl|hj
  ·exact .inr rfl
  ·simp only[afn]at hj;obtain⟨y,hy,hj⟩:=hj;simp only[ae7]at hy;obtain⟨z,_,rfl⟩:=hy
   cases hj
theorem PN(a b c d e f g h i j k l:CV):kE (λi=>some (i*3,3)) (ja 4 [.d (.bool false),.d .nilsl,.d .nilsl]) [(0,.agg [a,b,c]),(1,.agg [d,e,f]),(2,.agg [g,h,i]),(3,.agg [j,k,l])]=some [a,b,c,d,e,f,g,h,i,j,k,l]:=by kernel_rfl
theorem JP(x:Rat):0<=gP (decide (x.num<0)) (aL x.num.natAbs)↔0<=x:=by
 unfold gP;rw[jO,<-Rat.num_nonneg]
 by_cases h0:x.num.natAbs=0
 ·rw[if_pos ((cL (by decide)).2 h0)];omega
 ·rw[if_neg (jg h0)]
  by_cases hn:x.num<0
  ·rw[decide_eq_true hn,if_pos rfl];omega
  ·rw[decide_eq_false hn,if_neg (by decide)];omega
theorem Qz(x:Rat):gP (decide (x.num<0)) (aL x.num.natAbs)<=0↔x<=0:=by
 have h2:0<=-x↔x<=0:=by constructor<;>intro h<;>grind
 unfold gP;rw[jO,<-h2,<-Rat.num_nonneg,Rat.neg_num]
 by_cases h0:x.num.natAbs=0
 ·rw[if_pos ((cL (by decide)).2 h0)];omega
 ·rw[if_neg (jg h0)]
  by_cases hn:x.num<0
  ·rw[decide_eq_true hn,if_pos rfl];omega
  ·rw[decide_eq_false hn,if_neg (by decide)];omega
theorem mu(G:List (List DV))(a b:Iv)(ha:a.sz 10000000)(hb:b.sz 10000000)(la:a.1<=a.2)(lb:b.1<=b.2)
 (r1:a.1<0->a.2<=0->aa Tryz.prog G 202 [jC a.neg,jC b] (jC (a.neg.mul b)))
 (r2:¬(a.1<0/\a.2<=0)->b.1<0->b.2<=0->aa Tryz.prog G 202 [jC a,jC b.neg] (jC (a.mul b.neg))) :
 aa Tryz.prog G 202 [jC a,jC b] (jC (a.mul b)):=by
 obtain⟨a1,a2⟩:=a;obtain⟨b1,b2⟩:=b;have sz:∀{x:Rat},br x 10000000->br x 10000000000:=λh=>au h (by decide)
 have g1:=fK G (decide (a1.num<0)) (aL a1.num.natAbs) (bw a1.den);have g2:=fK G (decide (a2.num<0)) (aL a2.num.natAbs) (bw a2.den);have g3:=fK G (decide (b1.num<0)) (aL b1.num.natAbs) (bw b1.den);have g4:=fK G (decide (b2.num<0)) (aL b2.num.natAbs) (bw b2.den);have p1:=JP a1;have p2:=Qz a2;have p3:=JP b1;have p4:=Qz b2
 by_cases c0:0<=a1/\0<=b1
 ·have m1:=iE G a1 b1 (sz ha.1) (sz hb.1);have m2:=iE G a2 b2 (sz ha.2) (sz hb.2);rw[Iv.mul_pos la lb c0.1 c0.2];have q1:=p1.2 c0.1;have q3:=p3.2 c0.2;generalize gP (decide (a1.num<0)) (aL a1.num.natAbs)=s1 at *
  generalize gP (decide (b1.num<0)) (aL b1.num.natAbs)=s3 at *
  simp only at m1 m2 ⊢;generalize a1*b1=u1 at *
  generalize a2*b2=u2 at *
  refine aa.enc Tryz.func202 rfl (λlv=>gC lv _ _ _ _ _ _) λ_=>aah ?_;refine aaa λK hK=>aaE (aaF λK1 hK1=>?_)
  simp;refine ag.p 3 9 g1 ?_;simp[q1];refine ag.p 3 9 g3 ?_;simp[q3]
  repeat refine aj ?_
  apply hK1;refine abl (aaa λK1 hK1=>?_);refine abx mixed (by kernel_rfl) rfl ?_;simp;refine ag.p 3 9 m1 ?_;simp;refine ag.p 3 9 m2 ?_;simp[SF];refine⟨by kernel_rfl,?_⟩
  repeat refine aj ?_
  apply hK1;exact aaH (aM.iv (κ:=0) (t:=4) (k:=2) ⟨rfl,rfl⟩ (by simp) (by simp[ai]))
 by_cases c1:a1<0/\a2<=0
 ·have m1:=r1 c1.1 c1.2;have n1:=Cf G (a1,a2);have n2:=Cf G (Iv.mul (Iv.neg (a1,a2)) (b1,b2));rw[Iv.MU]at n2;have q1:¬0<=gP (decide (a1.num<0)) (aL a1.num.natAbs):=λh=>absurd (p1.1 h) (Rat.not_le.2 c1.1)
  have q2:=p2.2 c1.2;have q1':gP (decide (a1.num<0)) (aL a1.num.natAbs)<0:=by omega
  generalize gP (decide (a1.num<0)) (aL a1.num.natAbs)=s1 at *
  generalize gP (decide (a2.num<0)) (aL a2.num.natAbs)=s2 at *
  generalize Iv.mul (Iv.neg (a1,a2)) (b1,b2)=u at *
  generalize Iv.mul (a1,a2) (b1,b2)=v at *
  generalize Iv.neg (a1,a2)=na at *
  refine aa.enc Tryz.func202 rfl (λlv=>gC lv _ _ _ _ _ _) λ_=>aah ?_;refine aaa λK hK=>aaE (aaF λK1 hK1=>?_)
  simp;refine ag.p 3 9 g1 ?_;simp[q1]
  repeat refine aj ?_
  apply hK1;refine aba (aaF λK1 hK1=>?_);simp;refine ag.p 3 9 g1 ?_;simp[q1'];refine ag.p 3 9 g2 ?_;simp[q2]
  repeat refine aj ?_
  apply hK1;refine abl (aaa λK1 hK1=>?_);refine abx mixed (by kernel_rfl) rfl ?_;simp;refine ag.p 3 9 n1 ?_;simp;refine ag.p 3 9 m1 ?_;simp;refine ag.p 3 9 n2 ?_;simp;refine⟨by kernel_rfl,?_⟩
  repeat refine aj ?_
  apply hK1;exact aaH (aM.iv (κ:=0) (t:=4) (k:=2) ⟨rfl,rfl⟩ (by simp) (by simp[ai]))
 have q1n:¬0<=a1->a1<0:=λh=>Rat.not_le.1 h
 have s1n:a1<0->gP (decide (a1.num<0)) (aL a1.num.natAbs)<0:=λh=>by
  have:¬0<=gP (decide (a1.num<0)) (aL a1.num.natAbs):=λh'=>absurd (p1.1 h') (Rat.not_le.2 h)
  omega
 have s3n:b1<0->gP (decide (b1.num<0)) (aL b1.num.natAbs)<0:=λh=>by
  have:¬0<=gP (decide (b1.num<0)) (aL b1.num.natAbs):=λh'=>absurd (p3.1 h') (Rat.not_le.2 h)
  omega
 by_cases c2:b1<0/\b2<=0
 ·have m1:=r2 c1 c2.1 c2.2;have n1:=Cf G (b1,b2);have n2:=Cf G (Iv.mul (a1,a2) (Iv.neg (b1,b2)));rw[Iv.ND]at n2;have q3':=s3n c2.1;have q3:¬0<=gP (decide (b1.num<0)) (aL b1.num.natAbs):=by omega
  have q4:=p4.2 c2.2
  by_cases h1:0<=a1
  ·have q1:=p1.2 h1;have q1':¬gP (decide (a1.num<0)) (aL a1.num.natAbs)<0:=by omega
   generalize gP (decide (a1.num<0)) (aL a1.num.natAbs)=s1 at *
   generalize gP (decide (a2.num<0)) (aL a2.num.natAbs)=s2 at *
   generalize gP (decide (b1.num<0)) (aL b1.num.natAbs)=s3 at *
   generalize gP (decide (b2.num<0)) (aL b2.num.natAbs)=s4 at *
   generalize Iv.mul (a1,a2) (Iv.neg (b1,b2))=u at *
   generalize Iv.mul (a1,a2) (b1,b2)=v at *
   generalize Iv.neg (b1,b2)=nb at *
   refine aa.enc Tryz.func202 rfl (λlv=>gC lv _ _ _ _ _ _) λ_=>aah ?_;refine aaa λK hK=>aaE (aaF λK1 hK1=>?_)
   simp;refine ag.p 3 9 g1 ?_;simp[q1];refine ag.p 3 9 g3 ?_;simp[q3]
   repeat refine aj ?_
   apply hK1;refine aba (acA 3 g1 q1' ?_);refine aba (aaF λK1 hK1=>?_);simp;refine ag.p 3 9 g3 ?_;simp[q3'];refine ag.p 3 9 g4 ?_;simp[q4]
   repeat refine aj ?_
   apply hK1;refine abl (aaa λK1 hK1=>?_);refine abx mixed (by kernel_rfl) rfl ?_;simp;refine ag.p 3 9 n1 ?_;simp;refine ag.p 3 9 m1 ?_;simp;refine ag.p 3 9 n2 ?_;simp;refine⟨by kernel_rfl,?_⟩
   repeat refine aj ?_
   apply hK1;exact aaH (aM.iv (κ:=0) (t:=4) (k:=2) ⟨rfl,rfl⟩ (by simp) (by simp[ai]))
  ·have q1':=s1n (q1n h1);have q1:¬0<=gP (decide (a1.num<0)) (aL a1.num.natAbs):=by omega
   have q2:¬gP (decide (a2.num<0)) (aL a2.num.natAbs)<=0:=λh=>c1 ⟨q1n h1,p2.1 h⟩
   generalize gP (decide (a1.num<0)) (aL a1.num.natAbs)=s1 at *
   generalize gP (decide (a2.num<0)) (aL a2.num.natAbs)=s2 at *
   generalize gP (decide (b1.num<0)) (aL b1.num.natAbs)=s3 at *
   generalize gP (decide (b2.num<0)) (aL b2.num.natAbs)=s4 at *
   generalize Iv.mul (a1,a2) (Iv.neg (b1,b2))=u at *
   generalize Iv.mul (a1,a2) (b1,b2)=v at *
   generalize Iv.neg (b1,b2)=nb at *
   refine aa.enc Tryz.func202 rfl (λlv=>gC lv _ _ _ _ _ _) λ_=>aah ?_;refine aaa λK hK=>aaE (aaF λK1 hK1=>?_)
   simp;refine ag.p 3 9 g1 ?_;simp[q1]
   repeat refine aj ?_
   apply hK1;refine aba (aaF λK1 hK1=>?_);simp;refine ag.p 3 9 g1 ?_;simp[q1'];refine ag.p 3 9 g2 ?_;simp[q2]
   repeat refine aj ?_
   apply hK1;refine aba (aaF λK1 hK1=>?_);simp;refine ag.p 3 9 g3 ?_;simp[q3'];refine ag.p 3 9 g4 ?_;simp[q4]
   repeat refine aj ?_
   apply hK1;refine abl (aaa λK1 hK1=>?_);refine abx mixed (by kernel_rfl) rfl ?_;simp;refine ag.p 3 9 n1 ?_;simp;refine ag.p 3 9 m1 ?_;simp;refine ag.p 3 9 n2 ?_;simp;refine⟨by kernel_rfl,?_⟩
   repeat refine aj ?_
   apply hK1;exact aaH (aM.iv (κ:=0) (t:=4) (k:=2) ⟨rfl,rfl⟩ (by simp) (by simp[ai]))
 have hm:Iv.mul (a1,a2) (b1,b2)=tg (a1*b1) (a1*b2) (a2*b1) (a2*b2):=rfl;have m1:=iE G a1 b1 (sz ha.1) (sz hb.1);have m2:=iE G a1 b2 (sz ha.1) (sz hb.2);have m3:=iE G a2 b1 (sz ha.2) (sz hb.1);have m4:=iE G a2 b2 (sz ha.2) (sz hb.2);have zz:∀{x y:Rat},br x 10000000->br y 10000000->br (x*y) 10000000000:=λh h'=>au (xQ h h') (by decide)
 have hh:=Rb G (a1*b1) (a1*b2) (a2*b1) (a2*b2) (zz ha.1 hb.1) (zz ha.1 hb.2) (zz ha.2 hb.1) (zz ha.2 hb.2);rw[hm];generalize tg (a1*b1) (a1*b2) (a2*b1) (a2*b2)=v at *
 generalize a1*b1=u1 at *
 generalize a1*b2=u2 at *
 generalize a2*b1=u3 at *
 generalize a2*b2=u4 at *
 by_cases h1:0<=a1
 ·have h3:b1<0:=Rat.not_le.1 λh=>c0 ⟨h1,h⟩
  have q1:=p1.2 h1;have q1':¬gP (decide (a1.num<0)) (aL a1.num.natAbs)<0:=by omega
  have q3':=s3n h3;have q3:¬0<=gP (decide (b1.num<0)) (aL b1.num.natAbs):=by omega
  have q4:¬gP (decide (b2.num<0)) (aL b2.num.natAbs)<=0:=λh=>c2 ⟨h3,p4.1 h⟩
  generalize gP (decide (a1.num<0)) (aL a1.num.natAbs)=s1 at *
  generalize gP (decide (b1.num<0)) (aL b1.num.natAbs)=s3 at *
  generalize gP (decide (b2.num<0)) (aL b2.num.natAbs)=s4 at *
  refine aa.enc Tryz.func202 rfl (λlv=>gC lv _ _ _ _ _ _) λ_=>aah ?_;refine aaa λK hK=>aaE (aaF λK1 hK1=>?_)
  simp;refine ag.p 3 9 g1 ?_;simp[q1];refine ag.p 3 9 g3 ?_;simp[q3]
  repeat refine aj ?_
  apply hK1;refine aba (acA 3 g1 q1' ?_);refine aba (aaF λK1 hK1=>?_);simp;refine ag.p 3 9 g3 ?_;simp[q3'];refine ag.p 3 9 g4 ?_;simp[q4]
  repeat refine aj ?_
  apply hK1;refine aba (aav (hK _ _ (aaa λK hK=>?_)));refine abx mixed (by kernel_rfl) rfl ?_;simp;refine ag.p 3 9 m1 ?_;simp;refine ag.p 3 9 m2 ?_;simp;refine ag.p 3 9 m3 ?_;simp;refine ag.p 3 9 m4 ?_;simp[PN];refine ag.Vp (T:=27) 4 9 3 (w:=u1) (x:=u2) (y:=u3) (z:=u4) ?_ hh ?_ ?_ ?_ ?_
  ·simp[iQ,ic]
  ·simp
  ·simp
  ·decide
  simp;refine⟨by kernel_rfl,?_⟩
  repeat refine aj ?_
  apply hK;exact aaH (aM.iv (κ:=0) (t:=4) (k:=2) ⟨rfl,rfl⟩ (by simp) (by simp[ai]))
 have q1':=s1n (q1n h1);have q1:¬0<=gP (decide (a1.num<0)) (aL a1.num.natAbs):=by omega
 have q2:¬gP (decide (a2.num<0)) (aL a2.num.natAbs)<=0:=λh=>c1 ⟨q1n h1,p2.1 h⟩
 by_cases h3:b1<0
 ·have q3':=s3n h3;have q4:¬gP (decide (b2.num<0)) (aL b2.num.natAbs)<=0:=λh=>c2 ⟨h3,p4.1 h⟩
  generalize gP (decide (a1.num<0)) (aL a1.num.natAbs)=s1 at *
  generalize gP (decide (a2.num<0)) (aL a2.num.natAbs)=s2 at *
  generalize gP (decide (b1.num<0)) (aL b1.num.natAbs)=s3 at *
  generalize gP (decide (b2.num<0)) (aL b2.num.natAbs)=s4 at *
  refine aa.enc Tryz.func202 rfl (λlv=>gC lv _ _ _ _ _ _) λ_=>aah ?_;refine aaa λK hK=>aaE (aaF λK1 hK1=>?_)
  simp;refine ag.p 3 9 g1 ?_;simp[q1]
  repeat refine aj ?_
  apply hK1;refine aba (aaF λK1 hK1=>?_);simp;refine ag.p 3 9 g1 ?_;simp[q1'];refine ag.p 3 9 g2 ?_;simp[q2]
  repeat refine aj ?_
  apply hK1;refine aba (aaF λK1 hK1=>?_);simp;refine ag.p 3 9 g3 ?_;simp[q3'];refine ag.p 3 9 g4 ?_;simp[q4]
  repeat refine aj ?_
  apply hK1;refine aba (aav (hK _ _ (aaa λK hK=>?_)));refine abx mixed (by kernel_rfl) rfl ?_;simp;refine ag.p 3 9 m1 ?_;simp;refine ag.p 3 9 m2 ?_;simp;refine ag.p 3 9 m3 ?_;simp;refine ag.p 3 9 m4 ?_;simp[PN];refine ag.Vp (T:=27) 4 9 3 (w:=u1) (x:=u2) (y:=u3) (z:=u4) ?_ hh ?_ ?_ ?_ ?_
  ·simp[iQ,ic]
  ·simp
  ·simp
  ·decide
  simp;refine⟨by kernel_rfl,?_⟩
  repeat refine aj ?_
  apply hK;exact aaH (aM.iv (κ:=0) (t:=4) (k:=2) ⟨rfl,rfl⟩ (by simp) (by simp[ai]))
 ·have q3':¬gP (decide (b1.num<0)) (aL b1.num.natAbs)<0:=by
   have:=p3.2 (Rat.not_lt.1 h3);omega
  generalize gP (decide (a1.num<0)) (aL a1.num.natAbs)=s1 at *
  generalize gP (decide (a2.num<0)) (aL a2.num.natAbs)=s2 at *
  generalize gP (decide (b1.num<0)) (aL b1.num.natAbs)=s3 at *
  refine aa.enc Tryz.func202 rfl (λlv=>gC lv _ _ _ _ _ _) λ_=>aah ?_;refine aaa λK hK=>aaE (aaF λK1 hK1=>?_)
  simp;refine ag.p 3 9 g1 ?_;simp[q1]
  repeat refine aj ?_
  apply hK1;refine aba (aaF λK1 hK1=>?_);simp;refine ag.p 3 9 g1 ?_;simp[q1'];refine ag.p 3 9 g2 ?_;simp[q2]
  repeat refine aj ?_
  apply hK1;refine aba (acA 3 g3 q3' ?_);refine aba (aav (hK _ _ (aaa λK hK=>?_)));refine abx mixed (by kernel_rfl) rfl ?_;simp;refine ag.p 3 9 m1 ?_;simp;refine ag.p 3 9 m2 ?_;simp;refine ag.p 3 9 m3 ?_;simp;refine ag.p 3 9 m4 ?_;simp[PN];refine ag.Vp (T:=27) 4 9 3 (w:=u1) (x:=u2) (y:=u3) (z:=u4) ?_ hh ?_ ?_ ?_ ?_
  ·simp[iQ,ic]
  ·simp
  ·simp
  ·decide
  simp;refine⟨by kernel_rfl,?_⟩
  repeat refine aj ?_
  apply hK;exact aaH (aM.iv (κ:=0) (t:=4) (k:=2) ⟨rfl,rfl⟩ (by simp) (by simp[ai]))
theorem VW(G:List (List DV))(a b:Iv)(ha:a.sz 10000000)(hb:b.sz 10000000)(la:a.1<=a.2)(lb:b.1<=b.2):
 aa Tryz.prog G 202 [jC a,jC b] (jC (a.mul b)):=by
 have sn:∀{a:Iv},a.sz 10000000->a.neg.sz 10000000:=λh=>⟨uC h.2,uC h.1⟩
 have ln:∀{a:Iv},a.1<=a.2->a.neg.1<=a.neg.2:=λh=>Rat.neg_le_neg h
 have nn:∀{a:Iv},a.2<=0->¬a.neg.1<0:=λ{a} h h'=>by
  have:-a.2<0:=h'
  grind
 refine mu G a b ha hb la lb (λh1 h2=>?_) (λh0 h1 h2=>?_)
 ·refine mu G a.neg b (sn ha) hb (ln la) lb (λh3 _=>absurd h3 (nn h2)) (λ_ h4 h5=>?_);exact mu G a.neg b.neg (sn ha) (sn hb) (ln la) (ln lb) (λh3 _=>absurd h3 (nn h2)) (λ_ h3 _=>absurd h3 (nn h5))
 ·exact mu G a b.neg ha (sn hb) la (ln lb) (λh3 h4=>absurd ⟨h3,h4⟩ h0) (λ_ h3 _=>absurd h3 (nn h2))
def qc(x:Rat):List CV:=[.d (.bool (decide (x.num<0))),nC (aL x.num.natAbs),nC (bw x.den)]
theorem GH(x:Rat):(qc x).length=3:=rfl
def qK(f:Sq):Nat->List CV
 |0=>[]
 |m+1=>qK f m++qc (f m)
theorem Dg(f:Sq)(m:Nat):(qK f m).length=m*3:=by
 induction m with
 |zero=>rfl
 |succ m ih=>simp only[qK,ad6,ih,GH];omega
theorem PA{g:Sq}(h:∀i,i<m->f i=g i):qK f m=qK g m:=by
 induction m with
 |zero=>rfl
 |succ m ih=>simp only[qK];rw[ih λi hi=>h i (by omega),h m (by omega)]
theorem Fv(f:Sq)(h:i<m):∃r,qK f m=qK f i++qc (f i)++r/\∀g:Sq,(∀j,j<m->j≠i->g j=f j)->qK g m=qK f i++qc (g i)++r:=by
 induction m with
 |zero=>omega
 |succ m ih=>
  by_cases e:i=m
  ·subst e;exact⟨[],by simp[qK],λg hg=>by simp only[qK,aei];rw[PA λj hj=>hg j (by omega) (by omega)]⟩
  ·obtain⟨r,h1,h2⟩:=ih (by omega);refine⟨r++qc (f m),by simp only[qK,h1,adX],λg hg=>?_⟩;simp only[qK];rw[h2 g λj hj hne=>hg j (by omega) hne,hg m (by omega) (by omega)];simp only[adX]
theorem TI(f:Sq)(h:i<m):∃r,(qK f m).drop (i*3)=qc (f i)++r:=by
 obtain⟨r,h1,_⟩:=Fv f h;refine⟨r,?_⟩;rw[h1,adX,afQ (by rw[Dg])]
theorem W3(f:Sq)(h:i<m)(v:Rat):ai (qK f m) (i*3) (qc v)=qK (λj=>if j=i then v else f j) m:=by
 obtain⟨r,h1,h2⟩:=Fv f h;rw[h2 (λj=>if j=i then v else f j) λj _ hne=>if_neg hne,h1];unfold ai;have hl:(qK f i).length=i*3:=Dg f i;have e:=adX (qK f i) (qc (f i)) r;rw[e,List.take_left' hl,<-e,afQ (by rw[ad6,hl,GH,GH])];simp only[if_true]
theorem fm(f:Sq)(m:Nat)(g:Key->Key):(qK f m).map (CV.bY g)=qK f m:=by
 induction m with
 |zero=>rfl
 |succ m ih=>simp only[qK,aeR,ih];simp[qc,ic,CV.bY]
def kf(k:Key)(frm step n:Nat):List CV:=(List.range (n+1)).map λi=>.ptr k ((frm+i*step)*3)
theorem S2(k:Key)(frm step n:Nat):(kf k frm step n).length=n+1:=by simp[kf]
theorem Ta(k:Key)(frm step n:Nat)(h:i<=n):∃r,(kf k frm step n).drop i=.ptr k ((frm+i*step)*3)::r:=by
 have hi:i<(kf k frm step n).length:=by rw[S2];omega
 refine⟨(kf k frm step n).drop (i+1),?_⟩;rw[adT hi];simp[kf]
section
variable {lv:Key->LB}{own fz:Bool}{T:TypeId}
theorem P6{k:Key}{cs:List CV}(h:lv k=.cells own fz T cs):aq Tryz.prog 104 lv (.c (.aH k 0 n 1)) (.c (.d (.int .i64 (i:Int))))=some (.c (.ptr k i),[],[k],i<n):=by
 simp[aq,h]
theorem Qk{k c:Key}{frm step:Nat}(h:lv k=.cells own fz T (kf c frm step n))(hi:i<=n):aF Tryz.prog 105 lv (.c (.ptr k i))=some (.c (.ptr c ((frm+i*step)*3)),[],[k],True):=by
 obtain⟨r,hr⟩:=Ta c frm step n hi;simp[aF,h,hr]
theorem XY{k:Key}(h:lv k=.cells own fz T (qK f m))(hi:i<m):aF Tryz.prog 27 lv (.c (.ptr k (i*3)))=some (bC (f i),[],[k],True):=by
 obtain⟨r,hr⟩:=TI f hi;simp[aF,h,hr,qc]
theorem stQ{k:Key}(h:lv k=.cells own false T (qK f m))(hi:i<m)(v:Rat):aK Tryz.prog 27 lv (.c (.ptr k (i*3))) (bC v)=some (.undef,[(k,.cells own false T (qK (λj=>if j=i then v else f j) m))],[],True):=by
 have e:=W3 f hi v;have hl:i*3+3<=(qK f m).length:=by rw[Dg];omega
 unfold qc at e;simp[aK,h,AV.cells,e,hl]
end
def ki(c:UInt8):Bool:=decide (48<=c.toNat/\c.toNat<=57)
def Gy:List DV:=(List.range 256).map λc=>.bool (decide (48<=c/\c<=57))
theorem Cc:Gy.length=256:=by simp[Gy]
theorem MQ(c:UInt8):Gy.drop c.toNat=.bool (ki c)::Gy.drop (c.toNat+1):=by
 have h:c.toNat<Gy.length:=by rw[Cc];exact c.toNat_lt
 rw[adT h];congr 1;simp[Gy,ki]
theorem wg(G:List (List DV))(c:UInt8):aa Tryz.prog G 212 [.c (.d (.ptr Gy)),.c (.d (.int .u8 c.toNat))] (.c (.d (.bool (ki c)))):=by
 have hc:=c.toNat_lt;have hl:=Cc;have ha:=MQ c;refine aa.en Tryz.func212 rfl λ_=>aah ?_;refine aaF λK hK=>?_;simp[aq,ha,hl]
 repeat refine aj ?_
 apply hK;exact abe (aN.rt rfl 4 (by simp))
theorem Gj(G:List (List DV))(s:List UInt8):aa Tryz.prog G 173 [.c (.d (.str s)),.c (.d (.ptr Gy))] (.c (.d (.str (s.dropWhile ki)))):=by
 refine aa.en Tryz.func173 rfl λ_=>aah ?_;refine aaa λK hK=>aaE ?_;refine abr (λ(p:List UInt8)=>⟨aU [(0,.c (.d (.str p))),(1,.c (.d (.ptr Gy)))],λ_=>.hole⟩) 0 (λp=>p.dropWhile ki=s.dropWhile ki) (λp=>p.length) s (Le.mk' _ rfl (by simp) (by simp)) rfl ?_;rintro p hp;refine aaa λK3 hK3=>aah ?_
 cases p with
 |nil=>
  refine aba (abn (hK _ _ (aah ?_)));have hp':s.dropWhile ki=[]:=by rw[<-hp];rfl
  exact abe (aN.rt rfl 4 (by simp[hp']))
 |cons c l=>
  refine abl (aav (hK3 _ _ (aaE (aaa λK5 hK5=>aaF λK6 hK6=>?_))));simp;refine ag.pure 0 9 (wg _ c) (by simp) (by simp) rfl ?_;simp;apply hK6
  cases hd:ki c with
  |false=>
   refine aaX (by rfl) (abn (hK _ _ ?_));simp only[List.dropWhile,hd]at hp;refine aah ?_;exact abe (aN.rt rfl 4 (by simp[hp]))
  |true=>
   refine abd (by rfl) (aav (hK5 _ _ (aar ?_)));simp;simp only[List.dropWhile,hd]at hp;exact⟨by omega,l,Le.mk' _ rfl (by simp) (by simp),hp,by simp⟩
def kA(s:List UInt8):List UInt8:=(s.reverse.dropWhile ki).reverse
theorem BT(G:List (List DV))(s:List UInt8):aa Tryz.prog G 174 [.c (.d (.str s)),.c (.d (.ptr Gy))] (.c (.d (.str (kA s)))):=by
 refine aI.lJ 0 (by simp) (λV v h=>(show s.length<=9223372036854775807 by cases h.1 with|str _ hl=>exact hl)) λhr=>?_;refine aa.en Tryz.func174 rfl λ_=>aah ?_;refine aaa λK hK=>aaE ?_;refine abr (λ(p:List UInt8)=>⟨aU [(0,.c (.d (.str p))),(1,.c (.d (.ptr Gy)))],λ_=>.hole⟩) 0 (λp=>p.reverse.dropWhile ki=s.reverse.dropWhile ki/\p.length<=s.length) (λp=>p.length) s (Le.mk' _ rfl (by simp) (by simp)) ⟨rfl,bh _⟩ ?_;rintro p ⟨hp,hpl⟩;refine aaa λK3 hK3=>aah ?_;rcases afW p with rfl|⟨l,c,rfl⟩
 ·refine aba (abn (hK _ _ (aah ?_)));have hp':kA s=[]:=by unfold kA;rw[<-hp];rfl
  exact abe (aN.rt rfl 4 (by simp[hp']))
 ·rw[afX]at *
  have hn:0<(l++[c]).length:=by simp
  have hlen:(l++[c]).length=l.length+1:=by simp
  have e2:IntKind.i64.wrap (l.length:Int)=(l.length:Int):=bB (by omega) (by omega);have hr1:(l++[c]).reverse=c::l.reverse:=by simp
  rw[hr1]at hp;refine abl (aav (hK3 _ _ (aaE (aaa λK5 hK5=>aaF λK6 hK6=>?_))));simp[e2];refine⟨by omega,?_⟩;refine ag.pure 0 9 (wg _ c) (by simp) (by simp) rfl ?_;simp;apply hK6
  cases hd:ki c with
  |false=>
   refine aaX (by rfl) (abn (hK _ _ ?_));simp only[List.dropWhile,hd]at hp;refine aah ?_;have hp':kA s=l++[c]:=by unfold kA;rw[<-hp];simp
   exact abe (aN.rt rfl 4 (by simp[hp']))
  |true=>
   refine abd (by rfl) (aav (hK5 _ _ (aar ?_)));simp[e2];simp only[List.dropWhile,hd]at hp;exact⟨by omega,l,Le.mk' _ rfl (by simp) (by simp),⟨hp,by omega⟩,by simp⟩
end Go.Am
namespace Go.Am
open Go.Proofs
theorem Qy(m:Int):aa Tryz.prog (GG m) 172 [.c (.d (.str [48,49,50,51,52,53,54,55,56,57]))] (.tup [.agg (Gy.map .d),.c (.d (.bool true))]):=
 aa.gM (gx m 60) (by kernel_rfl)
end Go.Am
namespace Go.Am
open Go.Am.Ty Go.Proofs N
variable {s:List UInt8}{c:Ctx}{x y z:AV}{fn:Func}{t u v:Nat}
abbrev Yv:List UInt8:=[48,49,50,51,52,53,54,55,56,57]
def wD(s:List UInt8):List UInt8:=(kA s).dropWhile ki
def Sc:List CV:=List.replicate 256 (.d (.bool false))
def BO:List CV:=Gy.map .d
theorem Wq(m:Int):aa Tryz.prog (GG m) 172 [.c (.d (.str Yv))] (.tup [.agg BO,.c (.d (.bool true))]):=Qy m
theorem Vq:(AV.tup [.agg BO,.c (.d (.bool true))]).pure=true:=by kernel_rfl
abbrev lvS:Key->LB:=az (λ_=>LB.hole) 0 (.cells true false 227 BO)
theorem US(s:List UInt8):j9 lvS [.c (.d (.str s)),.c (.ptr 0 0)]=some ([.c (.d (.str s)),.c (.d (.ptr Gy))],[0]):=by kernel_rfl
theorem acV:wm lvS (.c (.ptr 0 0))=[0]:=by kernel_rfl
theorem rdS(s:List UInt8):∀a∈[AV.c (.d (.str s)),AV.c (.ptr 0 0)],∀k∈wm lvS a,k∈[0]:=by
 intro a ha k hk;simp only[aY,cy,or_false]at ha;rcases ha with rfl|rfl
 ·cases hk
 ·rw[acV]at hk;exact hk
theorem zcS:bI Tryz.prog 227=some Sc:=by kernel_rfl
theorem stS:aK Tryz.prog 227 (az (λ_=>.hole) 0 (.cells true false 227 Sc)) (.c (.ptr 0 0)) (.agg BO)=some (.undef,[(0,.cells true false 227 BO)],[],True):=by
 have hl:BO.length=256:=by unfold BO;simp[Cc]
 have hz:Sc.length=256:=List.length_replicate
 have hs:ai Sc 0 BO=BO:=by
  unfold ai;rw[hl,List.take_zero,aeT,aeC,aeH (Nat.le_of_eq hz),aei]
 simp_all
theorem ag.flat{f:FuncId}{xs us:List AV}{ks rds:List Key}{lv:Key->LB}{K:AV->List (Key×LB)->List Key->Nat->Prop}(κ:Nat)(ha:j9 lv xs=some (us,ks))(hc:aa c.P c.G f us x)(hx:x.flat=true)
 (hr:∀a∈xs,∀k∈wm lv a,k∈rds) (hK:K x [] rds κ):ag c f xs lv K:=⟨x,[],rds,κ,b7.flat us ks rds x ha hc hx hr,hK⟩
theorem xM(s:List UInt8):aO Tryz.prog .eql 9 (.c (.d (.str s))) (.c (.d (.str [])))=some (.c (.d (.bool (decide (s=[])))),[],[],True):=by
 cases s with
 |nil=>kernel_rfl
 |cons a l=>rfl
theorem BU(m:Int)(s:List UInt8):aa Tryz.prog (GG m) 129 [.c (.d (.str s)),.c (.d (.str Yv))] (.c (.d (.str (wD s)))):=by
 refine aa.en Tryz.func129 rfl λ_=>aah ?_;refine aaa λK hK=>aaa λK1 hK1=>?_
 by_cases hs:s=[]
 ·refine acT @xM hs (hK1 _ _ ?_);refine abl (aah ?_);exact abe (aN.rt rfl 4 (by simp[hs,wD,kA]))
 refine acT @xM hs (hK1 _ _ ?_);refine aba (aav (hK _ _ (aaa λK hK=>aah ?_)));refine aba (aav (hK _ _ (aaa λK hK=>aaF λK1 hK1=>?_)));simp;refine ag.pure 0 9 (Wq m) Vq (by simp) rfl ?_;simp[zcS,stS,-aK];apply hK1;refine aah ?_;refine abl (aaF λK1 hK1=>?_);simp;refine ag.flat 2 (us:=[.c (.d (.str s)),.c (.d (.ptr Gy))]) (ks:=[0]) (rds:=[0]) (US s) (BT _ s) rfl (rdS s) ?_;simp;refine ag.flat 2 (us:=[.c (.d (.str (kA s))),.c (.d (.ptr Gy))]) (ks:=[0]) (rds:=[0]) (US _) (Gj _ (kA s)) rfl (rdS _) ?_;simp;apply hK1;exact abe (aN.rt rfl 9 (by rfl))
theorem Vy(s t:List UInt8):(s == t)=decide (s=t):=by
 grind
theorem eqStr(s t:List UInt8):aO Tryz.prog .eql 9 (.c (.d (.str s))) (.c (.d (.str t)))=some (.c (.d (.bool (decide (s=t)))),[],[],True):=by
 rw[<-Vy];rfl
theorem v8(s t:List UInt8):aO Tryz.prog .neq 9 (.c (.d (.str s))) (.c (.d (.str t)))=some (.c (.d (.bool (!decide (s=t)))),[],[],True):=by
 rw[<-Vy];rfl
def fC(s:List UInt8):Bool:=!decide (s=[])&&decide (wD s=[])&&(decide (s=[48]) || !decide (s.getD 0 0=48))
theorem OD(m:Int)(s:List UInt8):aa Tryz.prog (GG m) 76 [.c (.d (.str s))] (.c (.d (.bool (fC s)))):=by
 refine aa.en Tryz.func76 rfl λ_=>aah ?_;refine aaa λK hK=>?_
 cases s with
 |nil=>
  refine acK @v8 (hK _ _ ?_);exact abe (aN.rt rfl 2 (by simp[fC]))
 |cons a l=>
  refine aar ?_;simp[v8];refine ag.pure 0 9 (BU m (a::l)) (by simp) (by simp) rfl ?_
  by_cases ht:wD (a::l)=[]
  ·by_cases h0:a::l=[48]
   ·have ht':wD [48]=[]:=h0▸ht;simp[eqStr,h0,ht'];apply hK;exact abe (aN.rt rfl 2 (by simp[fC,h0,ht']))
   ·simp[eqStr,ht,h0];apply hK
    have ha:((a.toNat:Int)=48)↔a=48:=by
     constructor
     ·intro h;exact UInt8.toNat_inj.1 (by grind)
     ·simp_all
    have hr:fC (a::l) = !decide ((a.toNat:Int)=48):=by
     have h1:decide ((a.toNat:Int)=48)=decide (a=48):=by simp only[ha]
     rw[h1];simp[fC,ht,h0]
    exact abe (aN.rt rfl 2 (by simp[hr]))
  ·simp[eqStr,ht];apply hK;exact abe (aN.rt rfl 2 (by simp[fC,ht]))
def uH(s p:List UInt8):Bool:=decide (p.length<=s.length)&&decide (s.take p.length=p)
def lX(s p:List UInt8):List UInt8:=if uH s p=true then s.drop p.length else s
theorem C2(G:List (List DV))(s p:List UInt8):aa Tryz.prog G 168 [.c (.d (.str s)),.c (.d (.str p))] (.c (.d (.bool (uH s p)))):=by
 refine aa.en Tryz.func168 rfl λ_=>aah ?_;refine aaa λK hK=>?_
 by_cases h:p.length<=s.length
 ·have h':(p.length:Int)<=(s.length:Int):=by omega
  refine AW.l3 @eqStr h h' (hK _ _ ?_);exact abe (aN.rt rfl 4 (by simp[uH,h]))
 ·have h':¬(p.length:Int)<=(s.length:Int):=by omega
  refine AW.l3 @eqStr h h' (hK _ _ ?_);exact abe (aN.rt rfl 4 (by simp[uH,h]))
theorem Ak(G:List (List DV))(s p:List UInt8):aa Tryz.prog G 127 [.c (.d (.str s)),.c (.d (.str p))] (.tup [.c (.d (.str (lX s p))),.c (.d (.bool (uH s p)))]):=by
 refine aa.en Tryz.func127 rfl λ_=>aah ?_;refine aaa λK hK=>aaF λK1 hK1=>?_;simp;refine ag.pure 0 9 (C2 _ s p) (by simp) (by simp) rfl ?_;simp;apply hK1
 by_cases h:uH s p=true
 ·refine abd (by simp_all) (aav (hK _ _ (aaa λK hK=>?_)))
  have hl:p.length<=s.length:=by
   unfold uH at h;simp only[rP,decide_eq_true_eq]at h;exact h.1
  refine acK hl (hK _ _ ?_);exact abe (aN.t2 rfl 5 (by simp[lX,h]) (by simp[h]))
 ·refine aaX (by simp_all) (aah ?_);exact abe (aN.t2 rfl 5 (by simp[lX,h]) (by simp[h]))
theorem CT(G:List (List DV))(s p:List UInt8):aa Tryz.prog G 74 [.c (.d (.str s)),.c (.d (.str p))] (.tup [.c (.d (.str (lX s p))),.c (.d (.bool (uH s p)))]):=by
 refine aa.en Tryz.func74 rfl λ_=>aah ?_;refine aaF λK hK=>?_;simp;refine ag.pure 0 9 (Ak _ s p) rfl (by simp) rfl ?_;simp;apply hK;exact abe (aN.t2 rfl 6 (by simp) (by simp))
theorem aN.acF{s:aB}{κ:Nat}(hr:fn.results=#[.tmp t,.tmp u,.tmp v])(kh:Key)(hx:s.fr t=x)(hy:s.fr u=y)(hz:s.fr v=z)(hp:x.pure=true)(hq:y.pure=true)(hw:z.pure=true)(hh:s.lv kh=.hole)
 (hn:x.bZ=true) (hm:y.bZ=true) (hl:z.bZ=true) (htu:t≠u) (htv:t≠v) (huv:u≠v):aN c fn (.tup [x,y,z]) .ret s κ:=by
 refine⟨[(t,x),(u,y),(v,z)],kh,by grind,hh,?_⟩;rw[hr];have h1:¬u=t:=λh=>htu h.symm
 have h2:¬v=t:=λh=>htv h.symm
 have h3:¬v=u:=λh=>huv h.symm
 simp[eE,kZ,mN,aU,h1,h2,h3,hn,hm,hl]
theorem aN.t3{s:aB}(hr:fn.results=#[.tmp t,.tmp u,.tmp v])(kh:Key)(hx:s.fr t=x:=by simp)(hy:s.fr u=y:=by simp)(hz:s.fr v=z:=by simp)(hp:x.pure=true:=by first|rfl|simp)(hq:y.pure=true:=by first|rfl|simp)(hw:z.pure=true:=by first|rfl|simp)
 (hh:s.lv kh=.hole:=by first|rfl|simp) (h1:x.bZ=true:=by first|rfl|simp) (h2:y.bZ=true:=by first|rfl|simp) (h3:z.bZ=true:=by first|rfl|simp) (d1:t≠u:=by decide) (d2:t≠v:=by decide) (d3:u≠v:=by decide):aN c fn (.tup [x,y,z]) .ret s 0:=aN.acF hr kh hx hy hz hp hq hw hh h1 h2 h3 d1 d2 d3
def lN(s t:List UInt8):Int:=Lib.index s t
def uO(s t:List UInt8):List UInt8:=if 0<=lN s t then s.take (lN s t).toNat else s
def tC(s t:List UInt8):List UInt8:=if 0<=lN s t then s.drop ((lN s t).toNat+t.length)else[]
theorem Qi(s t:List UInt8)(h:s.length<=9223372036854775807):-9223372036854775808<=Lib.index s t/\Lib.index s t<=9223372036854775807:=by
 have h1:=Lib.index_ge s t
 have h2:Lib.index s t<=s.length:=by
  clear h h1
  induction s with
  |nil=>simp only[Lib.index];omega
  |cons a s ih=>
   simp only[Lib.index]
   grind
 omega
theorem LR(G:List (List DV))(s:List UInt8)(c:Nat)(hc:c<256):aa Tryz.prog G 208 [.c (.d (.str s)),.c (.d (.int .u8 (c:Int)))] (.c (.d (.int .i64 (lN s [UInt8.ofNat c])))):=by
 refine aI.lJ 0 (by simp) (λV v h=>(show s.length<=9223372036854775807 by cases h.1 with|str _ hl=>exact hl)) λhs=>?_;refine aa.DG (X:=.c (.d (.int .i64 (lN s [UInt8.ofNat c])))) (lv':=λ_=>.hole) (ks:=[]) ?_ rfl;refine aW.of_same (by rfl) λF β w vs hS hl hv=>?_;obtain⟨u,v,rfl,hu,hv⟩:=args2 hl hv;have:=Tryz.stringslite_IndexByte ⟨s.toArray⟩ c w;refine⟨.int .i64 (lN s [UInt8.ofNat c]),Is (Qi s _ hs),?_⟩;rw[Vw.kB hu,Vw.eV hv];simpa[lN,<-index_one]using this
theorem Pm(c:UInt8):lN [c] [c]=0:=by simp[lN,Lib.index,List.isPrefixOf]
theorem KZ(G:List (List DV))(s:List UInt8)(c:UInt8):aa Tryz.prog G 169 [.c (.d (.str s)),.c (.d (.str [c]))] (.c (.d (.int .i64 (lN s [c])))):=by
 have hb:=LR G s c.toNat c.toNat_lt;rw[show UInt8.ofNat c.toNat=c from UInt8.ofNat_toNat]at hb;refine aa.en Tryz.func169 rfl λ_=>aah ?_;refine aah ?_;refine aaa λK hK=>aaE (aaa λK1 hK1=>?_)
 by_cases hs:[c]=s
 ·have h0:lN s [c]=0:=by rw[<-hs];exact Pm c
  refine acT @eqStr hs (hK1 _ _ ?_);refine abl (aah ?_);exact abe (aN.rt rfl 4 (by simp[h0]))
 ·refine acT @eqStr hs (hK1 _ _ ?_);refine aba (aah ?_);refine abl (aaF λK1 hK1=>?_);simp;refine ag.pure 0 9 hb (by simp) (by simp) rfl ?_;simp;apply hK1;exact abe (aN.rt rfl 4 (by simp))
theorem PI(m:Int)(s t:List UInt8)(h:s.length<=9223372036854775807)(hix:aa Tryz.prog (GG m) 169 [.c (.d (.str s)),.c (.d (.str t))] (.c (.d (.int .i64 (lN s t))))):aa Tryz.prog (GG m) 128 [.c (.d (.str s)),.c (.d (.str t))] (.tup [.c (.d (.str (uO s t))),.c (.d (.str (tC s t))),.c (.d (.bool (decide (0<=lN s t))))]):=by
 refine aa.en Tryz.func128 rfl λ_=>aah ?_;refine aaa λK hK=>aaF λK1 hK1=>?_;simp;refine ag.pure 0 9 hix (by simp) (by simp) rfl ?_;simp;apply hK1;refine aah ?_
 by_cases hi:0<=lN s t
 ·refine aaX (by simp_all) ?_;obtain⟨n,hn⟩:∃n:Nat,lN s t=n:=⟨(lN s t).toNat,(Int.toNat_of_nonneg hi).symm⟩
  have hr:=Lib.index_room s t (by unfold lN at hi;exact hi);have hr':n+t.length<=s.length:=by unfold lN at hn;rw[hn]at hr;omega
  have hw:IntKind.i64.wrap ((n:Int)+t.length)=((n+t.length:Nat):Int):=by rw[bB (by omega) (by omega)];omega
  have hn1:n<=s.length:=by omega
  refine aaa λK1 hK1=>?_;refine acX mixed (by kernel_rfl) rfl rfl ?_;simp[hn,hw,hn1,hr',-Int.natCast_add];apply hK1;exact abe (aN.t3 rfl 9 (by simp[uO,hn]) (by simp[tC,hn]) (by simp[hn]))
 ·refine abd (by simp_all) (aav (hK _ _ (aah ?_)));exact abe (aN.t3 rfl 9 (by simp[uO,hi]) (by simp[tC,hi]) (by simp[hi]))
theorem TQ(m:Int)(s t:List UInt8)(h:s.length<=9223372036854775807)(hix:aa Tryz.prog (GG m) 169 [.c (.d (.str s)),.c (.d (.str t))] (.c (.d (.int .i64 (lN s t))))):aa Tryz.prog (GG m) 75 [.c (.d (.str s)),.c (.d (.str t))] (.tup [.c (.d (.str (uO s t))),.c (.d (.str (tC s t))),.c (.d (.bool (decide (0<=lN s t))))]):=by
 refine aa.en Tryz.func75 rfl λ_=>aah ?_;refine aaF λK hK=>?_;simp;refine ag.pure 0 9 (PI m s t h hix) rfl (by simp) rfl ?_;simp;apply hK;exact abe (aN.t3 rfl 9 (by simp) (by simp) (by simp))
theorem S6(m:Int)(s:List UInt8)(c:UInt8):aa Tryz.prog (GG m) 75 [.c (.d (.str s)),.c (.d (.str [c]))] (.tup [.c (.d (.str (uO s [c]))),.c (.d (.str (tC s [c]))),.c (.d (.bool (decide (0<=lN s [c]))))]):=by
 refine aI.lJ 0 (by simp) (λV v h=>(show s.length<=9223372036854775807 by cases h.1 with|str _ hl=>exact hl)) λhs=>?_;exact TQ m s [c] hs (KZ (GG m) s c)
theorem NI{p:UInt8->Bool}:∀{l:List UInt8},l.dropWhile p=[]->∀x∈l,p x=true
 |[],_,x,hx=>by cases hx
 |a::l,h,x,hx=>by
  simp only[List.dropWhile]at h;split at h
  ·rename_i ha
   rcases List.mem_cons.1 hx with rfl|hx
   ·exact ha
   ·exact NI h x hx
  grind
theorem LD(h:wD s=[]):wL s:=by
 have h1:∀x∈kA s,ki x=true:=NI h;have h2:∀x∈s.reverse.dropWhile ki,ki x=true:=λx hx=>h1 x (by unfold kA;grind)
 have h3:∀x∈s.reverse,ki x=true:=by
  intro x hx;rw[<-List.takeWhile_append_dropWhile (p:=ki) (l:=s.reverse),afo]at hx;rcases hx with hx|hx
  ·have:=List.all_takeWhile (p:=ki) (l:=s.reverse)
   grind
  ·grind
 intro c hc;have:=h3 c (List.mem_reverse.2 hc);simpa[ki]using this
theorem pE(h:fC s=true):wL s/\s≠[]:=by
 unfold fC at h;simp only[rP,aee,decide_eq_false_iff_not,decide_eq_true_eq]at h;exact⟨LD h.1.2,h.1.1⟩
abbrev nm0:AV:=pY false none none
def jj(neg:Bool)(top bot:List UInt8)(brk:Bool):Bool:=!fC top ||(neg&&decide (top=[48])) ||(brk&&(!fC bot ||decide (bot=[48]) ||decide (bot=[49])))
abbrev p6(s:List UInt8):Option (List Nat):=some (aG 4294967296 (aS s 0))
def fA(neg:Bool)(top bot:List UInt8)(brk:Bool):AV:=
 if jj neg top bot brk=true then .tup [nm0,.c (.d (.int .i64 6))]
 else if 2000<max top.length bot.length then .tup [nm0,.c (.d (.int .i64 3))]
 else if brk=false then .tup [kC neg (p6 top) (some (aG 4294967296 1)),.c (.d (.int .i64 0))]
 else if val 4294967296 (dO (gO (p6 top) (p6 bot)))=1 then .tup [pY neg (p6 top) (p6 bot),.c (.d (.int .i64 0))]
 else .tup [nm0,.c (.d (.int .i64 6))]
theorem DI(lv:Key->LB)(neg:Bool)(top bot:List UInt8)(brk:Bool):dI lv (fA neg top bot brk)=some (fA neg top bot brk,[]):=by
 have h1:∀b p q n,dI lv (.tup [pY b p q,.c (.d (.int .i64 n))])=some (.tup [pY b p q,.c (.d (.int .i64 n))],[]):=by
  intro b p q n;cases p<;>cases q<;>rfl
 unfold fA kC
 grind
theorem EG(G:List (List DV))(h:fC s=true)(hl:s.length<=2000):aa Tryz.prog G 77 [.c (.d (.str s))] (.c (nC (p6 s))):=by
 obtain⟨h1,h2⟩:=pE h;have:=rM G s h1 (by omega)
 have e:oO (!s.isEmpty) (aS s 0)=p6 s:=by
  cases s with
  |nil=>grind
  |cons a l=>rfl
 rw[e,gy]at this;omega
theorem EY(m:Int)(r:List UInt8):
 aa Tryz.prog (GG m) 34 [.c (.d (.str r))] (fA (uH r [45]) (uO (lX r [45]) [47]) (tC (lX r [45]) [47]) (decide (0<=lN (lX r [45]) [47]))):=by
 refine aI.lJ 0 (by simp) (λV v h=>(show r.length<=9223372036854775807 by cases h.1 with|str _ hl=>exact hl)) λhr=>?_
 have hcl:(lX r [45]).length<=9223372036854775807:=by
  unfold lX;split
  ·grind
  ·exact hr
 have hcp:=CT (GG m) r [45];have hct:=S6 m (lX r [45]) 47
 have hta:(uO (lX r [45]) [47]).length<=9223372036854775807:=by
  unfold uO;split
  ·grind
  ·omega
 have htb:(tC (lX r [45]) [47]).length<=9223372036854775807:=by
  unfold tC;split
  ·grind
  ·simp
 generalize uH r [45]=neg at *
 generalize lX r [45]=s at *
 generalize uO s [47]=top at *
 generalize tC s [47]=bot at *
 generalize decide (0<=lN s [47])=brk at *
 refine aa.enc Tryz.func34 rfl (λlv=>DI lv _ _ _ _) λ_=>aah ?_;refine aaF λK hK=>?_;simp;refine ag.pure 1 9 hcp rfl (by simp) (by simp) ?_;simp;apply hK;refine aaF λK hK=>?_;simp;refine ag.pure 1 9 hct rfl (by simp) (by simp) ?_;simp;apply hK;refine aaa λK hK=>aaE (aaa λK1 hK1=>?_)
 have row1:=OD m top;have row2:=OD m bot
 have hbad:∀(fr:Nat->AV) (κ:Nat),fr 2=.c (.ptr 0 0)->fr 22=.c (.d (.bool true))->jj neg top bot brk=true ->
  K1 ⟨fr,az (λ_=>.hole) 0 (.cells true false 27 [.d (.bool false),.d .nilsl,.d .nilsl])⟩ κ:=by
  intro fr κ z2 z22 hb;apply hK1;refine aaX (by simp_all) (ace z2 @AX ?_);refine aaH ?_;simp only[fA,if_pos hb];refine aM.rN (κ:=0) (T:=27) (t:=2) (u:=3) (k:=0) (off:=0) (own:=true) (fz:=false) (U:=27) (cs:=[.d (.bool false),.d .nilsl,.d .nilsl]) rfl ?_ ?_ ?_ ?_ rfl rfl
  ·simp[z2]
  ·rfl
  ·rfl
  ·simp
 have hgood:∀(fr:Nat->AV) (κ:Nat),fr 2=.c (.ptr 0 0)->fr 5=.c (.d (.bool neg))->fr 6=.c (.d (.str top))->fr 7=.c (.d (.str bot))->fr 8=.c (.d (.bool brk))->fr 22=.c (.d (.bool false)) ->
  fC top=true->(brk=true->fC bot=true)->jj neg top bot brk=false ->
  K1 ⟨fr,az (λ_=>.hole) 0 (.cells true false 27 [.d (.bool false),.d .nilsl,.d .nilsl])⟩ κ:=by
  intro fr κ z2 z5 z6 z7 z8 z22 g1 g2 hb;apply hK1;refine abd (by simp_all) (aaa λK2 hK2=>?_)
  have hmx:∀(a b:Nat),(List.foldl (λa b:Int=>if a<b then b else a) (a:Int) [(b:Int)])=((max a b:Nat):Int):=by
   intro a b;simp only[List.foldl];split<;>omega
  refine aar ?_;simp[z6,z7,dF,hmx,-List.foldl_cons,-List.foldl_nil];apply hK2;have hbf:¬jj neg top bot brk=true:=by rw[hb];decide
  by_cases hl:2000<max top.length bot.length
  ·have hl':(2000:Int)<((max top.length bot.length:Nat):Int):=by omega
   refine aaX (by simp_all) (ace z2 @AX ?_);refine aaH ?_;simp only[fA,if_neg hbf,if_pos hl];refine aM.rN (κ:=0) (T:=27) (t:=2) (u:=3) (k:=0) (off:=0) (own:=true) (fz:=false) (U:=27) (cs:=[.d (.bool false),.d .nilsl,.d .nilsl]) rfl ?_ ?_ ?_ ?_ rfl rfl
   ·simp[z2]
   ·rfl
   ·rfl
   ·simp
  have hl':¬(2000:Int)<((max top.length bot.length:Nat):Int):=by omega
  refine abd (by simp_all) (aav (hK _ _ ?_));have ht2:top.length<=2000:=by omega
  have hb2:bot.length<=2000:=by omega
  have rd1:=EG (GG m) g1 ht2;have hof:=dX (GG m) 1 (by decide);have c1:can 4294967296 (dO (p6 top)):=bx (by decide) _;have c2:can 4294967296 (dO (some (aG 4294967296 1))):=bx (by decide) _
  have dlen:∀(u:List UInt8),wL u->u.length<=2000->(dO (p6 u)).length<1000000000000:=by
   intro u hu hlu;have h1:=oe hu;have h2:(10:Nat)^u.length<=4294967296^u.length:=af2 (by decide) _;have:=bS (B:=4294967296) (n:=aS u 0) (m:=u.length) (by decide) (by omega);simp only[aR];omega
  have l1:=dlen top (pE g1).1 ht2;have l2:(dO (some (aG 4294967296 1))).length<1000000000000:=ae9 (bS (m:=1) (by decide) (by decide)) (by decide);refine aaa λK3 hK3=>abf z8 ?_
  cases hk:brk with
  |false=>
   rw[hk]at hbf;have hmade:=rF (GG m) neg (p6 top) (some (aG 4294967296 1)) c1 c2 (by intro h;exact absurd ((cL (by decide)).1 h) (by decide)) l1 l2;simp only[gy]at hmade hof;refine abl (aaF λK4 hK4=>?_);simp[z5,z6];refine ag.pure κ 9 rd1 (by simp) (by simp) (by simp) ?_;simp;refine ag.pure κ 9 hof (by simp) (by simp) (by simp) ?_;simp
   by_cases hz:dO (p6 top)=[]
   ·simp only[kC,if_pos hz]at hmade;refine ag.pure κ 9 hmade (by simp) (by simp) (by simp) ?_;simp[z2];apply hK4;refine aaH ?_;simp only[fA,if_neg hbf,if_neg hl,reduceIte,kC,if_pos hz];refine aM.rN (κ:=0) (T:=27) (t:=2) (u:=3) (k:=0) (off:=0) (own:=true) (fz:=false) (U:=27) (cs:=[.d (.bool false),nC none,nC none]) rfl ?_ ?_ ?_ ?_ rfl rfl
    ·simp[z2]
    ·rfl
    ·rfl
    ·simp
   ·simp only[kC,if_neg hz]at hmade;refine ag.pure κ 9 hmade (by simp) (by simp) (by simp) ?_;simp[z2];apply hK4;refine aaH ?_;simp only[fA,if_neg hbf,if_neg hl,reduceIte,kC,if_neg hz];refine aM.rN (κ:=0) (T:=27) (t:=2) (u:=3) (k:=0) (off:=0) (own:=true) (fz:=false) (U:=27) (cs:=[.d (.bool neg),nC (mP (p6 top) (some (aG 4294967296 1))),nC (mQ (p6 top) (some (aG 4294967296 1)))]) rfl ?_ ?_ ?_ ?_ rfl rfl
    ·simp[z2]
    ·rfl
    ·rfl
    ·simp
  |true=>
   rw[hk]at hbf;have g3:=g2 hk;have rd2:=EG (GG m) g3 hb2;have c3:can 4294967296 (dO (p6 bot)):=bx (by decide) _;have l3:=dlen bot (pE g3).1 hb2;have hgcd:=tS (GG m) (p6 top) (p6 bot) c1 c3 l1 l3;have his:=jw (GG m) (gO (p6 top) (p6 bot)) (by unfold gO;rw[zh c1 c3];exact bx (by decide) _);change aa _ _ 80 _ (nK .u32 (gO (p6 top) (p6 bot)))at hgcd;simp only[gy]at hgcd his;refine aba (aav (hK3 _ _ (aaF λK4 hK4=>?_)));simp[z6];refine ag.pure κ 9 rd1 (by simp) (by simp) (by simp) ?_;simp[z7];refine ag.pure κ 9 rd2 (by simp) (by simp) (by simp) ?_;simp;apply hK4;refine aaa λK4 hK4=>aaF λK5 hK5=>?_;simp;refine ag.pure κ 9 hgcd (by simp) (by simp) (by simp) ?_;simp;refine ag.pure κ 9 his (by simp) (by simp) (by simp) ?_;simp;apply hK5
   by_cases h1:val 4294967296 (dO (gO (p6 top) (p6 bot)))=1
   ·refine abd (by simp_all) (aav (hK4 _ _ (adG z2 z5 @HH ?_)));refine aaH ?_;have hp:fA neg top bot brk=.tup [pY neg (p6 top) (p6 bot),.c (.d (.int .i64 0))]:=by rw[hk];unfold fA;rw[if_neg hbf,if_neg hl,if_neg (by decide),if_pos h1]
    rw[hp];refine aM.rN (κ:=0) (T:=27) (t:=2) (u:=3) (k:=0) (off:=0) (own:=true) (fz:=false) (U:=27) (cs:=[.d (.bool neg),nC (p6 top),nC (p6 bot)]) rfl ?_ ?_ ?_ ?_ rfl rfl
    ·simp[z2]
    ·rfl
    ·rfl
    ·simp
   ·refine aaX (by simp_all) (ace z2 @AX ?_);refine aaH ?_;have hp:fA neg top bot brk=.tup [nm0,.c (.d (.int .i64 6))]:=by rw[hk];unfold fA;rw[if_neg hbf,if_neg hl,if_neg (by decide),if_neg h1]
    rw[hp];refine aM.rN (κ:=0) (T:=27) (t:=2) (u:=3) (k:=0) (off:=0) (own:=true) (fz:=false) (U:=27) (cs:=[.d (.bool false),.d .nilsl,.d .nilsl]) rfl ?_ ?_ ?_ ?_ rfl rfl
    ·simp[z2]
    ·rfl
    ·rfl
    ·simp
 refine aar ?_;simp;refine ag.pure 1 9 row1 (by simp) (by simp) (by simp) ?_
 cases g1:fC top with
 |false=>
  simp;exact hbad _ _ (by simp) (by simp) (by simp[jj,g1])
 |true=>
  cases hn:neg with
  |true=>
   by_cases h48:top=[48]
   ·have e48:decide (top=[48])=true:=decide_eq_true h48;simp[eqStr,e48];exact hbad _ _ (by simp) (by simp) (by simp[jj,hn,h48])
   ·cases hk:brk with
    |false=>
     simp[eqStr,h48];exact hgood _ _ (by simp) (by simp[hn]) (by simp) (by simp) (by simp[hk]) (by simp) g1 (λh=>by grind) (by simp[jj,g1,hn,h48,hk])
    |true=>
     simp[eqStr,h48];refine ag.pure 1 9 row2 (by simp) (by simp) (by simp) ?_
     cases g2:fC bot with
     |false=>
      simp;exact hbad _ _ (by simp) (by simp) (by simp[jj,g2,hk])
     |true=>
      by_cases b48:bot=[48]
      ·have e:decide (bot=[48])=true:=decide_eq_true b48;simp[eqStr,e];exact hbad _ _ (by simp) (by simp) (by simp[jj,e,hk])
      ·by_cases b49:bot=[49]
       ·have e:decide (bot=[49])=true:=decide_eq_true b49;simp[eqStr,b48,e];exact hbad _ _ (by simp) (by simp) (by simp[jj,e,hk])
       ·simp[eqStr,b48,b49];exact hgood _ _ (by simp) (by simp[hn]) (by simp) (by simp) (by simp[hk]) (by simp) g1 (λ_=>g2) (by simp[jj,g1,hn,h48,hk,g2,b48,b49])
  |false=>
   cases hk:brk with
   |false=>
    simp;exact hgood _ _ (by simp) (by simp[hn]) (by simp) (by simp) (by simp[hk]) (by simp) g1 (λh=>by grind) (by simp[jj,g1,hn,hk])
   |true=>
    simp;refine ag.pure 1 9 row2 (by simp) (by simp) (by simp) ?_
    cases g2:fC bot with
    |false=>
     simp;exact hbad _ _ (by simp) (by simp) (by simp[jj,g2,hk])
    |true=>
     by_cases b48:bot=[48]
     ·have e:decide (bot=[48])=true:=decide_eq_true b48;simp[eqStr,e];exact hbad _ _ (by simp) (by simp) (by simp[jj,e,hk])
     ·by_cases b49:bot=[49]
      ·have e:decide (bot=[49])=true:=decide_eq_true b49;simp[eqStr,b48,e];exact hbad _ _ (by simp) (by simp) (by simp[jj,e,hk])
      ·simp[eqStr,b48,b49];exact hgood _ _ (by simp) (by simp[hn]) (by simp) (by simp) (by simp[hk]) (by simp) g1 (λ_=>g2) (by simp[jj,g1,hn,hk,g2,b48,b49])
def dG(neg:Bool)(top bot:List UInt8)(brk:Bool):Int:=
 if jj neg top bot brk=true then 6
 else if 2000<max top.length bot.length then 3
 else if brk=false then 0
 else if val 4294967296 (dO (gO (p6 top) (p6 bot)))=1 then 0 else 6
theorem EV(neg:Bool)(top bot:List UInt8)(brk:Bool):∃b p q,fA neg top bot brk=.tup [pY b p q,.c (.d (.int .i64 (dG neg top bot brk)))]:=by
 unfold fA dG kC
 (repeat' split)<;>exact⟨_,_,_,rfl⟩
theorem Av(m:Int)(r:List UInt8):
 aa Tryz.prog (GG m) 92 [.c (.d (.str r))] (.c (.d (.int .i64 (dG (uH r [45]) (uO (lX r [45]) [47]) (tC (lX r [45]) [47]) (decide (0<=lN (lX r [45]) [47])))))):=by
 have hp:=EY m r;obtain⟨b,p,q,e⟩:=EV (uH r [45]) (uO (lX r [45]) [47]) (tC (lX r [45]) [47]) (decide (0<=lN (lX r [45]) [47]));rw[e]at hp;generalize dG (uH r [45]) (uO (lX r [45]) [47]) (tC (lX r [45]) [47]) (decide (0<=lN (lX r [45]) [47]))=n at *
 have hpu:(AV.tup [pY b p q,.c (.d (.int .i64 n))]).pure=true:=by cases p<;>cases q<;>rfl
 refine aa.en Tryz.func92 rfl λ_=>aah ?_;refine aaF λK hK=>?_;simp;refine ag.pure 0 9 hp hpu (by simp) rfl ?_;simp;apply hK;refine aah ?_;exact abe (aN.rt rfl 9 (by simp))
theorem xh(h:fC s=true)(h0:s≠[48])(h1:s≠[49]):2<=aS s 0:=by
 obtain⟨hD,hne⟩:=pE h;unfold fC at h;simp only[rP,aeV,aee,decide_eq_true_eq,decide_eq_false_iff_not]at h
 have h4:s.getD 0 0≠48:=by
  rcases h.2 with h3|h3
  ·exact absurd h3 h0
  ·exact h3
 cases s with
 |nil=>grind
 |cons c l=>
  have hc:=hD c (by simp);have hc48:c≠48:=h4;have hcn:c.toNat≠48:=λe=>hc48 (UInt8.toNat_inj.1 (by rw[e];rfl))
  have e:aS (c::l) 0=(c.toNat-48)*10^l.length+aS l 0:=by
   show aS l (10*0+(c.toNat-48))=_;rw[fR,afb,aeC]
  rw[e]
  cases l with
  |nil=>
   have hc49:c.toNat≠49:=λe=>h1 (by rw[UInt8.toNat_inj.1 (show c.toNat=(49:UInt8).toNat by rw[e];rfl)])
   grind
  |cons d l=>
   have h10:10<=10^(d::l).length:=by
    rw[aef,adR];have:=aeb (a:=10) (n:=l.length) (by decide);omega
   have:1*10<=(c.toNat-48)*10^(d::l).length:=aeK (by omega) h10;omega
def pO(neg:Bool)(top bot:List UInt8)(brk:Bool):Rat:=if dG neg top bot brk=0 then mkRat (dh neg (aS top 0)) (if brk=true then aS bot 0 else 1)else 0
theorem PS(s:List UInt8):(val 4294967296 (dO (p6 s)))=aS s 0:=by show val 4294967296 (aG 4294967296 (aS s 0))=_;rw[cK]
theorem Cj(s:List UInt8):can 4294967296 (dO (p6 s)):=ff _
theorem aab(s t:List UInt8):(val 4294967296 (dO (gO (p6 s) (p6 t))))=Nat.gcd (aS s 0) (aS t 0):=by
 unfold gO;rw[zh (Cj s) (Cj t),cK,PS,PS]
theorem IA{neg:Bool}{top bot:List UInt8}{brk:Bool}(h:jj neg top bot brk=false):fC top=true/\(brk=true->fC bot=true/\bot≠[48]/\bot≠[49]):=by
 unfold jj at h
 grind
theorem Iz(neg:Bool)(top bot:List UInt8)(brk:Bool):fA neg top bot brk=.tup [bC (pO neg top bot brk),.c (.d (.int .i64 (dG neg top bot brk)))]:=by
 by_cases h1:jj neg top bot brk=true
 ·have e:dG neg top bot brk=6:=by unfold dG;rw[if_pos h1]
  have e2:pO neg top bot brk=0:=by unfold pO;rw[e,if_neg (by decide)]
  rw[e,e2];unfold fA;rw[if_pos h1];rfl
 by_cases h2:2000<max top.length bot.length
 ·have e:dG neg top bot brk=3:=by unfold dG;rw[if_neg h1,if_pos h2]
  have e2:pO neg top bot brk=0:=by unfold pO;rw[e,if_neg (by decide)]
  rw[e,e2];unfold fA;rw[if_neg h1,if_pos h2];rfl
 obtain⟨g1,g2⟩:=IA (by simpa using h1)
 by_cases h3:brk=false
 ·have e:dG neg top bot brk=0:=by unfold dG;rw[if_neg h1,if_neg h2,if_pos h3]
  have e2:pO neg top bot brk=mkRat (dh neg (aS top 0)) 1:=by unfold pO;rw[e,if_pos rfl,h3];rfl
  rw[e,e2];unfold fA;rw[if_neg h1,if_neg h2,if_pos h3];rw[Br neg (Cj top) (q:=some (aG 4294967296 1)) (ff 1) (jg (by decide)),PS,aR,cK]
 have hb:brk=true:=by simpa using h3
 obtain⟨r1,r2,r3⟩:=g2 hb;have hge:=xh r1 r2 r3
 by_cases h4:(val 4294967296 (dO (gO (p6 top) (p6 bot))))=1
 ·have e:dG neg top bot brk=0:=by unfold dG;rw[if_neg h1,if_neg h2,if_neg h3,if_pos h4]
  have e2:pO neg top bot brk=mkRat (dh neg (aS top 0)) (aS bot 0):=by unfold pO;rw[e,if_pos rfl,hb];rfl
  rw[e,e2];unfold fA;rw[if_neg h1,if_neg h2,if_neg h3,if_pos h4];rw[aab]at h4;have ha:aS top 0≠0:=by intro h0;rw[h0,agX]at h4;omega
  obtain⟨n1,n2⟩:=o5 neg (a:=aS top 0) (b:=aS bot 0) (by omega);rw[h4,afH]at n1 n2;show AV.tup [pY neg (some (aG 4294967296 (aS top 0))) (some (aG 4294967296 (aS bot 0))),_]=AV.tup [pY (decide ((mkRat (dh neg (aS top 0)) (aS bot 0)).num<0)) (aL (mkRat (dh neg (aS top 0)) (aS bot 0)).num.natAbs) (bw (mkRat (dh neg (aS top 0)) (aS bot 0)).den),_];rw[n1,n2,qe,IM neg ha];unfold aL bw
  grind
 ·have e:dG neg top bot brk=6:=by unfold dG;rw[if_neg h1,if_neg h2,if_neg h3,if_neg h4]
  have e2:pO neg top bot brk=0:=by unfold pO;rw[e,if_neg (by decide)]
  rw[e,e2];unfold fA;rw[if_neg h1,if_neg h2,if_neg h3,if_neg h4];rfl
theorem pF(L:Nat)(h:1<=L):br 0 L:=⟨by show nl 0<=_;exact aa2 _,by show nl 1<=_;rw[eK];exact h⟩
theorem s7(h:wL s)(hl:s.length<=2000):nl (aS s 0)<=300:=by
 have:=WJ (oe h);omega
theorem Sg(neg:Bool)(top bot:List UInt8)(brk:Bool):br (pO neg top bot brk) 300:=by
 unfold pO;split
 ·rename_i h
  have h1:¬jj neg top bot brk=true:=by
   intro hb;unfold dG at h;rw[if_pos hb]at h;cases h
  have h2:¬2000<max top.length bot.length:=by
   intro hb;unfold dG at h;rw[if_neg h1,if_pos hb]at h;cases h
  obtain⟨g1,g2⟩:=IA (by simpa using h1);split
  ·rename_i hb
   obtain⟨r1,r2,r3⟩:=g2 hb;have hge:=xh r1 r2 r3;exact hJ _ (by omega) (s7 (pE g1).1 (by omega)) (s7 (pE r1).1 (by omega))
  ·exact hJ _ (by decide) (s7 (pE g1).1 (by omega)) (by rw[eK];decide)
 ·exact pF _ (by decide)
def cM(r:List UInt8):Int:=dG (uH r [45]) (uO (lX r [45]) [47]) (tC (lX r [45]) [47]) (decide (0<=lN (lX r [45]) [47]))
def cT(r:List UInt8):Rat:=pO (uH r [45]) (uO (lX r [45]) [47]) (tC (lX r [45]) [47]) (decide (0<=lN (lX r [45]) [47]))
theorem fS(r:List UInt8):br (cT r) 300:=Sg ..
theorem kO(m:Int)(r:List UInt8):aa Tryz.prog (GG m) 34 [.c (.d (.str r))] (.tup [bC (cT r),.c (.d (.int .i64 (cM r)))]):=by
 have h:=EY m r;rw[Iz]at h;exact h
theorem KT(m:Int)(r:List UInt8):aa Tryz.prog (GG m) 92 [.c (.d (.str r))] (.c (.d (.int .i64 (cM r)))):=Av m r
def oF(lo hi:List UInt8):Int:=if cM lo≠0 then cM lo else if cM hi≠0 then cM hi else if cT lo<=cT hi then 0 else 7
def xy(lo hi:List UInt8):Iv:=if oF lo hi=0 then(cT lo,cT hi)else(0,0)
theorem V1(lo hi:List UInt8):(xy lo hi).sz 300:=by
 unfold xy;split
 ·exact⟨fS lo,fS hi⟩
 ·exact⟨pF _ (by decide),pF _ (by decide)⟩
theorem szB{x:Rat}(h:br x 300):br x 10000000000:=au h (by decide)
theorem Zo(m:Int)(lo hi:List UInt8):aa Tryz.prog (GG m) 8 [.agg [.d (.str lo),.d (.str hi)]] (.tup [jC (xy lo hi),.c (.d (.int .i64 (oF lo hi)))]):=by
 have c1:=kO m lo;have c2:=kO m hi;have c3:=SZ (GG m) (cT lo) (cT hi) (szB (fS lo)) (szB (fS hi))
 by_cases h1:cM lo=0
 rotate_left
 ·have e:oF lo hi=cM lo:=if_pos h1;have e2:xy lo hi=(0,0):=by unfold xy;rw[e,if_neg h1]
  rw[e2,e];generalize cM lo=n at *
  generalize cT lo=r at *
  refine aa.enc Tryz.func8 rfl (λlv=>lA lv _ _ _ _ _ _ _ rfl) λ_=>aah ?_;refine acH 2 c1 ?_;refine aaa λK hK=>abf h1 ?_;refine aaX (by simp[h1]<;>omega) (abf @TG ?_);exact aaH (aM.VN (κ:=0) (t:=2) (k:=1) (u:=3) ⟨rfl,rfl⟩ (by simp) (by simp[ai]) (by simp))
 by_cases h2:cM hi=0
 rotate_left
 ·have e:oF lo hi=cM hi:=by unfold oF;rw[if_neg (not_not_intro h1),if_pos h2]
  have e2:xy lo hi=(0,0):=by unfold xy;rw[e,if_neg h2]
  rw[e2,e];rw[h1]at c1;generalize cM hi=n at *
  generalize cT lo=r at *
  generalize cT hi=r2 at *
  refine aa.enc Tryz.func8 rfl (λlv=>lA lv _ _ _ _ _ _ _ rfl) λ_=>aah ?_;refine acH 2 c1 ?_;refine aaa λK hK=>aah ?_;refine aba (aav (hK _ _ (acH 3 c2 ?_)));refine aaa λK hK=>abf h2 ?_;refine aaX (by simp[h2]<;>omega) (abf @TG ?_);exact aaH (aM.VN (κ:=0) (t:=2) (k:=1) (u:=3) ⟨rfl,rfl⟩ (by simp) (by simp[ai]) (by simp))
 have e:oF lo hi=if cT lo<=cT hi then 0 else 7:=by unfold oF;rw[if_neg (not_not_intro h1),if_neg (not_not_intro h2)]
 have e2:xy lo hi=ov (cT lo) (cT hi):=by
  unfold xy ov;rw[e];split<;>simp_all
 rw[e2,e];rw[h1]at c1;rw[h2]at c2;generalize (if cT lo<=cT hi then(0:Int)else 7)=n at *
 generalize ov (cT lo) (cT hi)=v at *
 generalize cT lo=r at *
 generalize cT hi=r2 at *
 refine aa.enc Tryz.func8 rfl (λlv=>lA lv _ _ _ _ _ _ _ rfl) λ_=>aah ?_;refine acH 2 c1 ?_;refine aaa λK hK=>aah ?_;refine aba (aav (hK _ _ (acH 3 c2 ?_)));refine aaa λK hK=>aaa λK1 hK1=>aar ?_;simp
 repeat refine aj ?_
 apply hK1;refine aba (aav ?_);simp
 repeat refine aj ?_
 apply hK;refine acA 4 c3 @ai.eq_1 ?_;exact aaH (aM.VN (κ:=0) (t:=2) (k:=1) (u:=3) ⟨rfl,rfl⟩ (by simp) (by simp[ai]) (by simp))
end Go.Am
namespace Go.Am
variable {fn:Func}{x:AV}{P:Program}{G:List (List DV)}{f:FuncId}{code:Code}{args:List AV}
theorem aa.SH(hf:P.funcs[f]?=some fn)(hb:fn.body=some code)(hl:args.length<=fn.ntmps)
 (hx:∀lv,dI lv x=some (x,[]))
 (h:∀c:Ctx,c.P=P->c.G=G->c.n=fn.ntmps->c.iN=(λ_=>.hole)->AW c none code ⟨λt=>args.getD t .undef,λ_=>.hole⟩ 0 (aM c fn x)):aa P G f args x:=
 aa.H9 hf hb hl λc h1 h2 h3 h4=>(h c h1 h2 h3 h4).mono λe s κ hq=>aM.d (hx _) hq
theorem aa.Tg(hf:P.funcs[f]?=some fn)(hb:fn.body=some code)(hx:∀lv,dI lv x=some (x,[]))
 (h:∀z:Ev,AW ⟨P,G,z.w,z.F,z.W,fn.ntmps,λ_=>.hole,z.b,z.d⟩ none code ⟨λt=>args.getD t .undef,λ_=>.hole⟩ 0 (aM ⟨P,G,z.w,z.F,z.W,fn.ntmps,λ_=>.hole,z.b,z.d⟩ fn x)) (hl:Nat.ble args.length fn.ntmps=true:=by kernel_rfl):aa P G f args x:=
 aa.SH hf hb (ad1 hl) hx λ⟨_,_,w,F,W,_,q,b,d⟩ h1 h2 h3 h4=>by cases h1;cases h2;cases h3;cases h4;exact h ⟨w,F,W,λ_=>.hole,b,d⟩
theorem aa.ed(hf:P.funcs[f]?=some fn)(hb:fn.body=some code)
 (h:∀z:Ev,AW ⟨P,G,z.w,z.F,z.W,fn.ntmps,λ_=>.hole,z.b,z.d⟩ none code ⟨λt=>args.getD t .undef,λ_=>.hole⟩ 0 (gG ⟨P,G,z.w,z.F,z.W,fn.ntmps,λ_=>.hole,z.b,z.d⟩ fn x)) (hl:Nat.ble args.length fn.ntmps=true:=by kernel_rfl):aa P G f args x:=
 aa.H9 hf hb (ad1 hl) λ⟨_,_,w,F,W,_,q,b,d⟩ h1 h2 h3 h4=>by cases h1;cases h2;cases h3;cases h4;exact h ⟨w,F,W,λ_=>.hole,b,d⟩
theorem Ky{lv:Key->LB}{n:Nat}:∀(l:List DV),iY (gu lv n) (l.map CV.d)=some (l,[])
 |[]=>rfl
 |x::l=>by
  have ih:=Ky (lv:=lv) (n:=n) l;simp only[adK,iY]at ih ⊢;rw[ih]
  cases n<;>rfl
theorem yS{α:Type}{sz:Nat}:∀(es:List (List α)),(∀e∈es,e.length=sz)->chunk sz es.length es.flatten=es
 |[],_=>rfl
 |e::es,h=>by
  have he:e.length=sz:=h e (by simp);have ih:=yS es λx hx=>h x (by simp[hx])
  have hlen:es.flatten.length=es.length*sz:=by
   rw[List.length_flatten]
   have:∀l:List (List α),(∀e∈l,e.length=sz)->(l.map List.length).sum=l.length*sz:=by
    intro l
    induction l with
    |nil=>simp
    |cons a l ih=>grind
   exact this es λx hx=>h x (by simp[hx])
  unfold chunk at ih ⊢;rw[aef,List.range_succ_eq_map,adK,aed];congr 1
  ·grind
  ·conv=>rhs;rw[<-ih]
   apply aes;intro i _;simp only[Function.comp,afZ];have:(i+1)*sz=e.length+i*sz:=by rw[he,agd];omega
   rw[Nat.succ_eq_add_one,this,List.drop_append,aeH (by omega),aff,aeT]
theorem gG.tmp{c:Ctx}{X:AV}{t:Nat}{s:aB}{κ:Nat}{ks:List Key}(hr:fn.results=#[.tmp t])(hx:s.fr t=X)(hd:dI s.lv X=some (x,ks)):gG c fn x .ret s κ:=
 ⟨X,ks,by rw[hr];simp[eE,kZ,mN,hx],hd⟩
theorem th{lv:Key->LB}{k:Key}{own fz:Bool}{T:TypeId}{es:List (List DV)}{sz:Nat}(h:lv k=.cells own fz T (es.flatten.map CV.d))(hs:∀e∈es,e.length=sz)(hl:es.length<=9223372036854775807):
 dI lv (.c (.aH k 0 es.length sz))=some (.c (.d (.sl es)),[k]):=by
 have hlen:es.flatten.length=es.length*sz:=by
  rw[List.length_flatten]
  have:∀l:List (List DV),(∀e∈l,e.length=sz)->(l.map List.length).sum=l.length*sz:=by
   intro l
   induction l with
   |nil=>simp
   |cons a l ih=>grind
  exact this es hs
 have ht:(es.flatten.map CV.d).take (es.length*sz)=es.flatten.map CV.d:=ae6 (by grind);simp only[dI,eZ,gu,h,ab0,hlen,aeC,bh,hl,and_self,if_true,aeu,ht,Ky,aeJ,yS es hs]
end Go.Am
namespace Go.Am
open Go.Am.Ty Go.Proofs N
variable {i L t u κ M n:Nat}{lv:Key->LB}{ks:List Key}{x y:Rat}{k:Key}{T:TypeId}{c:Ctx}{fn:Func}{X Y:AV}{s:aB}
theorem mF(h:lv k=.hole):az lv k .hole=lv:=by
 funext j
 simp_all
theorem Fj{P:Program}{o:Option (List (List DV))}{k:Int}{sz:Nat}{e:List DV}(h:(eW P T).map (·.2)=some sz)(h0:0<=k)(hi:k<(sO o).length)(he:(sO o).getD k.toNat []=e)(hs:e.length=sz):
 aq P T lv (slA o) (.c (.d (.int .i64 k)))=some (.c (.d (.ptr e)),[],[],True):=by
 obtain⟨i,rfl⟩:∃i:Nat,k=i:=⟨k.toNat,by omega⟩
 have hi':i<(sO o).length:=by omega
 have e1:(sO o)[i]=e:=by rw[<-he,aeA,adS,fy hi'];rfl
 rw[Vr h hi' (by rw[e1];exact hs),e1]
abbrev Sp:=List UInt8×List UInt8
@[simp]theorem abv(a b:List UInt8):(AV.agg [.d (.str a),.d (.str b)]).pure=true:=rfl
def PW(s:Sp):List DV:=[.str s.1,.str s.2]
def wh(b:Option (List Sp)):Option (List (List DV)):=b.map (·.map PW)
def bp(b:Option (List Sp)):List Sp:=b.getD []
theorem JU(b:Option (List Sp)):(sO (wh b)).length=(bp b).length:=by cases b<;>simp[wh,bp,sO]
theorem S3(lv:Key->LB)(b:Option (List Sp)):fX Tryz.prog 23 lv (.c (bV (wh b)))=some (.c (.d (.int .i64 (bp b).length)),[],[],True):=by
 rw[<-JU];exact k7 (by simp)
theorem Y1(lv:Key->LB)(b:Option (List Sp))(hi:i<(bp b).length):aq Tryz.prog 23 lv (.c (bV (wh b))) (.c (.d (.int .i64 (i:Int))))=some (.c (.d (.ptr (PW (bp b)[i]))),[],[],True):=by
 refine Fj (sz:=2) (by simp) (by omega) (by rw[JU];omega) ?_ rfl
 cases b with
 |none=>cases hi
 |some l=>
  have hi':i<l.length:=hi;rw[aeA];show(l.map PW).getD i []=PW l[i];rw[adS,aeP,fy hi'];rfl
@[simp]theorem XB(o:Option (List (List DV))):(AV.c (bV o)).pure=true:=by cases o<;>rfl
@[simp]theorem ZU(o:Option (List (List DV)))(g:Key->Key):(bV o).bY g=bV o:=by cases o<;>rfl
@[simp]theorem Xk(o:Option (List (List DV))):(AV.c (bV o)).bX=true:=by cases o<;>rfl
@[simp]theorem XJ(o:Option (List (List DV))):(AV.c (bV o)).bZ=true:=rfl
def UA(a:Iv):List DV:=[.bool (decide (a.1.num<0)),nD (aL a.1.num.natAbs),nD (bw a.1.den),.bool (decide (a.2.num<0)),nD (aL a.2.num.natAbs),nD (bw a.2.den)]
theorem C6(a:Iv):(UA a).map CV.d=[.d (.bool (decide (a.1.num<0))),nC (aL a.1.num.natAbs),nC (bw a.1.den),.d (.bool (decide (a.2.num<0))),nC (aL a.2.num.natAbs),nC (bw a.2.den)]:=by simp only[ic];rfl
def iK(l:List Iv):List CV:=(l.map UA).flatten.map CV.d
def iB(l:List Iv):LB:=if l=[]then .hole else .cells true false 29 (iK l)
def iS(l:List Iv):AV:=if l=[]then .c (.d .nilsl)else .c (.aH 0 0 l.length 6)
def iO(l:List Iv):Option (List (List DV)):=if l=[]then none else some (l.map UA)
theorem Bq{l:List (List DV)}{z:Nat}(h:∀e∈l,e.length=z):l.flatten.length=l.length*z:=by
 induction l with
 |nil=>simp
 |cons a l ih=>
  rw[afZ,ad6,ih λe he=>h e (aew _ he),h a (aen ..),aef,agd];omega
theorem Oq(l:List Iv):(iK l).length=l.length*6:=by
 unfold iK;rw[ab0,Bq (z:=6) (by intro e he;obtain⟨a,_,rfl⟩:=List.mem_map.1 he;rfl),ab0]
theorem Jp(l:List Iv)(a:Iv):iK l++[.d (.bool (decide (a.1.num<0))),nC (aL a.1.num.natAbs),nC (bw a.1.den),.d (.bool (decide (a.2.num<0))),nC (aL a.2.num.natAbs),nC (bw a.2.den)]=iK (l++[a]):=by
 unfold iK;rw[<-C6];simp
theorem xz(l:List Iv)(a:Iv):iB (l++[a])=.cells true false 29 (iK (l++[a])):=by
 unfold iB;rw[if_neg (by simp)]
theorem xA(l:List Iv)(a:Iv):iS (l++[a])=.c (.aH 0 0 (l.length+1) 6):=by
 unfold iS;rw[if_neg (by simp)];simp
theorem Nv(l:List Iv)(g:Key->Key):(iK l).map (CV.bY g)=iK l:=by
 unfold iK;rw[aed];rfl
theorem Rn(lv:Key->LB)(κ:Key)(h:lv κ=.hole)(a b c d e f:CV):ak Tryz.prog 89 1 [0] lv κ [.agg [a,b,c,d,e,f]]=some (.c (.aH κ 0 1 6),[(κ,.cells true false 29 [a,b,c,d,e,f])],[],True):=by
 unfold ak;rw[h];kernel_rfl
def pV:List Sp->Int->Int
 |[],w=>w
 |s::l,w=>if oF s.1 s.2=7 then pV l 7 else if oF s.1 s.2≠0 then oF s.1 s.2 else pV l w
def eD(l:List Sp):List Iv:=l.map λs=>xy s.1 s.2
theorem gG.tB{x:AV}(hr:fn.results=#[.tmp t,.tmp u])(hx:s.fr t=X)(hy:s.fr u=Y)(hn:X.bZ=true)(hm:Y.bZ=true)(hd:dI s.lv (.tup [X,Y])=some (x,ks)):gG c fn x .ret s κ:=
 ⟨.tup [X,Y],ks,by rw[hr];simp[eE,kZ,mN,hx,hy,hn,hm],hd⟩
theorem gG.Kk{x Z:AV}{v:Nat}(hr:fn.results=#[.tmp t,.tmp u,.tmp v])(hx:s.fr t=X)(hy:s.fr u=Y)(hz:s.fr v=Z)(hn:X.bZ=true)(hm:Y.bZ=true)(ho:Z.bZ=true)(hd:dI s.lv (.tup [X,Y,Z])=some (x,ks)):gG c fn x .ret s κ:=
 ⟨.tup [X,Y,Z],ks,by rw[hr];simp[eE,kZ,mN,hx,hy,hz,hn,hm,ho],hd⟩
theorem Un{x:CV}{x':AV}{e:Int}(h:dI lv (.c x)=some (x',ks)):dI lv (.tup [.c x,.c (.d (.int .i64 e))])=some (.tup [x',.c (.d (.int .i64 e))],ks):=by
 have h:eZ lv (.c x)=some (x',ks):=h;have he:eZ lv (AV.c (CV.d (DV.int IntKind.i64 e)))=some (.c (.d (.int .i64 e)),[]):=rfl;simp[dI,j9,h,he]
theorem Sj{own fz:Bool}{l:List Iv}(h:lv k=.cells own fz T (iK l))(hl:l.length<=9223372036854775807)(h0:l≠[]):dI lv (.c (.aH k 0 l.length 6))=some (.c (bV (iO l)),[k]):=by
 have:=th (es:=l.map UA) (sz:=6) h (by intro e he;obtain⟨a,_,rfl⟩:=List.mem_map.1 he;rfl) (by rw[ab0];exact hl);rw[ab0]at this;rw[this];unfold iO;rw[if_neg h0];rfl
theorem FO{L:List Sp}(h:i<L.length):eD (L.take (i+1))=eD (L.take i)++[xy L[i].1 L[i].2]:=by
 rw[afi,fy h];unfold eD;rw[aeR];rfl
theorem OR(m:Int)(b:Option (List Sp))(hb:(bp b).length<=1048576):aa Tryz.prog (GG m) 43 [.c (bV (wh b))] (.tup [.c (bV (if pV (bp b) 0=0 then iO (eD (bp b))else none)),.c (.d (.int .i64 (pV (bp b) 0)))]):=by
 have hlp:=λlv=>S3 lv b
 have hix:=λlv {i:Nat}(hi:i<(bp b).length)=>Y1 lv b hi
 refine aa.ed Tryz.func43 rfl λ_=>aah ?_;refine aah ?_;refine aah ?_;refine aaa λK hK=>abf hlp ?_;refine aaE ?_
 refine abr (λ(d:Nat×Int)=>⟨aU [(4,iS (eD ((bp b).take d.1))),(5,.c (.d (.int .i64 d.2))),(10,.c (bV (wh b))),(11,.c (.d (.int .i64 (bp b).length))),(12,.c (.d (.int .i64 d.1)))],az (λ_=>.hole) 0 (iB (eD ((bp b).take d.1)))⟩) 1
  (λd=>d.1<=(bp b).length/\pV ((bp b).drop d.1) d.2=pV (bp b) 0) (λd=>(bp b).length-d.1) (0,0) (Le.eY _ (by simp only[List.take_zero,eD,aeD,iB,if_true];exact(mF rfl).symm) (by simp[iS,eD])) ⟨aa2 _,rfl⟩ ?_
 rintro⟨i,w⟩ ⟨hi,hb2⟩
 try simp only at hi hb2 ⊢
 refine aah ?_;refine aaa λK2 hK2=>?_
 by_cases hlt:i<(bp b).length
 ·have hlt':(i:Int)<((bp b).length:Int):=by omega
  have hx:=λlv=>hix lv hlt
  have hnx:=FO hlt;have hll:(eD ((bp b).take i)).length=i:=by unfold eD;rw[ab0,aej];omega
  have f12:=bB (n:=(i:Int)+1) (by omega) (by omega);have hd:(bp b).drop i=(bp b)[i]::(bp b).drop (i+1):=adT hlt;rw[hd]at hb2;have hof:=Zo m (bp b)[i].1 (bp b)[i].2;generalize (bp b)[i]=s at *
  generalize eD ((bp b).take i)=l at *
  refine aaX (by simp[hlt']<;>omega) (aav (hK2 _ _ (aaa λK5 hK5=>aaE (aaF λK6 hK6=>?_))));simp[hx,PW]
  repeat refine aj ?_
  apply hK6;refine acA 10 hof @ai.eq_1 ?_;refine aaa λK6 hK6=>aah ?_
  by_cases h7:oF s.1 s.2=7
  ·have hb1:pV (s::(bp b).drop (i+1)) w=pV ((bp b).drop (i+1)) 7:=if_pos h7;have hE:=h7;refine aaX (by simp[h7]<;>omega) (adl (hK6 _ _ ?_))
   by_cases hl:l=[]
   ·subst hl;refine aar ?_;simp[iB,iS,Rn,fc,keyOf,ai,-ak]
    repeat refine aj ?_
    apply hK5;refine aar ?_;simp[f12]
    exact⟨i+1,7,Le.keys [(0,13,iB ([]++[xy s.1 s.2]))] 19 _ (by rw[hnx];rfl) rfl (by simp) (by simp) (by simp) (by
     intro e he;simp only[aY,cy,or_false]at he;subst he;rw[xz];simp[iK,C6]) (by rw[hnx,xA];simp[b6,hE]),⟨by omega,hb1.symm.trans hb2⟩,by omega⟩
   ·have hzb:iB l=.cells true false 29 (iK l):=if_neg hl;have hzs:iS l=.c (.aH 0 0 l.length 6):=if_neg hl;have hzl:=Oq l;refine aar ?_;simp[hzb,hzs,Rn,fc,keyOf,hzl,ai,-ak]
    repeat refine aj ?_
    apply hK5;refine aar ?_;simp[f12]
    exact⟨i+1,7,Le.keys [(0,13,iB (l++[xy s.1 s.2]))] 19 _ (by rw[hnx];rfl) rfl (by simp) (by simp) (by simp) (by
     intro e he;simp only[aY,cy,or_false]at he;subst he;rw[xz,<-Jp];simp[Nv]) (by rw[hnx,xA];simp[b6,hE]),⟨by omega,hb1.symm.trans hb2⟩,by omega⟩
  by_cases h0:oF s.1 s.2=0
  ·have hb1:pV (s::(bp b).drop (i+1)) w=pV ((bp b).drop (i+1)) w:=by rw[pV,if_neg h7,if_neg (not_not_intro h0)]
   have hE:=h0;refine abd (by simp[h7]<;>omega) (aah ?_);refine abd (by simp[h0]<;>omega) (aav (hK6 _ _ ?_))
   by_cases hl:l=[]
   ·subst hl;refine aar ?_;simp[iB,iS,Rn,fc,keyOf,ai,-ak]
    repeat refine aj ?_
    apply hK5;refine aar ?_;simp[f12]
    exact⟨i+1,w,Le.keys [(0,13,iB ([]++[xy s.1 s.2]))] 19 _ (by rw[hnx];rfl) rfl (by simp) (by simp) (by simp) (by
     intro e he;simp only[aY,cy,or_false]at he;subst he;rw[xz];simp[iK,C6]) (by rw[hnx,xA];simp[b6,hE]),⟨by omega,hb1.symm.trans hb2⟩,by omega⟩
   ·have hzb:iB l=.cells true false 29 (iK l):=if_neg hl;have hzs:iS l=.c (.aH 0 0 l.length 6):=if_neg hl;have hzl:=Oq l;refine aar ?_;simp[hzb,hzs,Rn,fc,keyOf,hzl,ai,-ak]
    repeat refine aj ?_
    apply hK5;refine aar ?_;simp[f12]
    exact⟨i+1,w,Le.keys [(0,13,iB (l++[xy s.1 s.2]))] 19 _ (by rw[hnx];rfl) rfl (by simp) (by simp) (by simp) (by
     intro e he;simp only[aY,cy,or_false]at he;subst he;rw[xz,<-Jp];simp[Nv]) (by rw[hnx,xA];simp[b6,hE]),⟨by omega,hb1.symm.trans hb2⟩,by omega⟩
  ·have hb1:pV (s::(bp b).drop (i+1)) w=oF s.1 s.2:=by rw[pV,if_neg h7,if_pos h0]
   have hbe:pV (bp b) 0=oF s.1 s.2:=hb2.symm.trans hb1;refine abd (by simp[h7]<;>omega) (aah ?_);refine aaX (by simp[h0]<;>omega) (aah ?_);rw[hbe,if_neg h0];exact aaH (κ:=0) (gG.tB (κ:=0) (X:=.c (.d .nilsl)) (Y:=.c (.d (.int .i64 (oF s.1 s.2)))) (ks:=[]) rfl (by simp) (by simp) rfl rfl rfl)
 have hlt':¬(i:Int)<((bp b).length:Int):=by omega
 have hie:i=(bp b).length:=by omega
 subst hie;have hw:pV (bp b) 0=w:=by rw[<-hb2,List.drop_length];rfl
 rw[afs];refine abd (by simp[hlt']<;>omega) (abn (hK _ _ (aaa λK hK=>aah ?_)))
 by_cases h0:w=0
 ·subst h0;refine aba (aav (hK _ _ (aah ?_)));rw[hw,if_pos rfl]
  by_cases hl:eD (bp b)=[]
  ·rw[hl];exact aaH (κ:=0) (gG.tB (κ:=0) (X:=.c (.d .nilsl)) (Y:=.c (.d (.int .i64 0))) (ks:=[]) rfl (by simp[iS,hl]) (by simp) rfl rfl rfl)
  ·have hzb:iB (eD (bp b))=.cells true false 29 (iK (eD (bp b))):=if_neg hl;have hzs:iS (eD (bp b))=.c (.aH 0 0 (eD (bp b)).length 6):=if_neg hl;exact aaH (κ:=0) (gG.tB (κ:=0) (Y:=.c (.d (.int .i64 0))) rfl (by simp[hzs]) (by simp) rfl rfl (Un (e:=0) (Sj (k:=0) (own:=true) (fz:=false) (T:=29) (by simp[hzb]) (by simp[eD];omega) hl)))
 ·refine aaX (by simp[h0]<;>omega) (aah ?_);rw[hw,if_neg h0];exact aaH (κ:=0) (gG.tB (κ:=0) (X:=.c (.d .nilsl)) (Y:=.c (.d (.int .i64 w))) (ks:=[]) rfl (by simp) (by simp) rfl rfl rfl)
theorem Va(l:List Iv):(sO (iO l)).length=l.length:=by unfold iO;split<;>simp_all [sO]
theorem adf(lv:Key->LB)(l:List Iv)(hi:i<l.length):aq Tryz.prog 89 lv (.c (bV (iO l))) (.c (.d (.int .i64 (i:Int))))=some (.c (.d (.ptr (UA l[i]))),[],[],True):=by
 refine Fj (sz:=6) (by simp) (by omega) (by rw[Va];omega) ?_ rfl;have hl:l≠[]:=by intro e;subst e;cases hi
 rw[aeA];unfold iO;rw[if_neg hl];show(l.map UA).getD i []=UA l[i];rw[adS,aeP,fy hi];rfl
theorem YI(o:Option (List Nat)):CV.d (nD o)=nC o:=(ic o).symm
def Iv.z(a:Iv):Prop:=br a.1 300/\br a.2 300
theorem Iv.BI{a:Iv}(h:a.z):br (a.2-a.1) 601:=by
 rw[Rat.sub_eq_add_neg];exact Sy h.2 (uC h.1)
theorem PO(l:List Sp):∀a∈eD l,a.z:=by
 intro a ha;obtain⟨s,_,rfl⟩:=List.mem_map.1 ha;exact V1 s.1 s.2
theorem M9(G:List (List DV))(a:Iv)(h:a.z):aa Tryz.prog G 104 [jC a] (bC (a.2-a.1)):=by
 have c1:=xO G a.2 a.1 (szB h.2) (szB h.1);obtain⟨a1,a2⟩:=a;simp only at c1;refine aa.enc Tryz.func104 rfl (λlv=>cg lv _ _ _) λ_=>aah ?_;refine acA 4 c1 @ai.eq_1 ?_;exact aaH (aM.num (κ:=0) (t:=2) (k:=1) ⟨rfl,rfl⟩ (by simp) (by simp[ai]))
theorem JX(k:Key)(frm step n:Nat)(g:Key->Key)(h:g k=k):(kf k frm step n).map (CV.bY g)=kf k frm step n:=by
 unfold kf;rw[aed];refine aes λi _=>?_;show CV.ptr (g k) _=_;rw[h]
def kn(c:Sq)(frm step n:Nat)(b:Sq):Sq:=λj=>if frm<=j/\(j-frm)%step=0/\(j-frm)/step<=n then b ((j-frm)/step)else c j
section
variable {c:Sq}{frm step n:Nat}
theorem CI(hs:0<step)(b:Sq)(h:i<=n):kn c frm step n b (frm+i*step)=b i:=by
 unfold kn;have e:frm+i*step-frm=i*step:=by omega
 rw[e,if_pos ⟨by omega,Nat.mul_mod_left _ _,by rw[af0 _ hs];exact h⟩,af0 _ hs]
theorem Dw(hs:0<step)(b:Sq)(h:i<=n)(v:Rat):(λj=>if j=frm+i*step then v else kn c frm step n b j)=kn c frm step n (λk=>if k=i then v else b k):=by
 funext j
 by_cases e:j=frm+i*step
 ·subst e;rw[if_pos rfl,CI hs _ h,if_pos rfl]
 ·rw[if_neg e];unfold kn;split
  ·rename_i h2
   have hd:=Nat.div_mul_cancel (Nat.dvd_of_mod_eq_zero h2.2.1);have hne:(j-frm)/step≠i:=λe2=>by rw[e2]at hd;omega
   show _=if (j-frm)/step=i then v else _
   rw[if_neg hne]
  ·rfl
theorem qp{b b':Sq}(h:∀k,k<=n->b k=b' k):kn c frm step n b=kn c frm step n b':=by
 funext j;unfold kn;split
 ·rename_i h2;exact h _ h2.2.2
 ·rfl
theorem Mw(hs:0<step):kn c frm step n (λk=>c (frm+k*step))=c:=by
 funext j;unfold kn;split
 ·rename_i h2
  have hd:=Nat.div_mul_cancel (Nat.dvd_of_mod_eq_zero h2.2.1);show c (frm+(j-frm)/step*step)=c j;rw[hd];congr 1;omega
 ·rfl
end
theorem Hy(m:Int)(c:Sq)(M frm step n:Nat)(a:Iv)(hs:0<step)(hM:frm+n*step<M)(hM2:M<=1000)(hn:n<=600)(hL:L<=1000000000)
 (h1:∀i k j,i<=n->j<=n->br (qY a.1 n (λk=>c (frm+k*step)) i k j) L) (hz:a.z) (hL3:1000<=L)
 (h2:∀k,k<=n->br (ni n (a.2-a.1) k) L) (h3:∀k j,j<=n->br (Ad n a.1 (a.2-a.1) (λk=>c (frm+k*step)) k j) L)
 (h4:∀i k j,j<=n->0<i\/k=0->br (qZ (λk=>uS a.1 n (λk=>c (frm+k*step)) k*ni n (a.2-a.1) k) i k j) L) :
 aI Tryz.prog (GG m) 59 [.c (.aH 0 0 (n+1) 1),jC a] [.cells false false 105 (kf 1 frm step n),.cells false false 27 (qK c M)]
  (.ret (.tup []) [.cells false false 105 (kf 1 frm step n),.cells false false 27 (qK (kn c frm step n (oJ n a.1 (a.2-a.1) (λk=>c (frm+k*step)))) M)] []):=by
 have hlo:br a.1 L:=au hz.1 (by omega);generalize hA:(λk=>c (frm+k*step))=A at *
 have wn:IntKind.i64.wrap ((((n+1:Nat):Int))-1)=(n:Int):=by rw[bB (by omega) (by omega)];omega
 have wn0:IntKind.i64.wrap (n:Int)=(n:Int):=bB (by omega) (by omega)
 have hσ:bL [.cells false false 105 (kf 1 frm step n),.cells false false 27 (qK c M)] []=az (az (λ_=>.hole) 0 (.cells false false 105 (kf 1 frm step n))) 1 (.cells false false 27 (qK c M)):=by
  funext k;match k with|0=>rfl|1=>rfl|k+2=>simp[bL,az]
 refine aI.enm Tryz.func59 rfl hσ λ_=>?_;refine acO 10 ?_;refine aah ?_;refine abf wn ?_;refine aaa λK hK=>aaa λK1 hK1=>aar ?_;simp
 repeat refine aj ?_
 apply hK1;refine aaE ?_
 refine abr (λ(i:Nat)=>⟨aU [(0,.c (.aH 0 0 (n+1) 1)),(3,.c (.ptr 10 0)),(4,.c (.d (.int .i64 n))),(14,.c (.d (.int .i64 n))),(15,.c (.d (.int .i64 i)))],
  az (az (az (λ_=>.hole) 0 (.cells false false 105 (kf 1 frm step n))) 1 (.cells false false 27 (qK (kn c frm step n (qY a.1 n A i n)) M))) 10 (.cells true false 29 [.d (.bool (decide (a.1.num<0))),nC (aL a.1.num.natAbs),nC (bw a.1.den),.d (.bool (decide (a.2.num<0))),nC (aL a.2.num.natAbs),nC (bw a.2.den)])⟩) 20
  (λi=>i<=n) (λi=>n-i) 0 (Le.mk' _ (by
   have e:kn c frm step n (qY a.1 n A 0 n)=c:=by
    rw[qp (b':=λk=>c (frm+k*step)) λk hk=>by rw[MR _ _ _ hk,<-hA],Mw hs]
   simp only[e]) (by repeat (first|exact bu|refine vD ?_ _ _ _ _ _|(refine lq ?_ _)|(refine noMap_blS ?_ _ _ _)|(refine noMap_upd_nils ?_ _)|simp)) (by simp[wn0])) (aa2 _) ?_
 rintro i hi
 try simp only at hi ⊢
 refine aah ?_;refine aaa λK2 hK2=>?_
 by_cases hlt:i<n
 ·have hlt':(i:Int)<(n:Int):=by omega
  have f15:=bB (n:=(i:Int)+1) (by omega) (by omega);have f6:=bB (n:=(n:Int)-1) (by omega) (by omega);refine aaX (by simp[hlt']<;>omega) (aav (hK2 _ _ (aaa λK4 hK4=>aaE (aaa λK5 hK5=>aar ?_))));simp
  repeat refine aj ?_
  apply hK5;refine aaa λK5 hK5=>aar ?_;simp[f6]
  repeat refine aj ?_
  apply hK5;refine aaE ?_
  refine abr (λ(p:Nat)=>⟨aU [(0,.c (.aH 0 0 (n+1) 1)),(3,.c (.ptr 10 0)),(4,.c (.d (.int .i64 n))),(14,.c (.d (.int .i64 n))),(15,.c (.d (.int .i64 i))),(5,.c (.d (.int .i64 i))),(6,.c (.d (.int .i64 ((p:Int)-1))))],
   az (az (az (λ_=>.hole) 0 (.cells false false 105 (kf 1 frm step n))) 1 (.cells false false 27 (qK (kn c frm step n (qY a.1 n A i p)) M))) 10 (.cells true false 29 [.d (.bool (decide (a.1.num<0))),nC (aL a.1.num.natAbs),nC (bw a.1.den),.d (.bool (decide (a.2.num<0))),nC (aL a.2.num.natAbs),nC (bw a.2.den)])⟩) 20
   (λp=>i<=p/\p<=n) (λp=>p) n (Le.eY _) ⟨hi,bh _⟩ ?_
  rintro p ⟨hp,hpn⟩
  try simp only at hp hpn ⊢
  refine aaa λK6 hK6=>aah ?_
  by_cases hip:i<p
  ·obtain⟨k,rfl⟩:∃k,p=k+1:=⟨p-1,by omega⟩
   have ek:(((k+1:Nat):Int))-1=(k:Int):=by omega
   have hik:(i:Int)<=(k:Int):=by omega
   have fk1:IntKind.i64.wrap ((k:Int)+1)=(k:Int)+1:=bB (by omega) (by omega);have fk:IntKind.i64.wrap ((k:Int)-1)=(k:Int)-1:=bB (by omega) (by omega);rw[ek];refine aaX (by simp[hik]<;>omega) (aav (hK6 _ _ ?_));obtain⟨lv,hlv⟩:∃lv,az (az (az (λ_=>LB.hole) 0 (.cells false false 105 (kf 1 frm step n))) 1 (.cells false false 27 (qK (kn c frm step n (qY a.1 n A i (k+1))) M))) 10 (.cells true false 29 [.d (.bool (decide (a.1.num<0))),nC (aL a.1.num.natAbs),nC (bw a.1.den),.d (.bool (decide (a.2.num<0))),nC (aL a.2.num.natAbs),nC (bw a.2.den)])=lv:=⟨_,rfl⟩
   have q0:lv 0=.cells false false 105 (kf 1 frm step n):=by rw[<-hlv];rfl
   have q1:lv 1=.cells false false 27 (qK (kn c frm step n (qY a.1 n A i (k+1))) M):=by rw[<-hlv];rfl
   have q2:lv 10=.cells true false 29 [.d (.bool (decide (a.1.num<0))),nC (aL a.1.num.natAbs),nC (bw a.1.den),.d (.bool (decide (a.2.num<0))),nC (aL a.2.num.natAbs),nC (bw a.2.den)]:=by rw[<-hlv];rfl
   have hkM:frm+k*step<M:=by have:k*step<=n*step:=adJ _ (by omega);omega
   have hkM1:frm+(k+1)*step<M:=by have:(k+1)*step<=n*step:=adJ _ (by omega);omega
   have x1:=P6 (lv:=lv) (n:=n+1) (i:=k) q0;have x1':=P6 (lv:=lv) (n:=n+1) (i:=k+1) q0;rw[eq_true (show k<n+1 by omega)]at x1;rw[eq_true (show k+1<n+1 by omega),show(((k+1:Nat):Int))=(k:Int)+1 by omega]at x1';have x2:=Qk (i:=k) q0 (by omega);have x3:=Qk (i:=k+1) q0 (by omega);have x4:=XY (i:=frm+k*step) q1 hkM;have x5:=XY (i:=frm+(k+1)*step) q1 hkM1;rw[CI hs _ (by omega)]at x4 x5;have x6:=λv=>stQ (i:=frm+k*step) q1 hkM v
   have c1:=iE (GG m) (qY a.1 n A i (k+1) (k+1)) a.1 (au (h1 _ _ _ (by omega) (by omega)) (by omega)) (au hlo (by omega));have c2:=lU (GG m) (qY a.1 n A i (k+1) k) (qY a.1 n A i (k+1) (k+1)*a.1) (au (h1 _ _ _ (by omega) (by omega)) (by omega)) (au (xQ (au (h1 i (k+1) (k+1) (by omega) (by omega)) (bh L)) (au hlo (bh L))) (by omega));refine aaa λK8 hK8=>aaE ?_;rw[hlv];have x7:aF Tryz.prog 27 lv (.c (.ptr 10 0))=some (bC a.1,[],[10],True):=by simp[aF,q2]
   refine abx mixed (by kernel_rfl) rfl ?_;simp[x1,x1',x2,x3,x4,x5,fk1,q1,q2,x7,-aF,-aK];have q9:lv 9=.hole:=by rw[<-hlv];rfl
   refine ag.p 20 9 c1 ?_ (hh:=q9);simp[q1,q2,x4,-aF,-aK];refine ag.p 20 9 c2 ?_ (hh:=q9);simp[q1,x6,-aF,-aK];refine⟨by kernel_rfl,?_⟩
   have e8:(λj=>if j=frm+k*step then qY a.1 n A i (k+1) k+qY a.1 n A i (k+1) (k+1)*a.1 else kn c frm step n (qY a.1 n A i (k+1)) j)=kn c frm step n (qY a.1 n A i k):=by
    rw[Dw hs _ (by omega),Qr a.1 n A (by omega) (by omega)]
   have e9:az lv 1 (.cells false false 27 (qK (kn c frm step n (qY a.1 n A i k)) M))=az (az (az (λ_=>LB.hole) 0 (.cells false false 105 (kf 1 frm step n))) 1 (.cells false false 27 (qK (kn c frm step n (qY a.1 n A i k)) M))) 10 (.cells true false 29 [.d (.bool (decide (a.1.num<0))),nC (aL a.1.num.natAbs),nC (bw a.1.den),.d (.bool (decide (a.2.num<0))),nC (aL a.2.num.natAbs),nC (bw a.2.den)]):=by
    rw[<-hlv];funext j
    by_cases j1:j=1
    ·subst j1;rfl
    ·by_cases j2:j=10
     ·subst j2;rfl
     ·by_cases j3:j=0
      ·subst j3;rfl
      ·simp only[az,if_neg j1,if_neg j2,if_neg j3]
   rw[e8,e9]
   repeat refine aj ?_
   apply hK8;refine aar ?_;simp[fk];refine⟨k,Le.eY _,⟨by omega,by omega⟩,by omega⟩
  ·have hpi:p=i:=by omega
   subst hpi;have hno:¬(p:Int)<=(p:Int)-1:=by omega
   refine abd (by simp[hno]<;>omega) ?_;have e10:kn c frm step n (qY a.1 n A p p)=kn c frm step n (qY a.1 n A (p+1) n):=qp λk hk=>Ni a.1 n A hlt hk
   rw[e10];refine abn (hK4 _ _ (aar ?_));simp[f15];exact⟨p+1,Le.eY _,by omega,by omega⟩
 ·have hin:i=n:=by omega
  subst hin;have e11:kn c frm step i (qY a.1 i A i i)=kn c frm step i (Ad i a.1 (a.2-a.1) A 1):=qp λk hk=>by rw[I0 a.1 i A hk,Rx]
  rw[e11];refine aba (abn (hK _ _ ?_));have cI:=wX (GG m) 1 (by decide) (by decide);refine acA 20 cI @ai.eq_1 ?_;refine aaa λK hK=>aah ?_;refine aaE ?_
  refine abr (λ(p:Nat)=>⟨aU [(0,.c (.aH 0 0 (i+1) 1)),(3,.c (.ptr 10 0)),(4,.c (.d (.int .i64 i))),(7,.c (.ptr 20 0)),(8,.c (.d (.int .i64 ((p:Int)+1))))],
   az (az (az (az (λ_=>.hole) 0 (.cells false false 105 (kf 1 frm step i))) 1 (.cells false false 27 (qK (kn c frm step i (Ad i a.1 (a.2-a.1) A (p+1))) M))) 10 (.cells true false 29 [.d (.bool (decide (a.1.num<0))),nC (aL a.1.num.natAbs),nC (bw a.1.den),.d (.bool (decide (a.2.num<0))),nC (aL a.2.num.natAbs),nC (bw a.2.den)])) 20 (.cells true false 27 (qc (ni i (a.2-a.1) p)))⟩) 30
   (λp=>p<=i) (λp=>i-p) 0 (Le.eY _) (aa2 _) ?_
  rintro p hp
  try simp only at hp ⊢
  refine aaa λK6 hK6=>aah ?_
  by_cases hip:p<i
  ·have hip':(p:Int)+1<=(i:Int):=by omega
   have cw:=M9 (GG m) a hz;have ck:=wX (GG m) ((p:Int)+1) (by omega) (by omega);have fq:IntKind.i64.wrap ((i:Int)-((p:Int)+1))=(i:Int)-((p:Int)+1):=bB (by omega) (by omega);have fq1:IntKind.i64.wrap ((i:Int)-((p:Int)+1)+1)=((i-p:Nat):Int):=by rw[bB (by omega) (by omega)];omega
   have fp:IntKind.i64.wrap ((p:Int)+1+1)=(((p+1:Nat):Int))+1:=by rw[bB (by omega) (by omega)];omega
   have cn:=wX (GG m) ((i-p:Nat):Int) (by omega) (by omega);have hw:br (a.2-a.1) L:=au (Iv.BI hz) (by omega);have hsc:=h2 p (by omega);have cm1:=iE (GG m) (ni i (a.2-a.1) p) (a.2-a.1) (au hsc (by omega)) (au hw (by omega));have s1:=xQ hsc hw
   have sk:br (((p:Int)+1:Int):Rat) (2*L):=BV _ _ (by
    have:=dc (show((p:Int)+1).natAbs<=4294967295 by omega);have e:nl 4294967295=1:=by decide
    omega) (by omega)
   have sn:br (((i-p:Nat):Int):Rat) (4*L):=BV _ _ (by
    have:=dc (show(((i-p:Nat):Int)).natAbs<=4294967295 by omega);have e:nl 4294967295=1:=by decide
    omega) (by omega)
   have cm2:=iE (GG m) (ni i (a.2-a.1) p*(a.2-a.1)) (((p:Int)+1:Int):Rat) (au s1 (by omega)) (au sk (by omega));have s2:=xQ s1 sk;have cq:=T9 (GG m) (ni i (a.2-a.1) p*(a.2-a.1)*(((p:Int)+1:Int):Rat)) (((i-p:Nat):Int):Rat) (au s2 (by omega)) (au sn (by omega))
   have es:ni i (a.2-a.1) p*(a.2-a.1)*(((p:Int)+1:Int):Rat)/(((i-p:Nat):Int):Rat)=ni i (a.2-a.1) (p+1):=by
    show _=ni i (a.2-a.1) p*(a.2-a.1)*((p+1:Nat):Rat)/((i-p:Nat):Rat)
    rw[show(p:Int)+1=((p+1:Nat):Int) by omega,Rat.intCast_natCast,Rat.intCast_natCast]
   rw[es]at cq;clear es;generalize ((i-p:Nat):Int)=ip at *
   generalize ((ip:Int):Rat)=iq at *
   generalize (((p:Int)+1:Int):Rat)=kq at *
   refine aaX (by simp[hip']<;>omega) (aav (hK6 _ _ (aaa λK8 hK8=>aaE (aaa λK9 hK9=>?_))));obtain⟨lv,hlv⟩:∃lv,az (az (az (az (λ_=>LB.hole) 0 (.cells false false 105 (kf 1 frm step i))) 1 (.cells false false 27 (qK (kn c frm step i (Ad i a.1 (a.2-a.1) A (p+1))) M))) 10 (.cells true false 29 [.d (.bool (decide (a.1.num<0))),nC (aL a.1.num.natAbs),nC (bw a.1.den),.d (.bool (decide (a.2.num<0))),nC (aL a.2.num.natAbs),nC (bw a.2.den)])) 20 (.cells true false 27 (qc (ni i (a.2-a.1) p)))=lv:=⟨_,rfl⟩
   have q0:lv 0=.cells false false 105 (kf 1 frm step i):=by rw[<-hlv];rfl
   have q1:lv 1=.cells false false 27 (qK (kn c frm step i (Ad i a.1 (a.2-a.1) A (p+1))) M):=by rw[<-hlv];rfl
   have q2:lv 10=.cells true false 29 [.d (.bool (decide (a.1.num<0))),nC (aL a.1.num.natAbs),nC (bw a.1.den),.d (.bool (decide (a.2.num<0))),nC (aL a.2.num.natAbs),nC (bw a.2.den)]:=by rw[<-hlv];rfl
   have q3:lv 20=.cells true false 27 (qc (ni i (a.2-a.1) p)):=by rw[<-hlv];rfl
   have q9:lv 9=.hole:=by rw[<-hlv];rfl
   have y1:aF Tryz.prog 27 lv (.c (.ptr 20 0))=some (bC (ni i (a.2-a.1) p),[],[20],True):=by simp[aF,q3,qc]
   have y2:aF Tryz.prog 29 lv (.c (.ptr 10 0))=some (jC a,[],[10],True):=by simp[aF,q2,Im]
   have y3:∀v,aK Tryz.prog 27 lv (.c (.ptr 20 0)) (bC v)=some (.undef,[(20,.cells true false 27 (qc v))],[],True):=λv=>by simp[aK,q3,qc,AV.cells,ai]
   rw[hlv];refine abx mixed (by kernel_rfl) rfl ?_;simp[y1,y2,-aF,-aK];refine ag.p 30 9 cw ?_ (hh:=q9);simp[-aF,-aK];refine ag.p 30 9 cm1 ?_ (hh:=q9);simp[-aF,-aK];refine ag.p 30 9 ck ?_ (hh:=q9);simp[-aF,-aK];refine ag.p 30 9 cm2 ?_ (hh:=q9);simp[-aF,-aK,fq,fq1];refine ag.p 30 9 cn ?_ (hh:=q9);simp[-aF,-aK];refine ag.p 30 9 cq ?_ (hh:=q9);simp[-aF,-aK,y3];refine⟨by kernel_rfl,?_⟩
   repeat refine aj ?_
   apply hK9;obtain⟨lw,hlw⟩:∃lw,az lv 20 (.cells true false 27 (qc (ni i (a.2-a.1) (p+1))))=lw:=⟨_,rfl⟩
   have r0:lw 0=.cells false false 105 (kf 1 frm step i):=by rw[<-hlw];exact q0
   have r1:lw 1=.cells false false 27 (qK (kn c frm step i (Ad i a.1 (a.2-a.1) A (p+1))) M):=by rw[<-hlw];exact q1
   have r2:lw 10=.cells true false 29 [.d (.bool (decide (a.1.num<0))),nC (aL a.1.num.natAbs),nC (bw a.1.den),.d (.bool (decide (a.2.num<0))),nC (aL a.2.num.natAbs),nC (bw a.2.den)]:=by rw[<-hlw];exact q2
   have r3:lw 20=.cells true false 27 (qc (ni i (a.2-a.1) (p+1))):=by rw[<-hlw];rfl
   have r9:lw 9=.hole:=by rw[<-hlw];exact q9
   have hkM:frm+(p+1)*step<M:=by have:(p+1)*step<=i*step:=adJ _ (by omega);omega
   have x1:=P6 (lv:=lw) (n:=i+1) (i:=p+1) r0;rw[eq_true (show p+1<i+1 by omega),show(((p+1:Nat):Int))=(p:Int)+1 by omega]at x1;have x2:=Qk (i:=p+1) r0 (by omega);have x4:=XY (i:=frm+(p+1)*step) r1 hkM;rw[CI hs _ (by omega)]at x4;have x6:=λv=>stQ (i:=frm+(p+1)*step) r1 hkM v
   have x7:aF Tryz.prog 27 lw (.c (.ptr 20 0))=some (bC (ni i (a.2-a.1) (p+1)),[],[20],True):=by simp[aF,r3,qc]
   have c5:=iE (GG m) (Ad i a.1 (a.2-a.1) A (p+1) (p+1)) (ni i (a.2-a.1) (p+1)) (au (h3 _ _ (by omega)) (by omega)) (au (h2 _ (by omega)) (by omega))
   have e12:(λj=>if j=frm+(p+1)*step then Ad i a.1 (a.2-a.1) A (p+1) (p+1)*ni i (a.2-a.1) (p+1)else kn c frm step i (Ad i a.1 (a.2-a.1) A (p+1)) j)=kn c frm step i (Ad i a.1 (a.2-a.1) A (p+1+1)):=by
    rw[Dw hs _ (by omega),QJ]
   have e13:az lw 1 (.cells false false 27 (qK (kn c frm step i (Ad i a.1 (a.2-a.1) A (p+1+1))) M))=az (az (az (az (λ_=>LB.hole) 0 (.cells false false 105 (kf 1 frm step i))) 1 (.cells false false 27 (qK (kn c frm step i (Ad i a.1 (a.2-a.1) A (p+1+1))) M))) 10 (.cells true false 29 [.d (.bool (decide (a.1.num<0))),nC (aL a.1.num.natAbs),nC (bw a.1.den),.d (.bool (decide (a.2.num<0))),nC (aL a.2.num.natAbs),nC (bw a.2.den)])) 20 (.cells true false 27 (qc (ni i (a.2-a.1) (p+1)))):=by
    rw[<-hlw,<-hlv];funext j
    by_cases j1:j=1
    ·subst j1;rfl
    ·by_cases j2:j=10
     ·subst j2;rfl
     ·by_cases j3:j=0
      ·subst j3;rfl
      ·by_cases j4:j=20
       ·subst j4;rfl
       ·simp only[az,if_neg j1,if_neg j2,if_neg j3,if_neg j4]
   rw[hlw];refine abx mixed (by kernel_rfl) rfl ?_;simp[x1,x2,x4,x7,r1,r3,-aF,-aK];refine ag.p 30 9 c5 ?_ (hh:=r9);simp[r1,x6,-aF,-aK];refine⟨by kernel_rfl,?_⟩;rw[e12,e13]
   repeat refine aj ?_
   apply hK8;refine aar ?_;simp[fp];exact⟨p+1,Le.eY _,by omega,by omega⟩
  ·have hpi:p=i:=by omega
   subst hpi;have hno:¬(p:Int)+1<=(p:Int):=by omega
   obtain⟨d,hd⟩:∃d:Sq,(λk=>uS a.1 p A k*ni p (a.2-a.1) k)=d:=⟨_,rfl⟩
   have e14:kn c frm step p (Ad p a.1 (a.2-a.1) A (p+1))=kn c frm step p (qZ d p p):=qp λk hk=>by
    rw[L1 d p k hk,<-hd];unfold Ad;rw[if_pos (by omega)]
   rw[e14];refine abd (by simp[hno]<;>omega) (abn (hK _ _ ?_));rw[hd]at h4;refine aah ?_;refine aaE ?_
   refine abr (λ(q:Nat)=>⟨aU [(0,.c (.aH 0 0 (p+1) 1)),(4,.c (.d (.int .i64 p))),(9,.c (.d (.int .i64 q)))],
    az (az (az (az (λ_=>LB.hole) 0 (.cells false false 105 (kf 1 frm step p))) 1 (.cells false false 27 (qK (kn c frm step p (qZ d q q)) M))) 10 (.cells true false 29 [.d (.bool (decide (a.1.num<0))),nC (aL a.1.num.natAbs),nC (bw a.1.den),.d (.bool (decide (a.2.num<0))),nC (aL a.2.num.natAbs),nC (bw a.2.den)])) 20 (.cells true false 27 (qc (ni p (a.2-a.1) p)))⟩) 40 (λq=>q<=p) (λq=>q) p (Le.eY _) (bh _) ?_
   rintro q hq
   try simp only at hq ⊢
   refine aaa λK6 hK6=>aah ?_
   by_cases hq0:0<q
   ·have hq0':0<(q:Int):=by omega
    obtain⟨q',rfl⟩:∃q',q=q'+1:=⟨q-1,by omega⟩
    have fq1:IntKind.i64.wrap (q':Int)=(q':Int):=bB (by omega) (by omega);refine aaX (by simp[hq0']<;>omega) (aav (hK6 _ _ (aaa λK8 hK8=>aaE (aah ?_))));refine aaE ?_
    refine abr (λ(k:Nat)=>⟨aU [(0,.c (.aH 0 0 (p+1) 1)),(4,.c (.d (.int .i64 p))),(9,.c (.d (.int .i64 ((q':Int)+1)))),(10,.c (.d (.int .i64 (k:Int))))],
     az (az (az (az (λ_=>LB.hole) 0 (.cells false false 105 (kf 1 frm step p))) 1 (.cells false false 27 (qK (kn c frm step p (qZ d (q'+1) k)) M))) 10 (.cells true false 29 [.d (.bool (decide (a.1.num<0))),nC (aL a.1.num.natAbs),nC (bw a.1.den),.d (.bool (decide (a.2.num<0))),nC (aL a.2.num.natAbs),nC (bw a.2.den)])) 20 (.cells true false 27 (qc (ni p (a.2-a.1) p)))⟩) 50 (λk=>q'+1<=k/\k<=p+1) (λk=>p+1-k) (q'+1) (Le.eY _) ⟨bh _,by omega⟩ ?_
    rintro k ⟨hk,hkp⟩
    try simp only at hk hkp ⊢
    refine aaa λK10 hK10=>aah ?_
    by_cases hkk:k<=p
    ·obtain⟨k',rfl⟩:∃k',k=k'+1:=⟨k-1,by omega⟩
     have hkk':(k':Int)+1<=(p:Int):=by omega
     have fk:IntKind.i64.wrap ((k':Int)+1+1)=(k':Int)+1+1:=bB (by omega) (by omega);have fk1:IntKind.i64.wrap (k':Int)=(k':Int):=bB (by omega) (by omega);refine aaX (by simp[hkk']<;>omega) (aav (hK10 _ _ (aaa λK12 hK12=>aaE ?_)));obtain⟨lv,hlv⟩:∃lv,az (az (az (az (λ_=>LB.hole) 0 (.cells false false 105 (kf 1 frm step p))) 1 (.cells false false 27 (qK (kn c frm step p (qZ d (q'+1) (k'+1))) M))) 10 (.cells true false 29 [.d (.bool (decide (a.1.num<0))),nC (aL a.1.num.natAbs),nC (bw a.1.den),.d (.bool (decide (a.2.num<0))),nC (aL a.2.num.natAbs),nC (bw a.2.den)])) 20 (.cells true false 27 (qc (ni p (a.2-a.1) p)))=lv:=⟨_,rfl⟩
     have q0:lv 0=.cells false false 105 (kf 1 frm step p):=by rw[<-hlv];rfl
     have q1:lv 1=.cells false false 27 (qK (kn c frm step p (qZ d (q'+1) (k'+1))) M):=by rw[<-hlv];rfl
     have q9:lv 9=.hole:=by rw[<-hlv];rfl
     have hkM:frm+k' * step<M:=by have:k' * step<=p*step:=adJ _ (by omega);omega
     have hkM1:frm+(k'+1)*step<M:=by have:(k'+1)*step<=p*step:=adJ _ (by omega);omega
     have x1:=P6 (lv:=lv) (n:=p+1) (i:=k') q0;have x1':=P6 (lv:=lv) (n:=p+1) (i:=k'+1) q0;rw[eq_true (show k'<p+1 by omega)]at x1;rw[eq_true (show k'+1<p+1 by omega),show(((k'+1:Nat):Int))=(k':Int)+1 by omega]at x1';have x2:=Qk (i:=k') q0 (by omega);have x3:=Qk (i:=k'+1) q0 (by omega);have x4:=XY (i:=frm+k' * step) q1 hkM;have x5:=XY (i:=frm+(k'+1)*step) q1 hkM1;rw[CI hs _ (by omega)]at x4 x5;have x6:=λv=>stQ (i:=frm+(k'+1)*step) q1 hkM1 v
     have c2:=lU (GG m) (qZ d (q'+1) (k'+1) (k'+1)) (qZ d (q'+1) (k'+1) k') (au (h4 _ _ _ (by omega) (.inl (by omega))) (by omega)) (au (h4 _ _ _ (by omega) (.inl (by omega))) (by omega))
     have e8:(λj=>if j=frm+(k'+1)*step then qZ d (q'+1) (k'+1) (k'+1)+qZ d (q'+1) (k'+1) k' else kn c frm step p (qZ d (q'+1) (k'+1)) j)=kn c frm step p (qZ d (q'+1) (k'+1+1)):=by
      have:=O5 d (i:=q'+1) (k:=k'+1) (by omega) (by omega);rw[Dw hs _ (by omega),<-this];rfl
     have e9:az lv 1 (.cells false false 27 (qK (kn c frm step p (qZ d (q'+1) (k'+1+1))) M))=az (az (az (az (λ_=>LB.hole) 0 (.cells false false 105 (kf 1 frm step p))) 1 (.cells false false 27 (qK (kn c frm step p (qZ d (q'+1) (k'+1+1))) M))) 10 (.cells true false 29 [.d (.bool (decide (a.1.num<0))),nC (aL a.1.num.natAbs),nC (bw a.1.den),.d (.bool (decide (a.2.num<0))),nC (aL a.2.num.natAbs),nC (bw a.2.den)])) 20 (.cells true false 27 (qc (ni p (a.2-a.1) p))):=by
      rw[<-hlv];funext j
      by_cases j1:j=1
      ·subst j1;rfl
      ·by_cases j2:j=10
       ·subst j2;rfl
       ·by_cases j3:j=0
        ·subst j3;rfl
        ·by_cases j4:j=20
         ·subst j4;rfl
         ·simp only[az,if_neg j1,if_neg j2,if_neg j3,if_neg j4]
     rw[hlv];refine abx mixed (by kernel_rfl) rfl ?_;simp[x1,x1',x2,x3,x4,x5,fk1,q1,-aF,-aK];refine ag.p 60 9 c2 ?_ (hh:=q9);simp[q1,x6,-aF,-aK];refine⟨by kernel_rfl,?_⟩;rw[e8,e9]
     repeat refine aj ?_
     apply hK12;refine aar ?_;simp[fk];exact⟨k'+1+1,Le.eY _,⟨by omega,by omega⟩,by omega⟩
    ·have hkp':k=p+1:=by omega
     subst hkp';have hno2:¬(p:Int)+1<=(p:Int):=by omega
     have e15:kn c frm step p (qZ d (q'+1) (p+1))=kn c frm step p (qZ d q' q'):=qp λk hk=>Pf d (by omega) hk
     rw[e15];refine abd (by simp[hno2]<;>omega) (abn (hK8 _ _ (aar ?_)));simp[fq1];exact⟨q',Le.eY _,by omega,by omega⟩
   ·have hq0':q=0:=by omega
    subst hq0';have e16:kn c frm step p (qZ d 0 0)=kn c frm step p (oJ p a.1 (a.2-a.1) A):=qp λk _=>by rw[JB,hd]
    rw[e16];refine aba (abn ?_);simp;refine⟨[(0,0,.cells false false 105 (kf 1 frm step p)),(1,1,.cells false false 27 (qK (kn c frm step p (oJ p a.1 (a.2-a.1) A)) M))],9,?_,by simp,by simp,rfl,?_,?_,rfl,rfl⟩
    ·funext k
     match k with
     |0=>rfl
     |1=>rfl
     |k+2=>simp[bL,bg,az]
    ·intro k hk
     match k with
     |0=>exact .inr rfl
     |1=>exact .inr rfl
     |k+2=>exact absurd (by simp[az]) hk
    ·intro e he;simp only[aY,cy,or_false]at he;rcases he with rfl|rfl
     ·exact LB.aC.2 ⟨rfl,rfl,(JX _ _ _ _ _ rfl).symm,id⟩
     ·exact LB.aC.2 ⟨rfl,rfl,(fm _ _ _).symm,id⟩
abbrev Tm:=List UInt8×Option (List Int)
variable {l:List Tm}
def jx(o:Option (List Int)):List Int:=o.getD []
def pwO(o:Option (List Int)):Option (List (List DV)):=o.map (·.map λk=>[.int .i64 k])
def GA:Option (List Int)->DV
 |none=>.nilsl
 |some l=>.sl (l.map λk=>[.int .i64 k])
theorem PG(o:Option (List Int)):CV.d (GA o)=bV (pwO o):=by cases o<;>rfl
theorem JA(o:Option (List Int)):(sO (pwO o)).length=(jx o).length:=by cases o<;>simp[pwO,jx,sO]
def wo(t:Tm):List DV:=[.str t.1,GA t.2]
def lB(b:Option (List Tm)):Option (List (List DV)):=b.map (·.map wo)
def aV(b:Option (List Tm)):List Tm:=b.getD []
theorem Kv(b:Option (List Tm)):(sO (lB b)).length=(aV b).length:=by cases b<;>simp[lB,aV,sO]
theorem Fg(lv:Key->LB)(b:Option (List Tm)):fX Tryz.prog 22 lv (.c (bV (lB b)))=some (.c (.d (.int .i64 (aV b).length)),[],[],True):=by
 rw[<-Kv];exact k7 (by simp)
theorem FR(lv:Key->LB)(b:Option (List Tm))(hi:i<(aV b).length):aq Tryz.prog 22 lv (.c (bV (lB b))) (.c (.d (.int .i64 (i:Int))))=some (.c (.d (.ptr (wo (aV b)[i]))),[],[],True):=by
 refine Fj (sz:=2) (by simp) (by omega) (by rw[Kv];omega) ?_ rfl
 cases b with
 |none=>cases hi
 |some l=>
  have hi':i<l.length:=hi;rw[aeA];show(l.map wo).getD i []=wo l[i];rw[adS,aeP,fy hi'];rfl
theorem KO(lv:Key->LB)(o:Option (List Int)):fX Tryz.prog 59 lv (.c (.d (GA o)))=some (.c (.d (.int .i64 (jx o).length)),[],[],True):=by
 rw[<-JA,PG];exact k7 (by simp)
theorem F9(lv:Key->LB)(o:Option (List Int))(hi:i<(jx o).length):aq Tryz.prog 59 lv (.c (.d (GA o))) (.c (.d (.int .i64 (i:Int))))=some (.c (.d (.ptr [.int .i64 (jx o)[i]])),[],[],True):=by
 rw[PG];refine Fj (sz:=1) (by simp) (by omega) (by rw[JA];omega) ?_ rfl
 cases o with
 |none=>cases hi
 |some l=>
  have hi':i<l.length:=hi;rw[aeA];show(l.map λk=>[DV.int .i64 k]).getD i []=[DV.int .i64 l[i]]
  rw[adS,aeP,fy hi'];rfl
def DA:Int->List Int->Bool
 |_,[]=>true
 |left,k::r=>if k<0\/left<k then false else DA (left-k) r
theorem mV(left k:Int)(r:List Int):DA left (k::r)=if k<0\/left<k then false else DA (left-k) r:=rfl
def rj(n:Int)(t:Tm):Int:=if cM t.1≠0 then cM t.1 else if DA 16 (jx t.2)=false then 7 else if ((jx t.2).length:Int)≠n then 7 else 0
def rm(n:Int):List Tm->Int
 |[]=>0
 |t::r=>if rj n t≠0 then rj n t else rm n r
def we(l:List Tm)(n:Int):Int:=if 200<l.length then 3 else rm n l
theorem ET(m:Int)(b:Option (List Tm))(n:Int)(hl:(aV b).length<=9223372036854775807)(hp:∀t∈aV b,(jx t.2).length<=9223372036854775807):aa Tryz.prog (GG m) 47 [.c (bV (lB b)),.c (.d (.int .i64 n))] (.c (.d (.int .i64 (we (aV b) n)))):=by
 have hlp:=λlv=>Fg lv b
 have hix:=λlv {i:Nat}(hi:i<(aV b).length)=>FR lv b hi
 generalize hR:we (aV b) n=R;refine aa.Uk Tryz.func47 rfl λ_=>aah ?_;refine aaa λK hK=>abf hlp ?_
 by_cases h200:200<(aV b).length
 ·have h200':(200:Int)<((aV b).length:Int):=by omega
  have e:R=3:=hR▸if_pos h200;refine aaX (by simp[h200']<;>omega) (aah ?_);exact abe (aN.rt rfl 4 (by simp[e]))
 have h200':¬(200:Int)<((aV b).length:Int):=by omega
 have e:rm n (aV b)=R:=hR▸(if_neg h200).symm;refine abd (by simp[h200']<;>omega) (aav (hK _ _ (aaa λK hK=>abf hlp ?_)));refine aaE ?_
 refine abr (λ(i:Nat)=>⟨aU [(1,.c (.d (.int .i64 n))),(14,.c (bV (lB b))),(15,.c (.d (.int .i64 (aV b).length))),(16,.c (.d (.int .i64 i)))],λ_=>.hole⟩) 1
  (λi=>i<=(aV b).length/\rm n ((aV b).drop i)=R) (λi=>(aV b).length-i) 0 (Le.eY _) ⟨aa2 _,e⟩ ?_
 rintro i ⟨hi,hE⟩
 try simp only at hi hE ⊢
 refine aah ?_;refine aaa λK2 hK2=>?_
 by_cases hlt:i<(aV b).length
 ·have hlt':(i:Int)<((aV b).length:Int):=by omega
  have hx:=λlv=>hix lv hlt
  have f16:=bB (n:=(i:Int)+1) (by omega) (by omega);have hd:(aV b).drop i=(aV b)[i]::(aV b).drop (i+1):=adT hlt;have hpl:=hp _ (aT hlt);rw[hd]at hE;generalize (aV b)[i]=t at *
  refine aaX (by simp[hlt']<;>omega) (aav ?_);simp
  repeat refine aj ?_
  apply hK2;refine aaa λK5 hK5=>aaE (aaa λK6 hK6=>aar ?_)
  simp[hx,wo]
  repeat refine aj ?_
  apply hK6;have c1:=KT m t.1;obtain⟨ce,hce⟩:∃x,cM t.1=x:=⟨_,rfl⟩
  rw[hce]at c1;refine aaa λK6 hK6=>acA 2 c1 @ai.eq_1 ?_;refine aah ?_
  by_cases hc:ce=0
  ·refine abd (by simp[hc]<;>omega) (aav (hK6 _ _ (aah ?_)));refine aaa λK6 hK6=>abf @KO ?_;refine aaE ?_;obtain⟨pl,hpw⟩:∃pl,jx t.2=pl:=⟨_,rfl⟩
   have hE1:rj n t=if DA 16 pl=false then 7 else if (pl.length:Int)≠n then 7 else 0:=by unfold rj;rw[hce,if_neg (not_not_intro hc),hpw]
   have hip:=λlv {j:Nat}(hj:j<(jx t.2).length)=>F9 lv t.2 hj
   have hlp2:=λlv=>KO lv t.2
   simp only[hpw]at hip hpl hlp2 ⊢;have hfail:rj n t=7->R=7:=λh=>by rw[<-hE];unfold rm;rw[h];rfl
   refine abr (λ(q:Nat×Int)=>⟨aU [(1,.c (.d (.int .i64 n))),(14,.c (bV (lB b))),(15,.c (.d (.int .i64 (aV b).length))),(16,.c (.d (.int .i64 i))),(6,.c (.ptr 1 0)),(8,.c (.d (.int .i64 q.2))),(27,.c (.d (GA t.2))),(28,.c (.d (.int .i64 pl.length))),(29,.c (.d (.int .i64 q.1)))],
    az (λ_=>.hole) 1 (.cells true false 98 [.d (.str t.1),.d (GA t.2)])⟩) 10
    (λq=>q.1<=pl.length/\0<=q.2/\q.2<=16/\DA q.2 (pl.drop q.1)=DA 16 pl) (λq=>pl.length-q.1) (0,16) (Le.eY _ (by simp[ai])) ⟨aa2 _,by decide,by decide,rfl⟩ ?_
   rintro⟨j,left⟩ ⟨hj,hl0,hl1,hB⟩
   try simp only at hj hl0 hl1 hB ⊢
   refine aah ?_;refine aaa λK10 hK10=>?_
   by_cases hjl:j<pl.length
   ·have hjl':(j:Int)<(pl.length:Int):=by omega
    have hxp:=λlv=>hip lv hjl
    have hdp:pl.drop j=pl[j]::pl.drop (j+1):=adT hjl;have f29:=bB (n:=(j:Int)+1) (by omega) (by omega);rw[hdp]at hB;generalize pl[j]=k at *
    refine aaX (by simp[hjl']<;>omega) (aav ?_);simp
    repeat refine aj ?_
    apply hK10;refine aaa λK11 hK11=>aaE (aaa λK12 hK12=>aar ?_)
    simp[hxp]
    repeat refine aj ?_
    apply hK12
    by_cases hk0:k<0
    ·have h7:R=7:=hfail (by rw[hE1,<-hB,mV,if_pos (Or.inl hk0),if_pos rfl]);refine aaa λK12 hK12=>abf hk0 ?_;refine abl (aah ?_);exact abe (aN.rt rfl 4 (by simp[h7]))
    by_cases hkl:left<k
    ·have h7:R=7:=hfail (by rw[hE1,<-hB,mV,if_pos (Or.inr hkl),if_pos rfl]);refine aaa λK12 hK12=>ace hk0 hkl ?_;refine abl (aah ?_);exact abe (aN.rt rfl 4 (by simp[h7]))
    have hB2:DA (left-k) (pl.drop (j+1))=DA 16 pl:=by rw[<-hB,mV,if_neg (by omega)]
    have fl:IntKind.i64.wrap (left-k)=left-k:=bB (by omega) (by omega);refine aaa λK12 hK12=>ace hk0 hkl ?_;refine aba (aav (hK12 _ _ (acK fl (hK11 _ _ ?_))));refine aar ?_;simp[f29];exact⟨j+1,left-k,Le.eY _,⟨by omega,by omega,by omega,hB2⟩,by omega⟩
   ·have hdn:pl.drop j=[]:=aeH (by omega);rw[hdn]at hB;have hB:true=DA 16 pl:=hB;rw[<-hB,if_neg (by decide)]at hE1;refine abd (by simp[hjl]<;>omega) (abn (hK6 _ _ (abf hlp2 ?_)))
    by_cases hn:(pl.length:Int)=n
    ·have h0:rm n ((aV b).drop (i+1))=R:=by rw[<-hE];unfold rm;rw[hE1,if_neg (not_not_intro hn),if_neg (by decide)];cases(aV b).drop (i+1)<;>rfl
     refine abd (by simp[hn]<;>omega) (aav (hK5 _ _ (aar ?_)));simp[f16];exact⟨i+1,Le.Bt [1] 9,⟨by omega,h0⟩,by omega⟩
    ·have h7:R=7:=hfail (by rw[hE1,if_pos hn]);refine aaX (by simp[hn]<;>omega) (aah ?_);exact abe (aN.rt rfl 4 (by simp[h7]))
  ·have hE1:rj n t=ce:=by unfold rj;rw[hce,if_pos hc]
   have hE2:R=ce:=by rw[<-hE];unfold rm;rw[hE1,if_pos hc]
   refine aaX (by simp[hc]<;>omega) (aah ?_);exact abe (aN.rt rfl 4 (by simp[hE2]))
 ·have hnil:(aV b).drop i=[]:=aeH (by omega);rw[hnil]at hE;have hE2:R=0:=hE.symm;refine abd (by simp[hlt]<;>omega) (abn (hK _ _ (aah ?_)));exact abe (aN.rt rfl 4 (by simp[hE2]))
def Nc(l:List Rat):Option (List (List DV)):=if l=[]then none else some (l.map iQ)
theorem JM(l:List Rat):(sO (Nc l)).length=l.length:=by unfold Nc;split<;>simp_all [sO]
theorem abP(lv:Key->LB)(l:List Rat):fX Tryz.prog 48 lv (.c (bV (Nc l)))=some (.c (.d (.int .i64 l.length)),[],[],True):=by
 rw[<-JM l];exact k7 (by simp)
theorem adh(lv:Key->LB)(l:List Rat)(hi:i<l.length):aq Tryz.prog 48 lv (.c (bV (Nc l))) (.c (.d (.int .i64 (i:Int))))=some (.c (.d (.ptr (iQ l[i]))),[],[],True):=by
 refine Fj (sz:=3) (by simp) (by omega) (by rw[JM];omega) ?_ rfl;have hl:l≠[]:=by intro e;subst e;cases hi
 rw[aeA];unfold Nc;rw[if_neg hl];show(l.map iQ).getD i []=iQ l[i];rw[adS,aeP,fy hi];rfl
theorem ke(hx:br x L)(hy:br y M):br (x*y) (L+M):=by
 have e1:=bO x.num.natAbs y.num.natAbs;have e2:=bO x.den y.den;obtain⟨a1,a2⟩:=hx;obtain⟨b1,b2⟩:=hy;rw[C4];exact hJ _ (aeE (aeh x.den_pos y.den_pos)) (by omega) (by omega)
theorem o3(hx:br x L)(hy:br y M):br (x+y) (L+M+1):=by
 have hd:x.den*y.den≠0:=aeE (aeh x.den_pos y.den_pos);have e1:=bO x.num.natAbs y.den;have e2:=bO y.num.natAbs x.den;have e3:=bO x.den y.den;obtain⟨a1,a2⟩:=hx;obtain⟨b1,b2⟩:=hy;rw[BY]
 by_cases h:decide (x.num<0)=decide (y.num<0)
 ·rw[h,xB];refine hJ _ hd ?_ (by omega);have:=mB (x.num.natAbs*y.den) (y.num.natAbs*x.den);omega
 ·by_cases hab:x.num.natAbs*y.den<y.num.natAbs*x.den
  ·rw[Dp h hab];refine hJ _ hd ?_ (by omega);have:=dc (afI (y.num.natAbs*x.den) (x.num.natAbs*y.den));omega
  ·rw[Dj h hab];refine hJ _ hd ?_ (by omega);have:=dc (afI (x.num.natAbs*y.den) (y.num.natAbs*x.den));omega
def cE(t:Tm):hO:=(cT t.1,(jx t.2).map Int.toNat)
theorem N7:∀{l:List Int}{left:Int},0<=left->DA left l=true->(∀k∈l,0<=k)/\((l.map Int.toNat).sum:Int)<=left
 |[],left,h0,_=>⟨λk hk=>(by cases hk),by simpa using h0⟩
 |k::r,left,h0,h=>by
  rw[mV]at h;split at h
  ·cases h
  ·rename_i hk
   obtain⟨h1,h2⟩:=N7 (l:=r) (left:=left-k) (by omega) h;refine⟨λj hj=>?_,?_⟩
   ·rcases List.mem_cons.1 hj with rfl|hj
    ·omega
    ·exact h1 j hj
   ·simp only[adK,List.sum_cons];omega
theorem JH{n:Int}:∀{l:List Tm},rm n l=0->∀t∈l,rj n t=0
 |[],_,t,h=>by cases h
 |u::r,h,t,ht=>by
  unfold rm at h
  by_cases h1:rj n u=0
  ·rw[if_neg (not_not_intro h1)]at h;rcases List.mem_cons.1 ht with rfl|ht
   ·exact h1
   ·exact JH h t ht
  ·rw[if_pos h1]at h;exact absurd h h1
structure GM(n:Nat)(t:Tm):Prop where
 e:cM t.1=0
 pos:∀k∈jx t.2,0<=k
 sum:(cE t).2.sum<=16
 len:(jx t.2).length=n
theorem Se{t:Tm}(h:rj n t=0):GM n t:=by
 unfold rj at h
 by_cases h1:cM t.1=0
 ·rw[if_neg (not_not_intro h1)]at h
  by_cases h2:DA 16 (jx t.2)=true
  ·rw[if_neg (by rw[h2];decide)]at h
   by_cases h3:((jx t.2).length:Int)=n
   ·obtain⟨h4,h5⟩:=N7 (by decide) h2;exact⟨h1,h4,by show((jx t.2).map Int.toNat).sum<=16;omega,by omega⟩
   ·rw[if_pos h3]at h;exact absurd h (by decide)
  ·rw[if_pos (by simpa using h2)]at h;exact absurd h (by decide)
 ·rw[if_pos h1]at h;exact absurd h h1
theorem vJ(h:we l n=0):l.length<=200/\∀t∈l,GM n t:=by
 unfold we at h;split at h
 ·exact absurd h (by decide)
 ·exact⟨by omega,λt ht=>Se (JH h t ht)⟩
def Mk:Rat->List Rat->List Nat->Rat
 |c,x::xs,k::ks=>Mk (c*x^k) xs ks
 |c,_,_=>c
def UK(xs:List Rat)(ts:List hO):Rat:=ts.foldl (λs t=>s+Mk t.1 xs t.2) 0
theorem NP(xs:List Rat)(ts:List hO)(t:hO):UK xs (ts++[t])=UK xs ts+Mk t.1 xs t.2:=by
 unfold UK;rw[af8];rfl
theorem yd{c:Rat}{k s:Nat}(hc:br c (300+301*s))(hx:br x 300):br (c*x^k) (300+301*(s+k)):=by
 by_cases h0:k=0
 ·subst h0;rw[Rat.pow_zero,afz];exact hc
 ·exact au (ke hc (qm hx k)) (by omega)
theorem xq:∀{xs:List Rat}{ks:List Nat}{c:Rat}{s:Nat},(∀x∈xs,br x 300)->br c (300+301*s)->br (Mk c xs ks) (300+301*(s+ks.sum))
 |[],ks,c,s,_,hc=>by
  have:Mk c [] ks=c:=by cases ks<;>rfl
  rw[this];exact au hc (by omega)
 |x::xs,[],c,s,_,hc=>au hc (by omega)
 |x::xs,k::ks,c,s,h,hc=>by
  have:=xq (xs:=xs) (ks:=ks) (λy hy=>h y (aew _ hy)) (yd (k:=k) hc (h x (aen ..)));simp only[List.sum_cons];rw[<-afl];exact this
def atR(l:List Tm)(xs:List Rat):Rat:=if we l xs.length=0 then UK xs (l.map cE)else 0
theorem yI(h:i<l.length):(l.take (i+1)).map cE=(l.take i).map cE++[cE l[i]]:=by
 rw[afi,fy h,aeR];rfl
def Du(xs:List Rat)(l:List Tm)(i:Nat):Rat:=UK xs ((l.take i).map cE)
theorem zX(xs:List Rat)(l:List Tm):Du xs l 0=0:=rfl
theorem zn(xs:List Rat)(h:i<l.length):Du xs l (i+1)=Du xs l i+Mk (cE l[i]).1 xs (cE l[i]).2:=by
 unfold Du;rw[yI h,NP]
theorem B0(xs:List Rat)(l:List Tm):Du xs l l.length=UK xs (l.map cE):=by unfold Du;rw[afs]
theorem aai(m:Int)(b:Option (List Tm))(xs:List Rat)(hl:(aV b).length<=9223372036854775807)(hp:∀t∈aV b,(jx t.2).length<=9223372036854775807)(hz:∀x∈xs,br x 300):
 aa Tryz.prog (GG m) 17 [.c (bV (lB b)),.c (bV (Nc xs))] (.tup [bC (atR (aV b) xs),.c (.d (.int .i64 (we (aV b) xs.length)))]):=by
 have ct:=ET m b xs.length hl hp;have hlx:=λlv=>abP lv xs
 by_cases h0:we (aV b) xs.length=0
 rotate_left
 ·rw[show atR (aV b) xs=0 from if_neg h0];have bz:eS Tryz.prog 27 [] []=some (bC 0,[],[],True):=AX;generalize we (aV b) xs.length=e at *
  generalize (0:Rat)=z at *
  refine aa.Tg Tryz.func17 rfl (λlv=>pG lv _ _ _ _) λ_=>aah ?_;refine aaa λK hK=>acA 2 ct hlx ?_;refine aah ?_;refine aaX (by simp[h0]<;>omega) (abf bz ?_);exact aaH (aM.LJ (κ:=0) (t:=4) (k:=0) (u:=5) ⟨rfl,rfl⟩ (by simp) (by simp[ai]) (by simp))
 rw[show atR (aV b) xs=UK xs ((aV b).map cE) from if_pos h0];rw[h0]at ct ⊢;obtain⟨h200,hok⟩:=vJ h0;have c0:=wX (GG m) 0 (by decide) (by decide);change aa _ _ _ _ (bC (0:Rat))at c0;have hlp:=λlv=>Fg lv b
 have hix:=λlv {i:Nat}(hi:i<(aV b).length)=>FR lv b hi
 have htk:=λ{i:Nat}(hi:i<(aV b).length)=>zn xs hi
 have ha0:=zX xs (aV b);rw[<-B0];refine aa.Tg Tryz.func17 rfl (λlv=>pG lv _ _ _ _) λ_=>aah ?_;refine aaa λK hK=>acA 2 ct hlx ?_;refine aah ?_;refine aba (aav (hK _ _ (acA 2 c0 @ai.eq_1 ?_)));refine aaa λK hK=>abf hlp ?_;refine aaE ?_
 refine abr (λ(i:Nat)=>⟨aU [(1,.c (bV (Nc xs))),(4,.c (.ptr 0 0)),(7,.c (.ptr 2 0)),(25,.c (bV (lB b))),(26,.c (.d (.int .i64 (aV b).length))),(27,.c (.d (.int .i64 i)))],
  az (az (λ_=>.hole) 0 (.cells true false 27 [.d (.bool false),.d .nilsl,.d .nilsl])) 2 (.cells true false 27 [.d (.bool (decide ((Du xs (aV b) i).num<0))),nC (aL (Du xs (aV b) i).num.natAbs),nC (bw (Du xs (aV b) i).den)])⟩) 20
  (λi=>i<=(aV b).length/\br (Du xs (aV b) i) (1+5201*i)) (λi=>(aV b).length-i) 0 (Le.eY _ (by rw[ha0];simp)) ⟨aa2 _,by rw[ha0];exact gS _ (by decide)⟩ ?_
 rintro i ⟨hi,hS⟩
 try simp only at hi hS ⊢
 refine aah ?_;refine aaa λK2 hK2=>?_
 by_cases hlt:i<(aV b).length
 ·have hlt':(i:Int)<((aV b).length:Int):=by omega
  have hx:=λlv=>hix lv hlt
  have f27:=bB (n:=(i:Int)+1) (by omega) (by omega);have hpl:=hp _ (aT hlt);have hto:=hok _ (aT hlt);have hnx:=htk hlt;generalize (aV b)[i]=t at *
  generalize Du xs (aV b) i=S at *
  have cp:=kO m t.1;rw[hto.e]at cp;have hc0:br (cT t.1) (300+301*0):=fS t.1;have hlen:=hto.len;have hsum:=hto.sum;have hpos:=hto.pos;have hip:=λlv {j:Nat}(hj:j<(jx t.2).length)=>F9 lv t.2 hj
  have hlp2:=λlv=>KO lv t.2
  obtain⟨V,hV⟩:∃V,Mk (cE t).1 xs (cE t).2=V:=⟨_,rfl⟩
  rw[hV]at hnx;have hVs:br V 5200:=by rw[<-hV];exact au (xq (s:=0) hz hc0) (by omega)
  have e2:(cE t).2=(jx t.2).map Int.toNat:=rfl;have e1:(cE t).1=cT t.1:=rfl;rw[e2]at hsum hV;rw[e1]at hV;clear e1 e2;refine aaX (by simp[hlt']<;>omega) (aav (hK2 _ _ (aaa λK5 hK5=>aaE (aaF λK6 hK6=>?_))));simp[hx,wo]
  repeat refine aj ?_
  apply hK6;refine acA 30 cp @ai.eq_1 ?_;refine aaa λK6 hK6=>aaa λK7 hK7=>aar ?_;simp[hlp2]
  repeat refine aj ?_
  apply hK7;generalize jx t.2=pl at *
  generalize cT t.1=c at *
  refine aaE ?_
  refine abr (λ(q:Nat×Rat)=>⟨aU [(1,.c (bV (Nc xs))),(4,.c (.ptr 0 0)),(7,.c (.ptr 2 0)),(25,.c (bV (lB b))),(26,.c (.d (.int .i64 (aV b).length))),(27,.c (.d (.int .i64 i))),(10,.c (.ptr 30 0)),(38,.c (.d (GA t.2))),(39,.c (.d (.int .i64 pl.length))),(40,.c (.d (.int .i64 q.1)))],
   az (az (az (λ_=>.hole) 0 (.cells true false 27 [.d (.bool false),.d .nilsl,.d .nilsl])) 2 (.cells true false 27 [.d (.bool (decide (S.num<0))),nC (aL S.num.natAbs),nC (bw S.den)])) 30 (.cells true false 27 [.d (.bool (decide (q.2.num<0))),nC (aL q.2.num.natAbs),nC (bw q.2.den)])⟩) 40
   (λq=>q.1<=pl.length/\br q.2 (300+301*((pl.map Int.toNat).take q.1).sum)/\Mk q.2 (xs.drop q.1) ((pl.map Int.toNat).drop q.1)=V) (λq=>pl.length-q.1) (0,c) (Le.Bt [20] 9) ⟨aa2 _,by simpa using hc0,hV⟩ ?_
  rintro⟨j,v⟩ ⟨hj,hv,hE⟩
  try simp only at hj hv hE ⊢
  refine aah ?_;refine aaa λK10 hK10=>?_
  by_cases hjl:j<pl.length
  ·have hjl':(j:Int)<(pl.length:Int):=by omega
   have hxp:=λlv=>hip lv hjl
   have hjx:j<xs.length:=by omega
   have hxx:=λlv=>adh lv xs hjx
   have hxz:=hz _ (aT hjx);have f40:=bB (n:=(j:Int)+1) (by omega) (by omega);have hk0:=hpos _ (aT hjl);have hjl2:j<(pl.map Int.toNat).length:=by rw[ab0];exact hjl
   rw[adT hjx,adT hjl2,ab5]at hE
   have hsj:((pl.map Int.toNat).take (j+1)).sum=((pl.map Int.toNat).take j).sum+pl[j].toNat:=by
    rw[afi,fy hjl2,agm,ab5];simp
   have hst:((pl.map Int.toNat).take (j+1)).sum<=(pl.map Int.toNat).sum:=by
    have h:=congrArg List.sum (afh (j+1) (pl.map Int.toNat));rw[agm]at h;omega
   generalize ((pl.map Int.toNat).take j).sum=sj at *
   obtain⟨sj1,hq⟩:∃x,((pl.map Int.toNat).take (j+1)).sum=x:=⟨_,rfl⟩
   rw[hq]at hsj hst;generalize pl[j]=k at *
   obtain⟨k,rfl⟩:∃n:Nat,k=n:=⟨k.toNat,by omega⟩
   rw[aeA]at hE hsj;generalize xs[j]=x at *
   have cw:=LU (GG m) x k (by omega) (au hxz (by decide));have hvk:=yd (k:=k) hv hxz;have cm:=iE (GG m) v (x^k) (au hv (by omega)) (au (qm hxz k) (by omega));have hE:Mk (v*x^k) (xs.drop (j+1)) ((pl.map Int.toNat).drop (j+1))=V:=hE;rw[<-hsj]at hvk;generalize x^k=y at *
   generalize v*y=v2 at *
   refine aaX (by simp[hjl']<;>omega) (aav (hK10 _ _ (aaa λK11 hK11=>aaE (abf hxp ?_))));refine aaF λK12 hK12=>?_;simp[hxx,iQ,<-ic,ai];refine ag.p 50 9 cw ?_;simp[ai]
   repeat refine aj ?_
   apply hK12;refine aar ?_;simp[ai];refine ag.p 60 9 cm ?_;simp[ai]
   repeat refine aj ?_
   apply hK11;refine aar ?_;simp[f40];exact⟨j+1,v2,Le.Bt [50] 9,⟨by omega,by rw[hq];exact hvk,hE⟩,by omega⟩
  ·have hje:j=pl.length:=by omega
   have hn1:(pl.map Int.toNat).drop j=[]:=aeH (by rw[ab0];omega);rw[hn1]at hE;have hE:v=V:=by rw[<-hE];cases xs.drop j<;>rfl
   subst hE;have ca:=lU (GG m) S v (au hS (by omega)) (au hVs (by decide));have hS2:=o3 hS hVs;rw[<-hnx]at ca hS2;refine abd (by simp[hjl]<;>omega) (abn (hK6 _ _ (aar ?_)));simp;refine ag.p 60 9 ca ?_;simp[ai]
   repeat refine aj ?_
   apply hK5;refine aar ?_;simp[f27];exact⟨i+1,Le.Bt [30] 9,⟨by omega,au hS2 (by omega)⟩,by omega⟩
 ·have hie:i=(aV b).length:=by omega
  rw[hie];generalize Du xs (aV b) (aV b).length=S at *
  refine abd (by simp[hlt]<;>omega) (abn (hK _ _ (abf @ai.eq_1 ?_)));exact aaH (aM.LJ (κ:=0) (t:=4) (k:=0) (u:=5) ⟨rfl,rfl⟩ (by simp) (by simp[ai]) (by simp))
end Go.Am
namespace Go.Am
variable {n step F j:Nat}
def Ji(n step j:Nat):Nat:=j-j/step%(n+1)*step
theorem M8(j:Nat):j/step%(n+1)*step<=j:=Ju (adJ _ (Nat.mod_le _ _)) (afF _ _)
theorem Sd(hs:0<step)(j:Nat):Ji n step j/step%(n+1)=0:=by
 unfold Ji;rw[aea (j/step%(n+1)) step,Nat.sub_mul_div];have h:=afy (j/step) (n+1);have e:j/step-j/step%(n+1)=(n+1)*(j/step/(n+1)):=by omega
 rw[e,Nat.mul_mod_right]
theorem tA(hs:0<step)(hF:F/step%(n+1)=0):(F<=j/\(j-F)%step=0/\(j-F)/step<=n)↔Ji n step j=F:=by
 constructor
 ·rintro⟨h1,h2,h3⟩;obtain⟨k,hk⟩:∃k,(j-F)/step=k:=⟨_,rfl⟩
  have h4:=Nat.div_mul_cancel (Nat.dvd_of_mod_eq_zero h2);rw[hk]at h3 h4;have ej:j=F+k*step:=by omega
  have e1:j/step=F/step+k:=by rw[ej,Nat.add_mul_div_right _ _ hs]
  have e2:j/step%(n+1)=k:=by
   rw[e1,Nat.add_mod,hF,aeC,Nat.mod_mod];exact aem (by omega)
  unfold Ji;rw[e2];omega
 ·intro h;have hl:=M8 (n:=n) (step:=step) j;unfold Ji at h;obtain⟨k,hk⟩:∃k,j/step%(n+1)=k:=⟨_,rfl⟩
  have hkn:k<=n:=by have:=adZ (j/step) (show 0<n+1 by omega);omega
  rw[hk]at h hl;have e:j-F=k*step:=by omega
  exact⟨by omega,by rw[e];exact Nat.mul_mod_left _ _,by rw[e,af0 _ hs];exact hkn⟩
def GD(n step:Nat)(M:Sq->Sq)(c:Sq)(F:Nat):Sq:=λj=>if Ji n step j<F then tr n step M c j else c j
theorem Nk(n step:Nat)(M:Sq->Sq)(c:Sq):GD n step M c 0=c:=by funext j;exact if_neg (by omega)
theorem PE(hs:0<step)(M:Sq->Sq)(c:Sq)(hF:F/step%(n+1)≠0):GD n step M c (F+1)=GD n step M c F:=by
 funext j;unfold GD;have hne:Ji n step j≠F:=λe=>hF (e▸Sd hs j)
 by_cases h:Ji n step j<F
 ·rw[if_pos (by omega),if_pos h]
 ·rw[if_neg (by omega),if_neg h]
theorem Qt(hs:0<step)(M:Sq->Sq)(c:Sq)(hF:F/step%(n+1)=0)(hM:∀a b:Sq,(∀k,k<=n->a k=b k)->∀k,k<=n->M a k=M b k):
 kn (GD n step M c F) F step n (M (λk=>GD n step M c F (F+k*step)))=GD n step M c (F+1):=by
 funext j;unfold kn
 by_cases h:F<=j/\(j-F)%step=0/\(j-F)/step<=n
 ·rw[if_pos h];have hb:=(tA hs hF).1 h;have e1:GD n step M c (F+1) j=tr n step M c j:=if_pos (by omega);rw[e1];unfold tr
  have hk:(j-F)/step=j/step%(n+1):=by
   unfold Ji at hb;have:=M8 (n:=n) (step:=step) j;have e:j-F=j/step%(n+1)*step:=by omega
   rw[e,af0 _ hs]
  rw[hk];have hkn:j/step%(n+1)<=n:=by have:=adZ (j/step) (show 0<n+1 by omega);omega
  refine hM _ _ (λk hk=>?_) _ hkn;have hb2:j-j/step%(n+1)*step=F:=hb;rw[hb2];have hb3:Ji n step (F+k*step)=F:=(tA hs hF).1 ⟨by omega,by rw[aff];exact Nat.mul_mod_left _ _,by rw[aff,af0 _ hs];exact hk⟩;exact if_neg (by omega)
 ·rw[if_neg h];have hne:Ji n step j≠F:=λe=>h ((tA hs hF).2 e)
  unfold GD
  by_cases h2:Ji n step j<F
  ·rw[if_pos h2,if_pos (by omega)]
  ·rw[if_neg h2,if_neg (by omega)]
theorem SE(M:Sq->Sq)(c:Sq){N:Nat}(h:j<N):GD n step M c N j=tr n step M c j:=if_pos (by unfold Ji;omega)
theorem Ok(n:Nat)(lo w:Rat)(a b:Sq)(h:∀k,k<=n->a k=b k)(k:Nat)(hk:k<=n):oJ n lo w a k=oJ n lo w b k:=IZ n lo w k hk a b h
end Go.Am
namespace Go.Am
open Go.Am.Ty Go.Proofs N
variable {n i M N j t frm L κ F D B:Nat}{lv:Key->LB}{c c':Sq}{k:Key}{l:List Tm}{f:Nat->Nat}{fz own o2:Bool}{lo w:Rat}{cs q0 q:List CV}{c0:Ctx}{fid:FuncId}{K:AV->List (Key×LB)->List Key->Nat->Prop}{fr:Nat->AV}{s:aB}{T T1:TypeId}{r:Option Nat}{x:Code}{Q:Ex->aB->Nat->Prop}{ks:List Key}{R:AV}{b:List Sp}
theorem xl(frm step n:Nat)(kc:Key)(g:Key->Key)(h:g 1=kc):(kf 1 frm step n).map (CV.bY g)=kf kc frm step n:=by
 unfold kf;rw[aed];refine aes λi _=>?_;show CV.ptr (g 1) _=_;rw[h]
theorem GY(lv:Key->LB)(m:Nat)(c:Sq)(M:Nat):(qK c M).flatMap (jb lv m)=[]:=by
 induction M with
 |zero=>rfl
 |succ M ih=>
  simp only[qK,List.flatMap_append,ih,aeT,qc,ic]
  cases m<;>rfl
theorem Ed{kc:Key}{m step:Nat}(h:lv kc=.cells o2 fz T1 (qK c M))(k:Key)(hk:k∈(kf kc frm step n).flatMap (jb lv (m+1))):k=kc:=by
 obtain⟨x,hx,hk⟩:=List.mem_flatMap.1 hk;unfold kf at hx;obtain⟨i,_,rfl⟩:=List.mem_map.1 hx;simp only[jb,h,GY,aY,cy,or_false]at hk;exact hk
theorem ag.line(κ' kh:Key)(kl kc:Key){o1:Bool}{T0:TypeId}{step:Nat}{y:AV}(hy:y.pure=true)
 (hc:aI c0.P c0.G fid [.c (.aH 0 0 (n+1) 1),y] [.cells false false T0 (kf 1 frm step n),.cells false false T1 (qK c M)] (.ret (.tup []) [.cells false false T0 (kf 1 frm step n),.cells false false T1 (qK c' M)] []))
 (h0:lv kl=.cells o1 false T0 (kf kc frm step n)) (h1:lv kc=.cells o2 false T1 (qK c M)) (hne:kl≠kc) (hk0:kh≠kl) (hk1:kh≠kc) (hh:lv kh=.hole)
 (hK:K (.tup []) [(kl,.cells false false T0 (kf kc frm step n)),(kc,.cells false false T1 (qK c' M))] [kh,kl,kc] κ'):ag c0 fid [.c (.aH kl 0 (n+1) 1),y] lv K:=by
 obtain⟨g,hg⟩:∃g,aQ [kl,kc] [] kh=g:=⟨_,rfl⟩
 have g0:g 0=kl:=by rw[<-hg];rfl
 have g1:g 1=kc:=by rw[<-hg];rfl
 refine ag.Np κ' kh false [kl,kc] [] _ _ _ (us:=[.c (.aH 0 0 (n+1) 1),y]) [kh,kl,kc] hc (by simp[hne]) (by simp[hk0,hk1]) rfl rfl rfl (by simp) ?_ (by simp) hh ?_ ?_ (by simp) rfl ?_ ?_ (by simp) ?_
 ·rw[hg];intro i q1 q2
  match i,q1,q2 with
  |0,_,_=>
   show(lv kl).like _ _;rw[h0];exact LB.aC.2 ⟨rfl,rfl,(xl frm step n kc g g1).symm,λh=>by cases h⟩
  |1,_,_=>
   show(lv kc).like _ _;rw[h1];exact LB.aC.2 ⟨rfl,rfl,(fm c M g).symm,λh=>by cases h⟩
 ·intro b hb;simp only[aY,cy,or_false]at hb;rcases hb with rfl|rfl<;>rfl
 ·intro b hb;simp only[aeX,aeT,aei,aY,cy,or_false]at hb;rcases hb with rfl|rfl|rfl|rfl<;>exact λh=>by cases h
 ·rw[hg];intro i q1 q2
  match i,q1,q2 with
  |0,_,_=>exact⟨rfl,by show _=AV.c (.aH (g 0) 0 (n+1) 1);rw[g0];rfl⟩
  |1,_,_=>exact⟨AV.iI hy,(AV.cV hy _).symm⟩
 ·intro a ha k hk;rcases List.mem_cons.1 ha with rfl|ha
  ·have hk:k∈jb lv 8 (.aH kl 0 (n+1) 1):=hk;simp only[jb,h0,aY]at hk;rcases hk with rfl|hk
   ·simp
   ·have:=Ed h1 _ hk;subst this;simp
  ·rw[List.mem_singleton.1 ha,kW hy]at hk;cases hk
 ·rw[hg]
  have e:cF g false [kl,kc] [.cells false false T0 (kf 1 frm step n),.cells false false T1 (qK c' M)]++cF g false [] []=[(kl,.cells false false T0 (kf kc frm step n)),(kc,.cells false false T1 (qK c' M))]:=by
   simp[cF,LB.fix,xl frm step n kc g g1,fm]
  rw[e];exact hK
theorem OL(G:List (List DV))(l:List Rat)(x0:Rat)(h0:l[0]?=some x0)(hn:l.length<=1000)(hs:∀x∈l,br x 10000000000):
 aa Tryz.prog G 28 [jD l] (jC (lP (l.drop 1) x0,lO (l.drop 1) x0)):=by
 have c1:=yF G l x0 h0 hn hs;have c2:=zZ G l x0 h0 hn hs;generalize lP (l.drop 1) x0=r1 at *
 generalize lO (l.drop 1) x0=r2 at *
 refine aa.enc Tryz.func28 rfl (λlv=>gC lv _ _ _ _ _ _) λ_=>aah ?_;refine aaF λK hK=>?_;simp;refine ag.p 1 9 c1 ?_;simp;refine ag.p 1 9 c2 ?_;simp[SF]
 repeat refine aj ?_
 apply hK;exact aaH (aM.iv (κ:=0) (t:=2) (k:=0) ⟨rfl,rfl⟩ (by simp) (by simp[ai]))
theorem Lh(m:Int)(l:List Iv)(j:Nat)(a:Iv)(c:Sq)(M frm step n:Nat)(hj:j<l.length)(ha:l[j]=a)(hz:a.z)(hs:0<step)(hM:frm+n*step<M)(hM2:M<=1000)(hn:n<=600)(hL:L<=1000000000)(hL3:1000<=L)
 (hok:Ow (λx=>br x L) n a.1 (a.2-a.1) (λk=>c (frm+k*step))) :
 aI Tryz.prog (GG m) 58 [.c (.aH 0 0 (n+1) 1),.c (.ptr 2 0),.c (.ptr 3 0)] [.cells false false 105 (kf 1 frm step n),.cells false false 27 (qK c M),.cells false false 89 [bV (iO l)],.cells false false 3 [.d (.int .i64 (j:Int))]]
  (.ret (.tup []) [.cells false false 105 (kf 1 frm step n),.cells false false 27 (qK (kn c frm step n (oJ n a.1 (a.2-a.1) (λk=>c (frm+k*step)))) M),.cells false false 89 [bV (iO l)],.cells false false 3 [.d (.int .i64 (j:Int))]] []):=by
 have cc:=Hy m c M frm step n a hs hM hM2 hn hL hok.h1 hz hL3 hok.h2 hok.h3 hok.h4;have hix:=λlv=>adf lv l hj
 rw[ha]at hix
 have hσ:bL [.cells false false 105 (kf 1 frm step n),.cells false false 27 (qK c M),.cells false false 89 [bV (iO l)],.cells false false 3 [.d (.int .i64 (j:Int))]] []=az (az (az (az (λ_=>.hole) 0 (.cells false false 105 (kf 1 frm step n))) 1 (.cells false false 27 (qK c M))) 2 (.cells false false 89 [bV (iO l)])) 3 (.cells false false 3 [.d (.int .i64 (j:Int))]):=by
  funext k;match k with|0=>rfl|1=>rfl|2=>rfl|3=>rfl|k+4=>simp[bL,az]
 generalize kn c frm step n (oJ n a.1 (a.2-a.1) (λk=>c (frm+k*step)))=c' at *
 refine aI.enm Tryz.func58 rfl hσ λ_=>aar ?_;simp[hix,UA,YI];refine ag.line 20 9 0 1 (by simp) cc rfl rfl (by decide) (by decide) (by decide) rfl ?_;simp;refine⟨[(0,0,.cells false false 105 (kf 1 frm step n)),(1,1,.cells false false 27 (qK c' M)),(2,2,.cells false false 89 [bV (iO l)]),(3,3,.cells false false 3 [.d (.int .i64 (j:Int))])],9,?_,by simp,by simp,rfl,?_,?_,rfl,rfl⟩
 ·funext k
  match k with
  |0=>rfl
  |1=>rfl
  |2=>rfl
  |3=>rfl
  |k+4=>simp[bL,bg,az]
 ·intro k hk
  match k with
  |0=>exact .inr rfl
  |1=>exact .inr rfl
  |2=>exact .inr rfl
  |3=>exact .inr rfl
  |k+4=>exact absurd (by simp[az]) hk
 ·intro e he;simp only[aY,cy,or_false]at he;rcases he with rfl|rfl|rfl|rfl
  ·exact LB.aC.2 ⟨rfl,rfl,(JX _ _ _ _ _ rfl).symm,id⟩
  ·exact LB.aC.2 ⟨rfl,rfl,(fm _ _ _).symm,id⟩
  ·exact LB.aC.2 ⟨rfl,rfl,by simp,id⟩
  ·exact LB.aC.2 ⟨rfl,rfl,rfl,id⟩
theorem Le.Zp{c:Ctx}{lv':Key->LB}(m:List (Key×Key×LB))(kh:Key)(l:List (Nat×AV))(hlv':lv'=bg (λ_=>.hole) (m.map λe=>(e.1,e.2.2)))(hc:∀k,c.iN k≠.hole->b6 m kh k=k)
 (hn1:(m.map (·.1)).Nodup) (hn2:(m.map (·.2.1)).Nodup) (hh:lv kh=.hole) (has:∀e∈m,(lv e.2.1).like e.2.2 (b6 m kh)) (hl:∀p∈l,p.2.bX=true/\fr p.1=p.2.bY (b6 m kh)):Le c ⟨fr,lv⟩ ⟨aU l,lv'⟩:=
 ⟨_,fD.keys (s:=⟨fr,lv⟩) m kh l hlv' (λk hk=>.inr (hc k hk)) hn1 hn2 hh has hl⟩
def La(k:Key)(frm step i:Nat):List CV:=(List.range i).map λi=>.ptr k ((frm+i*step)*3)
theorem RP(k:Key)(frm step i:Nat):(La k frm step i).length=i:=by simp[La]
theorem O7(k:Key)(frm step i:Nat):La k frm step i++[.ptr k ((frm+i*step)*3)]=La k frm step (i+1):=by
 unfold La;rw[agG,aeR];rfl
theorem Jn(k:Key)(frm step i:Nat)(g:Key->Key)(h:g k=k):(La k frm step i).map (CV.bY g)=La k frm step i:=by
 unfold La;rw[aed];refine aes λi _=>?_;show CV.ptr (g k) _=_;rw[h]
def Ue(F step:Nat):Nat->LB
 |0=>.hole
 |k+1=>.cells true false 105 (La 1 F step (k+1))
def VC:Nat->AV
 |0=>.c (.d .nilsl)
 |k+1=>.c (.aH 10 0 (k+1) 1)
theorem ZI(lv:Key->LB)(κ:Key)(h:lv κ=.hole)(k:Key)(o:Nat):ak Tryz.prog 104 1 [0] lv κ [.c (.ptr k o)]=some (.c (.aH κ 0 1 1),[(κ,.cells true false 105 [.ptr k o])],[],True):=by
 unfold ak;rw[h];kernel_rfl
theorem Ri{step:Nat}(hs:0<step){Mp:Sq->Sq}{k:Nat}(hF:F/step%(n+1)=0)(hk:k<=n):GD n step Mp c F (F+k*step)=c (F+k*step):=by
 have hb3:Ji n step (F+k*step)=F:=(tA hs hF).1 ⟨by omega,by rw[aff];exact Nat.mul_mod_left _ _,by rw[aff,af0 _ hs];exact hk⟩;exact if_neg (by omega)
theorem N6{step:Nat}(hs:0<step)(hF:F/step%(n+1)=0)(hq:∃q,M=q*((n+1)*step))(hlt:F<M):F+n*step<M:=by
 obtain⟨q,rfl⟩:=hq;have h1:=afy (F/step) (n+1);rw[hF,aeI]at h1;obtain⟨t,ht⟩:∃t,F/step/(n+1)=t:=⟨_,rfl⟩
 rw[ht]at h1;have h2:=afy F step;have h3:=adZ F hs;rw[<-h1]at h2;have h4:step*((n+1)*t)=t*((n+1)*step):=by grind
 rw[h4]at h2
 have h5:t<q:=by
  refine agS (a:=(n+1)*step) ?_;omega
 have h6:(t+1)*((n+1)*step)<=q*((n+1)*step):=adJ _ h5;have h7:(t+1)*((n+1)*step)=t*((n+1)*step)+(n*step+step):=by rw[ad7,aeS,ad7,aeS]
 omega
abbrev Vd(l:List Iv)(j M step n:Nat)(q:List CV):Key->LB:=
 az (az (az (az (az (az (λ_=>.hole) 0 (.cells false false 48 [.aH 1 0 M 3])) 1 (.cells false false 27 q)) 2 (.cells false false 3 [.d (.int .i64 (step:Int))])) 3 (.cells false false 3 [.d (.int .i64 (n:Int))])) 4 (.cells false false 89 [bV (iO l)])) 5 (.cells false false 3 [.d (.int .i64 (j:Int))])
abbrev XH(l:List Iv)(j M step n:Nat)(q:List CV):List LB:=
 [.cells false false 48 [.aH 1 0 M 3],.cells false false 27 q,.cells false false 3 [.d (.int .i64 (step:Int))],.cells false false 3 [.d (.int .i64 (n:Int))],.cells false false 89 [bV (iO l)],.cells false false 3 [.d (.int .i64 (j:Int))]]
abbrev eM(l:List Iv)(j M step n:Nat)(q:List CV)(k10:Key)(b:LB):List (Key×Key×LB):=
 [(0,0,.cells false false 48 [.aH 1 0 M 3]),(1,1,.cells false false 27 q),(2,2,.cells false false 3 [.d (.int .i64 (step:Int))]),(3,3,.cells false false 3 [.d (.int .i64 (n:Int))]),(4,4,.cells false false 89 [bV (iO l)]),(5,5,.cells false false 3 [.d (.int .i64 (j:Int))]),(10,k10,b)]
theorem WM{c:Ctx}{l:List Iv}{step:Nat}(k10:Key)(b:LB)(L:List (Nat×AV))(hl0:c.iN=Vd l j M step n q0)(hq:∀g,q.map (CV.bY g)=q)
 (h0:lv 0=.cells false false 48 [.aH 1 0 M 3]) (h1:lv 1=.cells false false 27 q) (h2:lv 2=.cells false false 3 [.d (.int .i64 (step:Int))]) (h3:lv 3=.cells false false 3 [.d (.int .i64 (n:Int))]) (h4:lv 4=.cells false false 89 [bV (iO l)]) (h5:lv 5=.cells false false 3 [.d (.int .i64 (j:Int))])
 (h10:(lv k10).like b (b6 (eM l j M step n q k10 b) 19)) (h19:lv 19=.hole) (hk:([0,1,2,3,4,5,k10]:List Key).Nodup) (hl:∀x∈L,x.2.bX=true/\fr x.1=x.2.bY (b6 (eM l j M step n q k10 b) 19)) :
 Le c ⟨fr,lv⟩ ⟨aU L,az (Vd l j M step n q) 10 b⟩:=by
 refine Le.Zp (eM l j M step n q k10 b) 19 L rfl ?_ (by simp) hk h19 ?_ hl
 ·intro k hk;rw[hl0]at hk
  match k with
  |0=>rfl
  |1=>rfl
  |2=>rfl
  |3=>rfl
  |4=>rfl
  |5=>rfl
  |k+6=>exact absurd (by simp[az]) hk
 ·intro e he;simp only[aY,cy,or_false]at he;rcases he with rfl|rfl|rfl|rfl|rfl|rfl|rfl
  ·show(lv 0).like _ _;rw[h0];exact LB.aC.2 ⟨rfl,rfl,rfl,id⟩
  ·show(lv 1).like _ _;rw[h1];exact LB.aC.2 ⟨rfl,rfl,(hq _).symm,id⟩
  ·show(lv 2).like _ _;rw[h2];exact LB.aC.2 ⟨rfl,rfl,rfl,id⟩
  ·show(lv 3).like _ _;rw[h3];exact LB.aC.2 ⟨rfl,rfl,rfl,id⟩
  ·show(lv 4).like _ _;rw[h4];exact LB.aC.2 ⟨rfl,rfl,by simp,id⟩
  ·show(lv 5).like _ _;rw[h5];exact LB.aC.2 ⟨rfl,rfl,rfl,id⟩
  ·exact h10
theorem abV{c:Ctx}{l:List Iv}{step:Nat}(L:List (Nat×AV))(hl0:c.iN=Vd l j M step n q0)(hq:∀g,q.map (CV.bY g)=q)
 (h0:lv 0=.cells false false 48 [.aH 1 0 M 3]) (h1:lv 1=.cells false false 27 q) (h2:lv 2=.cells false false 3 [.d (.int .i64 (step:Int))]) (h3:lv 3=.cells false false 3 [.d (.int .i64 (n:Int))]) (h4:lv 4=.cells false false 89 [bV (iO l)]) (h5:lv 5=.cells false false 3 [.d (.int .i64 (j:Int))])
 (h20:lv 20=.hole) (h19:lv 19=.hole) (hl:∀x∈L,x.2.bX=true/\fr x.1=x.2.bY (b6 (eM l j M step n q 20 .hole) 19)):Le c ⟨fr,lv⟩ ⟨aU L,Vd l j M step n q⟩:=by
 have h:=WM (M:=M) 20 .hole L hl0 hq h0 h1 h2 h3 h4 h5 h20 h19 (by simp) hl;rw[mF rfl]at h;exact h
theorem ag.inner(κ':Nat){o:Bool}{step:Nat}{l:List Iv}
 (hc:aI c0.P c0.G fid [.c (.aH 0 0 (n+1) 1),.c (.ptr 2 0),.c (.ptr 3 0)] [.cells false false 105 (kf 1 frm step n),.cells false false 27 (qK c M),.cells false false 89 [bV (iO l)],.cells false false 3 [.d (.int .i64 (j:Int))]]
  (.ret (.tup []) [.cells false false 105 (kf 1 frm step n),.cells false false 27 (qK c' M),.cells false false 89 [bV (iO l)],.cells false false 3 [.d (.int .i64 (j:Int))]] []))
 (h0:lv 10=.cells o false 105 (kf 1 frm step n)) (h1:lv 1=.cells false false 27 (qK c M)) (h2:lv 4=.cells false false 89 [bV (iO l)]) (h3:lv 5=.cells false false 3 [.d (.int .i64 (j:Int))]) (hh:lv 19=.hole)
 (hK:K (.tup []) [(10,.cells false false 105 (kf 1 frm step n)),(1,.cells false false 27 (qK c' M)),(4,.cells false false 89 [bV (iO l)]),(5,.cells false false 3 [.d (.int .i64 (j:Int))])] [19,10,1,4,5] κ'):ag c0 fid [.c (.aH 10 0 (n+1) 1),.c (.ptr 4 0),.c (.ptr 5 0)] lv K:=by
 obtain⟨g,hg⟩:∃g,aQ [10,1,4,5] [] 19=g:=⟨_,rfl⟩
 have g0:g 0=10:=by rw[<-hg];rfl
 have g1:g 1=1:=by rw[<-hg];rfl
 have g2:g 2=4:=by rw[<-hg];rfl
 have g3:g 3=5:=by rw[<-hg];rfl
 refine ag.Np κ' 19 false [10,1,4,5] [] _ _ _ (us:=[.c (.aH 0 0 (n+1) 1),.c (.ptr 2 0),.c (.ptr 3 0)]) [19,10,1,4,5] hc (by simp) (by simp) rfl rfl rfl (by simp) ?_ (by simp) hh ?_ ?_ (by simp) rfl ?_ ?_ (by simp) ?_
 ·rw[hg];intro i q1 q2
  match i,q1,q2 with
  |0,_,_=>
   show(lv 10).like _ _;rw[h0];exact LB.aC.2 ⟨rfl,rfl,(xl frm step n 1 g g1).symm,λh=>by cases h⟩
  |1,_,_=>
   show(lv 1).like _ _;rw[h1];exact LB.aC.2 ⟨rfl,rfl,(fm c M g).symm,λh=>by cases h⟩
  |2,_,_=>
   show(lv 4).like _ _;rw[h2];exact LB.aC.2 ⟨rfl,rfl,by simp,λh=>by cases h⟩
  |3,_,_=>
   show(lv 5).like _ _;rw[h3];exact LB.aC.2 ⟨rfl,rfl,rfl,λh=>by cases h⟩
 ·intro b hb;simp only[aY,cy,or_false]at hb;rcases hb with rfl|rfl|rfl|rfl<;>rfl
 ·intro b hb;simp only[aeX,aeT,aei,aY,cy,or_false]at hb;rcases hb with rfl|rfl|rfl|rfl|rfl|rfl|rfl|rfl<;>exact λh=>by cases h
 ·rw[hg];intro i q1 q2
  match i,q1,q2 with
  |0,_,_=>exact⟨rfl,by show _=AV.c (.aH (g 0) 0 (n+1) 1);rw[g0];rfl⟩
  |1,_,_=>exact⟨rfl,by show _=AV.c (.ptr (g 2) 0);rw[g2];rfl⟩
  |2,_,_=>exact⟨rfl,by show _=AV.c (.ptr (g 3) 0);rw[g3];rfl⟩
 ·intro a ha k hk;simp only[aY,cy,or_false]at ha;rcases ha with rfl|rfl|rfl
  ·have hk:k∈jb lv 8 (.aH 10 0 (n+1) 1):=hk;simp only[jb,h0,aY]at hk;rcases hk with rfl|hk
   ·simp
   ·have:=Ed h1 _ hk;subst this;simp
  ·have hk:k∈jb lv 8 (.ptr 4 0):=hk;have e:jb lv 7 (bV (iO l))=[]:=by cases iO l<;>rfl
   simp only[jb,h2,afR,agH,e,aei,aY,cy,or_false]at hk;subst hk;simp
  ·have hk:k∈jb lv 8 (.ptr 5 0):=hk;simp only[jb,h3,afR,agH,aei,aY,cy,or_false]at hk;subst hk;simp
 ·rw[hg]
  have e:cF g false [10,1,4,5] [.cells false false 105 (kf 1 frm step n),.cells false false 27 (qK c' M),.cells false false 89 [bV (iO l)],.cells false false 3 [.d (.int .i64 (j:Int))]]++cF g false [] []=[(10,.cells false false 105 (kf 1 frm step n)),(1,.cells false false 27 (qK c' M)),(4,.cells false false 89 [bV (iO l)]),(5,.cells false false 3 [.d (.int .i64 (j:Int))])]:=by
   simp[cF,LB.fix,xl frm step n 1 g g1,fm]
  rw[e];exact hK
theorem LM(m:Int)(l:List Iv)(j:Nat)(a:Iv)(c:Sq)(M step n:Nat)(hj:j<l.length)(ha:l[j]=a)(hz:a.z)(hs:0<step)(hM2:M<=1000)(hn:n<=600)(hq:∃q,M=q*((n+1)*step))(hL:L<=1000000000)(hL3:1000<=L)(hjn:j<1048576)
 (hok:∀A:Sq,(∀k,k<=n->∃i,A k=c i)->Ow (λx=>br x L) n a.1 (a.2-a.1) A) :
 aI Tryz.prog (GG m) 57 [.c (.func (.func 58) [] [.ptr 4 0,.ptr 5 0]),.c (.ptr 0 0),.c (.ptr 2 0),.c (.ptr 3 0)] (XH l j M step n (qK c M))
  (.ret (.tup []) (XH l j M step n (qK (tr n step (oJ n a.1 (a.2-a.1)) c) M)) []):=by
 have hσ:∀q,bL (XH l j M step n q) []=Vd l j M step n q:=λq=>by
  funext k;match k with|0=>rfl|1=>rfl|2=>rfl|3=>rfl|4=>rfl|5=>rfl|k+6=>simp[bL,az]
 obtain⟨Mp,hMp⟩:∃Mp,oJ n a.1 (a.2-a.1)=Mp:=⟨_,rfl⟩
 have e0:=Nk n step Mp c;refine aI.enm Tryz.func57 rfl (hσ _) λ_=>aah ?_;refine aaE ?_
 refine abr (λ(F:Nat)=>⟨aU [(0,.c (.func (.func 58) [] [.ptr 4 0,.ptr 5 0])),(1,.c (.ptr 0 0)),(2,.c (.ptr 2 0)),(3,.c (.ptr 3 0)),(9,.c (.d (.int .i64 M))),(10,.c (.d (.int .i64 F)))],Vd l j M step n (qK (GD n step Mp c F) M)⟩) 20
  (λF=>F<=M) (λF=>M-F) 0 (Le.eY _ (by rw[e0])) (aa2 _) ?_
 rintro F hF
 try simp only at hF ⊢
 refine aah ?_;refine aaa λK2 hK2=>?_
 by_cases hlt:F<M
 ·have hlt':(F:Int)<(M:Int):=by omega
  have f10:=bB (n:=(F:Int)+1) (by omega) (by omega);obtain⟨d,hd⟩:∃d,F/step=d:=⟨_,rfl⟩
  have hdF:d<=F:=by rw[<-hd];exact afq _ _
  obtain⟨e,he⟩:∃e,d%(n+1)=e:=⟨_,rfl⟩
  have fd:(F:Int).tdiv (step:Int)=(d:Int):=by rw[<-hd];rfl
  have fn:=bB (n:=(n:Int)+1) (by omega) (by omega);have fw:=bB (n:=(d:Int)) (by omega) (by omega);have fe:(d:Int).tmod ((n:Int)+1)=(e:Int):=by rw[<-he];rfl
  refine aaX (by simp[hlt']<;>omega) (aav ?_);simp
  repeat refine aj ?_
  apply hK2;refine aaa λK4 hK4=>aaE (aaa λK5 hK5=>aar ?_)
  simp
  repeat refine aj ?_
  apply hK5;refine aaa λK5 hK5=>AW.e4 mixed fd fn fe fw ?_
  by_cases h0:e=0
  rotate_left
  ·have h0':¬(e:Int)=0:=by omega
   have es:=PE hs Mp c (n:=n) (F:=F) (by rw[hd,he];exact h0);refine aaX (by simp[h0]<;>omega) (abn (hK4 _ _ (aar ?_)));simp[f10];exact⟨F+1,Le.eY _ (by rw[es]),by omega,by omega⟩
  ·subst h0;have hF0:F/step%(n+1)=0:=by rw[hd];exact he
   refine aba (aav ?_);simp
   repeat refine aj ?_
   apply hK5;refine aaa λK5 hK5=>aar ?_;simp
   repeat refine aj ?_
   apply hK5;refine aaa λK5 hK5=>?_;have hfit:=N6 hs hF0 hq hlt;refine abf fn ?_;refine aaE ?_
   refine abr (λ(k:Nat)=>⟨aU [(0,.c (.func (.func 58) [] [.ptr 4 0,.ptr 5 0])),(1,.c (.ptr 0 0)),(2,.c (.ptr 2 0)),(3,.c (.ptr 3 0)),(9,.c (.d (.int .i64 M))),(10,.c (.d (.int .i64 F))),(5,.c (.d (.int .i64 F))),(6,VC k),(21,.c (.d (.int .i64 ((n:Int)+1)))),(22,.c (.d (.int .i64 k)))],
    az (Vd l j M step n (qK (GD n step Mp c F) M)) 10 (Ue F step k)⟩) 40
    (λk=>k<=n+1) (λk=>n+1-k) 0 (Le.eY _ (by exact(mF rfl).symm) (by simp[VC])) (aa2 _) ?_
   rintro k hk
   try simp only at hk ⊢
   refine aaa λK7 hK7=>aar ?_;simp
   repeat refine aj ?_
   apply hK7;refine aaa λK8 hK8=>?_
   by_cases hkn:k<n+1
   ·have hkn':(k:Int)<(n:Int)+1:=by omega
    have f22:=bB (n:=(k:Int)+1) (by omega) (by omega);obtain⟨ks,hks⟩:∃x,k*step=x:=⟨_,rfl⟩
    obtain⟨i,hi⟩:∃x,F+ks=x:=⟨_,rfl⟩
    have hksn:ks<=n*step:=by rw[<-hks];exact adJ _ (by omega)
    have hiM:i<M:=by omega
    have f30:IntKind.i64.wrap ((k:Int)*(step:Int))=(ks:Int):=by rw[<-afG,hks];exact bB (by omega) (by omega)
    have f31:IntKind.i64.wrap ((F:Int)+(ks:Int))=(i:Int):=by rw[bB (by omega) (by omega)];omega
    have hsn:=O7 1 F step k;rw[hks,hi]at hsn;refine aaX (by simp[hkn']<;>omega) (aav (hK8 _ _ (aaa λK9 hK9=>aaE (aah ?_))))
    by_cases hk0:k=0
    ·have hS:VC k=.c (.d .nilsl):=by subst hk0;rfl
     have hB:Ue F step k=.hole:=by subst hk0;rfl
     have hP:La 1 F step k=[]:=by subst hk0;rfl
     rw[hP,aeT]at hsn;rw[hS,hB];refine aar ?_;simp[f30,f31,ZI,fc,keyOf,ai,hiM,-ak]
     repeat refine aj ?_
     apply hK9;refine aar ?_;simp[f22];exact⟨k+1,WM 41 (Ue F step (k+1)) _ rfl (fm _ _) rfl rfl rfl rfl rfl rfl (by rw[show Ue F step (k+1)=.cells true false 105 (La 1 F step (k+1)) from rfl,<-hsn];exact LB.aC.2 ⟨rfl,rfl,by first|rfl|(rw[aeR,Jn _ _ _ _ _ rfl];rfl),id⟩) rfl (by simp) (by rw[show VC (k+1)=.c (.aH 10 0 (k+1) 1) from rfl];simp[b6,hk0];rfl),by omega,by omega⟩
    ·have hS:VC k=.c (.aH 10 0 k 1):=by obtain⟨z,rfl⟩:∃z,k=z+1:=⟨k-1,by omega⟩;rfl
     have hB:Ue F step k=.cells true false 105 (La 1 F step k):=by obtain⟨z,rfl⟩:∃z,k=z+1:=⟨k-1,by omega⟩;rfl
     have hPl:=RP 1 F step k;rw[hS,hB];refine aar ?_;simp[f30,f31,ZI,fc,keyOf,ai,hiM,hPl,-ak]
     repeat refine aj ?_
     apply hK9;refine aar ?_;simp[f22];exact⟨k+1,WM 41 (Ue F step (k+1)) _ rfl (fm _ _) rfl rfl rfl rfl rfl rfl (by rw[show Ue F step (k+1)=.cells true false 105 (La 1 F step (k+1)) from rfl,<-hsn];exact LB.aC.2 ⟨rfl,rfl,by first|rfl|(rw[aeR,Jn _ _ _ _ _ rfl];rfl),id⟩) rfl (by simp) (by rw[show VC (k+1)=.c (.aH 10 0 (k+1) 1) from rfl];simp[b6];rfl),by omega,by omega⟩
   ·have hkn':¬(k:Int)<(n:Int)+1:=by omega
    obtain rfl:k=n+1:=by omega
    have hS:VC (n+1)=.c (.aH 10 0 (n+1) 1):=rfl;have hB:Ue F step (n+1)=.cells true false 105 (kf 1 F step n):=rfl;rw[hS,hB];refine abd (by simp[hkn']<;>omega) (abn (hK5 _ _ (aar ?_)));simp;have hok2:Ow (λx=>br x L) n a.1 (a.2-a.1) (λk=>GD n step Mp c F (F+k*step)):=hok _ λk hk=>⟨_,Ri hs hF0 hk⟩
    have cc:=Lh m l j a (GD n step Mp c F) M F step n hj ha hz hs hfit hM2 hn hL hL3 hok2;rw[hMp,Qt hs Mp c hF0 (λx y h k hk=>by rw[<-hMp];exact Ok n a.1 (a.2-a.1) x y h k hk)]at cc;refine⟨by simp,?_⟩;refine ag.inner 50 cc rfl rfl rfl rfl rfl ?_;simp
    repeat refine aj ?_
    apply hK4;refine aar ?_;simp[f10];exact⟨F+1,abV _ rfl (fm _ _) rfl rfl rfl rfl rfl rfl rfl rfl (by simp[b6];rfl),by omega,by omega⟩
 ·have hFM:F=M:=by omega
  subst hFM;have e1:qK (GD n step Mp c F) F=qK (tr n step (oJ n a.1 (a.2-a.1)) c) F:=by rw[hMp];exact PA λi hi=>SE Mp c hi
  rw[e1];generalize tr n step (oJ n a.1 (a.2-a.1)) c=c' at *
  refine aba (abn ?_);simp;refine⟨(eM l j F step n (qK c' F) 20 .hole).dropLast,19,(hσ _).trans rfl,by simp,by simp,rfl,?_,?_,rfl,rfl⟩
  ·intro k hk
   match k with
   |0=>exact .inr rfl
   |1=>exact .inr rfl
   |2=>exact .inr rfl
   |3=>exact .inr rfl
   |4=>exact .inr rfl
   |5=>exact .inr rfl
   |k+6=>exact absurd (by simp[az]) hk
  ·intro e he;simp only[List.dropLast,aY,cy,or_false]at he;rcases he with rfl|rfl|rfl|rfl|rfl|rfl
   ·exact LB.aC.2 ⟨rfl,rfl,rfl,id⟩
   ·exact LB.aC.2 ⟨rfl,rfl,(fm _ _ _).symm,id⟩
   ·exact LB.aC.2 ⟨rfl,rfl,rfl,id⟩
   ·exact LB.aC.2 ⟨rfl,rfl,rfl,id⟩
   ·exact LB.aC.2 ⟨rfl,rfl,by simp,id⟩
   ·exact LB.aC.2 ⟨rfl,rfl,rfl,id⟩
def YQ:Nat->Code->Code
 |0,.seq a _=>a
 |1,.seq _ b=>b
 |2,.block _ b=>b
 |3,.loop b=>b
 |4,.cond _ a _=>a
 |5,.cond _ _ b=>b
 |_,c=>c
def Uv:List Nat->Code->Code
 |[],c=>c
 |n::l,c=>Uv l (YQ n c)
def cW(l:List Nat)(f:Func):Code:=Uv l (f.body.getD .skip)
theorem adI{c:Ctx}{y:Code}(h:x=y)(k:AW c r y s κ Q):AW c r x s κ Q:=h▸k
theorem adE{c:Ctx}{s2:aB}{κ2:Nat}(h:Le c s s2)(k:AW c r x s2 κ2 Q):AW c r x s κ Q:=by
 obtain⟨g,hg⟩:=h;exact AW.coarse hg k
theorem Nj{x:Rat}(h:bq D B x)(hD:D≠0)(hL:nl D+nl B<=L):br x L:=by
 have h1:nl x.den<=nl D:=dc (agl (aeZ hD) h.1);have h2:=dc h.2;have h3:=bO B x.den;exact⟨by omega,by omega⟩
theorem Jh(n k:Nat):ch n k<=2^n:=by
 induction n generalizing k with
 |zero=>cases k<;>simp[ch]
 |succ n ih=>
  cases k with
  |zero=>simp only[ch];exact aeb (by decide)
  |succ k=>
   simp only[ch];have h1:=ih k;have h2:=ih (k+1);rw[adR];omega
theorem Qb(n:Nat):∀m,DL n m<=2^(n*m)
 |0=>by simp[DL]
 |m+1=>by
  have h1:=Qb n m;have h2:=Jh n m;show DL n m*ch n m<=_;rw[Nat.mul_succ,afa];exact aeK h1 h2
theorem Pd(h:n<=16):nl (DL n (n+1))<=9:=by
 have h1:=dc (Qb n (n+1));have h2:=o9 (n*(n+1));have h3:n*(n+1)<=16*17:=aeK h (by omega);omega
theorem PL(hn:n<=16)(hl:br lo 300)(hw:br w 601):nl (QW D n lo w)<=nl D+20000:=by
 have h1:=mL hl.2 n;have h2:=mL hw.2 n;have h3:=Pd hn;have h4:=bO (D*lo.den^n) (w.den^n*DL n (n+1));have h5:=bO D (lo.den^n);have h6:=bO (w.den^n) (DL n (n+1));have h7:n*300<=16*300:=adJ _ hn;have h8:n*601<=16*601:=adJ _ hn;unfold QW;omega
theorem Qu(hn:n<=16)(hl:br lo 300)(hw:br w 601):nl (Uw B n lo w)<=nl B+99000:=by
 have a1:nl (1+lo.num.natAbs)<=301:=by have:=mB 1 lo.num.natAbs;have:=eK;have:=hl.1;omega
 have a2:nl (w.num.natAbs+1)<=602:=by have:=mB w.num.natAbs 1;have:=eK;have:=hw.1;omega
 have h1:=mL a1 (n*n+n);have h2:=mL a2 n;have h3:=o9 n;have h4:=bO (B*(1+lo.num.natAbs)^(n*n+n)*(w.num.natAbs+1)^n) (2^n);have h5:=bO (B*(1+lo.num.natAbs)^(n*n+n)) ((w.num.natAbs+1)^n);have h6:=bO B ((1+lo.num.natAbs)^(n*n+n));have h7:n*n<=16*16:=aeK hn hn;have h8:(n*n+n)*301<=272*301:=adJ _ (by omega);have h9:n*602<=16*602:=adJ _ hn;unfold Uw;omega
def DD(t:Nat)(c:Sq):Prop:=∃D B,D≠0/\nl D<=100000*(t+1)/\nl B<=100000*(t+1)/\∀i,bq D B (c i)
theorem DD.sz(h:DD t c)(ht:t<=9)(i:Nat):br (c i) 10000000:=by
 obtain⟨D,B,h1,h2,h3,h4⟩:=h;exact Nj (h4 i) h1 (by omega)
theorem DD.start{ts:List hO}(hl:ts.length<=200)(hz:∀t∈ts,br t.1 300)(pl:List Nat->Nat):DD 0 (DC (λ_=>0) ts pl):=by
 obtain⟨h1,h2⟩:=Wg pl ts
 have key:∀r:List hO,(∀t∈r,br t.1 300)->nl (OT r.reverse)<=1+300*r.length/\nl (UE r.reverse)<=300+r.length:=by
  intro r
  induction r with
  |nil=>
   intro _;have h0:nl 0=0:=rfl;have e1:OT ([]:List hO).reverse=1:=rfl;have e2:UE ([]:List hO).reverse=0:=rfl;rw[e1,e2,h0,eK];exact⟨by simp,by simp⟩
  |cons t r ih=>
   intro h;obtain⟨i1,i2⟩:=ih λu hu=>h u (aew _ hu)
   have ht:=h t (aen ..);rw[agh,FI,Eo,aef];have m1:=bO (OT r.reverse) t.1.den;have m2:=mB (UE r.reverse) t.1.num.natAbs;have:=ht.1;have:=ht.2;exact⟨by omega,by omega⟩
 have:=key ts.reverse λt ht=>hz t (List.mem_reverse.1 ht)
 rw[agx,List.length_reverse]at this;exact⟨_,_,h1,by omega,by omega,h2⟩
theorem DD.step{s:Nat}(h:DD t c)(hn:n<=16)(hl:br lo 300)(hw:br w 601):DD (if n=0 then t else t+1) (tr n s (oJ n lo w) c):=by
 obtain⟨D,B,h1,h2,h3,h4⟩:=h;refine⟨QW D n lo w,Uw B n lo w,Hf h1 n lo w,?_,?_,λi=>Ye h1 h4 i⟩
 ·by_cases h0:n=0
  ·subst h0;rw[QH,if_pos rfl];exact h2
  ·rw[if_neg h0];have:=PL (D:=D) hn hl hw;omega
 ·by_cases h0:n=0
  ·subst h0;rw[Nu,if_pos rfl];exact h3
  ·rw[if_neg h0];have:=Qu (B:=B) hn hl hw;omega
theorem DD.line(h:DD t c)(ht:t<=9)(hn:n<=16)(hl:br lo 300)(hw:br w 601)(A:Sq)(hA:∀k,k<=n->∃i,A k=c i):Ow (λx=>br x 10000000) n lo w A:=by
 obtain⟨D,B,h1,h2,h3,h4⟩:=h;have d1:=PL (D:=D) hn hl hw;have d2:=Qu (B:=B) hn hl hw;refine TU (D:=D) (B:=B) h1 (λj hj=>?_) _ (λx hx=>Nj hx (Hf h1 n lo w) (by omega)) λx hx=>?_
 ·obtain⟨i,e⟩:=hA j hj;rw[e];exact h4 i
 ·have a2:nl (w.num.natAbs+1)<=602:=by have:=mB w.num.natAbs 1;have:=eK;have:=hw.1;omega
  have e1:=mL hw.2 n;have e2:=mL a2 n;have e3:=Pd hn;have e4:=bO (w.den^n) (DL n (n+1));have h8:n*601<=16*601:=adJ _ hn;have h9:n*602<=16*602:=adJ _ hn;exact Nj hx (aeN (jR w.den_nz) (y7 n (n+1) (bh _))) (by omega)
def jK(f:Nat->Nat)(N:Nat):List CV:=(List.range N).map λi=>.d (.int .i64 (f i:Int))
theorem zI(f:Nat->Nat)(N:Nat):(jK f N).length=N:=by simp[jK]
theorem Ci{g:Nat->Nat}(h:∀i,i<N->f i=g i):jK f N=jK g N:=by
 unfold jK;exact aes λi hi=>by rw[h i (List.mem_range.1 hi)]
@[simp]theorem GJ(f:Nat->Nat)(N:Nat)(g:Key->Key):(jK f N).map (CV.bY g)=jK f N:=by
 unfold jK;rw[aed];rfl
theorem Ie(N:Nat):List.replicate N (CV.d (.int .i64 0))=jK (λ_=>0) N:=by
 unfold jK;refine ags (by simp) λi h1 h2=>by simp
theorem JJ(f:Nat->Nat)(h:i<N):∃r,(jK f N).drop i=.d (.int .i64 (f i:Int))::r:=by
 have hi:i<(jK f N).length:=by rw[zI];exact h
 refine⟨(jK f N).drop (i+1),?_⟩;rw[adT hi];simp[jK]
theorem Rl(h:i<cs.length)(x:CV):ai cs i [x]=cs.set i x:=by
 unfold ai;simp[List.set_eq_take_append_cons_drop,h]
theorem G0(f:Nat->Nat)(h:i<N)(v:Nat):ai (jK f N) i [.d (.int .i64 (v:Int))]=jK (λj=>if j=i then v else f j) N:=by
 rw[Rl (by rw[zI];exact h)];refine ags (by simp[jK]) λk h1 h2=>?_;rw[List.getElem_set];simp only[jK,ab5,List.getElem_range]
 by_cases e:i=k
 ·subst e;rw[if_pos rfl,if_pos rfl]
 ·rw[if_neg e,if_neg λh=>e h.symm]
section
variable {lv:Key->LB}{own fz:Bool}{T:TypeId}
theorem ixJ(h:lv k=.cells own fz T cs):aq Tryz.prog 59 lv (.c (.aH k 0 n 1)) (.c (.d (.int .i64 (i:Int))))=some (.c (.ptr k i),[],[k],i<n):=by
 simp[aq,h]
theorem ldJ(h:lv k=.cells own fz T (jK f N))(hi:i<N):aF Tryz.prog 3 lv (.c (.ptr k i))=some (.c (.d (.int .i64 (f i:Int))),[],[k],True):=by
 obtain⟨r,hr⟩:=JJ f hi;simp[aF,h,hr]
theorem MN(hi:i<N):gA Tryz.prog 3 ((jK f N).drop i)=some (.c (.d (.int .i64 (f i:Int)))):=by
 obtain⟨r,hr⟩:=JJ f hi;simp[hr]
theorem stJ(h:lv k=.cells own false T (jK f N))(hi:i<N)(v:Nat):aK Tryz.prog 3 lv (.c (.ptr k i)) (.c (.d (.int .i64 (v:Int))))=some (.undef,[(k,.cells own false T (jK (λj=>if j=i then v else f j) N))],[],True):=by
 have e:=G0 f hi v;have hl:i+1<=(jK f N).length:=by rw[zI];omega
 simp[aK,h,AV.cells,e,hl]
theorem ixQ(h:lv k=.cells own fz T cs):aq Tryz.prog 48 lv (.c (.aH k 0 n 3)) (.c (.d (.int .i64 (i:Int))))=some (.c (.ptr k (i*3)),[],[k],i<n):=by
 simp[aq,h]
end
@[simp]theorem aal(f:Sq)(m:Nat)(g:Key->Key):(qK f m).map (CV.bY g)=qK f m:=fm f m g
theorem L8{α:Type}(f:Nat->α)(k:Nat)(x y:α):az (az f k x) k y=az f k y:=by
 funext j;unfold az;split<;>rfl
def ON(l:List Tm)(i:Nat):Nat->Nat:=gX ((l.take i).map cE)
theorem PJ(l:List Tm):ON l 0=λ_=>0:=rfl
theorem RE(l:List Tm):ON l l.length=gX (l.map cE):=by unfold ON;rw[afs]
theorem Na(h:i<l.length)(j:Nat):ON l (i+1) j=max (ON l i j) ((cE l[i]).2.getD j 0):=by
 unfold ON;rw[yI h,Ge]
def SK(f:Nat->Nat)(ks:List Nat)(q:Nat):Nat->Nat:=λp=>if p<q then max (f p) (ks.getD p 0)else f p
theorem OB(f:Nat->Nat)(ks:List Nat):SK f ks 0=f:=by funext p;exact if_neg (by omega)
theorem Oy(f:Nat->Nat)(ks:List Nat)(q v:Nat)(hv:v=max (f q) (ks.getD q 0)):(λj=>if j=q then v else SK f ks q j)=SK f ks (q+1):=by
 funext p;unfold SK
 by_cases e:p=q
 ·subst e;rw[if_pos rfl,if_pos (by omega),hv]
 ·rw[if_neg e]
  by_cases h:p<q
  ·rw[if_pos h,if_pos (by omega)]
  ·rw[if_neg h,if_neg (by omega)]
theorem W4(f:Nat->Nat)(ks:List Nat)(q:Nat):SK f ks q q=f q:=if_neg (by omega)
theorem T7(h:i<l.length)(N:Nat):jK (SK (ON l i) (cE l[i]).2 N) N=jK (ON l (i+1)) N:=Ci λj hj=>by
 rw[Na h];exact if_pos hj
def xF(ts:List hO)(is:List Iv):List Ax:=(List.range is.length).map λj=>⟨gX ts j,(is.getD j (0,0)).1,(is.getD j (0,0)).2-(is.getD j (0,0)).1⟩
theorem iG(ts:List hO)(is:List Iv):(xF ts is).length=is.length:=by simp[xF]
theorem C3(ts:List hO)(is:List Iv)(h:j<(xF ts is).length):(xF ts is)[j]=⟨gX ts j,(is[j]'(by rw[iG]at h;exact h)).1,(is[j]'(by rw[iG]at h;exact h)).2-(is[j]'(by rw[iG]at h;exact h)).1⟩:=by
 have h':j<is.length:=by rw[iG]at h;exact h
 simp[xF,h']
theorem UT(ts:List hO)(is:List Iv):(xF ts is).map (·.n)=jZ ts is.length:=by simp[xF,jZ,Function.comp_def]
def XT(ts:List hO)(N:Nat):Sq:=DC (λ_=>0) ts (vt (jZ ts N))
def Af(ts:List hO)(is:List Iv):Sq:=Kr (xF ts is) (XT ts is.length)
def xg(ts:List hO)(N:Nat):Nat:=bH (jZ ts N)
def sY(l:List Tm)(b:List Sp):Int:=if pV b 0≠0 then pV b 0 else if we l b.length≠0 then we l b.length else if 600<xg (l.map cE) b.length then 3 else 0
def oE(ts:List hO)(is:List Iv):List Rat:=(List.range (xg ts is.length)).map (Af ts is)
theorem acD(c:Sq)(M:Nat):qK c M=(((List.range M).map c).map iQ).flatten.map CV.d:=by
 induction M with
 |zero=>rfl
 |succ M ih=>
  rw[agG];simp only[qK,ih,aeR,agI,adK,aeD,afZ,List.flatten_nil,aei];congr 1;simp only[qc,ic];rfl
theorem Jv(h:lv k=.cells own fz T (qK c M))(hl:M<=9223372036854775807):dI lv (.c (.aH k 0 M 3))=some (jD ((List.range M).map c),[k]):=by
 have:=th (es:=((List.range M).map c).map iQ) (lv:=lv) (k:=k) (own:=own) (fz:=fz) (T:=T) (sz:=3) (h.trans (congrArg _ (acD c M))) (by intro e he;obtain⟨a,_,rfl⟩:=List.mem_map.1 he;rfl) (by simpa using hl);rw[ab0,ab0,List.length_range]at this;exact this
def bQ(f:Nat->Nat)(N:Nat):AV:=.c (.d (.sl ((List.range N).map λi=>[.int .i64 (f i:Int)])))
theorem ac8(f:Nat->Nat)(N:Nat):jK f N=((List.range N).map λi=>[DV.int .i64 (f i:Int)]).flatten.map CV.d:=by
 unfold jK
 induction N with
 |zero=>rfl
 |succ N ih=>rw[agG];simp only[aeR,agI,ih];rfl
theorem Cu(h:lv k=.cells own fz T (jK f N))(hl:N<=9223372036854775807):dI lv (.c (.aH k 0 N 1))=some (bQ f N,[k]):=by
 have:=th (es:=(List.range N).map λi=>[DV.int .i64 (f i:Int)]) (lv:=lv) (k:=k) (own:=own) (fz:=fz) (T:=T) (sz:=1) (h.trans (congrArg _ (ac8 f N))) (by intro e he;obtain⟨a,_,rfl⟩:=List.mem_map.1 he;rfl) (by simpa using hl);rw[ab0,List.length_range]at this;exact this
@[simp]theorem Y6(o:Option (List (List DV)))(n:DV):(AV.tup [AV.c (bV o),AV.c (.d n)]).pure=true:=by cases o<;>rfl
theorem pW(l:List Sp):(eD l).length=l.length:=by simp[eD]
theorem Ua{x y:CV}{x' y':AV}{js:List Key}{e:Int}(h:dI lv (.c x)=some (x',ks))(h':dI lv (.c y)=some (y',js)):dI lv (.tup [.c x,.c y,.c (.d (.int .i64 e))])=some (.tup [x',y',.c (.d (.int .i64 e))],ks++js):=by
 have h:eZ lv (.c x)=some (x',ks):=h;have h':eZ lv (.c y)=some (y',js):=h';have he:eZ lv (AV.c (CV.d (DV.int IntKind.i64 e)))=some (.c (.d (.int .i64 e)),[]):=rfl;simp[dI,j9,h,h',he]
theorem gG.cd3{c:Ctx}{fn:Func}{x X Y Z:AV}{u v k:Nat}{U:TypeId}(hr:fn.results=#[.tmp t,.cell u T,.tmp v])(hx:s.fr t=X)(hu:s.fr u=.c (.ptr k 0))(hk:s.lv k=.cells own fz U cs)
 (hy:gA c.P T (cs.drop 0)=some Y) (hz:s.fr v=Z) (hn:X.bZ=true) (hm:Y.bZ=true) (ho:Z.bZ=true) (hd:dI s.lv (.tup [X,Y,Z])=some (x,ks)):gG c fn x .ret s κ:=
 ⟨.tup [X,Y,Z],ks,by rw[hr];simp only[eE,kZ,mN,hx,hu,hk,hy,hz];simp[hn,hm,ho],hd⟩
theorem Dq(x:CV):gA Tryz.prog 48 [x]=some (.c x):=by simp
theorem ag.outer(κ':Nat){step:Nat}{l:List Iv}
 (hc:aI c0.P c0.G fid [.c (.func (.func 58) [] [.ptr 4 0,.ptr 5 0]),.c (.ptr 0 0),.c (.ptr 2 0),.c (.ptr 3 0)] (XH l j M step n (qK c M)) (.ret (.tup []) (XH l j M step n (qK c' M)) []))
 (h0:lv 0=.cells true false 48 [.aH 20 0 M 3]) (h1:lv 20=.cells true false 27 (qK c M)) (h2:lv 30=.cells true false 3 [.d (.int .i64 (step:Int))]) (h3:lv 41=.cells true false 3 [.d (.int .i64 (n:Int))]) (h4:lv 1=.cells true false 89 [bV (iO l)]) (h5:lv 40=.cells true false 3 [.d (.int .i64 (j:Int))]) (hh:lv 9=.hole)
 (hK:K (.tup []) [(0,.cells true false 48 [.aH 20 0 M 3]),(20,.cells true false 27 (qK c' M)),(30,.cells true false 3 [.d (.int .i64 (step:Int))]),(41,.cells true false 3 [.d (.int .i64 (n:Int))]),(1,.cells true false 89 [bV (iO l)]),(40,.cells true false 3 [.d (.int .i64 (j:Int))])] [9,0,20,30,41,1,40] κ') :
 ag c0 fid [.c (.func (.func 58) [] [.ptr 1 0,.ptr 40 0]),.c (.ptr 0 0),.c (.ptr 30 0),.c (.ptr 41 0)] lv K:=by
 obtain⟨g,hg⟩:∃g,aQ [0,20,30,41,1,40] [] 9=g:=⟨_,rfl⟩
 have g0:g 0=0:=by rw[<-hg];rfl
 have g1:g 1=20:=by rw[<-hg];rfl
 have g2:g 2=30:=by rw[<-hg];rfl
 have g3:g 3=41:=by rw[<-hg];rfl
 have g4:g 4=1:=by rw[<-hg];rfl
 have g5:g 5=40:=by rw[<-hg];rfl
 have er:∀n,jb lv n (bV (iO l))=[]:=λn=>by cases n<;>cases iO l<;>rfl
 refine ag.Np κ' 9 true [0,20,30,41,1,40] [] _ _ _ (us:=[.c (.func (.func 58) [] [.ptr 4 0,.ptr 5 0]),.c (.ptr 0 0),.c (.ptr 2 0),.c (.ptr 3 0)]) [9,0,20,30,41,1,40] hc (by simp) (by simp) rfl rfl rfl (by simp) ?_ (by simp) hh ?_ ?_ ?_ rfl ?_ ?_ (by simp) ?_
 ·rw[hg];intro i q1 q2
  match i,q1,q2 with
  |0,_,_=>
   show(lv 0).like _ _;rw[h0];exact LB.aC.2 ⟨rfl,rfl,by show _=[CV.aH (g 1) 0 M 3];rw[g1],λh=>by cases h⟩
  |1,_,_=>
   show(lv 20).like _ _;rw[h1];exact LB.aC.2 ⟨rfl,rfl,(fm c M g).symm,λh=>by cases h⟩
  |2,_,_=>
   show(lv 30).like _ _;rw[h2];exact LB.aC.2 ⟨rfl,rfl,rfl,λh=>by cases h⟩
  |3,_,_=>
   show(lv 41).like _ _;rw[h3];exact LB.aC.2 ⟨rfl,rfl,rfl,λh=>by cases h⟩
  |4,_,_=>
   show(lv 1).like _ _;rw[h4];exact LB.aC.2 ⟨rfl,rfl,by simp,λh=>by cases h⟩
  |5,_,_=>
   show(lv 40).like _ _;rw[h5];exact LB.aC.2 ⟨rfl,rfl,rfl,λh=>by cases h⟩
 ·intro b hb;simp only[aY,cy,or_false]at hb;rcases hb with rfl|rfl|rfl|rfl|rfl|rfl<;>rfl
 ·intro b hb;simp only[aeX,aeT,aei,aY,cy,or_false]at hb;rcases hb with rfl|rfl|rfl|rfl|rfl|rfl|rfl|rfl|rfl|rfl|rfl|rfl<;>exact λh=>by cases h
 ·intro _ k hk;simp only[aY,cy,or_false]at hk;rcases hk with rfl|rfl|rfl|rfl|rfl|rfl
  ·rw[h0];rfl
  ·rw[h1];rfl
  ·rw[h2];rfl
  ·rw[h3];rfl
  ·rw[h4];rfl
  ·rw[h5];rfl
 ·rw[hg];intro i q1 q2
  match i,q1,q2 with
  |0,_,_=>exact⟨rfl,by show _=AV.c (.func (.func 58) [] [.ptr (g 4) 0,.ptr (g 5) 0]);rw[g4,g5];rfl⟩
  |1,_,_=>exact⟨rfl,by show _=AV.c (.ptr (g 0) 0);rw[g0];rfl⟩
  |2,_,_=>exact⟨rfl,by show _=AV.c (.ptr (g 2) 0);rw[g2];rfl⟩
  |3,_,_=>exact⟨rfl,by show _=AV.c (.ptr (g 3) 0);rw[g3];rfl⟩
 ·intro a ha k hk;simp only[aY,cy,or_false]at ha;rcases ha with rfl|rfl|rfl|rfl
  ·have hk:k∈jb lv 8 (.func (.func 58) [] [.ptr 1 0,.ptr 40 0]):=hk
   cases hk
  ·have hk:k∈jb lv 8 (.ptr 0 0):=hk;simp only[jb,h0,h1,afR,agH,GY,aei,aY,cy,or_false]at hk;rcases hk with rfl|rfl<;>simp
  ·have hk:k∈jb lv 8 (.ptr 30 0):=hk;simp only[jb,h2,afR,agH,aei,aY,cy,or_false]at hk;subst hk;simp
  ·have hk:k∈jb lv 8 (.ptr 41 0):=hk;simp only[jb,h3,afR,agH,aei,aY,cy,or_false]at hk;subst hk;simp
 ·rw[hg]
  have e:cF g true [0,20,30,41,1,40] (XH l j M step n (qK c' M))++cF g true [] []=[(0,.cells true false 48 [.aH 20 0 M 3]),(20,.cells true false 27 (qK c' M)),(30,.cells true false 3 [.d (.int .i64 (step:Int))]),(41,.cells true false 3 [.d (.int .i64 (n:Int))]),(1,.cells true false 89 [bV (iO l)]),(40,.cells true false 3 [.d (.int .i64 (j:Int))])]:=by
   simp[cF,LB.fix,g1,fm]
  rw[e];exact hK
theorem IL{K:Nat}(h:2^t<=K)(hK:K<=600):t<=9:=by
 refine Nat.le_of_lt_succ ((agz (by decide:1<2)).1 (ae9 (Ju h hK) (by decide)))
theorem Th(m:Int)(z:Ev)(ts:List hO)(is:List Iv)(N M:Nat)(c0:Sq)(hil:is.length=N)(hiz:∀a∈is,a.z)(hN:N<=1048576)(hM:M=bH (jZ ts N))(h600:M<=600)(hdg:∀j,gX ts j<=16)(hb0:DD 0 c0)
 (hR:R=.tup [bQ (gX ts) N,jD ((List.range M).map (Kr (xF ts is) c0)),.c (.d (.int .i64 0))]) :
 AW (⟨Tryz.prog,GG m,z.w,z.F,z.W,Tryz.f20.ntmps,λ_=>.hole,z.b,z.d⟩:Ctx) none (cW [1,1,1,1,1,1,1,1,1,1] Tryz.f20)
  ⟨aU [(4,.c (.aH 2 0 N 1)),(5,.c (.ptr 0 0)),(7,.c (.ptr 1 0)),(12,.c (.d (.int .i64 M)))],
   az (az (az (az (λ_=>.hole) 0 (.cells true false 48 [.aH 20 0 M 3])) 1 (.cells true false 89 [bV (iO is)])) 2 (.cells true false 3 (jK (gX ts) N))) 20 (.cells true false 27 (qK c0 M))⟩ 30
  (gG (⟨Tryz.prog,GG m,z.w,z.F,z.W,Tryz.f20.ntmps,λ_=>.hole,z.b,z.d⟩:Ctx) Tryz.f20 R):=by
 conv=>
  enter [3]
  whnf
 subst hR;have hlen:=kK ts N;have hd0:bH ((jZ ts N).drop 0)=M:=hM.symm;refine abf @ai.eq_1 ?_;refine aaa λK hK=>aaa λK1 hK1=>aar ?_;simp
 repeat refine aj ?_
 apply hK1;refine aaE ?_
 refine abr (λ(d:Nat×Sq)=>⟨aU [(4,.c (.aH 2 0 N 1)),(5,.c (.ptr 0 0)),(7,.c (.ptr 1 0)),(22,.c (.ptr 30 0)),(124,.c (.aH 2 0 N 1)),(125,.c (.d (.int .i64 N))),(126,.c (.d (.int .i64 d.1)))],
  az (az (az (az (az (λ_=>.hole) 0 (.cells true false 48 [.aH 20 0 M 3])) 1 (.cells true false 89 [bV (iO is)])) 2 (.cells true false 3 (jK (gX ts) N))) 20 (.cells true false 27 (qK d.2 M))) 30 (.cells true false 3 [.d (.int .i64 (bH ((jZ ts N).drop d.1):Int))])⟩) 40
  (λd=>d.1<=N/\Kr ((xF ts is).drop d.1) d.2=Kr (xF ts is) c0/\∃t,DD t d.2/\2^t<=bH ((jZ ts N).take d.1)) (λd=>N-d.1) (0,c0) (Le.eY _ (by rw[hd0])) ⟨aa2 _,rfl,0,hb0,by simp[bH]⟩ ?_
 rintro⟨j,c⟩ ⟨hj,hbr,t,hbd,ht⟩
 try simp only at hj hbr hbd ht ⊢
 refine aah ?_;refine aaa λK2 hK2=>?_
 by_cases hlt:j<N
 ·have hlt':(j:Int)<(N:Int):=by omega
  have hjl:j<(jZ ts N).length:=by rw[hlen];exact hlt
  have hji:j<is.length:=by omega
  have hja:j<(xF ts is).length:=by rw[iG];exact hji
  have s1:bH ((jZ ts N).drop j)=(gX ts j+1)*bH ((jZ ts N).drop (j+1)):=by rw[adT hjl,nt];rfl
  have s2:=nc hjl;have s3:bH ((jZ ts N).take j)*bH ((jZ ts N).drop j)=M:=by rw[<-zY,afh,hM]
  have s4:ia ((xF ts is).drop (j+1))=bH ((jZ ts N).drop (j+1)):=by rw[Dy,List.map_drop,UT,hil]
  rw[nt]at s2;rw[adT hja,C3]at hbr;have hza:=hiz _ (aT hji);have hnd:=hdg j;have ht9:=IL (Ju ht (kJ _ _)) (by rw[<-hM];exact h600);have x2:=MN (f:=gX ts) hlt;obtain⟨a,ha⟩:∃a,is[j]=a:=⟨_,rfl⟩
  obtain⟨n,hn⟩:∃n,gX ts j=n:=⟨_,rfl⟩
  obtain⟨st,hst⟩:∃st,bH ((jZ ts N).drop (j+1))=st:=⟨_,rfl⟩
  obtain⟨S,hS⟩:∃S,bH ((jZ ts N).drop j)=S:=⟨_,rfl⟩
  have hst0:0<st:=by rw[<-hst];exact iz _
  rw[hS,hst,hn]at s1;rw[hS]at s3;rw[hst]at s4;rw[hn]at s2 hnd;simp only[ha,hn]at hbr hza;have hbr2:Kr ((xF ts is).drop (j+1)) (tr n st (oJ n a.1 (a.2-a.1)) c)=Kr (xF ts is) c0:=by rw[<-hbr,<-s4];rfl
  have hbd2:=hbd.step (s:=st) hnd hza.1 (Iv.BI hza)
  have ht2:2^(if n=0 then t else t+1)<=bH ((jZ ts N).take (j+1)):=by
   rw[s2];split
   ·exact Ju ht (ae1 _ (by omega))
   ·rw[adR];exact aeK ht (by omega)
  have hSM:S<=M:=by rw[<-s3];exact Nat.le_mul_of_pos_left _ (iz _)
  have hstS:st<=S:=by rw[s1];exact Nat.le_mul_of_pos_left _ (by omega)
  have cc:=LM m is j a c M st n hji ha hza hst0 (by omega) (by omega) ⟨_,by rw[<-s1];exact s3.symm⟩ (L:=10000000) (by omega) (by omega) (by omega) (λA hA=>hbd.line ht9 hnd hza.1 (Iv.BI hza) A hA);have fn:=bB (n:=(n:Int)+1) (by omega) (by omega)
  have fq:(S:Int).tdiv ((n:Int)+1)=(st:Int):=by
   rw[s1];show((((n+1)*st:Nat):Int)).tdiv ((n+1:Nat):Int)=(st:Int)
   rw[<-Int.ofNat_tdiv,Nat.mul_div_cancel_left _ (by omega)]
  have fw:=bB (n:=(st:Int)) (by omega) (by omega);have f126:=bB (n:=(j:Int)+1) (by omega) (by omega);obtain⟨lv,hlv⟩:∃lv,az (az (az (az (az (λ_=>LB.hole) 0 (.cells true false 48 [.aH 20 0 M 3])) 1 (.cells true false 89 [bV (iO is)])) 2 (.cells true false 3 (jK (gX ts) N))) 20 (.cells true false 27 (qK c M))) 30 (.cells true false 3 [.d (.int .i64 (S:Int))])=lv:=⟨_,rfl⟩
  have q2:lv 2=.cells true false 3 (jK (gX ts) N):=by rw[<-hlv];rfl
  have q30:lv 30=.cells true false 3 [.d (.int .i64 (S:Int))]:=by rw[<-hlv];rfl
  have q40:lv 40=.hole:=by rw[<-hlv];rfl
  have q41:lv 41=.hole:=by rw[<-hlv];rfl
  have x1:=ixJ (n:=N) (i:=j) q2;rw[eq_true hlt]at x1;rw[hn]at x2;rw[hS,hlv];refine aaX (by simp[hlt']<;>omega) (aav ?_);simp
  repeat refine aj ?_
  apply hK2;refine aaa λK5 hK5=>aaE (aaa λK6 hK6=>aar ?_)
  simp[x1,x2,q2,q40,q41,ai]
  repeat refine aj ?_
  apply hK6;rw[<-hlv];refine aaa λK6 hK6=>aar ?_;simp[fn,fq,fw,ai]
  repeat refine aj ?_
  apply hK6;refine aaa λK6 hK6=>aar ?_;simp[PR,uL,yf,AF,jh]
  repeat refine aj ?_
  apply hK6;refine aar ?_;simp[PR,uL,yf,AF,jh];refine⟨by simp,?_⟩;show ag _ 57 [.c (.func (.func 58) [] [.ptr 1 0,.ptr 40 0]),.c (.ptr 0 0),.c (.ptr 30 0),.c (.ptr 41 0)] _ _;refine ag.outer 60 cc ?_ ?_ ?_ ?_ ?_ ?_ ?_ ?_
  ·rfl
  ·rfl
  ·rfl
  ·rfl
  ·rfl
  ·rfl
  ·rfl
  simp
  repeat refine aj ?_
  apply hK5;refine aar ?_;simp[f126]
  exact⟨j+1,tr n st (oJ n a.1 (a.2-a.1)) c,Le.keys [(0,0,.cells true false 48 [.aH 20 0 M 3]),(1,1,.cells true false 89 [bV (iO is)]),(2,2,.cells true false 3 (jK (gX ts) N)),(20,20,.cells true false 27 (qK (tr n st (oJ n a.1 (a.2-a.1)) c) M)),(30,30,.cells true false 3 [.d (.int .i64 (st:Int))])] 9 _ (by rw[hst];rfl) rfl (by simp) (by simp) rfl (by
   intro e he;simp only[aY,cy,or_false]at he;rcases he with rfl|rfl|rfl|rfl|rfl
   ·exact LB.aC.2 ⟨rfl,rfl,rfl,id⟩
   ·exact LB.aC.2 ⟨rfl,rfl,by simp,id⟩
   ·exact LB.aC.2 ⟨rfl,rfl,(GJ _ _ _).symm,id⟩
   ·exact LB.aC.2 ⟨rfl,rfl,(fm _ _ _).symm,id⟩
   ·exact LB.aC.2 ⟨rfl,rfl,rfl,id⟩) (by simp[b6]),⟨by omega,hbr2,_,hbd2,ht2⟩,by omega⟩
 have hje:j=N:=by omega
 have hnil:(xF ts is).drop j=[]:=aeH (by rw[iG];omega);rw[hnil]at hbr;have hbr:c=Kr (xF ts is) c0:=hbr;subst hbr;refine abd (by simp[hlt]<;>omega) (abn ?_);simp
 repeat refine aj ?_
 apply hK;refine aaa λK hK=>?_;refine abx mixed (by kernel_rfl) rfl ?_;simp[ai];refine⟨by kernel_rfl,?_⟩
 repeat refine aj ?_
 apply hK;refine aaH (κ:=0) (gG.cd3 (κ:=0) (k:=0) (own:=true) (fz:=false) (U:=48) (cs:=[.aH 20 0 M 3]) (X:=.c (.aH 2 0 N 1)) (Y:=.c (.aH 20 0 M 3)) (Z:=.c (.d (.int .i64 0))) (ks:=[2]++[20]) rfl (by simp) (by simp) (by simp) (Dq _) (by simp) rfl rfl rfl ?_);exact(λ(lv:Key->LB) (h2:lv 2=.cells true false 3 (jK (gX ts) N)) (h20:lv 20=.cells true false 27 (qK (Kr (xF ts is) c0) M))=>Ua (lv:=lv) (e:=0) (Cu h2 (by omega)) (Jv h20 (by omega))) _ rfl rfl
theorem pP(lv:Key->LB)(e:Int):dI lv (.tup [.c (.d .nilsl),.c (.d .nilsl),.c (.d (.int .i64 e))])=some (.tup [.c (.d .nilsl),.c (.d .nilsl),.c (.d (.int .i64 e))],[]):=rfl
theorem SB(M:Nat):ja M [CV.d (.bool false),CV.d .nilsl,CV.d .nilsl]=qK (λ_=>0) M:=by
 have h:∀M,ja M [CV.d (.bool false),CV.d .nilsl,CV.d .nilsl]++[CV.d (.bool false),CV.d .nilsl,CV.d .nilsl]=[CV.d (.bool false),CV.d .nilsl,CV.d .nilsl]++ja M [CV.d (.bool false),CV.d .nilsl,CV.d .nilsl]:=by
  intro M
  induction M with
  |zero=>rfl
  |succ M ih=>
   show([CV.d (.bool false),CV.d .nilsl,CV.d .nilsl]++ja M _)++_=_++([CV.d (.bool false),CV.d .nilsl,CV.d .nilsl]++ja M _)
   rw[adX,ih]
 induction M with
 |zero=>rfl
 |succ M ih=>
  show [CV.d (.bool false),CV.d .nilsl,CV.d .nilsl]++ja M _=qK _ M++_;rw[<-h,ih];rfl
def Ld(l:List Tm)(N i:Nat):Sq:=DC (λ_=>0) ((l.take i).map cE) (vt (jZ (l.map cE) N))
theorem P8(l:List Tm)(N:Nat):Ld l N 0=λ_=>0:=rfl
theorem SD(l:List Tm)(N:Nat):Ld l N l.length=XT (l.map cE) N:=by unfold Ld;rw[afs];rfl
theorem MO(N:Nat)(h:i<l.length):Ld l N (i+1)=λp=>if p=vt (jZ (l.map cE) N) (cE l[i]).2 then Ld l N i p+(cE l[i]).1 else Ld l N i p:=by
 unfold Ld;rw[yI h,E1]
theorem Sn(m:Int)(z:Ev)(bt:Option (List Tm))(is:List Iv)(N:Nat)(hil:is.length=N)(hiz:∀a∈is,a.z)(hN:N<=1048576)(h200:(aV bt).length<=200)(hok:∀t∈aV bt,GM N t)
 (hR1:600<xg ((aV bt).map cE) N->R=.tup [.c (.d .nilsl),.c (.d .nilsl),.c (.d (.int .i64 3))])
 (hR2:¬600<xg ((aV bt).map cE) N->R=.tup [bQ (gX ((aV bt).map cE)) N,jD (oE ((aV bt).map cE) is),.c (.d (.int .i64 0))]) :
 AW (⟨Tryz.prog,GG m,z.w,z.F,z.W,Tryz.f20.ntmps,λ_=>.hole,z.b,z.d⟩:Ctx) none (cW [1,1,1,1,1,1] Tryz.f20)
  ⟨aU [(0,.c (bV (lB bt))),(4,.c (.aH 2 0 N 1)),(5,.c (.ptr 0 0)),(7,.c (.ptr 1 0))],
   az (az (az (λ_=>.hole) 0 (.cells true false 48 [.d .nilsl])) 1 (.cells true false 89 [bV (iO is)])) 2 (.cells true false 3 (jK (gX ((aV bt).map cE)) N))⟩ 20
  (gG (⟨Tryz.prog,GG m,z.w,z.F,z.W,Tryz.f20.ntmps,λ_=>.hole,z.b,z.d⟩:Ctx) Tryz.f20 R):=by
 conv=>
  enter [3]
  whnf
 have hlp:=λlv=>Fg lv bt
 have hix:=λlv {i:Nat}(hi:i<(aV bt).length)=>FR lv bt hi
 have hcs:=λ{i:Nat}(hi:i<(aV bt).length)=>MO (l:=aV bt) N hi
 have hca:=SD (aV bt) N;have hcz:=P8 (aV bt) N
 have hcB:∀i,DD 0 (Ld (aV bt) N i):=λi=>DD.start (by rw[ab0,aej];omega) (λt ht=>by
  obtain⟨u,_,rfl⟩:=List.mem_map.1 ht;exact fS u.1) _
 have hfit:∀t∈aV bt,yg (jZ ((aV bt).map cE) N) (cE t).2:=λt ht=>Jl (List.mem_map.2 ⟨t,ht,rfl⟩) (by show((jx t.2).map Int.toNat).length=N;rw[ab0];exact(hok t ht).len)
 have hdg:∀j,gX ((aV bt).map cE) j<=16:=λj=>OO (λt ht j=>by
  obtain⟨u,hu,rfl⟩:=List.mem_map.1 ht;have hs:=(hok u hu).sum;generalize (cE u).2=ks at *
  have key:∀(ks:List Nat) (j:Nat),ks.getD j 0<=ks.sum:=by
   intro ks
   induction ks with
   |nil=>intro j;simp
   |cons k ks ih=>
    intro j
    cases j with
    |zero=>simp
    |succ j=>have:=ih j;simp only[agi,List.sum_cons];omega
  exact Ju (key ks j) hs) j
 obtain⟨l,hl⟩:∃l,aV bt=l:=⟨_,rfl⟩
 simp only[hl]at *
 obtain⟨ts,hts⟩:∃ts,l.map cE=ts:=⟨_,rfl⟩
 simp only[hts]at *
 have hlen:=kK ts N;refine aah ?_;refine aaa λK hK=>aah ?_;refine aaE ?_
 refine abr (λ(q:Nat)=>⟨aU [(0,.c (bV (lB bt))),(4,.c (.aH 2 0 N 1)),(5,.c (.ptr 0 0)),(7,.c (.ptr 1 0)),(12,.c (.d (.int .i64 (bH ((jZ ts N).take q):Int)))),(68,.c (.aH 2 0 N 1)),(69,.c (.d (.int .i64 N))),(70,.c (.d (.int .i64 q)))],
  az (az (az (λ_=>.hole) 0 (.cells true false 48 [.d .nilsl])) 1 (.cells true false 89 [bV (iO is)])) 2 (.cells true false 3 (jK (gX ts) N))⟩) 20
  (λq=>q<=N/\bH ((jZ ts N).take q)<=600) (λq=>N-q) 0 (Le.eY _ rfl (by simp[bH])) ⟨aa2 _,by simp[bH]⟩ ?_
 rintro q ⟨hq,hP⟩
 try simp only at hq hP ⊢
 refine aah ?_;refine aaa λK2 hK2=>?_
 by_cases hlt:q<N
 ·have hlt':(q:Int)<(N:Int):=by omega
  have hql:q<(jZ ts N).length:=by rw[hlen];exact hlt
  have s2:=nc hql;rw[nt]at s2;have hle:=kJ (jZ ts N) (q+1);have hnd:=hdg q;have x2:=MN (f:=gX ts) hlt;obtain⟨n,hn⟩:∃n,gX ts q=n:=⟨_,rfl⟩
  obtain⟨P,hPe⟩:∃P,bH ((jZ ts N).take q)=P:=⟨_,rfl⟩
  obtain⟨P2,hP2⟩:∃P,bH ((jZ ts N).take (q+1))=P:=⟨_,rfl⟩
  rw[hn]at s2 hnd x2;rw[hPe]at s2 hP;rw[hP2]at s2 hle;rw[hPe];have fn:=bB (n:=(n:Int)+1) (by omega) (by omega);have hPb:P2<=600*17:=by rw[s2];exact aeK hP (by omega)
  have fP:IntKind.i64.wrap ((P:Int)*((n:Int)+1))=(P2:Int):=by
   have e:(P:Int)*((n:Int)+1)=(P2:Int):=by rw[s2];simp
   rw[e];exact bB (by omega) (by omega)
  have f70:=bB (n:=(q:Int)+1) (by omega) (by omega);refine aaX (by simp[hlt']<;>omega) (aav (hK2 _ _ (aaa λK5 hK5=>aaE (abf x2 ?_))));refine ace fn fP ?_;refine aah ?_
  by_cases h6:600<P2
  ·have h6':(600:Int)<(P2:Int):=by omega
   have hRe:=hR1 (aeB h6 hle);subst hRe;refine aaX (by simp[h6]<;>omega) (abf @ai.eq_1 ?_);exact aaH (κ:=0) (gG.cd3 (κ:=0) (k:=0) (own:=true) (fz:=false) (U:=48) (cs:=[.d .nilsl]) rfl (by simp) (by simp) (by simp) (Dq _) (by simp) rfl rfl rfl (pP _ _))
  ·refine abd (by simp[h6]<;>omega) (aav (hK5 _ _ (aar ?_)));simp[f70];exact⟨q+1,Le.eY _ rfl (by simp[hP2]),⟨by omega,by omega⟩,by omega⟩
 ·have hqe:q=N:=by omega
  have hM0:bH ((jZ ts N).take q)=xg ts N:=by rw[hqe,ae6 (by rw[hlen];exact bh _)];rfl
  rw[hM0]at hP ⊢;have hRe:=hR2 (by omega);subst hRe;obtain⟨M,hM⟩:∃M,xg ts N=M:=⟨_,rfl⟩
  rw[hM]at hP ⊢;refine abd (by simp[hlt]<;>omega) (abn ?_);simp
  repeat refine aj ?_
  apply hK;refine aaa λK hK=>acK @ai.eq_1 (hK _ _ ?_)
  rw[SB,<-hcz];refine aaa λK hK=>abf hlp ?_;refine aaE ?_
  refine abr (λ(i:Nat)=>⟨aU [(4,.c (.aH 2 0 N 1)),(5,.c (.ptr 0 0)),(7,.c (.ptr 1 0)),(12,.c (.d (.int .i64 M))),(83,.c (bV (lB bt))),(84,.c (.d (.int .i64 l.length))),(85,.c (.d (.int .i64 i)))],
   az (az (az (az (λ_=>.hole) 0 (.cells true false 48 [.aH 20 0 M 3])) 1 (.cells true false 89 [bV (iO is)])) 2 (.cells true false 3 (jK (gX ts) N))) 20 (.cells true false 27 (qK (Ld l N i) M))⟩) 30
   (λi=>i<=l.length) (λi=>l.length-i) 0 (Le.keys [(0,0,.cells true false 48 [.aH 20 0 M 3]),(1,1,.cells true false 89 [bV (iO is)]),(2,2,.cells true false 3 (jK (gX ts) N)),(20,20,.cells true false 27 (qK (Ld l N 0) M))] 9 _ rfl rfl (by simp) (by simp) rfl (by
    intro e he;simp only[aY,cy,or_false]at he;rcases he with rfl|rfl|rfl|rfl
    ·exact LB.aC.2 ⟨rfl,rfl,rfl,id⟩
    ·exact LB.aC.2 ⟨rfl,rfl,by simp,id⟩
    ·exact LB.aC.2 ⟨rfl,rfl,(GJ _ _ _).symm,id⟩
    ·exact LB.aC.2 ⟨rfl,rfl,(fm _ _ _).symm,id⟩) (by simp[b6])) (aa2 _) ?_
  rintro i hi
  try simp only at hi ⊢
  refine aah ?_;refine aaa λK2 hK2=>?_
  by_cases hil2:i<l.length
  ·have hil':(i:Int)<(l.length:Int):=by omega
   have hx:=λlv=>hix lv hil2
   have f85:=bB (n:=(i:Int)+1) (by omega) (by omega);have hto:=hok _ (aT hil2);have hft:=hfit _ (aT hil2);have hnx:=hcs hil2;have hB:=hcB i;generalize l[i]=t at *
   have hlen2:=hto.len;have hpos:=hto.pos;have hip:=λlv {j:Nat}(hj:j<(jx t.2).length)=>F9 lv t.2 hj
   have hlp2:=λlv=>KO lv t.2
   have e1:(cE t).1=cT t.1:=rfl;have e2:(cE t).2=(jx t.2).map Int.toNat:=rfl;rw[e1,e2]at hnx;rw[e2]at hft;have cp:=kO m t.1;rw[hto.e]at cp;have hcz0:=fS t.1;have hplt:=GK hft;have hMe:bH (jZ ts N)=M:=hM;rw[hMe]at hplt;have hfl:=Gx hft;have hh0:=GX 0 (jZ ts N) ((jx t.2).map Int.toNat) hfl;rw[Nat.zero_mul,aeC]at hh0;obtain⟨p,hp⟩:∃p,vt (jZ ts N) ((jx t.2).map Int.toNat)=p:=⟨_,rfl⟩
   rw[hp]at hnx hplt hh0;generalize Ld l N i=c at *
   refine aaX (by simp[hil']<;>omega) (aav (hK2 _ _ (aaa λK5 hK5=>aaE (aaF λK6 hK6=>?_))));simp[hx,wo]
   repeat refine aj ?_
   apply hK6;refine aah ?_;refine aaa λK6 hK6=>ace @ai.eq_1 hlp2 ?_;generalize jx t.2=pl at *
   refine aaE ?_
   refine abr (λ(d:Nat×Nat)=>⟨aU [(4,.c (.aH 2 0 N 1)),(5,.c (.ptr 0 0)),(7,.c (.ptr 1 0)),(12,.c (.d (.int .i64 M))),(83,.c (bV (lB bt))),(84,.c (.d (.int .i64 l.length))),(85,.c (.d (.int .i64 i))),(16,.c (.ptr 30 0)),(17,.c (.d (.int .i64 d.2))),(90,.c (.d (GA t.2))),(91,.c (.d (.int .i64 pl.length))),(92,.c (.d (.int .i64 d.1)))],
    az (az (az (az (az (λ_=>.hole) 0 (.cells true false 48 [.aH 20 0 M 3])) 1 (.cells true false 89 [bV (iO is)])) 2 (.cells true false 3 (jK (gX ts) N))) 20 (.cells true false 27 (qK c M))) 30 (.cells true false 98 [.d (.str t.1),.d (GA t.2)])⟩) 40
    (λd=>d.1<=pl.length/\hpl d.2 ((jZ ts N).drop d.1) ((pl.map Int.toNat).drop d.1)=p) (λd=>pl.length-d.1) (0,0) (Le.eY _ (by simp[ai])) ⟨aa2 _,hh0⟩ ?_
   rintro⟨q,at'⟩ ⟨hq,hE⟩
   try simp only at hq hE ⊢
   refine aah ?_;refine aaa λK10 hK10=>?_;have hge:=OS at' ((jZ ts N).drop q) ((pl.map Int.toNat).drop q) (by rw[afm,afm,hlen,ab0,hlen2]);rw[hE]at hge
   by_cases hql:q<pl.length
   ·have hql':(q:Int)<(pl.length:Int):=by omega
    have hxp:=λlv=>hip lv hql
    have f92:=bB (n:=(q:Int)+1) (by omega) (by omega);have hk0:=hpos _ (aT hql);have hqN:q<N:=by omega
    have hqd:q<(jZ ts N).length:=by rw[hlen];exact hqN
    have hql2:q<(pl.map Int.toNat).length:=by rw[ab0];exact hql
    have x2:=MN (f:=gX ts) hqN;rw[adT hqd,adT hql2,ab5,nt]at hE;have hnd:=hdg q;have hE:hpl (at' * (gX ts q+1)+pl[q].toNat) ((jZ ts N).drop (q+1)) ((pl.map Int.toNat).drop (q+1))=p:=hE;have hge2:=OS (at' * (gX ts q+1)+pl[q].toNat) ((jZ ts N).drop (q+1)) ((pl.map Int.toNat).drop (q+1)) (by rw[afm,afm,hlen,ab0,hlen2]);rw[hE]at hge2;generalize pl[q]=k at *
    obtain⟨k,rfl⟩:∃n:Nat,k=n:=⟨k.toNat,by omega⟩
    rw[aeA]at hE hge2;obtain⟨n,hn⟩:∃n,gX ts q=n:=⟨_,rfl⟩
    rw[hn]at hE hge2 hnd x2;obtain⟨v,hv⟩:∃v,at' * (n+1)=v:=⟨_,rfl⟩
    obtain⟨v2,UI⟩:∃v2,v+k=v2:=⟨_,rfl⟩
    rw[hv,UI]at hE hge2;have fn:=bB (n:=(n:Int)+1) (by omega) (by omega)
    have fv:IntKind.i64.wrap ((at':Int)*((n:Int)+1))=(v:Int):=by
     have e:(at':Int)*((n:Int)+1)=(v:Int):=by rw[<-hv];simp
     rw[e];exact bB (by omega) (by omega)
    have fv2:IntKind.i64.wrap ((v:Int)+(k:Int))=(v2:Int):=by rw[bB (by omega) (by omega)];omega
    refine aaX (by simp[hql']<;>omega) (aav (hK10 _ _ (aaa λK11 hK11=>aaE (abf hxp ?_))));refine adH x2 fn fv fv2 (hK11 _ _ ?_);refine aar ?_;simp[f92];exact⟨q+1,v2,Le.eY _,⟨by omega,hE⟩,by omega⟩
   ·have hn1:(pl.map Int.toNat).drop q=[]:=aeH (by rw[ab0];omega);rw[hn1]at hE
    have hE:at'=p:=by
     rw[<-hE]
     cases(jZ ts N).drop q<;>rfl
    subst hE;have hB1:=hB.sz (by omega) at';have ca:=lU (GG m) (c at') (cT t.1) (au hB1 (by omega)) (au hcz0 (by omega));refine abd (by simp[hql]<;>omega) (abn ?_);simp
    repeat refine aj ?_
    apply hK6;refine aaa λK6 hK6=>aar ?_;simp;refine ag.p 40 9 cp ?_;simp[ai]
    repeat refine aj ?_
    apply hK6
    have hst:(λj=>if j=at' then c at'+cT t.1 else c j)=Ld l N (i+1):=by
     rw[hnx];funext j;split
     ·rename_i e;rw[e]
     ·rfl
    generalize cT t.1=u at *
    obtain⟨lv,hlv⟩:∃lv,az (az (az (az (az (az (λ_=>LB.hole) 0 (.cells true false 48 [.aH 20 0 M 3])) 1 (.cells true false 89 [bV (iO is)])) 2 (.cells true false 3 (jK (gX ts) N))) 20 (.cells true false 27 (qK c M))) 30 (.cells true false 98 [.d (.str t.1),.d (GA t.2)])) 40 (.cells true false 27 [.d (.bool (decide (u.num<0))),nC (aL u.num.natAbs),nC (bw u.den)])=lv:=⟨_,rfl⟩
    have q0:lv 0=.cells true false 48 [.aH 20 0 M 3]:=by rw[<-hlv];rfl
    have q20:lv 20=.cells true false 27 (qK c M):=by rw[<-hlv];rfl
    have q40:lv 40=.cells true false 27 [.d (.bool (decide (u.num<0))),nC (aL u.num.natAbs),nC (bw u.den)]:=by rw[<-hlv];rfl
    have q9:lv 9=.hole:=by rw[<-hlv];rfl
    have x0:aF Tryz.prog 48 lv (.c (.ptr 0 0))=some (.c (.aH 20 0 M 3),[],[0],True):=by simp[aF,q0]
    have x1:=ixQ (n:=M) (i:=at') q20;rw[eq_true hplt]at x1;have x2:=XY (i:=at') q20 hplt;have x3:=stQ (i:=at') q20 hplt (c at'+u);rw[hst]at x3;have x4:aF Tryz.prog 27 lv (.c (.ptr 40 0))=some (bC u,[],[40],True):=by simp[aF,q40]
    rw[hlv];refine abx mixed (by kernel_rfl) rfl ?_;simp[x0,x1,x2,x4,q0,q20,q40,-aF,-aK];refine ag.p 50 9 ca ?_ (hh:=q9);simp[x1,x3,q20,-aF,-aK];refine⟨by kernel_rfl,?_⟩
    repeat refine aj ?_
    apply hK5;refine aar ?_;simp[f85];rw[<-hlv]
    exact⟨i+1,Le.keys [(0,0,.cells true false 48 [.aH 20 0 M 3]),(1,1,.cells true false 89 [bV (iO is)]),(2,2,.cells true false 3 (jK (gX ts) N)),(20,20,.cells true false 27 (qK (Ld l N (i+1)) M))] 9 _ rfl rfl (by simp) (by simp) rfl (by
     intro e he;simp only[aY,cy,or_false]at he;rcases he with rfl|rfl|rfl|rfl
     ·exact LB.aC.2 ⟨rfl,rfl,rfl,id⟩
     ·exact LB.aC.2 ⟨rfl,rfl,by simp,id⟩
     ·exact LB.aC.2 ⟨rfl,rfl,(GJ _ _ _).symm,id⟩
     ·exact LB.aC.2 ⟨rfl,rfl,(fm _ _ _).symm,id⟩) (by simp[b6]),by omega,by omega⟩
  ·have hie:i=l.length:=by omega
   rw[hie,hca];have hbP:DD 0 (XT ts N):=by rw[<-hca];exact hcB _
   refine abd (by simp[hil2]<;>omega) (abn (hK _ _ ?_));refine adI (y:=cW [1,1,1,1,1,1,1,1,1,1] Tryz.f20) (by kernel_rfl) (adE (Le.eY _) (Th m z ts is N M (XT ts N) hil hiz hN hM.symm hP hdg hbP ?_));unfold oE Af;rw[hil,hM]
def Mf(l:List Tm)(b:List Sp):AV:=if sY l b=0 then .tup [bQ (gX (l.map cE)) b.length,jD (oE (l.map cE) (eD b)),.c (.d (.int .i64 0))]else .tup [.c (.d .nilsl),.c (.d .nilsl),.c (.d (.int .i64 (sY l b)))]
theorem Fe(m:Int)(bt:Option (List Tm))(b:Option (List Sp))(hl:(aV bt).length<=9223372036854775807)(hp:∀t∈aV bt,(jx t.2).length<=9223372036854775807)(hb:(bp b).length<=1048576):
 aa Tryz.prog (GG m) 20 [.c (bV (lB bt)),.c (bV (wh b))] (Mf (aV bt) (bp b)):=by
 have cb:=OR m b hb;have ct:=ET m bt (bp b).length hl hp;have hlb:=λlv=>S3 lv b
 by_cases h0:pV (bp b) 0=0
 rotate_left
 ·have e1:sY (aV bt) (bp b)=pV (bp b) 0:=if_pos h0;rw[show Mf (aV bt) (bp b)=.tup [.c (.d .nilsl),.c (.d .nilsl),.c (.d (.int .i64 (pV (bp b) 0)))] by unfold Mf;rw[e1,if_neg h0]];rw[if_neg h0]at cb;generalize pV (bp b) 0=e at *
  refine aa.ed Tryz.func20 rfl λ_=>aah ?_;refine acH 1 cb ?_;refine aaa λK hK=>aah ?_;refine abd (by simp[h0]<;>omega) (aav (hK _ _ (aaa λK hK=>aaa λK1 hK1=>aar ?_)));simp
  repeat refine aj ?_
  apply hK1;refine aaX (by simp[h0]<;>omega) (aaa λK1 hK1=>aar ?_);simp[ai]
  repeat refine aj ?_
  apply hK1;exact aaH (κ:=0) (gG.cd3 (κ:=0) (k:=0) (own:=true) (fz:=false) (U:=48) (cs:=[.d .nilsl]) rfl (by simp) (by simp) (by simp) (Dq _) (by simp) rfl rfl rfl (pP _ _))
 rw[h0,if_pos rfl]at cb
 by_cases h1:we (aV bt) (bp b).length=0
 rotate_left
 ·have e1:sY (aV bt) (bp b)=we (aV bt) (bp b).length:=by unfold sY;rw[if_neg (not_not_intro h0),if_pos h1]
  rw[show Mf (aV bt) (bp b)=.tup [.c (.d .nilsl),.c (.d .nilsl),.c (.d (.int .i64 (we (aV bt) (bp b).length)))] by unfold Mf;rw[e1,if_neg h1]];generalize we (aV bt) (bp b).length=e at *
  refine aa.ed Tryz.func20 rfl λ_=>aaa λK hK=>aar ?_;simp
  repeat refine aj ?_
  apply hK;refine aaa λK hK=>aar ?_;simp;refine ag.p 1 9 cb ?_;simp
  repeat refine aj ?_
  apply hK;refine aaa λK hK=>aaF λK1 hK1=>?_;simp
  repeat refine aj ?_
  apply hK1;refine abl (aar ?_);simp[hlb];refine ag.p 2 9 ct ?_;simp[hlb]
  repeat refine aj ?_
  apply hK;refine aaa λK hK=>aaF λK1 hK1=>?_;simp
  repeat refine aj ?_
  apply hK1;refine aaX (by simp[h1]<;>omega) (aaF λK1 hK1=>?_);simp[ai]
  repeat refine aj ?_
  apply hK1;exact aaH (κ:=0) (gG.cd3 (κ:=0) (k:=0) (own:=true) (fz:=false) (U:=48) (cs:=[.d .nilsl]) rfl (by simp) (by simp) (by simp) (Dq _) (by simp) rfl rfl rfl (pP _ _))
 rw[h1]at ct;obtain⟨l,hL⟩:∃l,aV bt=l:=⟨_,rfl⟩
 obtain⟨N,hN⟩:∃N,(bp b).length=N:=⟨_,rfl⟩
 obtain⟨h200,hok⟩:=vJ h1;have hlp:=λlv=>Fg lv bt
 have hix:=λlv {i:Nat}(hi:i<(aV bt).length)=>FR lv bt hi
 have hdg:=λ{i:Nat}(hi:i<(aV bt).length)=>T7 (l:=aV bt) hi N
 simp only[hL,hN]at hl hp hb ct hlb h200 hok hlp hix hdg;have hil:(eD (bp b)).length=N:=by rw[pW,hN]
 have hiz:=PO (bp b);rw[hL,hN]at h1;obtain⟨R,hR⟩:∃R,Mf (aV bt) (bp b)=R:=⟨_,rfl⟩
 rw[hR]
 have hR1:600<xg (l.map cE) N->R=.tup [.c (.d .nilsl),.c (.d .nilsl),.c (.d (.int .i64 3))]:=λh=>by
  rw[<-hR];unfold Mf sY;rw[h0,if_neg (not_not_intro rfl),hL,hN,h1,if_neg (not_not_intro rfl),if_pos h];rfl
 have hR2:¬600<xg (l.map cE) N->R=.tup [bQ (gX (l.map cE)) N,jD (oE (l.map cE) (eD (bp b))),.c (.d (.int .i64 0))]:=λh=>by
  rw[<-hR];unfold Mf sY;rw[h0,if_neg (not_not_intro rfl),hL,hN,h1,if_neg (not_not_intro rfl),if_neg h];rfl
 clear hR;generalize eD (bp b)=is at *
 have hdg0:=PJ l;have hdgl:=RE l;have hN0:((N:Nat):Int)<=1048576:=by omega
 refine aa.ed Tryz.func20 rfl λ_=>aah ?_;refine acA 1 cb @ai.eq_1 ?_;refine aaa λK hK=>aah ?_;refine abl (adq 2 ct hlb (hK _ _ ?_));refine aaa λK hK=>aaa λK1 hK1=>aar ?_;simp
 repeat refine aj ?_
 apply hK1;refine aba (aav ?_);simp
 repeat refine aj ?_
 apply hK;refine aaa λK hK=>aar ?_;simp[hlb]
 repeat refine aj ?_
 apply hK;rw[Ie,<-hdg0];refine aaa λK hK=>abf hlp ?_;refine aaE ?_
 refine abr (λ(i:Nat)=>⟨aU [(0,.c (bV (lB bt))),(4,.c (.aH 2 0 N 1)),(5,.c (.ptr 0 0)),(7,.c (.ptr 1 0)),(43,.c (bV (lB bt))),(44,.c (.d (.int .i64 l.length))),(45,.c (.d (.int .i64 i)))],
  az (az (az (λ_=>.hole) 0 (.cells true false 48 [.d .nilsl])) 1 (.cells true false 89 [bV (iO is)])) 2 (.cells true false 3 (jK (ON l i) N))⟩) 20
  (λi=>i<=l.length) (λi=>l.length-i) 0 (Le.eY _) (aa2 _) ?_
 rintro i hi
 try simp only at hi ⊢
 refine aah ?_;refine aaa λK2 hK2=>?_
 by_cases hlt:i<l.length
 ·have hlt':(i:Int)<(l.length:Int):=by omega
  have hx:=λlv=>hix lv hlt
  have f45:=bB (n:=(i:Int)+1) (by omega) (by omega);have hpl:=hp _ (aT hlt);have hto:=hok _ (aT hlt);have hnx:=hdg hlt;generalize l[i]=t at *
  have hlen:=hto.len;have hpos:=hto.pos;have hip:=λlv {j:Nat}(hj:j<(jx t.2).length)=>F9 lv t.2 hj
  have hlp2:=λlv=>KO lv t.2
  have e2:(cE t).2=(jx t.2).map Int.toNat:=rfl;rw[e2]at hnx;have d0:=OB (ON l i) ((jx t.2).map Int.toNat);generalize ON l i=f at *
  refine aaX (by simp[hlt']<;>omega) (aav ?_);simp
  repeat refine aj ?_
  apply hK2;refine aaa λK5 hK5=>aaE (aaa λK6 hK6=>aar ?_)
  simp[hx,wo]
  repeat refine aj ?_
  apply hK6;refine aaa λK6 hK6=>aar ?_;simp[ai,hlp2]
  repeat refine aj ?_
  apply hK6;generalize jx t.2=pl at *
  rw[<-d0];refine aaE ?_
  refine abr (λ(q:Nat)=>⟨aU [(0,.c (bV (lB bt))),(4,.c (.aH 2 0 N 1)),(5,.c (.ptr 0 0)),(7,.c (.ptr 1 0)),(43,.c (bV (lB bt))),(44,.c (.d (.int .i64 l.length))),(45,.c (.d (.int .i64 i))),(50,.c (.d (GA t.2))),(51,.c (.d (.int .i64 pl.length))),(52,.c (.d (.int .i64 q)))],
   az (az (az (λ_=>.hole) 0 (.cells true false 48 [.d .nilsl])) 1 (.cells true false 89 [bV (iO is)])) 2 (.cells true false 3 (jK (SK f (pl.map Int.toNat) q) N))⟩) 20
   (λq=>q<=pl.length) (λq=>pl.length-q) 0 (Le.Bt [20] 9) (aa2 _) ?_
  rintro q hq
  try simp only at hq ⊢
  refine aah ?_;refine aaa λK10 hK10=>?_
  by_cases hql:q<pl.length
  ·have hql':(q:Int)<(pl.length:Int):=by omega
   have hxp:=λlv=>hip lv hql
   have f52:=bB (n:=(q:Int)+1) (by omega) (by omega);have hk0:=hpos _ (aT hql);have hgd:(pl.map Int.toNat).getD q 0=pl[q].toNat:=by rw[adS,aeP,fy hql];rfl
   have hst:=Oy f (pl.map Int.toNat) q;rw[hgd]at hst;generalize pl[q]=k at *
   obtain⟨k,rfl⟩:∃n:Nat,k=n:=⟨k.toNat,by omega⟩
   rw[aeA]at hst;have hqN:q<N:=by omega
   obtain⟨v,hv⟩:∃v,max (f q) k=v:=⟨_,rfl⟩
   have hst:=hst v hv.symm;have hmx:(if f q<k then(k:Int)else(f q:Int))=(v:Int):=by rw[<-hv];split<;>omega
   refine aaX (by simp[hql']<;>omega) (aav (hK10 _ _ (aaa λK11 hK11=>aaE (abf hxp ?_))));obtain⟨lv,hlv⟩:∃lv,az (az (az (λ_=>LB.hole) 0 (.cells true false 48 [.d .nilsl])) 1 (.cells true false 89 [bV (iO is)])) 2 (.cells true false 3 (jK (SK f (pl.map Int.toNat) q) N))=lv:=⟨_,rfl⟩
   have q2:lv 2=.cells true false 3 (jK (SK f (pl.map Int.toNat) q) N):=by rw[<-hlv];rfl
   have x1:=ixJ (n:=N) (i:=q) q2;rw[eq_true hqN]at x1;have x2:=ldJ q2 hqN;rw[W4]at x2;have x3:=stJ q2 hqN v;rw[hst]at x3;rw[hlv];refine aar ?_;simp[x1,x2,x3,hmx,q2,dF,-aF,-aK]
   repeat refine aj ?_
   apply hK11;rw[<-hlv,L8];refine aar ?_;simp[f52];exact⟨q+1,Le.eY _,by omega,by omega⟩
  ·have hqe:q=N:=by omega
   rw[hqe,hnx];refine abd (by simp[hql]<;>omega) (abn (hK5 _ _ (aar ?_)));simp[f45];exact⟨i+1,Le.eY _,by omega,by omega⟩
 ·have hie:i=l.length:=by omega
  rw[hie,hdgl];refine abd (by simp[hlt]<;>omega) (abn ?_);simp
  repeat refine aj ?_
  apply hK;have key:=λz=>Sn m z bt is N (R:=R) hil hiz (by omega) (by rw[hL];exact h200) (by rw[hL];exact hok) (by rw[hL];exact hR1) (by rw[hL];exact hR2)
  simp only[hL]at key;exact adI (y:=cW [1,1,1,1,1,1] Tryz.f20) (by kernel_rfl) (adE (Le.eY _) (key _))
theorem I8(h:sY l b=0):pV b 0=0/\we l b.length=0/\xg (l.map cE) b.length<=600:=by
 unfold sY at h
 by_cases h0:pV b 0=0
 ·rw[if_neg (not_not_intro h0)]at h
  by_cases h1:we l b.length=0
  ·rw[if_neg (not_not_intro h1)]at h;refine⟨h0,h1,?_⟩;split at h
   ·exact absurd h (by decide)
   ·omega
  ·rw[if_pos h1]at h;exact absurd h h1
 ·rw[if_pos h0]at h;exact absurd h h0
theorem Zg(h:∀t∈l,GM N t)(j:Nat):gX (l.map cE) j<=16:=OO (λt ht j=>by
 obtain⟨u,hu,rfl⟩:=List.mem_map.1 ht;have hs:=(h u hu).sum;generalize (cE u).2=ks at *
 have key:∀(ks:List Nat) (j:Nat),ks.getD j 0<=ks.sum:=by
  intro ks
  induction ks with
  |nil=>intro j;simp
  |cons k ks ih=>
   intro j
   cases j with
   |zero=>simp
   |succ j=>have:=ih j;simp only[agi,List.sum_cons];omega
 exact Ju (key ks j) hs) j
theorem C7(h:sY l b=0)(i:Nat):br (Af (l.map cE) (eD b) i) 10000000:=by
 obtain⟨h0,h1,h2⟩:=I8 h;obtain⟨h3,h4⟩:=vJ h1;have hil:(eD b).length=b.length:=pW b
 have hb0:DD 0 (XT (l.map cE) (eD b).length):=DD.start (by rw[ab0];exact h3) (λt ht=>by
  obtain⟨u,_,rfl⟩:=List.mem_map.1 ht;exact fS u.1) _
 have hlen:=kK (l.map cE) b.length;have hiz:=PO b;have hdg:=Zg h4
 have key:∀d j,d=b.length-j->j<=b.length->∀c t,DD t c->2^t<=bH ((jZ (l.map cE) b.length).take j)->∃t',t'<=9/\DD t' (Kr ((xF (l.map cE) (eD b)).drop j) c):=by
  intro d
  induction d with
  |zero=>
   intro j hd hj c t hc ht;rw[aeH (by rw[iG,hil];omega)];exact⟨t,IL (Ju ht (kJ _ _)) h2,hc⟩
  |succ d ih=>
   intro j hd hj c t hc ht;have hjl:j<(jZ (l.map cE) b.length).length:=by rw[hlen];omega
   have hja:j<(xF (l.map cE) (eD b)).length:=by rw[iG,hil];omega
   rw[adT hja,C3];have s2:=nc hjl;rw[nt]at s2;have hza:=hiz _ (aT (show j<(eD b).length by rw[hil];omega));refine ih (j+1) (by omega) (by omega) _ _ (hc.step (hdg j) hza.1 (Iv.BI hza)) ?_;rw[s2];split
   ·exact Ju ht (ae1 _ (by omega))
   ·rename_i hne
    have hne:¬gX (l.map cE) j=0:=hne;rw[adR];exact aeK ht (by omega)
 obtain⟨t,h5,h6⟩:=key _ 0 rfl (aa2 _) _ 0 hb0 (by simp[bH]);exact h6.sz h5 i
theorem Cy(ts:List hO)(is:List Iv):(oE ts is).length=xg ts is.length:=by simp[oE]
theorem p8(ts:List hO)(is:List Iv)(h:i<(oE ts is).length):(oE ts is)[i]=Af ts is i:=by simp[oE]
def SI(l:List Tm)(b:List Sp):Iv:=if sY l b=0 then(lP ((oE (l.map cE) (eD b)).drop 1) (Af (l.map cE) (eD b) 0),lO ((oE (l.map cE) (eD b)).drop 1) (Af (l.map cE) (eD b) 0))else(0,0)
theorem Dm(m:Int)(bt:Option (List Tm))(b:Option (List Sp))(hl:(aV bt).length<=9223372036854775807)(hp:∀t∈aV bt,(jx t.2).length<=9223372036854775807)(hb:(bp b).length<=1048576):
 aa Tryz.prog (GG m) 6 [.c (bV (lB bt)),.c (bV (wh b))] (.tup [jC (SI (aV bt) (bp b)),.c (.d (.int .i64 (sY (aV bt) (bp b))))]):=by
 have cc:=Fe m bt b hl hp hb
 by_cases h0:sY (aV bt) (bp b)=0
 rotate_left
 ·rw[show SI (aV bt) (bp b)=(0,0) from if_neg h0];rw[show Mf (aV bt) (bp b)=.tup [.c (.d .nilsl),.c (.d .nilsl),.c (.d (.int .i64 (sY (aV bt) (bp b))))] from if_neg h0]at cc;generalize sY (aV bt) (bp b)=e at *
  have bz:eS Tryz.prog 29 [] []=some (jC (0,0),[],[],True):=TG;generalize hz:((0:Rat),(0:Rat))=z at *
  refine aa.enc Tryz.func6 rfl (λlv=>lA lv _ _ _ _ _ _ _ rfl) λ_=>aah ?_;refine acH 1 cc ?_;refine aaa λK hK=>aah ?_;refine aaX (by simp[h0]<;>omega) (abf bz ?_);exact aaH (aM.VN (κ:=0) (t:=4) (k:=0) (u:=5) ⟨rfl,rfl⟩ (by simp) (by simp[ai]) (by simp))
 have hsz:=C7 h0;have hM:=(I8 h0).2.2;rw[<-pW]at hM;have hlen:=Cy ((aV bt).map cE) (eD (bp b));have hpos:0<(oE ((aV bt).map cE) (eD (bp b))).length:=by rw[hlen];exact iz _
 have h1:(oE ((aV bt).map cE) (eD (bp b)))[0]?=some (Af ((aV bt).map cE) (eD (bp b)) 0):=by rw[fy hpos,p8]
 have ch:=OL (GG m) (oE ((aV bt).map cE) (eD (bp b))) _ h1 (by omega) (λx hx=>by
  obtain⟨i,hi,rfl⟩:=afw hx;rw[p8];exact au (hsz i) (by omega))
 rw[show SI (aV bt) (bp b)=(lP ((oE ((aV bt).map cE) (eD (bp b))).drop 1) (Af ((aV bt).map cE) (eD (bp b)) 0),lO ((oE ((aV bt).map cE) (eD (bp b))).drop 1) (Af ((aV bt).map cE) (eD (bp b)) 0)) from if_pos h0];rw[show Mf (aV bt) (bp b)=.tup [bQ (gX ((aV bt).map cE)) (bp b).length,jD (oE ((aV bt).map cE) (eD (bp b))),.c (.d (.int .i64 0))] from if_pos h0]at cc;rw[h0];generalize oE ((aV bt).map cE) (eD (bp b))=cl at *
 generalize lP (cl.drop 1) (Af ((aV bt).map cE) (eD (bp b)) 0)=r1 at *
 generalize lO (cl.drop 1) (Af ((aV bt).map cE) (eD (bp b)) 0)=r2 at *
 unfold bQ at cc;generalize ((List.range (bp b).length).map λi=>[DV.int .i64 ((gX ((aV bt).map cE) i:Nat):Int)])=ds at *
 refine aa.enc Tryz.func6 rfl (λlv=>lA lv _ _ _ _ _ _ _ rfl) λ_=>aah ?_;refine acH 1 cc ?_;refine aaa λK hK=>aah ?_;refine aba (aav (hK _ _ (acA 1 ch @ai.eq_1 ?_)));exact aaH (aM.VN (κ:=0) (t:=4) (k:=0) (u:=5) ⟨rfl,rfl⟩ (by simp) (by simp[ai]) (by simp))
end Go.Am
