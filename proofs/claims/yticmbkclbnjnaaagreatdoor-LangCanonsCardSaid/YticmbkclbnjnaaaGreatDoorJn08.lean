/- Helpers. -/
import Derived.Test.YticmbkclbnjnaaaGreatDoorJn07
import Derived.Lib.IndexMore

set_option linter.all false
set_option maxHeartbeats 8000000
set_option maxRecDepth 100000
open Go.IntKind
open Go.Proofs.Tryz
namespace Go.Am
abbrev afR:=@Nat.gcd_zero_left
abbrev ac9:=@Int.toNat_natCast
abbrev afS:=@List.all_eq_false
abbrev aeI:=@List.mem_take_iff_getElem
open Go.Am.Ty Go.Proofs N
def kL(c:UInt8):Bool:=decide (48<=c.toNat/\c.toNat<=57)
def Hr:List DV:=(List.range 256).map λc=>.bool (decide (48<=c/\c<=57))
def Di:Hr.length=256:=by simp[Hr]
def OZ(c:UInt8):Hr.drop c.toNat=.bool (kL c)::Hr.drop (c.toNat+1):=by
 have h:c.toNat<Hr.length:=by rw[Di];exact c.toNat_lt
 rw[adV h];congr 1;simp[Hr,kL]
def xD(G:List (List DV))(c:UInt8):aa prog G 242 [.c (.d (.ptr Hr)),.c (.d (.int .u8 c.toNat))] (.c (.d (.bool (kL c)))):=by
 have hc:=c.toNat_lt;have hl:=Di;have ha:=OZ c;refine aa.en func242 rfl λ_=>aar ?_;refine abU λK hK=>?_;simp[ak,ha,hl]
 repeat refine aL ?_
 apply hK;exact aaV (aq.rt rfl 4 (by simp))
def FU(G:List (List DV))(s:List UInt8):aa prog G 202 [.c (.d (.str s)),.c (.d (.ptr Hr))] (.c (.d (.str (s.dropWhile kL)))):=by
 refine aa.en func202 rfl λ_=>aar ?_;refine aae λK hK=>abd ?_;refine aco (λ(p:List UInt8)=>⟨aJ [(0,.c (.d (.str p))),(1,.c (.d (.ptr Hr)))],λ_=>.hole⟩) 0 (λp=>p.dropWhile kL=s.dropWhile kL) (λp=>p.length) s (Le.mk' _ rfl (by simp) (by simp)) rfl ?_;rintro p hp;refine aae λK3 hK3=>aar ?_
 cases p with
 |nil=>
  refine abg (abX (hK _ _ (aar ?_)));have hp':s.dropWhile kL=[]:=by rw[<-hp];rfl
  exact aaV (aq.rt rfl 4 (by simp[hp']))
 |cons c l=>
  refine abA (aaE (hK3 _ _ (abd (aae λK5 hK5=>abU λK6 hK6=>?_))));simp;refine ag.pure 0 9 (xD _ c) (by simp) (by simp) rfl ?_;simp;apply hK6
  cases hd:kL c with
  |false=>
   refine abz (by rfl) (abX (hK _ _ ?_));simp only[List.dropWhile,hd]at hp;refine aar ?_;exact aaV (aq.rt rfl 4 (by simp[hp]))
  |true=>
   refine abD (by rfl) (aaE (hK5 _ _ (aaJ ?_)));simp;simp only[List.dropWhile,hd]at hp;exact⟨by omega,l,Le.mk' _ rfl (by simp) (by simp),hp,by simp⟩
def kH(s:List UInt8):List UInt8:=(s.reverse.dropWhile kL).reverse
def CY(G:List (List DV))(s:List UInt8):aa prog G 203 [.c (.d (.str s)),.c (.d (.ptr Hr))] (.c (.d (.str (kH s)))):=by
 refine aD.kK 0 (by simp) (λV v h=>(show s.length<=9223372036854775807 by cases h.1 with|str _ hl=>exact hl)) λhr=>?_;refine aa.en func203 rfl λ_=>aar ?_;refine aae λK hK=>abd ?_;refine aco (λ(p:List UInt8)=>⟨aJ [(0,.c (.d (.str p))),(1,.c (.d (.ptr Hr)))],λ_=>.hole⟩) 0 (λp=>p.reverse.dropWhile kL=s.reverse.dropWhile kL/\p.length<=s.length) (λp=>p.length) s (Le.mk' _ rfl (by simp) (by simp)) ⟨rfl,aU _⟩ ?_;rintro p ⟨hp,hpl⟩;refine aae λK3 hK3=>aar ?_;rcases aeT p with rfl|⟨l,c,rfl⟩
 ·refine abg (abX (hK _ _ (aar ?_)));have hp':kH s=[]:=by unfold kH;rw[<-hp];rfl
  exact aaV (aq.rt rfl 4 (by simp[hp']))
 ·rw[aeU]at*
  have hn:0<(l++[c]).length:=by simp
  have hlen:(l++[c]).length=l.length+1:=by simp
  have e2:i64.wrap (l.length:Int)=(l.length:Int):=bE (by omega) (by omega);have hr1:(l++[c]).reverse=c::l.reverse:=by simp
  rw[hr1]at hp;refine abA (aaE (hK3 _ _ (abd (aae λK5 hK5=>abU λK6 hK6=>?_))));simp[e2];refine⟨by omega,?_⟩;refine ag.pure 0 9 (xD _ c) (by simp) (by simp) rfl ?_;simp;apply hK6
  cases hd:kL c with
  |false=>
   refine abz (by rfl) (abX (hK _ _ ?_));simp only[List.dropWhile,hd]at hp;refine aar ?_;have hp':kH s=l++[c]:=by unfold kH;rw[<-hp];simp
   exact aaV (aq.rt rfl 4 (by simp[hp']))
  |true=>
   refine abD (by rfl) (aaE (hK5 _ _ (aaJ ?_)));simp[e2];simp only[List.dropWhile,hd]at hp;exact⟨by omega,l,Le.mk' _ rfl (by simp) (by simp),⟨hp,by omega⟩,by simp⟩
end Go.Am
namespace Go.Am
open Go.Proofs
def MO(m:Int):aa prog (GG m) 201 [.c (.d (.str [48,49,50,51,52,53,54,55,56,57]))] (.tup [.agg (Hr.map .d),.c (.d (.bool true))]):=
 aa.F4 (DQ m 60) (by kernel_rfl)
end Go.Am
namespace Go.Am
open Go.Am.Ty Go.Proofs N
variable {s:List UInt8}{c:Ctx}{x y z:AV}{fn:Func}{t u v:Nat}{e:Int}
abbrev Xx:List UInt8:=[48,49,50,51,52,53,54,55,56,57]
def xg(s:List UInt8):List UInt8:=(kH s).dropWhile kL
def Qw:List CV:=List.replicate 256 (.d (.bool false))
def Dy:List CV:=Hr.map .d
theorem Uu(m:Int):aa prog (GG m) 201 [.c (.d (.str Xx))] (.tup [.agg Dy,.c (.d (.bool true))]):=MO m
theorem UO:(AV.tup [.agg Dy,.c (.d (.bool true))]).pure=true:=by kernel_rfl
abbrev lvS:Key->LB:=au (λ_=>LB.hole) 0 (.cells true false 251 Dy)
theorem Tq(s:List UInt8):jj lvS [.c (.d (.str s)),.c (.ptr 0 0)]=some ([.c (.d (.str s)),.c (.d (.ptr Hr))],[0]):=by kernel_rfl
theorem aaD:pz lvS (.c (.ptr 0 0))=[0]:=by kernel_rfl
theorem rdS(s:List UInt8):∀a∈[AV.c (.d (.str s)),AV.c (.ptr 0 0)],∀k∈pz lvS a,k∈[0]:=by
 intro a ha k hk;simp only[fy,aa8,or_false]at ha;rcases ha with rfl|rfl
 ·cases hk
 ·rwa[aaD]at hk
theorem zcS:bg prog 251=some Qw:=by kernel_rfl
theorem stS:ec prog 251 (au (λ_=>.hole) 0 (.cells true false 251 Qw)) (.c (.ptr 0 0)) (.agg Dy)=some (.undef,[(0,.cells true false 251 Dy)],[],True):=by
 have hl:Dy.length=256:=by unfold Dy;simp[Di]
 have hz:Qw.length=256:=List.length_replicate
 have hs:aj Qw 0 Dy=Dy:=by
  unfold aj;rw[hl,List.take_zero,adM,adx,aeE (aeD hz),adv]
 simp_all
theorem ag.flat{f:FuncId}{xs us:List AV}{ks rds:List Key}{lv:Key->LB}{K:AV->List (Key×LB)->List Key->Nat->Prop}(κ:Nat)(ha:jj lv xs=some (us,ks))(hc:aa c.P c.G f us x)(hx:x.flat=true)
 (hr:∀a∈xs,∀k∈pz lv a,k∈rds) (hK:K x [] rds κ):ag c f xs lv K:=⟨x,[],rds,κ,cw.flat us ks rds x ha hc hx hr,hK⟩
theorem yA(s:List UInt8):aK prog .eql 9 (.c (.d (.str s))) (.c (.d (.str [])))=some (.c (.d (.bool (decide (s=[])))),[],[],True):=by
 cases s with
 |nil=>kernel_rfl
 |cons a l=>rfl
theorem Dg(m:Int)(s:List UInt8):aa prog (GG m) 151 [.c (.d (.str s)),.c (.d (.str Xx))] (.c (.d (.str (xg s)))):=by
 refine aa.en func151 rfl λ_=>aar ?_;refine aae λK hK=>aae λK1 hK1=>?_
 by_cases hs:s=[]
 ·refine acJ @yA hs (hK1 _ _ ?_);refine abA (aar ?_);exact aaV (aq.rt rfl 4 (by simp[hs,xg,kH]))
 refine acJ @yA hs (hK1 _ _ ?_);refine abg (aaE (hK _ _ (aae λK hK=>aar ?_)));refine abg (aaE (hK _ _ (aae λK hK=>abU λK1 hK1=>?_)));simp;refine ag.pure 0 9 (Uu m) UO (by simp) rfl ?_;simp[zcS,stS,-ec];apply hK1;refine aar ?_;refine abA (abU λK1 hK1=>?_);simp;refine ag.flat 2 (us:=[.c (.d (.str s)),.c (.d (.ptr Hr))]) (ks:=[0]) (rds:=[0]) (Tq s) (CY _ s) rfl (rdS s) ?_;simp;refine ag.flat 2 (us:=[.c (.d (.str (kH s))),.c (.d (.ptr Hr))]) (ks:=[0]) (rds:=[0]) (Tq _) (FU _ (kH s)) rfl (rdS _) ?_;simp;apply hK1;exact aaV (aq.rt rfl 9 (by rfl))
theorem R5(s t:List UInt8):(s==t)=decide (s=t):=by
 grind
theorem eqStr(s t:List UInt8):aK prog .eql 9 (.c (.d (.str s))) (.c (.d (.str t)))=some (.c (.d (.bool (decide (s=t)))),[],[],True):=by
 rw[<-R5];rfl
theorem xz(s t:List UInt8):aK prog .neq 9 (.c (.d (.str s))) (.c (.d (.str t)))=some (.c (.d (.bool (!decide (s=t)))),[],[],True):=by
 rw[<-R5];rfl
def fL(s:List UInt8):Bool:=!decide (s=[])&&decide (xg s=[])&&(decide (s=[48]) || !decide (s.getD 0 0=48))
theorem Qa(m:Int)(s:List UInt8):aa prog (GG m) 173 [.c (.d (.str s))] (.c (.d (.bool (fL s)))):=by
 refine aa.en func173 rfl λ_=>aar ?_;refine aae λK hK=>?_
 cases s with
 |nil=>
  refine acC @xz (hK _ _ ?_);exact aaV (aq.rt rfl 2 (by simp[fL]))
 |cons a l=>
  refine aaJ ?_;simp[xz];refine ag.pure 0 9 (Dg m (a::l)) (by simp) (by simp) rfl ?_
  by_cases ht:xg (a::l)=[]
  ·by_cases h0:a::l=[48]
   ·have ht':xg [48]=[]:=h0▸ht;simp[eqStr,h0,ht'];apply hK;exact aaV (aq.rt rfl 2 (by simp[fL,h0,ht']))
   ·simp[eqStr,ht,h0];apply hK
    have ha:((a.toNat:Int)=48)↔a=48:=by
     constructor
     ·intro h;exact UInt8.toNat_inj.1 (by grind)
     ·simp_all
    have hr:fL (a::l) = !decide ((a.toNat:Int)=48):=by
     have h1:decide ((a.toNat:Int)=48)=decide (a=48):=by simp only[ha]
     rw[h1];simp[fL,ht,h0]
    exact aaV (aq.rt rfl 2 (by simp[hr]))
  ·simp[eqStr,ht];apply hK;exact aaV (aq.rt rfl 2 (by simp[fL,ht]))
def tG(s p:List UInt8):Bool:=decide (p.length<=s.length)&&decide (s.take p.length=p)
def mH(s p:List UInt8):List UInt8:=if tG s p=true then s.drop p.length else s
theorem CX(G:List (List DV))(s p:List UInt8):aa prog G 144 [.c (.d (.str s)),.c (.d (.str p))] (.c (.d (.bool (tG s p)))):=by
 refine aa.en func144 rfl λ_=>aar ?_;refine aae λK hK=>?_
 by_cases h:p.length<=s.length
 ·have h':(p.length:Int)<=(s.length:Int):=by omega
  refine acZ @eqStr h h' (hK _ _ ?_);exact aaV (aq.rt rfl 4 (by simp[tG,h]))
 ·have h':¬(p.length:Int)<=(s.length:Int):=by omega
  refine acZ @eqStr h h' (hK _ _ ?_);exact aaV (aq.rt rfl 4 (by simp[tG,h]))
theorem Bo(G:List (List DV))(s p:List UInt8):aa prog G 222 [.c (.d (.str s)),.c (.d (.str p))] (.tup [.c (.d (.str (mH s p))),.c (.d (.bool (tG s p)))]):=by
 refine aa.en func222 rfl λ_=>aar ?_;refine aae λK hK=>abU λK1 hK1=>?_;simp;refine ag.pure 0 9 (CX _ s p) (by simp) (by simp) rfl ?_;simp;apply hK1
 by_cases h:tG s p=true
 ·refine abD (by simp_all) (aaE (hK _ _ (aae λK hK=>?_)))
  have hl:p.length<=s.length:=by
   unfold tG at h;simp only[cy,decide_eq_true_eq]at h;exact h.1
  refine acC hl (hK _ _ ?_);exact aaV (aq.t2 rfl 5 (by simp[mH,h]) (by simp[h]))
 ·refine abz (by simp_all) (aar ?_);exact aaV (aq.t2 rfl 5 (by simp[mH,h]) (by simp[h]))
theorem D4(G:List (List DV))(s p:List UInt8):aa prog G 172 [.c (.d (.str s)),.c (.d (.str p))] (.tup [.c (.d (.str (mH s p))),.c (.d (.bool (tG s p)))]):=by
 refine aa.en func172 rfl λ_=>aar ?_;refine abU λK hK=>?_;simp;refine ag.pure 0 9 (Bo _ s p) rfl (by simp) rfl ?_;simp;apply hK;exact aaV (aq.t2 rfl 6 (by simp) (by simp))
theorem aq.aaU{s:az}{κ:Nat}(hr:fn.results=#[.tmp t,.tmp u,.tmp v])(kh:Key)(hx:s.fr t=x)(hy:s.fr u=y)(hz:s.fr v=z)(hp:x.pure=true)(hq:y.pure=true)(hw:z.pure=true)(hh:s.lv kh=.hole)
 (hn:x.cD=true) (hm:y.cD=true) (hl:z.cD=true) (htu:t≠u) (htv:t≠v) (huv:u≠v):aq c fn (.tup [x,y,z]) .ret s κ:=by
 refine⟨[(t,x),(u,y),(v,z)],kh,by grind,hh,?_⟩;rw[hr];have h1:¬u=t:=λh=>htu h.symm
 have h2:¬v=t:=λh=>htv h.symm
 have h3:¬v=u:=λh=>huv h.symm
 simp[eD,l8,pE,aJ,h1,h2,h3,hn,hm,hl]
theorem aq.t3{s:az}(hr:fn.results=#[.tmp t,.tmp u,.tmp v])(kh:Key)(hx:s.fr t=x:=by simp)(hy:s.fr u=y:=by simp)(hz:s.fr v=z:=by simp)(hp:x.pure=true:=by first|rfl|simp)(hq:y.pure=true:=by first|rfl|simp)(hw:z.pure=true:=by first|rfl|simp)
 (hh:s.lv kh=.hole:=by first|rfl|simp) (h1:x.cD=true:=by first|rfl|simp) (h2:y.cD=true:=by first|rfl|simp) (h3:z.cD=true:=by first|rfl|simp) (d1:t≠u:=by decide) (d2:t≠v:=by decide) (d3:u≠v:=by decide):aq c fn (.tup [x,y,z]) .ret s 0:=aq.aaU hr kh hx hy hz hp hq hw hh h1 h2 h3 d1 d2 d3
def lT(s t:List UInt8):Int:=Lib.index s t
def vB(s t:List UInt8):List UInt8:=if 0<=lT s t then s.take (lT s t).toNat else s
def vh(s t:List UInt8):List UInt8:=if 0<=lT s t then s.drop ((lT s t).toNat+t.length)else[]
theorem NN(s t:List UInt8)(h:s.length<=9223372036854775807):-9223372036854775808<=Lib.index s t/\Lib.index s t<=9223372036854775807:=by
 have h1:=Lib.index_ge s t
 have h2:Lib.index s t<=s.length:=by
  clear h h1
  induction s with
  |nil=>simp only[Lib.index];omega
  |cons a s ih=>
   simp only[Lib.index]
   grind
 omega
theorem LL(G:List (List DV))(s:List UInt8)(c:Nat)(hc:c<256):aa prog G 145 [.c (.d (.str s)),.c (.d (.int .u8 (c:Int)))] (.c (.d (.int .i64 (lT s [UInt8.ofNat c])))):=by
 refine aD.kK 0 (by simp) (λV v h=>(show s.length<=9223372036854775807 by cases h.1 with|str _ hl=>exact hl)) λhs=>?_;refine aa.Ba (X:=.c (.d (.int .i64 (lT s [UInt8.ofNat c])))) (lv':=λ_=>.hole) (ks:=[]) ?_ rfl;refine cu.of_same (by rfl) λF β w vs hS hl hv=>?_;obtain⟨u,v,rfl,hu,hv⟩:=args2 hl hv;have:=Tryz.stringslite_IndexByte ⟨s.toArray⟩ c w;refine⟨.int .i64 (lT s [UInt8.ofNat c]),Da (NN s _ hs),?_⟩;rw[Vw.jD hu,Vw.gm hv];simpa[lT,<-index_one]using this
theorem OF(c:UInt8):lT [c] [c]=0:=by simp[lT,Lib.index,List.isPrefixOf]
theorem LM(G:List (List DV))(s:List UInt8)(c:UInt8):aa prog G 143 [.c (.d (.str s)),.c (.d (.str [c]))] (.c (.d (.int .i64 (lT s [c])))):=by
 have hb:=LL G s c.toNat c.toNat_lt;rw[show UInt8.ofNat c.toNat=c from UInt8.ofNat_toNat]at hb;refine aa.en func143 rfl λ_=>aar ?_;refine aar ?_;refine aae λK hK=>abd (aae λK1 hK1=>?_)
 by_cases hs:[c]=s
 ·have h0:lT s [c]=0:=by rw[<-hs];exact OF c
  refine acJ @eqStr hs (hK1 _ _ ?_);refine abA (aar ?_);exact aaV (aq.rt rfl 4 (by simp[h0]))
 ·refine acJ @eqStr hs (hK1 _ _ ?_);refine abg (aar ?_);refine abA (abU λK1 hK1=>?_);simp;refine ag.pure 0 9 hb (by simp) (by simp) rfl ?_;simp;apply hK1;exact aaV (aq.rt rfl 4 (by simp))
theorem Ol(m:Int)(s t:List UInt8)(h:s.length<=9223372036854775807)(hix:aa prog (GG m) 143 [.c (.d (.str s)),.c (.d (.str t))] (.c (.d (.int .i64 (lT s t))))):aa prog (GG m) 206 [.c (.d (.str s)),.c (.d (.str t))] (.tup [.c (.d (.str (vB s t))),.c (.d (.str (vh s t))),.c (.d (.bool (decide (0<=lT s t))))]):=by
 refine aa.en func206 rfl λ_=>aar ?_;refine aae λK hK=>abU λK1 hK1=>?_;simp;refine ag.pure 0 9 hix (by simp) (by simp) rfl ?_;simp;apply hK1;refine aar ?_
 by_cases hi:0<=lT s t
 ·refine abz (by simp_all) ?_;obtain⟨n,hn⟩:∃n:Nat,lT s t=n:=⟨(lT s t).toNat,(Int.toNat_of_nonneg hi).symm⟩
  have hr:=Lib.index_room s t (by unfold lT at hi;exact hi);have hr':n+t.length<=s.length:=by unfold lT at hn;rw[hn]at hr;omega
  have hw:i64.wrap ((n:Int)+t.length)=((n+t.length:Nat):Int):=by rw[bE (by omega) (by omega)];omega
  have hn1:n<=s.length:=by omega
  refine aae λK1 hK1=>?_;refine acV mixed (by kernel_rfl) rfl rfl ?_;simp[hn,hw,hn1,hr',-Int.natCast_add];apply hK1;exact aaV (aq.t3 rfl 9 (by simp[vB,hn]) (by simp[vh,hn]) (by simp[hn]))
 ·refine abD (by simp_all) (aaE (hK _ _ (aar ?_)));exact aaV (aq.t3 rfl 9 (by simp[vB,hi]) (by simp[vh,hi]) (by simp[hi]))
theorem SN(m:Int)(s t:List UInt8)(h:s.length<=9223372036854775807)(hix:aa prog (GG m) 143 [.c (.d (.str s)),.c (.d (.str t))] (.c (.d (.int .i64 (lT s t))))):aa prog (GG m) 152 [.c (.d (.str s)),.c (.d (.str t))] (.tup [.c (.d (.str (vB s t))),.c (.d (.str (vh s t))),.c (.d (.bool (decide (0<=lT s t))))]):=by
 refine aa.en func152 rfl λ_=>aar ?_;refine abU λK hK=>?_;simp;refine ag.pure 0 9 (Ol m s t h hix) rfl (by simp) rfl ?_;simp;apply hK;exact aaV (aq.t3 rfl 9 (by simp) (by simp) (by simp))
theorem Rh(m:Int)(s:List UInt8)(c:UInt8):aa prog (GG m) 152 [.c (.d (.str s)),.c (.d (.str [c]))] (.tup [.c (.d (.str (vB s [c]))),.c (.d (.str (vh s [c]))),.c (.d (.bool (decide (0<=lT s [c]))))]):=by
 refine aD.kK 0 (by simp) (λV v h=>(show s.length<=9223372036854775807 by cases h.1 with|str _ hl=>exact hl)) λhs=>?_;exact SN m s [c] hs (LM (GG m) s c)
theorem MS{p:UInt8->Bool}:∀{l:List UInt8},l.dropWhile p=[]->∀x∈l,p x=true
 |[],_,x,hx=>by cases hx
 |a::l,h,x,hx=>by
  simp only[List.dropWhile]at h;split at h
  ·rename_i ha
   rcases List.mem_cons.1 hx with rfl|hx
   ·exact ha
   ·exact MS h x hx
  grind
theorem Mc(h:xg s=[]):xG s:=by
 have h1:∀x∈kH s,kL x=true:=MS h;have h2:∀x∈s.reverse.dropWhile kL,kL x=true:=λx hx=>h1 x (by unfold kH;grind)
 have h3:∀x∈s.reverse,kL x=true:=by
  intro x hx;rw[<-List.takeWhile_append_dropWhile (p:=kL) (l:=s.reverse),aem]at hx;rcases hx with hx|hx
  ·have:=List.all_takeWhile (p:=kL) (l:=s.reverse)
   grind
  ·grind
 intro c hc;have:=h3 c (List.mem_reverse.2 hc);simpa[kL]using this
theorem pG(h:fL s=true):xG s/\s≠[]:=by
 unfold fL at h;simp only[cy,ads,decide_eq_false_iff_not,decide_eq_true_eq]at h;exact⟨Mc h.1.2,h.1.1⟩
abbrev Zh:AV:=rZ false none none
def jo(neg:Bool)(top bot:List UInt8)(brk:Bool):Bool:=!fL top ||(neg&&decide (top=[48])) ||(brk&&(!fL bot ||decide (bot=[48]) ||decide (bot=[49])))
abbrev ri(s:List UInt8):Option (List Nat):=some (aI 4294967296 (aP s 0))
def fE(neg:Bool)(top bot:List UInt8)(brk:Bool):AV:=
 if jo neg top bot brk=true then .tup [Zh,.c (.d (.int .i64 6))]
 else if 2000<max top.length bot.length then .tup [Zh,.c (.d (.int .i64 3))]
 else if brk=false then .tup [kO neg (ri top) (some (aI 4294967296 1)),.c (.d (.int .i64 0))]
 else if val 4294967296 (dO (gO (ri top) (ri bot)))=1 then .tup [rZ neg (ri top) (ri bot),.c (.d (.int .i64 0))]
 else .tup [Zh,.c (.d (.int .i64 6))]
theorem GW(lv:Key->LB)(neg:Bool)(top bot:List UInt8)(brk:Bool):eJ lv (fE neg top bot brk)=some (fE neg top bot brk,[]):=by
 have h1:∀b p q n,eJ lv (.tup [rZ b p q,.c (.d (.int .i64 n))])=some (.tup [rZ b p q,.c (.d (.int .i64 n))],[]):=by
  intro b p q n;cases p<;>cases q<;>rfl
 unfold fE kO
 grind
theorem EV(G:List (List DV))(h:fL s=true)(hl:s.length<=2000):aa prog G 175 [.c (.d (.str s))] (.c (nC (ri s))):=by
 obtain⟨h1,h2⟩:=pG h;have:=r6 G s h1 (by omega)
 have e:oO (!s.isEmpty) (aP s 0)=ri s:=by
  cases s with
  |nil=>grind
  |cons a l=>rfl
 rw[e,mN]at this;omega
theorem Fc(m:Int)(r:List UInt8):
 aa prog (GG m) 128 [.c (.d (.str r))] (fE (tG r [45]) (vB (mH r [45]) [47]) (vh (mH r [45]) [47]) (decide (0<=lT (mH r [45]) [47]))):=by
 refine aD.kK 0 (by simp) (λV v h=>(show r.length<=9223372036854775807 by cases h.1 with|str _ hl=>exact hl)) λhr=>?_
 have hcl:(mH r [45]).length<=9223372036854775807:=by
  unfold mH;split
  ·grind
  ·exact hr
 have hcp:=D4 (GG m) r [45];have hct:=Rh m (mH r [45]) 47
 have hta:(vB (mH r [45]) [47]).length<=9223372036854775807:=by
  unfold vB;split
  ·grind
  ·omega
 have htb:(vh (mH r [45]) [47]).length<=9223372036854775807:=by
  unfold vh;split
  ·grind
  ·simp
 generalize tG r [45]=neg at*
 generalize mH r [45]=s at*
 generalize vB s [47]=top at*
 generalize vh s [47]=bot at*
 generalize decide (0<=lT s [47])=brk at*
 refine aa.enc func128 rfl (λlv=>GW lv _ _ _ _) λ_=>aar ?_;refine abU λK hK=>?_;simp;refine ag.pure 1 9 hcp rfl (by simp) (by simp) ?_;simp;apply hK;refine abU λK hK=>?_;simp;refine ag.pure 1 9 hct rfl (by simp) (by simp) ?_;simp;apply hK;refine aae λK hK=>abd (aae λK1 hK1=>?_)
 have row1:=Qa m top;have row2:=Qa m bot
 have hbad:∀(fr:Nat->AV) (κ:Nat),fr 2=.c (.ptr 0 0)->fr 22=.c (.d (.bool true))->jo neg top bot brk=true ->
  K1 ⟨fr,au (λ_=>.hole) 0 (.cells true false 177 [.d (.bool false),.d .nilsl,.d .nilsl])⟩ κ:=by
  intro fr κ z2 z22 hb;apply hK1;refine abz (by simp_all) (acv z2 @KH ?_);refine acm ?_;simp only[fE,if_pos hb];refine cU.wY (κ:=0) (T:=177) (t:=2) (u:=3) (k:=0) (off:=0) (own:=true) (fz:=false) (U:=177) (cs:=[.d (.bool false),.d .nilsl,.d .nilsl]) rfl ?_ ?_ ?_ ?_ rfl rfl
  ·simp[z2]
  ·rfl
  ·rfl
  ·simp
 have hgood:∀(fr:Nat->AV) (κ:Nat),fr 2=.c (.ptr 0 0)->fr 5=.c (.d (.bool neg))->fr 6=.c (.d (.str top))->fr 7=.c (.d (.str bot))->fr 8=.c (.d (.bool brk))->fr 22=.c (.d (.bool false)) ->
  fL top=true->(brk=true->fL bot=true)->jo neg top bot brk=false ->
  K1 ⟨fr,au (λ_=>.hole) 0 (.cells true false 177 [.d (.bool false),.d .nilsl,.d .nilsl])⟩ κ:=by
  intro fr κ z2 z5 z6 z7 z8 z22 g1 g2 hb;apply hK1;refine abD (by simp_all) (aae λK2 hK2=>?_)
  have hmx:∀(a b:Nat),(List.foldl (λa b:Int=>if a<b then b else a) (a:Int) [(b:Int)])=((max a b:Nat):Int):=by
   intro a b;simp only[List.foldl];split<;>omega
  refine aaJ ?_;simp[z6,z7,eF,hmx,-List.foldl_cons,-List.foldl_nil];apply hK2;have hbf:¬jo neg top bot brk=true:=by rw[hb];decide
  by_cases hl:2000<max top.length bot.length
  ·have hl':(2000:Int)<((max top.length bot.length:Nat):Int):=by omega
   refine abz (by simp_all) (acv z2 @KH ?_);refine acm ?_;simp only[fE,if_neg hbf,if_pos hl];refine cU.wY (κ:=0) (T:=177) (t:=2) (u:=3) (k:=0) (off:=0) (own:=true) (fz:=false) (U:=177) (cs:=[.d (.bool false),.d .nilsl,.d .nilsl]) rfl ?_ ?_ ?_ ?_ rfl rfl
   ·simp[z2]
   ·rfl
   ·rfl
   ·simp
  have hl':¬(2000:Int)<((max top.length bot.length:Nat):Int):=by omega
  refine abD (by simp_all) (aaE (hK _ _ ?_));have ht2:top.length<=2000:=by omega
  have hb2:bot.length<=2000:=by omega
  have rd1:=EV (GG m) g1 ht2;have hof:=gR (GG m) 1 (by decide);have c1:can 4294967296 (dO (ri top)):=bx (by decide) _;have c2:can 4294967296 (dO (some (aI 4294967296 1))):=bx (by decide) _
  have dlen:∀(u:List UInt8),xG u->u.length<=2000->(dO (ri u)).length<1000000000000:=by
   intro u hu hlu;have h1:=oE hu;have h2:(10:Nat)^u.length<=4294967296^u.length:=aeY (by decide) _;have:=c8 (B:=4294967296) (n:=aP u 0) (m:=u.length) (by decide) (by omega);simp only[bf];omega
  have l1:=dlen top (pG g1).1 ht2;have l2:(dO (some (aI 4294967296 1))).length<1000000000000:=aee (c8 (m:=1) (by decide) (by decide)) (by decide);refine aae λK3 hK3=>acf z8 ?_
  cases hk:brk with
  |false=>
   rw[hk]at hbf;have hmade:=so (GG m) neg (ri top) (some (aI 4294967296 1)) c1 c2 (by intro h;exact absurd ((eH (by decide)).1 h) (by decide)) l1 l2;simp only[mN]at hmade hof;refine abA (abU λK4 hK4=>?_);simp[z5,z6];refine ag.pure κ 9 rd1 (by simp) (by simp) (by simp) ?_;simp;refine ag.pure κ 9 hof (by simp) (by simp) (by simp) ?_;simp
   by_cases hz:dO (ri top)=[]
   ·simp only[kO,if_pos hz]at hmade;refine ag.pure κ 9 hmade (by simp) (by simp) (by simp) ?_;simp[z2];apply hK4;refine acm ?_;simp only[fE,if_neg hbf,if_neg hl,reduceIte,kO,if_pos hz];refine cU.wY (κ:=0) (T:=177) (t:=2) (u:=3) (k:=0) (off:=0) (own:=true) (fz:=false) (U:=177) (cs:=[.d (.bool false),nC none,nC none]) rfl ?_ ?_ ?_ ?_ rfl rfl
    ·simp[z2]
    ·rfl
    ·rfl
    ·simp
   ·simp only[kO,if_neg hz]at hmade;refine ag.pure κ 9 hmade (by simp) (by simp) (by simp) ?_;simp[z2];apply hK4;refine acm ?_;simp only[fE,if_neg hbf,if_neg hl,reduceIte,kO,if_neg hz];refine cU.wY (κ:=0) (T:=177) (t:=2) (u:=3) (k:=0) (off:=0) (own:=true) (fz:=false) (U:=177) (cs:=[.d (.bool neg),nC (mP (ri top) (some (aI 4294967296 1))),nC (mQ (ri top) (some (aI 4294967296 1)))]) rfl ?_ ?_ ?_ ?_ rfl rfl
    ·simp[z2]
    ·rfl
    ·rfl
    ·simp
  |true=>
   rw[hk]at hbf;have g3:=g2 hk;have rd2:=EV (GG m) g3 hb2;have c3:can 4294967296 (dO (ri bot)):=bx (by decide) _;have l3:=dlen bot (pG g3).1 hb2;have hgcd:=u9 (GG m) (ri top) (ri bot) c1 c3 l1 l3;have his:=kX (GG m) (gO (ri top) (ri bot)) (by unfold gO;rw[Ab c1 c3];exact bx (by decide) _);change aa _ _ 178 _ (nK .u32 (gO (ri top) (ri bot)))at hgcd;simp only[mN]at hgcd his;refine abg (aaE (hK3 _ _ (abU λK4 hK4=>?_)));simp[z6];refine ag.pure κ 9 rd1 (by simp) (by simp) (by simp) ?_;simp[z7];refine ag.pure κ 9 rd2 (by simp) (by simp) (by simp) ?_;simp;apply hK4;refine aae λK4 hK4=>abU λK5 hK5=>?_;simp;refine ag.pure κ 9 hgcd (by simp) (by simp) (by simp) ?_;simp;refine ag.pure κ 9 his (by simp) (by simp) (by simp) ?_;simp;apply hK5
   by_cases h1:val 4294967296 (dO (gO (ri top) (ri bot)))=1
   ·refine abD (by simp_all) (aaE (hK4 _ _ (adb z2 z5 @IC ?_)));refine acm ?_;have hp:fE neg top bot brk=.tup [rZ neg (ri top) (ri bot),.c (.d (.int .i64 0))]:=by rw[hk];unfold fE;rw[if_neg hbf,if_neg hl,if_neg (by decide),if_pos h1]
    rw[hp];refine cU.wY (κ:=0) (T:=177) (t:=2) (u:=3) (k:=0) (off:=0) (own:=true) (fz:=false) (U:=177) (cs:=[.d (.bool neg),nC (ri top),nC (ri bot)]) rfl ?_ ?_ ?_ ?_ rfl rfl
    ·simp[z2]
    ·rfl
    ·rfl
    ·simp
   ·refine abz (by simp_all) (acv z2 @KH ?_);refine acm ?_;have hp:fE neg top bot brk=.tup [Zh,.c (.d (.int .i64 6))]:=by rw[hk];unfold fE;rw[if_neg hbf,if_neg hl,if_neg (by decide),if_neg h1]
    rw[hp];refine cU.wY (κ:=0) (T:=177) (t:=2) (u:=3) (k:=0) (off:=0) (own:=true) (fz:=false) (U:=177) (cs:=[.d (.bool false),.d .nilsl,.d .nilsl]) rfl ?_ ?_ ?_ ?_ rfl rfl
    ·simp[z2]
    ·rfl
    ·rfl
    ·simp
 refine aaJ ?_;simp;refine ag.pure 1 9 row1 (by simp) (by simp) (by simp) ?_
 cases g1:fL top with
 |false=>
  simp;exact hbad _ _ (by simp) (by simp) (by simp[jo,g1])
 |true=>
  cases hn:neg with
  |true=>
   by_cases h48:top=[48]
   ·have e48:decide (top=[48])=true:=decide_eq_true h48;simp[eqStr,e48];exact hbad _ _ (by simp) (by simp) (by simp[jo,hn,h48])
   ·cases hk:brk with
    |false=>
     simp[eqStr,h48];exact hgood _ _ (by simp) (by simp[hn]) (by simp) (by simp) (by simp[hk]) (by simp) g1 (λh=>by grind) (by simp[jo,g1,hn,h48,hk])
    |true=>
     simp[eqStr,h48];refine ag.pure 1 9 row2 (by simp) (by simp) (by simp) ?_
     cases g2:fL bot with
     |false=>
      simp;exact hbad _ _ (by simp) (by simp) (by simp[jo,g2,hk])
     |true=>
      by_cases b48:bot=[48]
      ·have e:decide (bot=[48])=true:=decide_eq_true b48;simp[eqStr,e];exact hbad _ _ (by simp) (by simp) (by simp[jo,e,hk])
      ·by_cases b49:bot=[49]
       ·have e:decide (bot=[49])=true:=decide_eq_true b49;simp[eqStr,b48,e];exact hbad _ _ (by simp) (by simp) (by simp[jo,e,hk])
       ·simp[eqStr,b48,b49];exact hgood _ _ (by simp) (by simp[hn]) (by simp) (by simp) (by simp[hk]) (by simp) g1 (λ_=>g2) (by simp[jo,g1,hn,h48,hk,g2,b48,b49])
  |false=>
   cases hk:brk with
   |false=>
    simp;exact hgood _ _ (by simp) (by simp[hn]) (by simp) (by simp) (by simp[hk]) (by simp) g1 (λh=>by grind) (by simp[jo,g1,hn,hk])
   |true=>
    simp;refine ag.pure 1 9 row2 (by simp) (by simp) (by simp) ?_
    cases g2:fL bot with
    |false=>
     simp;exact hbad _ _ (by simp) (by simp) (by simp[jo,g2,hk])
    |true=>
     by_cases b48:bot=[48]
     ·have e:decide (bot=[48])=true:=decide_eq_true b48;simp[eqStr,e];exact hbad _ _ (by simp) (by simp) (by simp[jo,e,hk])
     ·by_cases b49:bot=[49]
      ·have e:decide (bot=[49])=true:=decide_eq_true b49;simp[eqStr,b48,e];exact hbad _ _ (by simp) (by simp) (by simp[jo,e,hk])
      ·simp[eqStr,b48,b49];exact hgood _ _ (by simp) (by simp[hn]) (by simp) (by simp) (by simp[hk]) (by simp) g1 (λ_=>g2) (by simp[jo,g1,hn,hk,g2,b48,b49])
def dX(neg:Bool)(top bot:List UInt8)(brk:Bool):Int:=
 if jo neg top bot brk=true then 6
 else if 2000<max top.length bot.length then 3
 else if brk=false then 0
 else if val 4294967296 (dO (gO (ri top) (ri bot)))=1 then 0 else 6
theorem Fp(neg:Bool)(top bot:List UInt8)(brk:Bool):∃b p q,fE neg top bot brk=.tup [rZ b p q,.c (.d (.int .i64 (dX neg top bot brk)))]:=by
 unfold fE dX kO
 (repeat' split)<;>exact⟨_,_,_,rfl⟩
theorem Bt(m:Int)(r:List UInt8):
 aa prog (GG m) 130 [.c (.d (.str r))] (.c (.d (.int .i64 (dX (tG r [45]) (vB (mH r [45]) [47]) (vh (mH r [45]) [47]) (decide (0<=lT (mH r [45]) [47])))))):=by
 have hp:=Fc m r;obtain⟨b,p,q,e⟩:=Fp (tG r [45]) (vB (mH r [45]) [47]) (vh (mH r [45]) [47]) (decide (0<=lT (mH r [45]) [47]));rw[e]at hp;generalize dX (tG r [45]) (vB (mH r [45]) [47]) (vh (mH r [45]) [47]) (decide (0<=lT (mH r [45]) [47]))=n at*
 have hpu:(AV.tup [rZ b p q,.c (.d (.int .i64 n))]).pure=true:=by cases p<;>cases q<;>rfl
 refine aa.en func130 rfl λ_=>aar ?_;refine abU λK hK=>?_;simp;refine ag.pure 0 9 hp hpu (by simp) rfl ?_;simp;apply hK;refine aar ?_;exact aaV (aq.rt rfl 9 (by simp))
def gw(e p:Int):Int:=if e<2\/11<e\/p<2\/113<p\/e+p<5 then 2 else 0
theorem lN(G:List (List DV))(e p:Int):aa prog G 112 [.agg [.d (.int .i64 e),.d (.int .i64 p)]] (.c (.d (.int .i64 (gw e p)))):=by
 refine aa.en func112 rfl λ_=>aar ?_;refine aae λK hK=>aae λK1 hK1=>?_
 have bad:∀(fr:Nat->AV) (κ:Nat) (lv:Key->LB),lv 9=.hole->fr 28=.c (.d (.bool true))->gw e p=2->K1 ⟨fr,lv⟩ κ:=by
  intro fr κ lv h9 z hf;apply hK1;refine abz (by simp_all) (aar ?_);exact acm (κ:=0) (aq.tmp (κ:=0) rfl 9 (by simp[hf]) rfl (by simp[h9]) rfl)
 by_cases h1:e<2
 ·refine aaJ ?_;simp[h1];exact bad _ _ _ (by simp) (by simp) (by unfold gw;omega)
 by_cases h2:11<e
 ·refine aaJ ?_;simp[h1,h2];exact bad _ _ _ (by simp) (by simp) (by unfold gw;omega)
 by_cases h3:p<2
 ·refine aaJ ?_;simp[h1,h2,h3];exact bad _ _ _ (by simp) (by simp) (by unfold gw;omega)
 by_cases h4:113<p
 ·refine aaJ ?_;simp[h1,h2,h3,h4];exact bad _ _ _ (by simp) (by simp) (by unfold gw;omega)
 have hw:i64.wrap (e+p)=e+p:=bE (by omega) (by omega)
 by_cases h5:e+p<5
 ·refine aaJ ?_;simp[h1,h2,h3,h4,hw,h5];exact bad _ _ _ (by simp) (by simp) (by unfold gw;omega)
 refine aaJ ?_;simp[h1,h2,h3,h4,hw,h5];apply hK1;refine abg (aaE (hK _ _ (aar ?_)));have hf:gw e p=0:=by unfold gw;rw[if_neg (by omega)]
 exact aaV (aq.rt rfl 9 (by simp[hf]))
@[simp]theorem Wv(cs:List CV):(AV.agg cs).pure=cs.all CV.pure:=rfl
@[simp]theorem ZR(x:DV):(CV.d x).pure=true:=rfl
@[simp]theorem VU(o:Option (List (List DV))):(eG o).pure=true:=by cases o<;>rfl
@[simp]theorem XM(l:List AV):(AV.tup l).pure=l.all AV.lH:=rfl
@[simp]theorem ZT(x:CV):(AV.c x).lH=x.pure:=rfl
@[simp]theorem Wg(cs:List CV):(AV.agg cs).lH=cs.all CV.pure:=rfl
def bH(e:Int):Int:=(2:Int)^(e-1).toNat-1
theorem vZ(h1:2<=e)(h2:e<=11):1<=bH e/\bH e<=1023/\aK prog .shl 3 (.c (.d (.int .i64 1))) (.c (.d (.int .i64 (e-1))))=some (.c (.d (.int .i64 (bH e+1))),[],[],True):=by
 have h:e=2\/e=3\/e=4\/e=5\/e=6\/e=7\/e=8\/e=9\/e=10\/e=11:=by omega
 rcases h with rfl|rfl|rfl|rfl|rfl|rfl|rfl|rfl|rfl|rfl<;>refine⟨by decide,by decide,?_⟩<;>rw[Ou]<;>congr 1<;>congr 1<;>first|rfl|decide|(congr 1;congr 1;decide)
abbrev fA(e p:Int):AV:=.agg [.d (.int .i64 e),.d (.int .i64 p)]
abbrev V6(e p m b:Int):AV:=.agg [.d (.int .i64 e),.d (.int .i64 p),.d (.int .i64 m),.d (.int .i64 b)]
theorem WV:eO prog 218 [] []=some (V6 0 0 0 0,[],[],True):=by kernel_rfl
theorem Z3(a b c d:CV):eO prog 218 [0,1,2] [.agg [a,b],.c c,.c d]=some (.agg [a,b,c,d],[],[],True):=by kernel_rfl
theorem RU(a b c d:CV):fq prog 218 [a,b,c,d]=some (.agg [a,b,c,d]):=by kernel_rfl
theorem ke{p:Int}(h:gw e p=0):2<=e/\e<=11/\2<=p/\p<=113/\5<=e+p:=by
 unfold gw at h;omega
theorem lpN(T:TypeId)(h:(fk prog T).isSome=true)(lv:Key->LB):dm prog T lv (.c (.d .nilsl))=some (.c (.d (.int .i64 0)),[],[],True):=cE (o:=none) h
theorem Ri(G:List (List DV))(e p:Int)(hf:gw e p=0):aa prog G 157 [fA e p,.c (.d (.int .i64 0)),.c (.d .nilsl)] (.tup [V6 e p 0 (bH e),.c (.d (.int .i64 0))]):=by
 obtain⟨f1,f2,f3,f4,f5⟩:=ke hf;obtain⟨g1,g2,hsh⟩:=vZ f1 f2;have hc:=lN G e p;rw[hf]at hc;have w1:i64.wrap (e-1)=e-1:=bE (by omega) (by omega);have w2:i64.wrap (bH e+1-1)=bH e:=by rw[bE (by omega) (by omega)];omega
 have w2':i64.wrap (bH e)=bH e:=bE (by omega) (by omega);have lpn:=lpN 258 (by simp);generalize bH e=b at*
 refine aa.enc func157 rfl (λlv=>rfl) λ_=>aar ?_;refine aae λK hK=>acF 2 hc ?_;refine abg (aaE (hK _ _ (aae λK hK=>?_)));refine acs mixed (by kernel_rfl) rfl ?_;simp[w1,hsh,w2',Z3,-Ou];refine⟨by kernel_rfl,?_⟩;apply hK;refine aae λK hK=>acf lpn ?_;refine abd ?_
 refine aco (λ(_:Unit)=>⟨aJ [(6,.c (.ptr 1 0)),(8,.c (.ptr 2 0)),(32,.c (.d .nilsl)),(33,.c (.d (.int .i64 0))),(34,.c (.d (.int .i64 0)))],
  au (au (au (λ_=>.hole) 0 (.cells true false 60 [.d (.int .i64 e),.d (.int .i64 p)])) 1 (.cells true false 218 [.d (.int .i64 0),.d (.int .i64 0),.d (.int .i64 0),.d (.int .i64 0)])) 2 (.cells true false 218 [.d (.int .i64 e),.d (.int .i64 p),.d (.int .i64 0),.d (.int .i64 b)])⟩) 3
  (λ_=>True) (λ_=>0) () (Le.pq _) trivial ?_
 rintro⟨⟩ _;refine aar ?_;refine aae λK3 hK3=>abg (abX (hK _ _ (acv @RU @aj.eq_1 ?_)))
 refine acm ?_;rfl
theorem OL(G:List (List DV))(e p:Int)(hf:gw e p≠0):aa prog G 157 [fA e p,.c (.d (.int .i64 0)),.c (.d .nilsl)] (.tup [V6 0 0 0 0,.c (.d (.int .i64 2))]):=by
 have hc:=lN G e p;refine aa.enc func157 rfl (λlv=>rfl) λ_=>aar ?_;refine aae λK hK=>acX 2 hc hf ?_;refine abz (by rfl) (acf WV ?_);refine acm ?_;rfl
theorem Lp(G:List (List DV))(k:Int)(h1:-20000<=k)(h2:k<=20000):aa prog G 213 [.c (.d (.int .i64 k))] (gL (aO 1 k)):=by
 have h:=RB G k h1 h2;generalize aO 1 k=r at*
 refine aa.enc func213 rfl (λlv=>gH lv _ _ _) λ_=>aar ?_;refine acF 1 h ?_;refine acv @oL @aj.eq_1 ?_;refine acm ?_;rfl
theorem xh(G:List (List DV))(x:Rat)(k:Int)(hx:kF x 10000000000)(h1:-20000<=k)(h2:k<=20000):aa prog G 159 [gL x,.c (.d (.int .i64 k))] (gL (aO x k)):=by
 have h:=BZ G x k hx h1 h2;generalize aO x k=r at*
 refine aa.enc func159 rfl (λlv=>gH lv _ _ _) λ_=>aar ?_;refine acF 2 h ?_;refine acv @oL @aj.eq_1 ?_;refine acm ?_;rfl
theorem LK(G:List (List DV))(x:Rat)(hx:x≠0)(hs:kF x 10000000):aa prog G 161 [gL x] (.c (.d (.int .i64 (gX x)))):=by
 have h:=SI G x hx hs;refine aa.en func161 rfl λ_=>aar ?_;refine acF 1 h ?_;refine aar ?_;exact aaV (aq.rt rfl 2 (by simp))
theorem DJ(G:List (List DV))(e p m b:Int)(h1:0<=b)(h2:b<=100000):aa prog G 211 [V6 e p m b] (.c (.d (.int .i64 (1-b)))):=by
 have w:i64.wrap (1-b)=1-b:=bE (by omega) (by omega);refine aa.en func211 rfl λ_=>aar ?_;refine acf w ?_;exact aaV (aq.rt rfl 2 (by simp))
def kA(p b l:Int):Int:=max l (1-b)-p+1
theorem HJ(G:List (List DV))(e p m b l:Int)(h1:0<=b)(h2:b<=100000)(h3:0<=p)(h4:p<=100000)(h5:-1000000<=l)(h6:l<=1000000):aa prog G 160 [V6 e p m b,.c (.d (.int .i64 l))] (.c (.d (.int .i64 (kA p b l)))):=by
 have h:=DJ G e p m b h1 h2;have mx:(List.foldl (λa b:Int=>if a<b then b else a) l [1-b])=max l (1-b):=by simp only[List.foldl];split<;>omega
 have w1:i64.wrap (max l (1-b)-p)=max l (1-b)-p:=bE (by omega) (by omega);have w2:i64.wrap (max l (1-b)-p+1)=kA p b l:=by unfold kA;exact bE (by omega) (by omega)
 refine aa.en func160 rfl λ_=>aar ?_;refine aae λK hK=>?_;refine acs mixed (by kernel_rfl) rfl ?_;simp;refine ag.p 1 9 h ?_;simp[eF,mx,w1,w2,-List.foldl_cons,-List.foldl_nil];refine⟨by kernel_rfl,?_⟩;apply hK;exact aaV (aq.rt rfl 4 (by simp))
def fI(p b:Int):Rat:=aO (aO 1 p-1) (b-p+1)
theorem j9(L:Nat)(h:1<=L):kF 1 L:=⟨by show nl 1<=_;rw[s7];exact h,by show nl 1<=_;rw[s7];exact h⟩
theorem sC(p:Int)(h1:0<=p)(h2:p<=10000):kF (aO 1 p-1) 1000:=by
 rw[afQ];have h:=jM (j9 1 (aU _)) p;have:=R6 (ct h (show 1+p.natAbs/32+1<=400 by omega)) (yz (j9 400 (by omega)));exact ct this (by omega)
theorem Cs(p b:Int)(h1:0<=p)(h2:p<=10000)(h3:0<=b)(h4:b<=5000):kF (fI p b) 2000:=by
 refine ct (jM (sC p h1 h2) _) (by omega)
theorem AG(G:List (List DV))(e p m b:Int)(h1:0<=b)(h2:b<=5000)(h3:0<=p)(h4:p<=10000):aa prog G 164 [V6 e p m b] (gL (fI p b)):=by
 have k1:=Lp G p (by omega) (by omega);have k2:aa prog G 154 [.c (.d (.int .i64 1))] (gL (1:Rat)):=JG G 1 (by decide) (by decide);have k3:=Q2 G (aO 1 p) 1 (ct (jM (j9 1 (aU _)) p) (by omega)) (j9 _ (by omega));have k4:=xh G (aO 1 p-1) (b-p+1) (ct (sC p h3 h4) (by omega)) (by omega) (by omega);rw[show aO (aO 1 p-1) (b-p+1)=fI p b from rfl]at k4;have w1:i64.wrap (b-p)=b-p:=bE (by omega) (by omega);have w2:i64.wrap (b-p+1)=b-p+1:=bE (by omega) (by omega);generalize fI p b=r at*
 generalize aO 1 p-1=r2 at*
 generalize aO 1 p=r1 at*
 generalize (1:Rat)=r0 at*
 refine aa.enc func164 rfl (λlv=>gH lv _ _ _) λ_=>aar ?_;refine aae λK hK=>?_;refine acs mixed (by kernel_rfl) rfl ?_;simp;refine ag.p 2 9 k1 ?_;simp;refine ag.p 2 9 k2 ?_;simp;refine ag.p 2 9 k3 ?_;simp[w1,w2];refine ag.p 2 9 k4 ?_;simp;refine⟨by kernel_rfl,?_⟩;apply hK;refine acm ?_;rfl
def iJ(x:Rat):Rat:=if x<0 then -x else x
theorem TV(x:Rat):gL (iJ x)=rZ false (fB x.num.natAbs) (iV x.den):=by
 unfold iJ;split
 ·rename_i h
  have:x.num<0:=by
   have:=(Rat.lt_iff x 0).1 h;simpa using this
  show rZ (decide ((-x).num<0)) (fB (-x).num.natAbs) (iV (-x).den)=_;rw[Rat.neg_num,Rat.neg_den,Int.natAbs_neg,decide_eq_false (by omega)]
 ·rename_i h
  have:¬x.num<0:=λhn=>h ((Rat.lt_iff x 0).2 (by simp_all))
  grind
theorem R2(G:List (List DV))(x:Rat):aa prog G 163 [gL x] (gL (iJ x)):=by
 rw[TV];exact Io _ _ _ _
theorem yb{x:Rat}{L:Nat}(h:kF x L):kF (iJ x) L:=by
 unfold iJ;split
 ·exact yz h
 omega
theorem LJ(G:List (List DV))(x:Rat):aa prog G 162 [gL x] (.c (.d (.bool (decide (x.den=1))))):=by
 have h:=D8 G (decide (x.num<0)) (fB x.num.natAbs) (iV x.den);have e:(iV x.den).isNone=decide (x.den=1):=by unfold iV;split<;>simp_all
 grind
def hasB(e p:Int)(x:Rat):Bool:=
 decide (gw e p=0)&&(decide (x=0) ||(decide ((aO x (-(kA p (bH e) (gX x)))).den=1)&&decide (jc (iJ x) (fI p (bH e))<=0)))
theorem tW(G:List (List DV))(e p:Int)(x:Rat)(hs:kF x 300):aa prog G 117 [fA e p,gL x] (.c (.d (.bool (hasB e p x)))):=by
 by_cases hf:gw e p=0
 rotate_left
 ·have hw:=OL G e p hf;have hb:hasB e p x=false:=by unfold hasB;rw[decide_eq_false hf];rfl
  refine aa.en func117 rfl λ_=>aar ?_;refine acF 2 hw ?_;refine aae λK hK=>abd (aar ?_)
  refine abA (aar ?_);exact aaV (aq.rt rfl 4 (by simp[hb]))
 obtain⟨f1,f2,f3,f4,f5⟩:=ke hf;obtain⟨g1,g2,_⟩:=vZ f1 f2;have hw:=Ri G e p hf;have hg:=mz G (decide (x.num<0)) (fB x.num.natAbs) (iV x.den)
 by_cases hx:x=0
 ·have hb:hasB e p x=true:=by unfold hasB;rw[decide_eq_true hf,decide_eq_true hx];rfl
  have hz:=NR hx;refine aa.en func117 rfl λ_=>aar ?_;refine acF 2 hw ?_;refine aae λK hK=>abd (aar ?_)
  refine abg (acX 3 hg hz ?_);refine abz (by rfl) (aar ?_);exact aaV (aq.rt rfl 4 (by simp[hb]))
 have hne:=Nx hx;have hl:=LK G x hx (ct hs (by omega));obtain⟨l1,l2⟩:=zR hx hs;have hst:=HJ G e p 0 (bH e) (gX x) (by omega) (by omega) (by omega) (by omega) (by omega) (by omega);have s1:-20000<=-(kA p (bH e) (gX x)):=by unfold kA;omega
 have s2:-(kA p (bH e) (gX x))<=20000:=by unfold kA;omega
 have hsh:=xh G x (-(kA p (bH e) (gX x))) (ct hs (by omega)) s1 s2;have hin:=LJ G (aO x (-(kA p (bH e) (gX x))));have hab:=R2 G x;have hgr:=AG G e p 0 (bH e) (by omega) (by omega) (by omega) (by omega);have hcm:=JM G (iJ x) (fI p (bH e)) (ct (yb hs) (by omega)) (ct (Cs p (bH e) (by omega) (by omega) (by omega) (by omega)) (by omega))
 have hb:hasB e p x=(decide ((aO x (-(kA p (bH e) (gX x)))).den=1)&&decide (jc (iJ x) (fI p (bH e))<=0)):=by
  unfold hasB;rw[decide_eq_true hf,decide_eq_false hx];rfl
 have w:i64.wrap (-(kA p (bH e) (gX x))) = -(kA p (bH e) (gX x)):=bE (by omega) (by omega);generalize jc (iJ x) (fI p (bH e))=cm at*
 generalize fI p (bH e)=gr at*
 generalize iJ x=ab at*
 generalize aO x (-(kA p (bH e) (gX x)))=sh at*
 generalize kA p (bH e) (gX x)=st at*
 generalize gX x=lo at*
 generalize bH e=b at*
 by_cases hi:sh.den=1
 ·have hb2:hasB e p x=decide (cm<=0):=by rw[hb,decide_eq_true hi];rfl
  refine aa.en func117 rfl λ_=>aar ?_;refine acF 2 hw ?_;refine aae λK hK=>abd (aar ?_)
  refine abg (acX 3 hg hne ?_);refine abD (by rfl) (aaE (hK _ _ (aae λK hK=>?_)));refine acs mixed (by kernel_rfl) rfl ?_;simp[aj];refine ag.p 3 9 hl ?_;simp;refine ag.p 3 9 hst ?_;simp[w];refine ag.p 3 9 hsh ?_;simp;refine ag.p 3 9 hin ?_;simp[hi];refine ag.p 3 9 hab ?_;simp;refine ag.p 3 9 hgr ?_;simp;refine ag.p 3 9 hcm ?_;simp;refine⟨by kernel_rfl,?_⟩;apply hK;exact aaV (aq.rt rfl 4 (by simp[hb2]))
 ·have hb2:hasB e p x=false:=by rw[hb,decide_eq_false hi];rfl
  refine aa.en func117 rfl λ_=>aar ?_;refine acF 2 hw ?_;refine aae λK hK=>abd (aar ?_)
  refine abg (acX 3 hg hne ?_);refine abD (by rfl) (aaE (hK _ _ (aae λK hK=>?_)));refine acs mixed (by kernel_rfl) rfl ?_;simp[aj];refine ag.p 3 9 hl ?_;simp;refine ag.p 3 9 hst ?_;simp[w];refine ag.p 3 9 hsh ?_;simp;refine ag.p 3 9 hin ?_;simp[hi];refine⟨by kernel_rfl,?_⟩;apply hK;exact aaV (aq.rt rfl 4 (by simp[hb2]))
theorem yp(h:fL s=true)(h0:s≠[48])(h1:s≠[49]):2<=aP s 0:=by
 obtain⟨hD,hne⟩:=pG h;unfold fL at h;simp only[cy,ad2,ads,decide_eq_true_eq,decide_eq_false_iff_not]at h
 have h4:s.getD 0 0≠48:=by
  rcases h.2 with h3|h3
  ·exact absurd h3 h0
  ·exact h3
 cases s with
 |nil=>grind
 |cons c l=>
  have hc:=hD c (by simp);have hc48:c≠48:=h4;have hcn:c.toNat≠48:=λe=>hc48 (UInt8.toNat_inj.1 (by rw[e];rfl))
  have e:aP (c::l) 0=(c.toNat-48)*10^l.length+aP l 0:=by
   show aP l (10*0+(c.toNat-48))=_;rw[ga,aeg,adx]
  rw[e]
  cases l with
  |nil=>
   have hc49:c.toNat≠49:=λe=>h1 (by rw[UInt8.toNat_inj.1 (show c.toNat=(49:UInt8).toNat by rw[e];rfl)])
   grind
  |cons d l=>
   have h10:10<=10^(d::l).length:=by
    rw[adN,adl];have:=adA (a:=10) (n:=l.length) (by decide);omega
   have:1*10<=(c.toNat-48)*10^(d::l).length:=aeo (by omega) h10;omega
def qi(neg:Bool)(top bot:List UInt8)(brk:Bool):Rat:=if dX neg top bot brk=0 then mkRat (eY neg (aP top 0)) (if brk=true then aP bot 0 else 1)else 0
theorem NK(s:List UInt8):(val 4294967296 (dO (ri s)))=aP s 0:=by show val 4294967296 (aI 4294967296 (aP s 0))=_;rw[eS]
theorem Dm(s:List UInt8):can 4294967296 (dO (ri s)):=iu _
theorem WE(s t:List UInt8):(val 4294967296 (dO (gO (ri s) (ri t))))=Nat.gcd (aP s 0) (aP t 0):=by
 unfold gO;rw[Ab (Dm s) (Dm t),eS,NK,NK]
theorem IE{neg:Bool}{top bot:List UInt8}{brk:Bool}(h:jo neg top bot brk=false):fL top=true/\(brk=true->fL bot=true/\bot≠[48]/\bot≠[49]):=by
 unfold jo at h
 grind
theorem Jk(neg:Bool)(top bot:List UInt8)(brk:Bool):fE neg top bot brk=.tup [gL (qi neg top bot brk),.c (.d (.int .i64 (dX neg top bot brk)))]:=by
 by_cases h1:jo neg top bot brk=true
 ·have e:dX neg top bot brk=6:=by unfold dX;rw[if_pos h1]
  have e2:qi neg top bot brk=0:=by unfold qi;rw[e,if_neg (by decide)]
  rw[e,e2];unfold fE;rw[if_pos h1];rfl
 by_cases h2:2000<max top.length bot.length
 ·have e:dX neg top bot brk=3:=by unfold dX;rw[if_neg h1,if_pos h2]
  have e2:qi neg top bot brk=0:=by unfold qi;rw[e,if_neg (by decide)]
  rw[e,e2];unfold fE;rw[if_neg h1,if_pos h2];rfl
 obtain⟨g1,g2⟩:=IE (by simpa using h1)
 by_cases h3:brk=false
 ·have e:dX neg top bot brk=0:=by unfold dX;rw[if_neg h1,if_neg h2,if_pos h3]
  have e2:qi neg top bot brk=mkRat (eY neg (aP top 0)) 1:=by unfold qi;rw[e,if_pos rfl,h3];rfl
  rw[e,e2];unfold fE;rw[if_neg h1,if_neg h2,if_pos h3];rw[CN neg (Dm top) (q:=some (aI 4294967296 1)) (iu 1) (m6 (by decide)),NK,bf,eS]
 have hb:brk=true:=by simpa using h3
 obtain⟨r1,r2,r3⟩:=g2 hb;have hge:=yp r1 r2 r3
 by_cases h4:(val 4294967296 (dO (gO (ri top) (ri bot))))=1
 ·have e:dX neg top bot brk=0:=by unfold dX;rw[if_neg h1,if_neg h2,if_neg h3,if_pos h4]
  have e2:qi neg top bot brk=mkRat (eY neg (aP top 0)) (aP bot 0):=by unfold qi;rw[e,if_pos rfl,hb];rfl
  rw[e,e2];unfold fE;rw[if_neg h1,if_neg h2,if_neg h3,if_pos h4];rw[WE]at h4;have ha:aP top 0≠0:=by intro h0;rw[h0,afR]at h4;omega
  obtain⟨n1,n2⟩:=jA neg (a:=aP top 0) (b:=aP bot 0) (by omega);rw[h4,aev]at n1 n2;show AV.tup [rZ neg (some (aI 4294967296 (aP top 0))) (some (aI 4294967296 (aP bot 0))),_]=AV.tup [rZ (decide ((mkRat (eY neg (aP top 0)) (aP bot 0)).num<0)) (fB (mkRat (eY neg (aP top 0)) (aP bot 0)).num.natAbs) (iV (mkRat (eY neg (aP top 0)) (aP bot 0)).den),_];rw[n1,n2,uv,J2 neg ha];unfold fB iV
  grind
 ·have e:dX neg top bot brk=6:=by unfold dX;rw[if_neg h1,if_neg h2,if_neg h3,if_neg h4]
  have e2:qi neg top bot brk=0:=by unfold qi;rw[e,if_neg (by decide)]
  rw[e,e2];unfold fE;rw[if_neg h1,if_neg h2,if_neg h3,if_neg h4];rfl
theorem Pw(L:Nat)(h:1<=L):kF 0 L:=⟨by show nl 0<=_;exact ac1 _,by show nl 1<=_;rw[s7];exact h⟩
theorem uJ(h:xG s)(hl:s.length<=2000):nl (aP s 0)<=300:=by
 have:=Ux (oE h);omega
theorem Sn(neg:Bool)(top bot:List UInt8)(brk:Bool):kF (qi neg top bot brk) 300:=by
 unfold qi;split
 ·rename_i h
  have h1:¬jo neg top bot brk=true:=by
   intro hb;unfold dX at h;rw[if_pos hb]at h;cases h
  have h2:¬2000<max top.length bot.length:=by
   intro hb;unfold dX at h;rw[if_neg h1,if_pos hb]at h;cases h
  obtain⟨g1,g2⟩:=IE (by simpa using h1);split
  ·rename_i hb
   obtain⟨r1,r2,r3⟩:=g2 hb;have hge:=yp r1 r2 r3;exact pX _ (by omega) (uJ (pG g1).1 (by omega)) (uJ (pG r1).1 (by omega))
  ·exact pX _ (by decide) (uJ (pG g1).1 (by omega)) (by rw[s7];decide)
 ·exact Pw _ (by decide)
def eX(r:List UInt8):Int:=dX (tG r [45]) (vB (mH r [45]) [47]) (vh (mH r [45]) [47]) (decide (0<=lT (mH r [45]) [47]))
def gp(r:List UInt8):Rat:=qi (tG r [45]) (vB (mH r [45]) [47]) (vh (mH r [45]) [47]) (decide (0<=lT (mH r [45]) [47]))
theorem yo(r:List UInt8):kF (gp r) 300:=Sn ..
theorem B5(m:Int)(r:List UInt8):aa prog (GG m) 128 [.c (.d (.str r))] (.tup [gL (gp r),.c (.d (.int .i64 (eX r)))]):=by
 have h:=Fc m r;rwa[Jk]at h
theorem Mr(m:Int)(r:List UInt8):aa prog (GG m) 130 [.c (.d (.str r))] (.c (.d (.int .i64 (eX r)))):=Bt m r
theorem jO(G:List (List DV))(n m:Int):aa prog G 80 [.c (.d (.int .i64 n)),.c (.d (.int .i64 m))] (.c (.d (.bool (decide (0<=n/\n<m))))):=by
 refine aa.en func80 rfl λ_=>aar ?_;refine aae λK hK=>?_
 by_cases h:0<=n
 ·refine acC h (hK _ _ ?_);exact aaV (aq.rt rfl 4 (by simp[h]))
 ·refine acC h (hK _ _ ?_);exact aaV (aq.rt rfl 4 (by simp[h]))
theorem GD(G:List (List DV))(n:Int):aa prog G 126 [.c (.d (.int .i64 n))] (.c (.d (.bool (decide (1<=n/\n<=15))))):=by
 refine aa.en func126 rfl λ_=>aar ?_;refine aae λK hK=>?_
 by_cases h:1<=n
 ·refine acC h (hK _ _ ?_);exact aaV (aq.rt rfl 2 (by simp[h]))
 ·refine acC h (hK _ _ ?_);exact aaV (aq.rt rfl 2 (by simp[h]))
def fN(p:PD)(i:Int):Int:=if i<p.head then 0 else if i<p.tail then 1 else 2
theorem th(G:List (List DV))(p:PD)(i:Int):aa prog G 81 [p.A,.c (.d (.int .i64 i))] (.c (.d (.int .i64 (fN p i)))):=by
 refine aa.en func81 rfl λ_=>aar ?_;refine aae λK hK=>abd (aar ?_)
 by_cases h:i<p.head
 ·refine abz (by simp_all) (aar ?_);exact aaV (aq.rt rfl 4 (by simp[fN,h]))
 ·refine abD (by simp_all) (aar ?_)
  by_cases h2:i<p.tail
  ·refine abz (by simp_all) (aar ?_);exact aaV (aq.rt rfl 4 (by simp[fN,h,h2]))
  ·refine abD (by simp_all) (aaE (hK _ _ (aar ?_)));exact aaV (aq.rt rfl 4 (by simp[fN,h,h2]))
@[simp]theorem PD.ab2(p:PD):(AV.agg [eG p.f,.d (.int .i64 p.mode),eG p.ins,eG p.nodes,.d (.int .i64 p.head),.d (.int .i64 p.tail),eG p.states,.d (.int .i64 p.res)]).pure=true:=by
 obtain⟨f,a,i,n,b,c,s,d⟩:=p
 cases f<;>cases i<;>cases n<;>cases s<;>rfl
def dH(p:PD)(i k:Int):Bool:=decide (0<=k/\k<i)&&(decide (fN p k=0) ||decide (fN p k=fN p i))
theorem Rp(G:List (List DV))(p:PD)(i k:Int):aa prog G 131 [p.A,.c (.d (.int .i64 i)),.c (.d (.int .i64 k))] (.c (.d (.bool (dH p i k)))):=by
 refine aa.en func131 rfl λ_=>aar ?_;refine aae λK hK=>aae λK1 hK1=>?_
 by_cases h1:k<0
 ·have h1':¬0<=k:=by omega
  refine acC h1 (hK1 _ _ ?_);refine abA (aar ?_);exact aaV (aq.rt rfl 6 (by simp[dH,h1']))
 have h0:0<=k:=by omega
 by_cases h2:i<=k
 ·have h2':¬k<i:=by omega
  refine acJ h1 h2 (hK1 _ _ ?_);refine abA (aar ?_);exact aaV (aq.rt rfl 6 (by simp[dH,h2']))
 have h2':k<i:=by omega
 refine acJ h1 h2 (hK1 _ _ ?_);refine abg (aaE (hK _ _ (abU λK hK=>?_)));simp;refine ag.pure 1 9 (th _ p k) (by simp) (by simp) rfl ?_;simp;apply hK;refine aae λK hK=>?_
 by_cases h3:fN p k=0
 ·refine acC h3 (hK _ _ ?_);exact aaV (aq.rt rfl 6 (by simp[dH,h0,h2',h3]))
 ·refine aaJ ?_;simp[h3];refine ag.pure 1 9 (th _ p i) (by simp) (by simp) rfl ?_;simp;apply hK;exact aaV (aq.rt rfl 6 (by simp[dH,h0,h2',h3]))
def eI(p:PD):Int:=
 if 6<(sO p.f).length\/6<(sO p.ins).length\/64<(sO p.nodes).length\/4<(sO p.states).length then 3
 else if (sO p.f).length=0\/(sO p.nodes).length=0\/p.mode<0\/4<p.mode then 2
 else if p.head<0\/p.tail<p.head\/((sO p.nodes).length:Int)<p.tail then 2
 else if (sO p.states).length=0/\p.head≠(sO p.nodes).length then 2 else 0
theorem Jl(G:List (List DV))(p:PD):aa prog G 75 [p.A] (.c (.d (.int .i64 (eI p)))):=by
 have lp0:∀(lv:Key->LB) (o:Option (List (List DV))),dm prog 22 lv (pV o)=some (.c (.d (.int .i64 (sO o).length)),[],[],True):=λlv o=>cE (by simp)
 have lp2:∀(lv:Key->LB) (o:Option (List (List DV))),dm prog 23 lv (pV o)=some (.c (.d (.int .i64 (sO o).length)),[],[],True):=λlv o=>cE (by simp)
 have lp3:∀(lv:Key->LB) (o:Option (List (List DV))),dm prog 24 lv (pV o)=some (.c (.d (.int .i64 (sO o).length)),[],[],True):=λlv o=>cE (by simp)
 have lp6:∀(lv:Key->LB) (o:Option (List (List DV))),dm prog 25 lv (pV o)=some (.c (.d (.int .i64 (sO o).length)),[],[],True):=λlv o=>cE (by simp)
 refine aa.en func75 rfl λ_=>aar ?_;refine acf lp3 ?_;refine aae λK hK=>abd (aae λK1 hK1=>?_)
 have toK1:∀(fr:Nat->AV) (κ:Nat) (b:Bool),fr 1=.c (.ptr 0 0)->fr 3=.c (.d (.int .i64 (sO p.nodes).length))->fr 8=.c (.d (.bool b)) ->
  (b=decide (6<(sO p.f).length\/6<(sO p.ins).length\/64<(sO p.nodes).length\/4<(sO p.states).length)) ->
  K1 ⟨fr,au (λ_=>.hole) 0 (.cells true false 145 p.cs)⟩ κ:=by
  intro fr κ b z1 z3 z8 hb;apply hK1
  cases b with
  |true=>
   have h:=of_decide_eq_true hb.symm;refine abz (by simp[z8]<;>omega) (aar ?_);exact aaV (aq.rt rfl 9 (by simp[eI,if_pos h]))
  |false=>
   have h:=of_decide_eq_false hb.symm;refine abD (by simp[z8]<;>omega) (aae λK2 hK2=>?_)
   have toK2:∀(fr:Nat->AV) (κ:Nat) (b:Bool),fr 1=.c (.ptr 0 0)->fr 3=.c (.d (.int .i64 (sO p.nodes).length))->fr 26=.c (.d (.bool b)) ->
    (b=decide ((sO p.f).length=0\/(sO p.nodes).length=0\/p.mode<0\/4<p.mode)) ->
    K2 ⟨fr,au (λ_=>.hole) 0 (.cells true false 145 p.cs)⟩ κ:=by
    intro fr κ b y1 y3 y26 hb2;apply hK2
    cases b with
    |true=>
     have h2:=of_decide_eq_true hb2.symm;refine abz (by simp[y26]<;>omega) (aar ?_);have hg:eI p=2:=by unfold eI;rw[if_neg h,if_pos h2]
     exact aaV (aq.rt rfl 9 (by simp[hg]))
    |false=>
     have h2:=of_decide_eq_false hb2.symm;refine abD (by simp[y26]<;>omega) (aae λK3 hK3=>?_)
     have toK3:∀(fr:Nat->AV) (κ:Nat) (b:Bool),fr 1=.c (.ptr 0 0)->fr 3=.c (.d (.int .i64 (sO p.nodes).length))->fr 42=.c (.d (.bool b)) ->
      (b=decide (p.head<0\/p.tail<p.head\/((sO p.nodes).length:Int)<p.tail)) ->
      K3 ⟨fr,au (λ_=>.hole) 0 (.cells true false 145 p.cs)⟩ κ:=by
      intro fr κ b x1 x3 x42 hb3;apply hK3
      cases b with
      |true=>
       have h3:=of_decide_eq_true hb3.symm;refine abz (by simp[x42]<;>omega) (aar ?_);have hg:eI p=2:=by unfold eI;rw[if_neg h,if_neg h2,if_pos h3]
       exact aaV (aq.rt rfl 9 (by simp[hg]))
      |false=>
       have h3:=of_decide_eq_false hb3.symm;refine abD (by simp[x42]<;>omega) (aae λK4 hK4=>?_)
       have fin0:eI p=0->∀(fr:Nat->AV) (κ:Nat) (lv:Key->LB),lv 9=.hole->K ⟨fr,lv⟩ κ:=by
        intro hg fr κ lv h9;apply hK;refine aar ?_;exact acm (κ:=0) (aq.tmp (κ:=0) rfl 9 (by simp[hg]) rfl (by simp[h9]) rfl)
       by_cases e1:sO p.states=[]
       ·by_cases e2:p.head=((sO p.nodes).length:Int)
        ·have hg:eI p=0:=by unfold eI;rw[if_neg h,if_neg h2,if_neg h3,if_neg (λhh=>hh.2 e2)]
         refine aaJ ?_;simp[x1,x3,lp6,e1,e2];apply hK4;refine abg (aaE ?_)
         simp_all
        ·have hg:eI p=2:=by unfold eI;rw[if_neg h,if_neg h2,if_neg h3,if_pos ⟨by rw[e1];rfl,e2⟩]
         refine aaJ ?_;simp[x1,x3,lp6,e1,e2];apply hK4;refine abA (aar ?_);exact aaV (aq.rt rfl 9 (by simp[hg]))
       ·have hg:eI p=0:=by unfold eI;rw[if_neg h,if_neg h2,if_neg h3,if_neg (λhh=>e1 (List.length_eq_zero_iff.1 hh.1))]
        refine acY x1 x3 lp6 e1 (hK4 _ _ ?_);refine abg (aaE ?_);simp;exact fin0 hg _ _ _ (by simp)
     refine acf y1 ?_
     by_cases f1:p.head<0
     ·refine abz (by simp[f1]<;>omega) (aaE ?_);simp;exact toK3 _ _ true (by simp[y1]) (by simp[y3]) (by simp[f1]) (by simp[f1])
     refine abD (by simp[f1]<;>omega) (acf y1 ?_)
     by_cases f2:p.tail<p.head
     ·refine abz (by simp[f2]<;>omega) (aaE ?_);simp;exact toK3 _ _ true (by simp[y1]) (by simp[y3]) (by simp[f2]) (by simp[f2])
     refine abD (by simp[f2]<;>omega) (aaJ ?_);simp[y1,y3];exact toK3 _ _ (decide (((sO p.nodes).length:Int)<p.tail)) (by simp[y1]) (by simp[y3]) (by simp) (by grind)
   refine acv z1 lp0 ?_
   by_cases c1:(sO p.f).length=0
   ·have c1l:sO p.f=[]:=List.length_eq_zero_iff.1 c1;refine abz (by simp_all) (aaE ?_)
    simp_all
   have c1l:¬sO p.f=[]:=λe=>c1 (by rw[e];rfl)
   refine abD (by simp[c1l]<;>omega) (acf z3 ?_)
   by_cases c2:(sO p.nodes).length=0
   ·have c2l:sO p.nodes=[]:=List.length_eq_zero_iff.1 c2;refine abz (by simp_all) (aaE ?_)
    simp_all
   have c2l:¬sO p.nodes=[]:=λe=>c2 (by rw[e];rfl)
   refine abD (by simp[c2l]<;>omega) (acf z1 ?_)
   by_cases c3:p.mode<0
   ·refine abz (by simp[c3]<;>omega) (aaE ?_);simp;exact toK2 _ _ true (by simp[z1]) (by simp[z3]) (by simp[c3]) (by simp[c3])
   refine abD (by simp[c3]<;>omega) (aaJ ?_);simp[z1];exact toK2 _ _ (decide (4<p.mode)) (by simp[z1]) (by simp[z3]) (by simp) (by grind)
 refine acf lp0 ?_
 by_cases d1:6<(sO p.f).length
 ·have d1':(6:Int)<((sO p.f).length:Int):=by omega
  refine abz (by simp_all) (aaE ?_)
  simp_all
 have d1':¬(6:Int)<((sO p.f).length:Int):=by omega
 refine abD (by simp_all) (acf lp2 ?_)
 by_cases d2:6<(sO p.ins).length
 ·have d2':(6:Int)<((sO p.ins).length:Int):=by omega
  refine abz (by simp_all) (aaE ?_)
  simp_all
 have d2':¬(6:Int)<((sO p.ins).length:Int):=by omega
 refine abD (by simp_all) (aar ?_)
 by_cases d3:64<(sO p.nodes).length
 ·have d3':(64:Int)<((sO p.nodes).length:Int):=by omega
  refine abz (by simp_all) (aaE ?_)
  simp_all
 have d3':¬(64:Int)<((sO p.nodes).length:Int):=by omega
 refine abD (by simp_all) (aaJ ?_);simp[lp6];have d4:((4:Int)<((sO p.states).length:Int))↔4<(sO p.states).length:=by omega
 exact toK1 _ _ (decide (4<(sO p.states).length)) (by simp) (by simp) (by simp[d4]) (by grind)
end Go.Am
namespace Go.Am
variable {fn:Func}{x:AV}{lv:Key->LB}{es:List (List DV)}{sz:Nat}
theorem aa.ed{P:Program}{G:List (List DV)}{f:FuncId}{code:Code}{args:List AV}(hf:P.funcs[f]?=some fn)(hb:fn.body=some code)
 (h:∀z:Ev,AW ⟨P,G,z.w,z.F,z.W,fn.ntmps,λ_=>.hole,z.b⟩ none code ⟨λt=>args.getD t .undef,λ_=>.hole⟩ 0 (iR ⟨P,G,z.w,z.F,z.W,fn.ntmps,λ_=>.hole,z.b⟩ fn x)) (hl:Nat.ble args.length fn.ntmps=true:=by kernel_rfl):aa P G f args x:=
 aa.MX hf hb (adE hl) λ⟨_,_,w,F,W,_,q,b⟩ h1 h2 h3 h4=>by cases h1;cases h2;cases h3;cases h4;exact h ⟨w,F,W,λ_=>.hole,b⟩
theorem qU{lv:Key->LB}{n:Nat}:∀(l:List DV),fO (cP lv n) (l.map CV.d)=some (l,[])
 |[]=>rfl
 |x::l=>by
  have ih:=qU (lv:=lv) (n:=n) l;simp only[ac4,fO]at ih⊢;rw[ih]
  cases n<;>rfl
theorem s8{α:Type}{sz:Nat}:∀(es:List (List α)),(∀e∈es,e.length=sz)->chunk sz es.length es.flatten=es
 |[],_=>rfl
 |e::es,h=>by
  have he:e.length=sz:=h e (by simp);have ih:=s8 es λx hx=>h x (by simp[hx])
  have hlen:es.flatten.length=es.length*sz:=by
   rw[List.length_flatten]
   have:∀l:List (List α),(∀e∈l,e.length=sz)->(l.map List.length).sum=l.length*sz:=by
    intro l
    induction l with
    |nil=>simp
    |cons a l ih=>grind
   exact this es λx hx=>h x (by simp[hx])
  unfold chunk at ih⊢;rw[adN,List.range_succ_eq_map,ac4,ady];congr 1
  ·grind
  ·conv=>rhs;rw[<-ih]
   apply adI;intro i _;simp only[Function.comp,List.flatten_cons];have:(i+1)*sz=e.length+i*sz:=by rw[he,Nat.succ_mul];omega
   rw[Nat.succ_eq_add_one,this,List.drop_append,aeE (by omega),aeP,adM]
theorem iR.tmp{c:Ctx}{X:AV}{t:Nat}{s:az}{κ:Nat}{ks:List Key}(hr:fn.results=#[.tmp t])(hx:s.fr t=X)(hd:eJ s.lv X=some (x,ks)):iR c fn x .ret s κ:=
 ⟨X,ks,by rw[hr];simp[eD,l8,pE,hx],hd⟩
theorem qR{k:Key}{own fz:Bool}{T:TypeId}(h:lv k=.cells own fz T (es.flatten.map CV.d))(hs:∀e∈es,e.length=sz)(hl:es.length<=9223372036854775807):
 eJ lv (.c (.aE k 0 es.length sz))=some (.c (.d (.sl es)),[k]):=by
 have hlen:es.flatten.length=es.length*sz:=by
  rw[List.length_flatten]
  have:∀l:List (List DV),(∀e∈l,e.length=sz)->(l.map List.length).sum=l.length*sz:=by
   intro l
   induction l with
   |nil=>simp
   |cons a l ih=>grind
  exact this es hs
 have ht:(es.flatten.map CV.d).take (es.length*sz)=es.flatten.map CV.d:=adQ (by grind);simp only[eJ,fu,cP,h,ac5,hlen,adx,aU,hl,and_self,if_true,adJ,ht,qU,adm,s8 es hs]
theorem yd(h:∀e∈es,e.length=sz):dS lv sz (.c (.d (.sl es)))=some (es.length,es.flatten.map CV.d):=by
 have h1:es.all (λe=>e.length==sz)=true:=by rw[ab3];intro e he;simp[h e he]
 simp[dS,h1]
end Go.Am
namespace Go.Am
open Go.Am.Ty Go.Proofs N
variable {T:TypeId}{i n:Nat}{P:Program}{op:Int}
structure Nd where
 op:Int
 a:Int
 b:Int
 c:Int
 d:Int
 f:Int
 v:List UInt8
 deriving DecidableEq,Inhabited
structure In where
 f:Int
 lo:List UInt8
 hi:List UInt8
 deriving DecidableEq,Inhabited
@[simp] def Nd.e(n:Nd):List DV:=[.int .i64 n.op,.int .i64 n.a,.int .i64 n.b,.int .i64 n.c,.int .i64 n.d,.int .i64 n.f,.str n.v]
@[simp] def In.e(n:In):List DV:=[.int .i64 n.f,.str n.lo,.str n.hi]
@[simp] def zw(n:Int×Int):List DV:=[.int .i64 n.1,.int .i64 n.2]
abbrev Nd.A(n:Nd):AV:=.agg [.d (.int .i64 n.op),.d (.int .i64 n.a),.d (.int .i64 n.b),.d (.int .i64 n.c),.d (.int .i64 n.d),.d (.int .i64 n.f),.d (.str n.v)]
def P8:List DV->Nd
 |[.int _ o,.int _ a,.int _ b,.int _ c,.int _ d,.int _ f,.str v]=>⟨o,a,b,c,d,f,v⟩
 |_=>default
def TO:List DV->In
 |[.int _ f,.str a,.str b]=>⟨f,a,b⟩
 |_=>default
def MR:List DV->Int×Int
 |[.int _ a,.int _ b]=>(a,b)
 |_=>(0,0)
theorem VC{e:List DV}(h:Sc e):e=(P8 e).e:=by obtain⟨a1,a2,a3,a4,a5,a6,s,rfl⟩:=h;rfl
theorem U2{e:List DV}(h:TL e):e=(TO e).e:=by obtain⟨a,s,t,rfl⟩:=h;rfl
theorem Ni{e:List DV}(h:LZ e):e=zw (MR e):=by obtain⟨a,b,rfl⟩:=h;rfl
theorem NZ(n:Nd):Sc n.e:=⟨_,_,_,_,_,_,_,rfl⟩
theorem W5(n:Int×Int):LZ (zw n):=⟨_,_,rfl⟩
def PD.nf(p:PD):Nat:=(sO p.f).length
def PD.ni(p:PD):Nat:=(sO p.ins).length
def PD.nn(p:PD):Nat:=(sO p.nodes).length
def PD.ns(p:PD):Nat:=(sO p.states).length
def PD.fm(p:PD)(i:Nat):Int×Int:=MR ((sO p.f).getD i [])
def PD.Bc(p:PD)(i:Nat):In:=TO ((sO p.ins).getD i [])
def PD.nd(p:PD)(i:Nat):Nd:=P8 ((sO p.nodes).getD i [])
def PD.st(p:PD)(i:Nat):Int×Int:=MR ((sO p.states).getD i [])
section
variable {p:PD}(hp:p.ok) (lv:Key->LB) (k:Int) (h0:0<=k)
theorem Zk{lv:Key->LB}{o:Option (List (List DV))}{k:Int}{sz:Nat}{e:List DV}(h:(fk P T).map (·.2)=some sz)(h0:0<=k)(hi:k<(sO o).length)(he:(sO o).getD k.toNat []=e)(hs:e.length=sz):
 ak P T lv (pV o) (.c (.d (.int .i64 k)))=some (.c (.d (.ptr e)),[],[],True):=by
 obtain⟨i,rfl⟩:∃i:Nat,k=i:=⟨k.toNat,by omega⟩
 have hi':i<(sO o).length:=by omega
 have e1:(sO o)[i]=e:=by rw[<-he,ac9,ac2,bp hi'];rfl
 rw[jZ h hi' (by rw[e1];exact hs),e1]
theorem gD{l:List (List DV)}{q:List DV->Prop}(h:∀e∈l,q e)(hi:i<l.length):q (l.getD i []):=by
 grind
include hp h0
theorem Zn(hi:k<p.nf):ak prog 22 lv (.c (eG p.f)) (.c (.d (.int .i64 k)))=some (.c (.d (.ptr (zw (p.fm k.toNat)))),[],[],True):=
 Zk (by simp) h0 hi (Ni (gD hp.f (by unfold PD.nf at hi;omega))) rfl
theorem YE(hi:k<p.ni):ak prog 23 lv (.c (eG p.ins)) (.c (.d (.int .i64 k)))=some (.c (.d (.ptr (p.Bc k.toNat).e)),[],[],True):=
 Zk (by simp) h0 hi (U2 (gD hp.ins (by unfold PD.ni at hi;omega))) rfl
theorem V1(hi:k<p.nn):ak prog 24 lv (.c (eG p.nodes)) (.c (.d (.int .i64 k)))=some (.c (.d (.ptr (p.nd k.toNat).e)),[],[],True):=
 Zk (by simp) h0 hi (VC (gD hp.nodes (by unfold PD.nn at hi;omega))) rfl
theorem Zi(hi:k<p.ns):ak prog 25 lv (.c (eG p.states)) (.c (.d (.int .i64 k)))=some (.c (.d (.ptr (zw (p.st k.toNat)))),[],[],True):=
 Zk (by simp) h0 hi (Ni (gD hp.states (by unfold PD.ns at hi;omega))) rfl
end
theorem CJ(p:PD)(lv:Key->LB):dm prog 22 lv (.c (eG p.f))=some (.c (.d (.int .i64 p.nf)),[],[],True):=cE (by simp)
theorem ME(p:PD)(lv:Key->LB):dm prog 23 lv (.c (eG p.ins))=some (.c (.d (.int .i64 p.ni)),[],[],True):=cE (by simp)
theorem nR(p:PD)(lv:Key->LB):dm prog 24 lv (.c (eG p.nodes))=some (.c (.d (.int .i64 p.nn)),[],[],True):=cE (by simp)
theorem Eb(p:PD)(lv:Key->LB):dm prog 25 lv (.c (eG p.states))=some (.c (.d (.int .i64 p.ns)),[],[],True):=cE (by simp)
def bT(op:Int):Nat:=if op<=3 then 0 else if op<=7 then 1 else if op<=13 then 2 else if op=14 then 3 else 4
def fP(op:Int):Nat:=if op=1\/op=2 then 1 else bT op
def Fj:List DV:=[.int .i64 0,.int .i64 0,.int .i64 0,.int .i64 1,.int .i64 0,.int .i64 1,.int .i64 0,.int .i64 0,.int .i64 1,.int .i64 1,.int .i64 1,.int .i64 1,.int .i64 1,.int .i64 1,.int .i64 1,.int .i64 1,.int .i64 2,.int .i64 2,.int .i64 2,.int .i64 2,.int .i64 2,.int .i64 2,.int .i64 2,.int .i64 2,.int .i64 2,.int .i64 2,.int .i64 2,.int .i64 2,.int .i64 3,.int .i64 3,.int .i64 4,.int .i64 4]
theorem MU(m:Int):(GG m)[2]?=some Fj:=rfl
theorem aa2(h1:1<=op)(h2:op<=15):op=1\/op=2\/op=3\/op=4\/op=5\/op=6\/op=7\/op=8\/op=9\/op=10\/op=11\/op=12\/op=13\/op=14\/op=15:=by omega
theorem ixU(h1:1<=op)(h2:op<=15):∃rest,∀lv:Key->LB,ak prog 143 lv (.c (.d (.ptr Fj))) (.c (.d (.int .i64 op)))=some (.c (.d (.ptr (.int .i64 (bT op)::.int .i64 (fP op)::rest))),[],[],True):=by
 have ha:tv prog 143=some (16,142,2):=by kernel_rfl
 have key:∀(op:Int) (rest:List DV),0<=op->op<16->Fj.drop (op.toNat*2)=.int .i64 (bT op)::.int .i64 (fP op)::rest->op.toNat*2<=Fj.length->∃rest,∀lv:Key->LB,ak prog 143 lv (.c (.d (.ptr Fj))) (.c (.d (.int .i64 op)))=some (.c (.d (.ptr (.int .i64 (bT op)::.int .i64 (fP op)::rest))),[],[],True):=by
  intro op rest g1 g2 g3 g4;refine⟨rest,λlv=>?_⟩;unfold ak;rw[ha];show some (AV.c (.d (.ptr (Fj.drop (op.toNat*2)))),([]:List (Key×LB)),([]:List Key),(0<=op/\op<((16:Nat):Int)/\op.toNat*2<=Fj.length))=_;rw[g3,eq_true (show 0<=op/\op<((16:Nat):Int)/\op.toNat*2<=Fj.length from⟨g1,by omega,g4⟩)]
 rcases aa2 h1 h2 with rfl|rfl|rfl|rfl|rfl|rfl|rfl|rfl|rfl|rfl|rfl|rfl|rfl|rfl|rfl<;>exact key _ _ (by decide) (by decide) rfl (by decide)
def Nd.l4(n:Nd):List Int:=[n.a,n.b,n.c,n.d]
def aN(n:Nd):List Int:=if 1<=n.op/\n.op<=15 then n.l4.take (bT n.op)else[]
def jF(n:Nd):Option (List Int):=if 1<=n.op/\n.op<=15 then some (n.l4.take (bT n.op))else none
def kE(n:Nd):Bool:=(n.l4.drop (fP n.op)).all (λx=>decide (x=0))&&(decide (n.v=[]) ||decide (n.op=3))
def zD(l:List Int):List (List DV):=l.map λx=>[DV.int .i64 x]
def zC:Option (List Int)->CV
 |none=>.d .nilsl
 |some l=>.d (.sl (zD l))
def zL(o:Option (List Int)):List Int:=o.getD []
theorem I3(o:Option (List Int)):zC o=eG (o.map zD):=by cases o<;>rfl
@[simp]theorem qX(o:Option (List Int)):(AV.c (zC o)).pure=true:=by cases o<;>rfl
@[simp]theorem nq(o:Option (List Int)):(AV.c (zC o)).bF=true:=by cases o<;>rfl
@[simp]theorem P1(o:Option (List Int))(g:Key->Key):(zC o).bJ g=zC o:=by cases o<;>rfl
@[simp]theorem ZP(o:Option (List (List DV)))(g:Key->Key):(eG o).bJ g=eG o:=by cases o<;>rfl
@[simp]theorem abW(o:Option (List Nat))(g:Key->Key):(nC o).bJ g=nC o:=by cases o<;>rfl
def zK(l:List Int):List CV:=l.map λx=>CV.d (.int .i64 x)
@[simp]theorem IY(l:List Int):(zK l).length=l.length:=by simp[zK]
theorem dh(ha:cZ P T=some false){l:List Int}(h:i<l.length):fq P T ((zK l).drop i)=some (.c (.d (.int .i64 l[i]))):=by
 have:(zK l).drop i=CV.d (.int .i64 l[i])::(zK l).drop (i+1):=by
  rw[adV (by simp_all)];simp[zK]
 simp_all
theorem vD(l:List Int):zK l=(l.map λx=>DV.int .i64 x).map CV.d:=by simp[zK]
theorem Pb{lv:Key->LB}(l:List Int):fO (cP lv n) (zK l)=some (l.map λx=>DV.int .i64 x,[]):=by rw[vD];exact qU _
theorem Vv(h:(fk prog T).isSome=true)(lv:Key->LB)(o:Option (List Int)):dm prog T lv (.c (zC o))=some (.c (.d (.int .i64 (zL o).length)),[],[],True):=by
 rw[I3];rw[cE h]
 cases o<;>simp[sO,zL,zD]
theorem Wh(h:(fk prog T).map (·.2)=some 1)(lv:Key->LB)(o:Option (List Int))(hi:i<(zL o).length):ak prog T lv (.c (zC o)) (.c (.d (.int .i64 (i:Int))))=some (.c (.d (.ptr [.int .i64 (zL o)[i]])),[],[],True):=by
 cases o with
 |none=>cases hi
 |some l=>
  rw[I3];have hi0:i<l.length:=hi;have hi':i<(sO (Option.map zD (some l))).length:=by show i<(zD l).length;unfold zD;rw[ac5];exact hi0
  have e:(sO (Option.map zD (some l)))[i]=[.int .i64 (zL (some l))[i]]:=by simp[sO,zD,zL]
  rw[jZ h hi' (by rw[e];rfl),e];rfl
def uR(p:PD)(x:In):Int:=
 if ¬(0<=x.f/\x.f<p.nf)then 7
 else if eX x.lo≠0 then eX x.lo
 else if eX x.hi≠0 then eX x.hi
 else if hasB (p.fm x.f.toNat).1 (p.fm x.f.toNat).2 (gp x.lo)=false then 7
 else if hasB (p.fm x.f.toNat).1 (p.fm x.f.toNat).2 (gp x.hi)=false then 7
 else if 0<jc (gp x.lo) (gp x.hi)then 7 else 0
def kj(p:PD)(i:Int)(n:Nd):Int:=
 if ¬(1<=n.op/\n.op<=15)then 2
 else if kE n=false then 2
 else if ¬(0<=n.f/\n.f<p.nf)then 7
 else if n.op=1/\¬(0<=n.a/\n.a<p.ni)then 7
 else if n.op=1/\(p.Bc n.a.toNat).f≠n.f then 143
 else if n.op=2/\(i<p.head\/¬(0<=n.a/\n.a<p.ns))then 7
 else if n.op=3 then eX n.v
 else if (aN n).all (dH p i)then 0 else 7
def jm(i f:Int)(n:Nd):Bool:=decide (n.op=2)&&decide (n.a=i)&&!decide (n.f=f)
def tS(p:PD)(i:Int)(s:Int×Int):Int:=
 if ¬(0<=s.1/\s.1<p.head)then 7
 else if ¬(0<=s.2/\s.2<p.tail)then 7
 else if (p.nd s.2.toNat).f≠(p.nd s.1.toNat).f then 143
 else if (List.range p.nn).any (λj=>jm i (p.nd s.1.toNat).f (p.nd j))then 143 else 0
def jX(e:Nat->Int)(n:Nat):Option Nat:=(List.range n).find? λi=>decide (e i≠0)
theorem xy{e:Nat->Int}(h:∀j,j<n->e j=0):jX e n=none:=by
 unfold jX
 grind
theorem w8{e:Nat->Int}(hi:i<n)(h:e i≠0)(h0:∀j,j<i->e j=0):jX e n=some i:=by
 unfold jX
 simp_all
def jG(p:PD):Nat->Nat
 |0=>p.nf
 |1=>p.ni
 |2=>p.nn
 |_=>p.ns
def cO(p:PD):Nat->Nat->Int
 |0,i=>gw (p.fm i).1 (p.fm i).2
 |1,i=>uR p (p.Bc i)
 |2,i=>kj p i (p.nd i)
 |_,i=>tS p i (p.st i)
def dL(p:PD):Nat->Nat->Int×Int×Int
 |0,_=>if 0<=p.res/\p.res<p.nn/\fN p p.res≠1 then(0,0,0)else(5,0,7)
 |n+1,k=>match jX (cO p k) (jG p k)with
  |some i=>(k+1,i,cO p k i)
  |none=>dL p n (k+1)
def gj(p:PD):Int×Int×Int:=if eI p≠0 then(0,0,eI p)else dL p 4 0
end Go.Am
namespace Go.Am
open Go.Am.Ty Go.Proofs N
variable {lv:Key->LB}{p:PD}{B n vb V P A X t:Nat}{T:TypeId}{k:Key}{own fz:Bool}{l:List Nat}{f:FuncId}{x a x0:AV}{c:Ctx}{K:AV->List (Key×LB)->List Key->Nat->Prop}{e:List DV}{i:Int}
theorem Ih(G:List (List DV))(o:Option (List (List DV)))(h:∀e∈sO o,e.length=2)(hl:(sO o).length<=1000000):aa prog G 15 [.c (eG o)] (.c (eG o)):=by
 have e1:aK prog .eql 22 (.c (.d .nilsl)) (.c (.d .nilsl))=some (.c (.d (.bool true)),[],[],True):=by kernel_rfl
 have e2:∀es,aK prog .eql 22 (.c (.d (.sl es))) (.c (.d .nilsl))=some (.c (.d (.bool false)),[],[],True):=λes=>by kernel_rfl
 cases o with
 |none=>
  show aa prog G 15 [.c (.d .nilsl)] (.c (.d .nilsl));refine aa.ed func15 rfl λ_=>aar ?_;refine aae λK hK=>acf e1 ?_;refine abA (aar ?_);exact acm (κ:=0) (iR.tmp (κ:=0) (X:=.c (.d .nilsl)) (ks:=[]) rfl (by simp) rfl)
 |some es=>
  have h:∀e∈es,e.length=2:=h;have hl:es.length<=1000000:=hl;show aa prog G 15 [.c (.d (.sl es))] (.c (.d (.sl es)));have hsrc:∀lv,dS lv 2 (.c (.d (.sl es)))=some (es.length,es.flatten.map CV.d):=λlv=>yd h
  refine aa.ed func15 rfl λ_=>aar ?_;refine aae λK hK=>acf e2 ?_;refine abg (aaE (hK _ _ (abU λK hK=>?_)));simp[hsrc,lp,jf,keyOf]
  repeat refine aL ?_
  apply hK;refine acm (κ:=0) (iR.tmp (κ:=0) (X:=.c (.aE 1 0 es.length 2)) (ks:=[1]) rfl (by simp) ?_);exact qR (own:=true) (fz:=false) (T:=60) (by simp) h (by omega)
theorem Jg(G:List (List DV))(o:Option (List (List DV)))(h:∀e∈sO o,e.length=3)(hl:(sO o).length<=1000000):aa prog G 16 [.c (eG o)] (.c (eG o)):=by
 have e1:aK prog .eql 23 (.c (.d .nilsl)) (.c (.d .nilsl))=some (.c (.d (.bool true)),[],[],True):=by kernel_rfl
 have e2:∀es,aK prog .eql 23 (.c (.d (.sl es))) (.c (.d .nilsl))=some (.c (.d (.bool false)),[],[],True):=λes=>by kernel_rfl
 cases o with
 |none=>
  show aa prog G 16 [.c (.d .nilsl)] (.c (.d .nilsl));refine aa.ed func16 rfl λ_=>aar ?_;refine aae λK hK=>acf e1 ?_;refine abA (aar ?_);exact acm (κ:=0) (iR.tmp (κ:=0) (X:=.c (.d .nilsl)) (ks:=[]) rfl (by simp) rfl)
 |some es=>
  have h:∀e∈es,e.length=3:=h;have hl:es.length<=1000000:=hl;show aa prog G 16 [.c (.d (.sl es))] (.c (.d (.sl es)));have hsrc:∀lv,dS lv 3 (.c (.d (.sl es)))=some (es.length,es.flatten.map CV.d):=λlv=>yd h
  refine aa.ed func16 rfl λ_=>aar ?_;refine aae λK hK=>acf e2 ?_;refine abg (aaE (hK _ _ (abU λK hK=>?_)));simp[hsrc,lp,jf,keyOf]
  repeat refine aL ?_
  apply hK;refine acm (κ:=0) (iR.tmp (κ:=0) (X:=.c (.aE 1 0 es.length 3)) (ks:=[1]) rfl (by simp) ?_);exact qR (own:=true) (fz:=false) (T:=38) (by simp) h (by omega)
theorem Ik(G:List (List DV))(o:Option (List (List DV)))(h:∀e∈sO o,e.length=1)(hl:(sO o).length<=1000000):aa prog G 127 [.c (eG o)] (.c (eG o)):=by
 have e1:aK prog .eql 30 (.c (.d .nilsl)) (.c (.d .nilsl))=some (.c (.d (.bool true)),[],[],True):=by kernel_rfl
 have e2:∀es,aK prog .eql 30 (.c (.d (.sl es))) (.c (.d .nilsl))=some (.c (.d (.bool false)),[],[],True):=λes=>by kernel_rfl
 cases o with
 |none=>
  show aa prog G 127 [.c (.d .nilsl)] (.c (.d .nilsl));refine aa.ed func127 rfl λ_=>aar ?_;refine aae λK hK=>acf e1 ?_;refine abA (aar ?_);exact acm (κ:=0) (iR.tmp (κ:=0) (X:=.c (.d .nilsl)) (ks:=[]) rfl (by simp) rfl)
 |some es=>
  have h:∀e∈es,e.length=1:=h;have hl:es.length<=1000000:=hl;show aa prog G 127 [.c (.d (.sl es))] (.c (.d (.sl es)));have hsrc:∀lv,dS lv 1 (.c (.d (.sl es)))=some (es.length,es.flatten.map CV.d):=λlv=>yd h
  refine aa.ed func127 rfl λ_=>aar ?_;refine aae λK hK=>acf e2 ?_;refine abg (aaE (hK _ _ (abU λK hK=>?_)));simp[hsrc,lp,jf,keyOf]
  repeat refine aL ?_
  apply hK;refine acm (κ:=0) (iR.tmp (κ:=0) (X:=.c (.aE 1 0 es.length 1)) (ks:=[1]) rfl (by simp) ?_);exact qR (own:=true) (fz:=false) (T:=3) (by simp) h (by omega)
theorem Nr(T:TypeId)(s t:List UInt8):aK prog .eql T (.c (.d (.str s))) (.c (.d (.str t)))=some (.c (.d (.bool (decide (s=t)))),[],[],True):=by
 rw[<-R5];rfl
theorem Y4(a b c d:CV):eO prog 65 [0,1,2,3] [.c a,.c b,.c c,.c d]=some (.agg [a,b,c,d],[],[],True):=by kernel_rfl
theorem Xg:tv prog 65=some (4,3,1):=by kernel_rfl
theorem ag.ab0(κ' kh κb:Key){l:List Int}(n:Nat)(hn:n<=l.length)(hl:l.length<=100)(hk:lv κb=.cells true false T (zK l))
 (hc:aa c.P c.G f [.c (zC (some (l.take n)))] x) (hx:x.pure=true) (hh:lv kh=.hole) (hkh:kh≠κb) (hK:K x [(κb,.cells true true T (zK l))] [kh] κ'):ag c f [.c (.aE κb 0 n 1)] lv K:=by
 refine ag.Z2 κ' kh κb T (zK l) [kh] hc hx hk hh hkh rfl (λi p q=>?_) (λa ha j hj=>?_) (by simp) hK
 ·have hi:i=0:=by simp at p;omega
  subst hi;right;have h1:(zK l).take n=zK (l.take n):=by simp[zK,List.map_take]
  have hln:(l.take n).length=n:=by rw[ac7];omega
  simp only[adW,fu,cP,aC,IY,ad3,adx,adJ,h1,Pb,adm];rw[if_pos ⟨hn,by omega⟩];have h2:=nJ ((l.take n).map λ(x:Int)=>DV.int .i64 x);rw[ac5,hln]at h2;simp only[adm,h2];simp[zC,zD];rfl
 ·simp only[ad8]at ha;subst ha;simp only[pz,kM,fy,aC]at hj;rcases hj with rfl|hj
  ·simp
  ·simp only[aec]at hj;obtain⟨y,hy,hj⟩:=hj;simp only[zK,adX]at hy;obtain⟨z,_,rfl⟩:=hy
   cases hj
theorem Lf(G:List (List DV))(o:Option (List Int))(hl:(zL o).length<=1000000):aa prog G 127 [.c (zC o)] (.c (zC o)):=by
 rw[I3];refine Ik G _ ?_ ?_
 ·cases o with
  |none=>intro e he;cases he
  |some l=>intro e he;simp only[sO,adm,aeQ,zD,adX]at he;grind
 ·cases o with
  |none=>simp[sO]
  |some l=>simpa[sO,zD,zL]using hl
theorem lR(op:Int):bT op<=4:=by unfold bT;grind
theorem yT(op:Int):fP op<=4:=by have:=lR op;unfold fP;grind
theorem Nd.jx(n:Nd):n.l4.length=4:=rfl
theorem qN(n:Nd):zL (jF n)=aN n:=by unfold jF aN;split<;>rfl
theorem JN(m:Int)(n:Nd):aa prog (GG m) 72 [n.A] (.c (zC (jF n))):=by
 have hkn:=GD (GG m) n.op
 by_cases hk:1<=n.op/\n.op<=15
 ·obtain⟨rest,hix⟩:=ixU hk.1 hk.2;have hcl:=Lf (GG m) (some (n.l4.take (bT n.op))) (by simp only[zL,aeQ,ac7,Nd.jx];omega);have hko:jF n=some (n.l4.take (bT n.op)):=by unfold jF;rw[if_pos hk]
  have hle:=lR n.op;rw[hko];have hd:decide (1<=n.op/\n.op<=15)=true:=decide_eq_true hk;rw[hd]at hkn;generalize bT n.op=kk at*
  refine aa.en func72 rfl λ_=>aar ?_;refine aae λK hK=>acF 1 hkn ?_;refine abg (aaE (hK _ _ (acv @Y4 @aj.eq_1 ?_)));refine aae λK hK=>?_;refine AW.rG ?_;refine mb.run 5 rfl ?_;simp[MU,hix];refine mb.dF (x:=.c (.aE 1 0 kk 1)) (us:=[]) (rds:=[1]) 2 rfl rfl ?_ ?_
  ·simp[Am.dF,Op.operands,Hv,s9];omega
  refine mb.run 2 rfl ?_;simp[];refine ag.ab0 (l:=n.l4) (T:=65) 2 9 1 kk hle (by simp[Nd.jx]) rfl hcl (by simp) (by simp) (by decide) ?_;simp;refine mb.done ?_;apply hK;exact aaV (aq.rt rfl 2 (by simp))
 ·have hko:jF n=none:=by unfold jF;rw[if_neg hk]
  have hd:decide (1<=n.op/\n.op<=15)=false:=decide_eq_false hk;rw[hd]at hkn;rw[hko];refine aa.en func72 rfl λ_=>aar ?_;refine aae λK hK=>acF 1 hkn ?_;refine abA (aar ?_);exact aaV (aq.rt rfl 2 (by simp[zC]))
theorem Rj(m:Int)(n:Nd)(h1:1<=n.op)(h2:n.op<=15):aa prog (GG m) 129 [n.A] (.c (.d (.bool (kE n)))):=by
 obtain⟨rest,hix⟩:=ixU h1 h2;have hle:=yT n.op;have hib:kE n=((n.l4.drop (fP n.op)).all (λx=>decide (x=0))&&(decide (n.v=[]) ||decide (n.op=3))):=rfl;have hzk:[CV.d (.int .i64 n.a),.d (.int .i64 n.b),.d (.int .i64 n.c),.d (.int .i64 n.d)]=zK n.l4:=rfl;have fin:(n.l4.drop (fP n.op)).all (λx=>decide (x=0))=true->kE n=(decide (n.v=[]) ||decide (n.op=3)):=by intro h;rw[hib,h];rfl
 have lp0:∀lv,dm prog 30 lv (.c (.d (.sl [])))=some (.c (.d (.int .i64 0)),[],[],True):=λlv=>Vv (T:=30) (by simp) lv (some [])
 refine aa.en func129 rfl λ_=>aar ?_;refine acv @Y4 @aj.eq_1 ?_;refine aae λK hK=>?_
 have tail:∀(fr:Nat->AV) (κ:Nat) (lv:Key->LB),fr 1=.c (.ptr 0 0)->lv 0=.cells true false 40 [.d (.int .i64 n.op),.d (.int .i64 n.a),.d (.int .i64 n.b),.d (.int .i64 n.c),.d (.int .i64 n.d),.d (.int .i64 n.f),.d (.str n.v)]->lv 9=.hole ->
  (n.l4.drop (fP n.op)).all (λx=>decide (x=0))=true->K ⟨fr,lv⟩ κ:=by
  intro fr κ lv z1 hl0 h9 hall;have hf:=fin hall;apply hK
  by_cases hv:n.v=[]
  ·refine adi z1 hl0 @Nr hv ?_;exact acm (κ:=0) (aq.tmp (κ:=0) rfl 9 (by simp_all) rfl (by simp[h9]) rfl)
  ·refine adi z1 hl0 @Nr hv ?_;exact acm (κ:=0) (aq.tmp (κ:=0) rfl 9 (by simp_all) rfl (by simp[h9]) rfl)
 refine aae λK1 hK1=>?_
 by_cases hu:fP n.op=4
 ·refine AW.rG ?_;refine mb.run 5 rfl ?_;simp[MU,hix];refine mb.II (κ:=1) (off:=0) (n:=4) (e:=3) (sz:=1) (l:=4) (own:=true) (fz:=false) (T':=65) 2 rfl rfl rfl (by simp) (by simp;rfl) Xg (by simp[hu]) (by simp) (by decide) (by decide) ?_;refine mb.run 2 rfl ?_;simp[lp0];refine mb.done ?_;apply hK1;refine abd ?_
  refine aco (λ(_:Unit)=>⟨aJ [(1,.c (.ptr 0 0)),(20,.c (.d (.sl []))),(21,.c (.d (.int .i64 0))),(22,.c (.d (.int .i64 0)))],
   au (au (λ_=>.hole) 0 (.cells true false 40 [.d (.int .i64 n.op),.d (.int .i64 n.a),.d (.int .i64 n.b),.d (.int .i64 n.c),.d (.int .i64 n.d),.d (.int .i64 n.f),.d (.str n.v)])) 1 (.cells true false 65 (zK n.l4))⟩) 2
   (λ_=>True) (λ_=>0) () (Le.pq _) trivial ?_
  rintro⟨⟩ _;refine aar ?_;refine aae λK3 hK3=>abg (abX ?_)
  simp;exact tail _ _ _ (by simp) (by simp) (by simp) (by rw[hu];rfl)
 have hu4:fP n.op<4:=by omega
 have hdrop:∀i,i<4-fP n.op->fP n.op+i<n.l4.length:=by intro i hi;rw[Nd.jx];omega
 generalize hue:fP n.op=u at*
 refine AW.rG ?_;refine mb.run 5 rfl ?_;simp[MU,hix];refine mb.dF (x:=.c (.aE 1 u (4-u) 1)) (us:=[]) (rds:=[1]) 2 rfl rfl ?_ ?_
 ·simp[Am.dF,Op.operands,Hv,s9];omega
 have e4:((4-u:Nat):Int)<=9223372036854775807:=by omega
 refine mb.run 2 rfl ?_;simp[e4];refine mb.done ?_;apply hK1;refine abd ?_
 refine aco (λ(i:Nat)=>⟨aJ [(1,.c (.ptr 0 0)),(20,.c (.aE 1 u (4-u) 1)),(21,.c (.d (.int .i64 (4-u:Nat)))),(22,.c (.d (.int .i64 i)))],
  au (au (λ_=>.hole) 0 (.cells true false 40 [.d (.int .i64 n.op),.d (.int .i64 n.a),.d (.int .i64 n.b),.d (.int .i64 n.c),.d (.int .i64 n.d),.d (.int .i64 n.f),.d (.str n.v)])) 1 (.cells true false 65 (zK n.l4))⟩) 2
  (λi=>i<=4-u/\∀j (hj:j<i) (h:u+j<n.l4.length),n.l4[u+j]=0) (λi=>4-u-i) 0 (Le.pq _) ⟨by omega,λj hj=>absurd hj (adT j)⟩ ?_
 rintro i ⟨hi,hall⟩
 try simp only at hi hall
 refine aar ?_;refine aae λK2 hK2=>?_
 by_cases hlt:i<4-u
 ·have hlt':(i:Int)<((4-u:Nat):Int):=by omega
  refine abz (by simp<;>omega) (aaE (hK2 _ _ (aae λK3 hK3=>abd (aae λK4 hK4=>?_))));have hx:=dh (P:=prog) (T:=3) (by simp) (hdrop i hlt);refine acJ hlt' hx (hK4 _ _ ?_);refine aar ?_
  by_cases h0:n.l4[u+i]'(hdrop i hlt)=0
  ·refine abD (by simp[h0]<;>omega) (aaE (hK3 _ _ ?_));have f12:=bE (n:=(i:Int)+1) (by omega) (by omega);refine aaJ ?_;simp[f12];refine⟨i+1,Le.pq _,⟨by omega,λj hj h=>?_⟩,by omega⟩
   grind
  ·refine abz (by simp[h0]<;>omega) (aar ?_)
   have hb:kE n=false:=by
    rw[hib]
    have:(n.l4.drop u).all (λx=>decide (x=0))=false:=by
     rw[afS];refine⟨n.l4[u+i]'(hdrop i hlt),?_,by grind⟩;rw[List.mem_iff_getElem];exact⟨i,by grind,by simp⟩
    rw[this];rfl
   exact aaV (aq.rt rfl 2 (by simp[hb]))
 ·have hlt':¬(i:Int)<((4-u:Nat):Int):=by omega
  refine abD (by simp<;>omega) (abX ?_);simp;refine tail _ _ _ (by simp) (by simp) (by simp) ?_;rw[ab3];intro x hx;obtain⟨j,hj,rfl⟩:=List.mem_iff_getElem.1 hx;rw[aeN,Nd.jx]at hj
  grind
def DL(E:TypeId):Option (List (List DV))->LB
 |none=>.bO
 |some es=>.cells true false E (es.flatten.map CV.d)
theorem NA(es:List (List DV))(g:Key->Key):(es.flatten.map CV.d).map (CV.bJ g)=es.flatten.map CV.d:=by
 rw[ady];rfl
theorem Mm(G:List (List DV))(p:PD)(hp:p.ok)(i:Nat)(hi:i<p.nf):aa prog G 76 [p.A,.c (.d (.int .i64 i))] (.c (.d (.int .i64 (cO p 0 i)))):=by
 have hx:=λlv=>Zn hp lv (i:Int) (by omega) (by omega)
 have hc:=lN G (p.fm i).1 (p.fm i).2;simp only[ac9]at hx;refine aa.en func76 rfl λ_=>aar ?_;refine acX 1 hc hx ?_;exact aaV (aq.rt rfl 4 (by rfl))
theorem nj(n:Nd):(aN n).length<=4:=by
 have:=lR n.op;unfold aN
 grind
theorem Er(p:PD)(lv:Key->LB)(hp:p.ok)(i:Nat)(hi:i<p.nn):ak prog 24 lv (.c (eG p.nodes)) (.c (.d (.int .i64 (i:Int))))=some (.c (.d (.ptr (p.nd i).e)),[],[],True):=by
 have:=V1 hp lv (i:Int) (by omega) (by omega)
 grind
theorem Rs(m:Int)(p:PD)(hp:p.ok)(i:Nat)(hi:i<p.nn)(hn2:p.nn<=1000):aa prog (GG m) 78 [p.A,.c (.d (.int .i64 i))] (.c (.d (.int .i64 (cO p 2 i)))):=by
 have hx:=λlv=>Er p lv hp i hi
 have hE:cO p 2 i=kj p i (p.nd i):=rfl;rw[hE];obtain⟨n,hn⟩:∃n,p.nd i=n:=⟨_,rfl⟩
 simp only[hn]at hx⊢;have hkn:=GD (GG m) n.op;have hwf:=jO (GG m) n.f p.nf;have hwa:=jO (GG m) n.a p.ni;have hws:=jO (GG m) n.a p.ns;have lvN:List CV:=[.d (.int .i64 n.op),.d (.int .i64 n.a),.d (.int .i64 n.b),.d (.int .i64 n.c),.d (.int .i64 n.d),.d (.int .i64 n.f),.d (.str n.v)]
 refine aa.en func78 rfl λ_=>aar ?_;refine acv hx @aj.eq_1 ?_;refine aae λK hK=>abd (aae λK1 hK1=>?_)
 by_cases h1:1<=n.op/\n.op<=15
 rotate_left
 ·have hd:decide (1<=n.op/\n.op<=15)=false:=decide_eq_false h1;have hr:kj p i n=2:=by unfold kj;rw[if_pos h1]
  rw[hd]at hkn;refine AW.m0 2 hkn (hK1 _ _ ?_);refine abA (aar ?_);exact aaV (aq.rt rfl 4 (by simp[hr]))
 have hid:=Rj m n h1.1 h1.2;have hd:decide (1<=n.op/\n.op<=15)=true:=decide_eq_true h1;rw[hd]at hkn
 cases hib:kE n with
 |false=>
  have hr:kj p i n=2:=by unfold kj;rw[if_neg (not_not_intro h1),if_pos hib]
  rw[hib]at hid;refine aaJ ?_;simp;refine ag.p 2 9 hkn ?_;simp;refine ag.p 2 9 hid ?_;simp;apply hK1;refine abA (aar ?_);exact aaV (aq.rt rfl 4 (by simp[hr]))
 |true=>
 rw[hib]at hid;have ib:¬kE n=false:=by rw[hib];decide
 refine aaJ ?_;simp;refine ag.p 2 9 hkn ?_;simp;refine ag.p 2 9 hid ?_;simp;apply hK1;refine abg (aae λK1 hK1=>?_)
 by_cases h2:0<=n.f/\n.f<p.nf
 rotate_left
 ·have hd2:decide (0<=n.f/\n.f<(p.nf:Int))=false:=decide_eq_false h2;have hr:kj p i n=7:=by unfold kj;rw[if_neg (not_not_intro h1),if_neg ib,if_pos h2]
  rw[hd2]at hwf;refine ada 2 hwf @CJ (hK1 _ _ ?_);refine abA (aar ?_);exact aaV (aq.rt rfl 4 (by simp[hr]))
 have hd2:decide (0<=n.f/\n.f<(p.nf:Int))=true:=decide_eq_true h2;rw[hd2]at hwf;refine ada 2 hwf @CJ (hK1 _ _ ?_);refine abg ?_
 have r2:kj p i n=if n.op=1/\¬(0<=n.a/\n.a<p.ni)then 7 else if n.op=1/\(p.Bc n.a.toNat).f≠n.f then 143 else if n.op=2/\((i:Int)<p.head\/¬(0<=n.a/\n.a<p.ns))then 7 else if n.op=3 then eX n.v else if (aN n).all (dH p i)then 0 else 7:=by
  unfold kj;rw[if_neg (not_not_intro h1),if_neg ib,if_neg (not_not_intro h2)]
 have tail:∀(fr:Nat->AV) (κ:Nat),fr 1=.c (.d (.int .i64 i))->fr 2=.c (.ptr 0 0)->fr 5=.c (.ptr 1 0)->(kj p i n=if (aN n).all (dH p i)then 0 else 7) ->
  K ⟨fr,au (au (λ_=>.hole) 0 (.cells true false 145 p.cs)) 1 (.cells true false 40 [.d (.int .i64 n.op),.d (.int .i64 n.a),.d (.int .i64 n.b),.d (.int .i64 n.c),.d (.int .i64 n.d),.d (.int .i64 n.f),.d (.str n.v)])⟩ κ:=by
  intro fr κ z1 z2 z5 hr;have hks:=JN m n;have hkl:=nj n;have lpk:∀lv,dm prog 30 lv (.c (zC (jF n)))=some (.c (.d (.int .i64 (aN n).length)),[],[],True):=λlv=>by rw[Vv (by simp),qN]
  have ixk:∀lv (j:Nat) (hj:j<(aN n).length),ak prog 30 lv (.c (zC (jF n))) (.c (.d (.int .i64 (j:Int))))=some (.c (.d (.ptr [.int .i64 (aN n)[j]])),[],[],True):=λlv j hj=>by
   rw[Wh (by simp) lv _ (by rw[qN];exact hj)];simp only[qN]
  generalize jF n=ko at*
  generalize aN n=kl at*
  apply hK;refine aae λK3 hK3=>AW.c2 2 hks z5 lpk ?_;refine abd ?_
  refine aco (λ(j:Nat)=>⟨aJ [(1,.c (.d (.int .i64 i))),(2,.c (.ptr 0 0)),(93,.c (zC ko)),(94,.c (.d (.int .i64 kl.length))),(95,.c (.d (.int .i64 j)))],
   au (au (λ_=>.hole) 0 (.cells true false 145 p.cs)) 1 (.cells true false 40 [.d (.int .i64 n.op),.d (.int .i64 n.a),.d (.int .i64 n.b),.d (.int .i64 n.c),.d (.int .i64 n.d),.d (.int .i64 n.f),.d (.str n.v)])⟩) 2
   (λj=>j<=kl.length/\∀q (hq:q<j) (h:q<kl.length),dH p i kl[q]=true) (λj=>kl.length-j) 0 (Le.pq _ (by simp) (by simp[z1,z2])) ⟨ac1 _,λq hq=>absurd hq (adT q)⟩ ?_
  rintro j ⟨hj,hall⟩
  try simp only at hj hall
  refine aar ?_;refine aae λK6 hK6=>?_
  by_cases hlt:j<kl.length
  ·have hlt':(j:Int)<(kl.length:Int):=by omega
   refine abz (by simp<;>omega) (aaE (hK6 _ _ (aae λK7 hK7=>abd (aae λK8 hK8=>?_))));have hxk:=λlv=>ixk lv j hlt
   refine acC hxk (hK8 _ _ ?_);refine aae λK8 hK8=>?_;have hse:=Rp (GG m) p i kl[j];refine AW.m0 2 hse (hK8 _ _ ?_)
   cases hs:dH p i kl[j]with
   |true=>
    refine abg (aaE (hK7 _ _ ?_));have f12:=bE (n:=(j:Int)+1) (by omega) (by omega);refine aaJ ?_;simp[f12];refine⟨j+1,Le.pq _,⟨by omega,λq hq h=>?_⟩,by omega⟩
    grind
   |false=>
    refine abA (aar ?_)
    have hb:kj p i n=7:=by
     rw[hr,if_neg];rw[Bool.not_eq_true,afS];exact⟨kl[j],aZ hlt,by rw[hs];decide⟩
    exact aaV (aq.rt rfl 4 (by simp[hb]))
  ·have hlt':¬(j:Int)<(kl.length:Int):=by omega
   refine abD (by simp<;>omega) (abX (hK3 _ _ ?_))
   have hb:kj p i n=0:=by
    rw[hr,if_pos];rw[ab3];intro x hx;obtain⟨q,hq,rfl⟩:=List.mem_iff_getElem.1 hx;exact hall q (by omega) hq
   refine aar ?_;exact aaV (aq.rt rfl 4 (by simp[hb]))
 by_cases h3:n.op=1
 ·have n2:¬n.op=2:=by omega
  have n3:¬n.op=3:=by omega
  have t3:(n.op=1)=True:=eq_true h3
  by_cases h4:0<=n.a/\n.a<p.ni
  rotate_left
  ·have hd4:decide (0<=n.a/\n.a<(p.ni:Int))=false:=decide_eq_false h4;have hr:kj p i n=7:=by rw[r2,if_pos ⟨h3,h4⟩]
   rw[hd4]at hwa;refine AW.c2 2 hwa t3 @ME ?_;refine abA (aar ?_);exact aaV (aq.rt rfl 4 (by simp[hr]))
  have hd4:decide (0<=n.a/\n.a<(p.ni:Int))=true:=decide_eq_true h4;rw[hd4]at hwa;have hxi:=λlv=>YE hp lv n.a h4.1 h4.2
  refine AW.c2 2 hwa t3 @ME ?_;refine abg (aae λK1 hK1=>?_)
  by_cases h5:(p.Bc n.a.toNat).f=n.f
  ·have hr:kj p i n=if (aN n).all (dH p i)then 0 else 7:=by
    rw[r2,if_neg (λh=>h.2 h4),if_neg (λh=>h.2 h5),if_neg (λh=>n2 h.1),if_neg n3]
   refine AW.el3 mixed t3 hxi h5 (hK1 _ _ ?_);refine abg (acf n2 ?_);refine abg (acf n3 ?_);refine abg (aaE ?_)
   simp_all
  ·have hr:kj p i n=143:=by rw[r2,if_neg (λh=>h.2 h4),if_pos ⟨h3,h5⟩]
   refine AW.el3 mixed t3 hxi h5 (hK1 _ _ ?_);refine abA (aar ?_);exact aaV (aq.rt rfl 4 (by simp[hr]))
 refine acf h3 ?_;refine abg (AW.e1 mixed h3 ?_);refine abg ?_
 have r3:kj p i n=if n.op=2/\((i:Int)<p.head\/¬(0<=n.a/\n.a<p.ns))then 7 else if n.op=3 then eX n.v else if (aN n).all (dH p i)then 0 else 7:=by
  rw[r2,if_neg (λh=>h3 h.1),if_neg (λh=>h3 h.1)]
 refine aae λK1 hK1=>?_
 by_cases h6:n.op=2
 ·have n3:¬n.op=3:=by omega
  have t6:(n.op=2)=True:=eq_true h6
  by_cases h7:(i:Int)<p.head
  ·have hr:kj p i n=7:=by rw[r3,if_pos ⟨h6,.inl h7⟩]
   refine acJ t6 h7 (hK1 _ _ ?_);refine abA (aar ?_);exact aaV (aq.rt rfl 4 (by simp[hr]))
  by_cases h8:0<=n.a/\n.a<p.ns
  ·have hd8:decide (0<=n.a/\n.a<(p.ns:Int))=true:=decide_eq_true h8;rw[hd8]at hws
   have hr:kj p i n=if (aN n).all (dH p i)then 0 else 7:=by
    rw[r3,if_neg (λh=>h.2.elim h7 (λh=>h h8)),if_neg n3]
   refine aaJ ?_;simp[t6,h7,Eb];refine ag.p 2 9 hws ?_;simp;apply hK1;refine abg (acf n3 ?_);refine abg (aaE ?_)
   simp_all
  ·have hd8:decide (0<=n.a/\n.a<(p.ns:Int))=false:=decide_eq_false h8;rw[hd8]at hws;have hr:kj p i n=7:=by rw[r3,if_pos ⟨h6,.inr h8⟩]
   refine aaJ ?_;simp[t6,h7,Eb];refine ag.p 2 9 hws ?_;simp;apply hK1;refine abA (aar ?_);exact aaV (aq.rt rfl 4 (by simp[hr]))
 refine acC h6 (hK1 _ _ ?_);refine abg (aae λK1 hK1=>?_)
 have r4:kj p i n=if n.op=3 then eX n.v else if (aN n).all (dH p i)then 0 else 7:=by
  rw[r3,if_neg (λh=>h6 h.1)]
 by_cases h9:n.op=3
 ·have hr:kj p i n=eX n.v:=by rw[r4,if_pos h9]
  have hck:=Mr m n.v;rw[<-hr]at hck;refine acC h9 (hK1 _ _ ?_);refine abA (acF 2 hck ?_);exact aaV (aq.rt rfl 4 (by simp))
 ·have hr:kj p i n=if (aN n).all (dH p i)then 0 else 7:=by rw[r4,if_neg h9]
  refine acC h9 (hK1 _ _ ?_);refine abg (aaE ?_)
  simp_all
@[simp] def Yg(x:Rat):List CV:=[.d (.bool (decide (x.num<0))),nC (fB x.num.natAbs),nC (iV x.den)]
theorem Nn:tv prog 178=some (2,177,3):=by kernel_rfl
theorem aa1(lv:Key->LB)(κ:Key)(h:lv κ=.hole)(a b:CV):ai prog 189 2 [0,1] lv κ [.c a,.c b]=some (.c (.aE κ 0 2 1),[(κ,.cells true false 36 [a,b])],[],True):=by
 unfold ai;rw[h];rfl
theorem M0(m:Int)(p:PD)(hp:p.ok)(i:Nat)(hi:i<p.ni):aa prog (GG m) 77 [p.A,.c (.d (.int .i64 i))] (.c (.d (.int .i64 (cO p 1 i)))):=by
 have hx:=λlv=>YE hp lv (i:Int) (by omega) (by omega)
 simp only[ac9]at hx;have hE:cO p 1 i=uR p (p.Bc i):=rfl;rw[hE];generalize p.Bc i=x at*
 have hwf:=jO (GG m) x.f p.nf;have hP1:=B5 m x.lo;have hP2:=B5 m x.hi;have q1:i64.wrap 1=1:=by decide
 have q2:i64.wrap 2=2:=by decide
 have z1:=yo x.lo;have z2:=yo x.hi;refine aa.Sh func77 rfl λ_=>aar ?_;refine acv hx @aj.eq_1 ?_;refine aae λK hK=>aae λK1 hK1=>?_
 by_cases h1:0<=x.f/\x.f<p.nf
 rotate_left
 ·have hd:decide (0<=x.f/\x.f<(p.nf:Int))=false:=decide_eq_false h1;have hr:uR p x=7:=by unfold uR;rw[if_pos h1]
  rw[hd]at hwf;refine ada 2 hwf @CJ (hK1 _ _ ?_);refine abA (aar ?_);exact aaV (aq.rt (t:=4) rfl 9 (by simp[hr]))
 have hd:decide (0<=x.f/\x.f<(p.nf:Int))=true:=decide_eq_true h1;rw[hd]at hwf
 have r1:uR p x=if eX x.lo≠0 then eX x.lo else if eX x.hi≠0 then eX x.hi else if hasB (p.fm x.f.toNat).1 (p.fm x.f.toNat).2 (gp x.lo)=false then 7
  else if hasB (p.fm x.f.toNat).1 (p.fm x.f.toNat).2 (gp x.hi)=false then 7 else if 0<jc (gp x.lo) (gp x.hi)then 7 else 0:=by
  unfold uR;rw[if_neg (not_not_intro h1)]
 refine ada 2 hwf @CJ (hK1 _ _ ?_);refine abg (aaE (hK _ _ (aar ?_)));refine aae λK hK=>aae λK1 hK1=>?_;have hbs:∀(lv:Key->LB) (h:lv 3=.hole),ai prog 189 2 [0,1] lv 3 [.c (.d (.str x.lo)),.c (.d (.str x.hi))]=some (.c (.aE 3 0 2 1),[(3,.cells true false 36 [.d (.str x.lo),.d (.str x.hi)])],[],True):=λlv h=>aa1 lv 3 h _ _
 refine aaJ ?_;simp[hbs,-ai];apply hK1;refine abd ?_
 refine aco (λ(k:Nat)=>⟨aJ [(2,.c (.ptr 0 0)),(5,.c (.ptr 1 0)),(6,.c (.ptr 2 0)),(30,.c (.aE 3 0 2 1)),(31,.c (.d (.int .i64 2))),(32,.c (.d (.int .i64 k)))],
  au (au (au (au (λ_=>.hole) 0 (.cells true false 145 p.cs)) 1 (.cells true false 38 [.d (.int .i64 x.f),.d (.str x.lo),.d (.str x.hi)])) 2 (.cells true false 178 (Yg (if 0<k then gp x.lo else 0)++Yg (if 1<k then gp x.hi else 0)))) 3 (.cells true false 36 [.d (.str x.lo),.d (.str x.hi)])⟩) 4
  (λk=>k<=2/\(0<k->eX x.lo=0)/\(1<k->eX x.hi=0)) (λk=>2-k) 0 (Le.pq _ (by rfl)) ⟨by omega,λh=>absurd h (by omega),λh=>absurd h (by omega)⟩ ?_
 rintro k ⟨hk,k1,k2⟩
 try simp only at hk k1 k2
 refine aar ?_;refine aae λK2 hK2=>?_;have hkc:k=0\/k=1\/k=2:=by omega
 rcases hkc with rfl|rfl|rfl
 ·refine abA (aaE (hK2 _ _ (aae λK3 hK3=>abd (aar ?_))));refine acX 4 hP1 @aj.eq_1 ?_;refine aae λK4 hK4=>aar ?_
  by_cases he:eX x.lo=0
  ·refine abD (by simp[he]<;>omega) (aaE (hK4 _ _ (acZ Nn @oL @aj.eq_1 (hK3 _ _ ?_))));refine aaJ ?_;simp[q1];exact⟨1,(Le.Cl [4] 9),⟨by omega,λ_=>he,λh=>absurd h (by omega)⟩,by omega⟩
  ·have hr:uR p x=eX x.lo:=by rw[r1,if_pos he]
   refine abz (by simp_all) (aar ?_);exact aaV (aq.rt (t:=4) rfl 9 (by simp[hr]))
 ·refine abA (aaE (hK2 _ _ (aae λK3 hK3=>abd (aar ?_))));refine acX 4 hP2 @aj.eq_1 ?_;refine aae λK4 hK4=>aar ?_
  by_cases he:eX x.hi=0
  ·refine abD (by simp_all) (aaE (hK4 _ _ (acZ Nn @oL @aj.eq_1 (hK3 _ _ ?_))));refine aaJ ?_;simp[q2];exact⟨2,(Le.Cl [4] 9),⟨by omega,λ_=>k1 (by omega),λ_=>he⟩,by omega⟩
  ·have hr:uR p x=eX x.hi:=by rw[r1,if_neg (not_not_intro (k1 (by omega))),if_pos he]
   refine abz (by simp_all) (aar ?_);exact aaV (aq.rt (t:=4) rfl 9 (by simp[hr]))
 ·have r2:uR p x=if hasB (p.fm x.f.toNat).1 (p.fm x.f.toNat).2 (gp x.lo)=false then 7
   else if hasB (p.fm x.f.toNat).1 (p.fm x.f.toNat).2 (gp x.hi)=false then 7 else if 0<jc (gp x.lo) (gp x.hi)then 7 else 0:=by
   rw[r1,if_neg (not_not_intro (k1 (by omega))),if_neg (not_not_intro (k2 (by omega)))]
  refine abg (abX (hK _ _ ?_));have hxf:=λlv=>Zn hp lv x.f h1.1 h1.2
  generalize p.fm x.f.toNat=fe at*
  have hb1:=tW (GG m) fe.1 fe.2 (gp x.lo) z1;have hb2:=tW (GG m) fe.1 fe.2 (gp x.hi) z2;have hcm:=JM (GG m) (gp x.lo) (gp x.hi) (ct z1 (by omega)) (ct z2 (by omega));generalize gp x.lo=a at*
  generalize gp x.hi=b at*
  refine acv hxf @aj.eq_1 ?_;refine aae λK3 hK3=>aae λK4 hK4=>?_
  cases g1:hasB fe.1 fe.2 a with
  |false=>
   have hr:uR p x=7:=by rw[r2,if_pos g1]
   rw[g1]at hb1;refine ada 5 hb1 Nn (hK4 _ _ ?_);refine abA (aar ?_);exact aaV (aq.rt (t:=4) rfl 9 (by simp[hr]))
  |true=>
  rw[g1]at hb1
  cases g2:hasB fe.1 fe.2 b with
  |false=>
   have hr:uR p x=7:=by rw[r2,g1,if_neg (by decide),if_pos g2]
   rw[g2]at hb2;refine aaJ ?_;simp;refine ag.p 5 9 hb1 ?_;simp;refine ag.p 5 9 hb2 ?_;simp;apply hK4;refine abA (aar ?_);exact aaV (aq.rt (t:=4) rfl 9 (by simp[hr]))
  |true=>
  rw[g2]at hb2
  by_cases g3:0<jc a b
  ·have hr:uR p x=7:=by rw[r2,g1,if_neg (by decide),g2,if_neg (by decide),if_pos g3]
   refine aaJ ?_;simp;refine ag.p 5 9 hb1 ?_;simp;refine ag.p 5 9 hb2 ?_;simp;refine ag.p 5 9 hcm ?_;simp;apply hK4;refine abz (by simp_all) (aar ?_);exact aaV (aq.rt (t:=4) rfl 9 (by simp[hr]))
  ·have hr:uR p x=0:=by rw[r2,g1,if_neg (by decide),g2,if_neg (by decide),if_neg g3]
   refine aaJ ?_;simp;refine ag.p 5 9 hb1 ?_;simp;refine ag.p 5 9 hb2 ?_;simp;refine ag.p 5 9 hcm ?_;simp;apply hK4;refine abD (by simp_all) (aaE (hK3 _ _ (aar ?_)));exact aaV (aq.rt (t:=4) rfl 9 (by simp[hr]))
@[simp]theorem Ub{k0 k1:Key}{b0 b1:LB}(h0:lv k0=b0)(h1:lv k1=b1):bk lv [(k0,b0),(k1,b1)]=lv:=by
 subst h0;subst h1;funext k;simp only[bk,List.foldl,au];split
 ·rename_i h;rw[h]
 ·split
  ·rename_i h;rw[h]
  ·rfl
abbrev cI(i:Int):List CV:=[.d (.int .i64 i)]
abbrev bI(i:Int):LB:=.cells false false 3 (cI i)
theorem OT(G:List (List DV))(n:Nd)(i f:Int):aD prog G 132 [n.A,.c (.ptr 0 0),.c (.ptr 1 0)] [bI i,bI f] (.ret (.c (.d (.bool (jm i f n)))) [bI i,bI f] []):=by
 refine aD.en2 func132 rfl (by simp) (by simp) (λr hr=>⟨_,List.mem_singleton.1 hr⟩) λ_=>aar ?_;refine aae λK hK=>?_
 by_cases h1:n.op=2
 ·by_cases h2:n.a=i
  ·by_cases h3:n.f=f
   ·refine acZ h1 h2 h3 (hK _ _ ?_);exact acm (κ:=0) (Aq.tmp (κ:=0) rfl 9 (by simp[jm,h1,h2,h3]) rfl (by simp) (by simp) (by simp) rfl)
   ·refine acZ h1 h2 h3 (hK _ _ ?_);exact acm (κ:=0) (Aq.tmp (κ:=0) rfl 9 (by simp[jm,h1,h2,h3]) rfl (by simp) (by simp) (by simp) rfl)
  ·refine acJ h1 h2 (hK _ _ ?_);exact acm (κ:=0) (Aq.tmp (κ:=0) rfl 9 (by simp[jm,h1,h2]) rfl (by simp) (by simp) (by simp) rfl)
 ·refine acC h1 (hK _ _ ?_);exact acm (κ:=0) (Aq.tmp (κ:=0) rfl 9 (by simp[jm,h1]) rfl (by simp) (by simp) (by simp) rfl)
def Gu(i f:Int)(p:PD):Int:=match (List.range p.nn).find? (λj=>jm i f (p.nd j))with
 |some j=>j
 |none=>-1
theorem Qh(i f:Int)(p:PD):decide (0<=Gu i f p)=(List.range p.nn).any (λj=>jm i f (p.nd j)):=by
 unfold Gu
 grind
abbrev clO:AV:=.c (.func (.func 132) [] [.ptr 0 0,.ptr 1 0])
theorem PJ(n:Nd){f:Int}(h0:lv 0=bI i)(h1:lv 1=bI f)(ha:a∈[n.A,.c (.ptr 0 0),.c (.ptr 1 0)])(hk:k∈pz lv a):k∈[9,0,1]:=by
 simp only[fy,aa8,or_false]at ha;rcases ha with rfl|rfl|rfl
 ·rw[jr rfl]at hk;cases hk
 ·simp[pz,kM,h0]at hk;simp[hk]
 ·simp[pz,kM,h1]at hk;simp[hk]
theorem PK(p:PD){fn:Fn}{fs cs:List Ref}{R:List Key}(ha:a∈[AV.c (eG p.nodes),.c (.func fn fs cs)])(hk:k∈pz lv a):k∈R:=by
 simp only[fy,aa8,or_false]at ha;rcases ha with rfl|rfl
 ·rw[jr (by simp)]at hk;cases hk
 ·cases hk
theorem RX(G:List (List DV))(p:PD)(hp:p.ok)(hn:p.nn<=1000)(i f:Int):aD prog G 179 [.c (eG p.nodes),clO] [bI i,bI f] (.ret (.c (.d (.int .i64 (Gu i f p)))) [bI i,bI f] []):=by
 have ho:=λj=>OT G (p.nd j) i f
 refine aD.en2 func179 rfl (by simp) (by simp) (λr hr=>⟨_,List.mem_singleton.1 hr⟩) λ_=>aar ?_;refine aae λK hK=>acf @nR ?_;refine abd ?_
 refine aco (λ(j:Nat)=>⟨aJ [(0,.c (eG p.nodes)),(1,clO),(7,.c (.d (.int .i64 p.nn))),(8,.c (.d (.int .i64 j)))],au (au (λ_=>.hole) 0 (bI i)) 1 (bI f)⟩) 1000
  (λj=>j<=p.nn/\∀q,q<j->jm i f (p.nd q)=false) (λj=>p.nn-j) 0 (Le.pq _) ⟨by omega,λq hq=>absurd hq (adT q)⟩ ?_
 rintro j ⟨hj,hall⟩
 try simp only at hj hall
 refine aar ?_;refine aae λK2 hK2=>?_
 by_cases hlt:j<p.nn
 ·have hlt':(j:Int)<(p.nn:Int):=by omega
  refine abz (by simp<;>omega) (aaE (hK2 _ _ (aae λK3 hK3=>abd (aar ?_))));refine aae λK4 hK4=>?_;have hx:=λlv=>Er p lv hp j hlt
  refine aaJ ?_;simp[hx,Lr,CL,uk];refine ag.Pu (T0:=3) (T1:=3) (cs0:=cI i) (cs1:=cI f) 1000 9 0 1 false [9,0,1] (ho j) rfl rfl rfl (by simp) (by simp) (by decide) rfl rfl ?_ ?_ (by simp) ?_
  ·intro a b c;have:a=0\/a=1\/a=2:=by simp at b;omega
   rcases this with rfl|rfl|rfl<;>exact⟨rfl,rfl⟩
  ·intro a ha k hk;exact PJ (p.nd j) (i:=i) (f:=f) (by simp) (by simp) ha hk
  simp;apply hK4
  cases hs:jm i f (p.nd j)with
  |true=>
   refine abA (aar ?_)
   have hr:Gu i f p=j:=by
    unfold Gu
    have:(List.range p.nn).find? (λj=>jm i f (p.nd j))=some j:=by
     rw[List.find?_range_eq_some];exact⟨hs,List.mem_range.2 hlt,λq hq=>by rw[hall q hq];rfl⟩
    rw[this]
   exact acm (κ:=0) (Aq.tmp (κ:=0) rfl 9 (by simp[hr]) rfl (by simp) (by simp) (by simp) rfl)
  |false=>
   refine abg (aaE (hK3 _ _ ?_));have f12:=bE (n:=(j:Int)+1) (by omega) (by omega);refine aaJ ?_;simp[f12];refine⟨j+1,Le.pq _,⟨by omega,λq hq=>?_⟩,by omega⟩
   grind
 ·have hlt':¬(j:Int)<(p.nn:Int):=by omega
  refine abD (by simp<;>omega) (abX (hK _ _ (aar ?_)))
  have hr:Gu i f p = -1:=by
   unfold Gu
   have:(List.range p.nn).find? (λj=>jm i f (p.nd j))=none:=by
    rw[List.find?_eq_none];intro q hq;rw[hall q (by have:=List.mem_range.1 hq;omega)];decide
   rw[this]
  exact acm (κ:=0) (Aq.tmp (κ:=0) rfl 9 (by simp[hr]) rfl (by simp) (by simp) (by simp) rfl)
theorem Nc(G:List (List DV))(p:PD)(hp:p.ok)(hn:p.nn<=1000)(i f:Int):aD prog G 133 [.c (eG p.nodes),clO] [bI i,bI f] (.ret (.c (.d (.bool ((List.range p.nn).any λj=>jm i f (p.nd j))))) [bI i,bI f] []):=by
 have hx:=RX G p hp hn i f;rw[<-Qh];generalize Gu i f p=r at*
 refine aD.en2 func133 rfl (by simp) (by simp) (λr hr=>⟨_,List.mem_singleton.1 hr⟩) λ_=>aar ?_;refine abU λK hK=>?_;simp;refine ag.Pu (T0:=3) (T1:=3) (cs0:=cI i) (cs1:=cI f) 1000 9 0 1 false [9] hx rfl rfl rfl (by simp) (by simp) (by decide) rfl rfl ?_ ?_ (by simp) ?_
 ·intro a b c;have:a=0\/a=1:=by simp at b;omega
  rcases this with rfl|rfl
  ·simp
  ·exact⟨rfl,rfl⟩
 ·intro a ha k hk;exact PK p ha hk
 simp;apply hK;exact acm (κ:=0) (Aq.tmp (κ:=0) rfl 9 (by simp) rfl (by simp) (by simp) (by simp) rfl)
theorem fD(h:eI p=0):0<=p.head/\p.head<=p.tail/\p.tail<=p.nn/\p.nf<=6/\p.ni<=6/\p.nn<=64/\p.ns<=4:=by
 unfold eI at h;unfold PD.nf PD.ni PD.nn PD.ns;omega
theorem Pn(m:Int)(p:PD)(hp:p.ok)(hg:eI p=0)(i:Nat)(hi:i<p.ns):aa prog (GG m) 79 [p.A,.c (.d (.int .i64 i))] (.c (.d (.int .i64 (cO p 3 i)))):=by
 obtain⟨g1,g2,g3,_,_,g4,_⟩:=fD hg;have hx:=λlv=>Zi hp lv (i:Int) (by omega) (by omega)
 simp only[ac9]at hx;have hE:cO p 3 i=tS p i (p.st i):=rfl;rw[hE];generalize p.st i=s at*
 have hw1:=jO (GG m) s.1 p.head;have hw2:=jO (GG m) s.2 p.tail;refine aa.en func79 rfl λ_=>aar ?_;refine acv hx @aj.eq_1 ?_;refine aae λK hK=>aae λK1 hK1=>?_
 by_cases h1:0<=s.1/\s.1<p.head
 rotate_left
 ·have hd:decide (0<=s.1/\s.1<p.head)=false:=decide_eq_false h1;have hr:tS p i s=7:=by unfold tS;rw[if_pos h1]
  rw[hd]at hw1;refine AW.m0 3 hw1 (hK1 _ _ ?_);refine abA (aar ?_);exact aaV (aq.rt rfl 4 (by simp[hr]))
 have hd:decide (0<=s.1/\s.1<p.head)=true:=decide_eq_true h1;rw[hd]at hw1
 by_cases h2:0<=s.2/\s.2<p.tail
 rotate_left
 ·have hd2:decide (0<=s.2/\s.2<p.tail)=false:=decide_eq_false h2;have hr:tS p i s=7:=by unfold tS;rw[if_neg (not_not_intro h1),if_pos h2]
  rw[hd2]at hw2;refine aaJ ?_;simp;refine ag.p 3 9 hw1 ?_;simp;refine ag.p 3 9 hw2 ?_;simp;apply hK1;refine abA (aar ?_);exact aaV (aq.rt rfl 4 (by simp[hr]))
 have hd2:decide (0<=s.2/\s.2<p.tail)=true:=decide_eq_true h2;rw[hd2]at hw2;refine aaJ ?_;simp;refine ag.p 3 9 hw1 ?_;simp;refine ag.p 3 9 hw2 ?_;simp;apply hK1;refine abg (aaE (hK _ _ (aae λK hK=>?_)));have x1:=λlv=>V1 hp lv s.1 h1.1 (by omega)
 have x2:=λlv=>V1 hp lv s.2 h2.1 (by omega)
 have hr:tS p i s=if (p.nd s.2.toNat).f≠(p.nd s.1.toNat).f then 143 else if (List.range p.nn).any (λj=>jm i (p.nd s.1.toNat).f (p.nd j))then 143 else 0:=by
  unfold tS;rw[if_neg (not_not_intro h1),if_neg (not_not_intro h2)]
 generalize p.nd s.1.toNat=n1 at*
 generalize p.nd s.2.toNat=n2 at*
 refine acJ x1 @aj.eq_1 (hK _ _ ?_);refine abU λK hK=>?_;simp[Mn,tV,Aw,Bk,jv];apply hK;refine aae λK hK=>aae λK1 hK1=>?_
 by_cases h3:n2.f=n1.f
 ·have hc:=Nc (GG m) p hp (by omega) i n1.f;refine acs mixed (by kernel_rfl) rfl ?_;simp[x2,h3];refine ag.Pu (T0:=3) (T1:=3) (cs0:=cI i) (cs1:=cI n1.f) 4 9 1 3 true [9] hc rfl rfl rfl (by simp) (by simp) (by decide) rfl rfl ?_ ?_ (by simp) ?_
  ·intro a b c;have:a=0\/a=1:=by simp at b;omega
   rcases this with rfl|rfl
   ·simp
   ·exact⟨rfl,rfl⟩
  ·intro a ha k hk;exact PK p ha hk
  simp;refine⟨by kernel_rfl,?_⟩;apply hK1
  cases hs:(List.range p.nn).any (λj=>jm i n1.f (p.nd j))with
  |true=>
   have hr2:tS p i s=143:=by rw[hr,if_neg (not_not_intro h3),if_pos hs]
   refine abA (aar ?_);exact aaV (aq.rt rfl 4 (by simp[hr2]))
  |false=>
   have hr2:tS p i s=0:=by rw[hr,if_neg (not_not_intro h3),hs,if_neg (by decide)]
   refine abg (aaE (hK _ _ (aar ?_)));exact aaV (aq.rt rfl 4 (by simp[hr2]))
 ·have hr2:tS p i s=143:=by rw[hr,if_pos h3]
  refine AW.dl2 mixed x2 h3 (hK1 _ _ ?_);refine abA (aar ?_);exact aaV (aq.rt rfl 4 (by simp[hr2]))
def sD:Option (List (List DV))->DV
 |none=>.nilsl
 |some es=>.sl es
theorem sN(o:Option (List (List DV))):eG o=.d (sD o):=by cases o<;>rfl
def PD.Es(p:PD):List DV:=[sD p.f,.int .i64 p.mode,sD p.ins,sD p.nodes,.int .i64 p.head,.int .i64 p.tail,sD p.states,.int .i64 p.res]
theorem OD(p:PD):p.Es.map CV.d=p.cs:=by simp[PD.Es,sN]
theorem O5(p:PD):PM (.agg p.Es)=p.A:=by show AV.agg (p.Es.map CV.d)=_;rw[OD]
theorem MV(p:PD):rX p.cs=some p.Es:=by
 obtain⟨f,a,i,n,b,c,s,d⟩:=p
 cases f<;>cases i<;>cases n<;>cases s<;>rfl
theorem NI(p:PD)(f:FuncId):Mn (.func f) [.agg [eG p.f,.d (.int .i64 p.mode),eG p.ins,eG p.nodes,.d (.int .i64 p.head),.d (.int .i64 p.tail),eG p.states,.d (.int .i64 p.res)]] []=some (.c (.d (.func (.func f) [.agg p.Es] [])),[],[],True):=by
 have h:=MV p;simp only[PD.cs]at h;simp only[Mn,tV,Aw,h,Bk,jv];rfl
theorem abh(a b:CV):eO prog 148 [0,1] [.c a,.c b]=some (.agg [a,b],[],[],True):=by kernel_rfl
theorem WW(lv:Key->LB)(κ:Key)(h:lv κ=.hole)(a b c d e f g i:CV):ai prog 149 4 [0,1,2,3] lv κ [.agg [a,b],.agg [c,d],.agg [e,f],.agg [g,i]]=some (.c (.aE κ 0 4 2),[(κ,.cells true false 148 [a,b,c,d,e,f,g,i])],[],True):=by
 unfold ai;rw[h];rfl
theorem WI(p:PD):eO prog 145 [0] [.agg [eG p.f,.d (.int .i64 p.mode),eG p.ins,eG p.nodes,.d (.int .i64 p.head),.d (.int .i64 p.tail),eG p.states,.d (.int .i64 p.res)]]=some (.agg [eG p.f,.d (.int .i64 p.mode),eG p.ins,eG p.nodes,.d (.int .i64 p.head),.d (.int .i64 p.tail),eG p.states,.d (.int .i64 p.res)],[],[],True):=
 (show ∀a b c d e f g h:CV,eO prog 145 [0] [.agg [a,b,c,d,e,f,g,h]]=some (.agg [a,b,c,d,e,f,g,h],[],[],True) from λa b c d e f g h=>by kernel_rfl) _ _ _ _ _ _ _ _
def Uw(p:PD):List CV:=[.d (.int .i64 p.nf),.d (.func (.func 76) [.agg p.Es] []),.d (.int .i64 p.ni),.d (.func (.func 77) [.agg p.Es] []),.d (.int .i64 p.nn),.d (.func (.func 78) [.agg p.Es] []),.d (.int .i64 p.ns),.d (.func (.func 79) [.agg p.Es] [])]
@[simp]theorem ZE(p:PD)(g:Key->Key):(Uw p).map (CV.bJ g)=Uw p:=rfl
theorem Pt(p:PD)(k:Nat)(hk:k<4):fq prog 148 ((Uw p).drop (k*2))=some (.agg [.d (.int .i64 (jG p k)),.d (.func (.func (76+k)) [.agg p.Es] [])]):=by
 have h:k=0\/k=1\/k=2\/k=3:=by omega
 rcases h with rfl|rfl|rfl|rfl<;>simp[Uw,jG]
theorem Rz(m:Int)(p:PD)(hp:p.ok)(hg:eI p=0)(k:Nat)(hk:k<4)(i:Nat)(hi:i<jG p k):aa prog (GG m) (76+k) [p.A,.c (.d (.int .i64 i))] (.c (.d (.int .i64 (cO p k i)))):=by
 have h:k=0\/k=1\/k=2\/k=3:=by omega
 have hr:=fD hg;rcases h with rfl|rfl|rfl|rfl
 ·exact Mm _ p hp i hi
 ·exact M0 m p hp i hi
 ·exact Rs m p hp i hi (by omega)
 ·exact Pn m p hp hg i hi
theorem Sy(k:Nat)(hk:k<4):aH prog (76+k)=true:=by
 have h:k=0\/k=1\/k=2\/k=3:=by omega
 rcases h with rfl|rfl|rfl|rfl<;>simp
theorem RN(hg:eI p=0)(k:Nat)(hk:k<4):jG p k<=64:=by
 have h:k=0\/k=1\/k=2\/k=3:=by omega
 have hr:=fD hg;rcases h with rfl|rfl|rfl|rfl<;>simp only[jG]<;>omega
theorem NJ(m:Int)(p:PD)(hp:p.ok):aa prog (GG m) 41 [p.A] (.tup [.c (.d (.int .i64 (gj p).1)),.c (.d (.int .i64 (gj p).2.1)),.c (.d (.int .i64 (gj p).2.2))]):=by
 have hge:=Jl (GG m) p;have hbl:∀lv (h:lv 2=.hole) (a b c d e f g i:CV),ai prog 149 4 [0,1,2,3] lv 2 [.agg [a,b],.agg [c,d],.agg [e,f],.agg [g,i]]=some (.c (.aE 2 0 4 2),[(2,.cells true false 148 [a,b,c,d,e,f,g,i])],[],True):=λlv h=>WW lv 2 h
 by_cases hg:eI p=0
 rotate_left
 ·have hr:gj p=(0,0,eI p):=by unfold gj;rw[if_pos hg]
  rw[hr];refine aa.en func41 rfl λ_=>aar ?_;refine acv @WI @aj.eq_1 ?_;refine aae λK hK=>acF 2 hge ?_;refine aar ?_;refine abz (by simp_all) (aar ?_);exact aaV (aq.t3 rfl 9 (by simp) (by simp) (by simp))
 have hr:gj p=dL p 4 0:=by unfold gj;rw[if_neg (not_not_intro hg)]
 rw[hr];rw[hg]at hge;have hwi:=jO (GG m) p.res p.nn;have hse:=th (GG m) p p.res;refine aa.Sh func41 rfl λ_=>aar ?_;refine acv @WI @aj.eq_1 ?_;refine aae λK hK=>acF 2 hge ?_;refine aar ?_;refine abg (aaE (hK _ _ (abU λK hK=>?_)));simp[CJ,ME,nR,Eb,NI,abh,hbl,-ai];apply hK;refine aae λK hK=>aar ?_;refine abd ?_
 refine aco (λ(k:Nat)=>⟨aJ [(1,.c (.ptr 0 0)),(5,.c (.ptr 1 0)),(44,.c (.aE 2 0 4 2)),(45,.c (.d (.int .i64 4))),(46,.c (.d (.int .i64 k)))],
  au (au (au (λ_=>.hole) 0 (.cells true false 27 p.cs)) 1 (.cells true false 145 p.cs)) 2 (.cells true false 148 (Uw p))⟩) 3
  (λk=>k<=4/\dL p (4-k) k=dL p 4 0) (λk=>4-k) 0 (Le.pq _ (by simp[Uw])) ⟨by omega,rfl⟩ ?_
 rintro k ⟨hk,hpv⟩
 try simp only at hk hpv
 refine aar ?_;refine aae λK2 hK2=>?_
 by_cases hlt:k<4
 ·have hlt':(k:Int)<4:=by omega
  have hld:=Pt p k hlt;have hle:=RN hg k hlt;have hfn:=Sy k hlt;have hca:=Rz m p hp hg k hlt
  have hstep:∀i,i<jG p k->cO p k i≠0->(∀j,j<i->cO p k j=0)->dL p 4 0=((k:Int)+1,(i:Int),cO p k i):=by
   intro i hi h0 h1;rw[<-hpv,show 4-k=(4-(k+1))+1 by omega];show(match jX (cO p k) (jG p k)with|some i=>((k:Int)+1,(i:Int),cO p k i)|none=>dL p (4-(k+1)) (k+1))=_;rw[w8 hi h0 h1]
  have hnext:(∀j,j<jG p k->cO p k j=0)->dL p (4-(k+1)) (k+1)=dL p 4 0:=by
   intro h1;rw[<-hpv,show 4-k=(4-(k+1))+1 by omega];show _=(match jX (cO p k) (jG p k)with|some i=>((k:Int)+1,(i:Int),cO p k i)|none=>dL p (4-(k+1)) (k+1))
   rw[xy h1]
  generalize jG p k=N at*
  generalize cO p k=E at*
  refine abz (by simp_all) (aaE (hK2 _ _ (aae λK3 hK3=>abd (abU λK4 hK4=>?_))));simp[hlt',hld,aj,-LS];apply hK4;refine aar ?_;refine abd ?_
  refine aco (λ(i:Nat)=>⟨aJ [(1,.c (.ptr 0 0)),(5,.c (.ptr 1 0)),(8,.c (.d (.int .i64 k))),(9,.c (.ptr 3 0)),(44,.c (.aE 2 0 4 2)),(45,.c (.d (.int .i64 4))),(46,.c (.d (.int .i64 k))),(52,.c (.d (.int .i64 N))),(53,.c (.d (.int .i64 i)))],
   au (au (au (au (λ_=>.hole) 0 (.cells true false 27 p.cs)) 1 (.cells true false 145 p.cs)) 2 (.cells true false 148 (Uw p))) 3 (.cells true false 148 [.d (.int .i64 N),.d (.func (.func (76+k)) [.agg p.Es] [])])⟩) 4
   (λi=>i<=N/\∀j,j<i->E j=0) (λi=>N-i) 0 (Le.pq _ (by simp)) ⟨by omega,λj hj=>absurd hj (adT j)⟩ ?_
  rintro i ⟨hi,hall⟩
  try simp only at hi hall
  refine aar ?_;refine aae λK6 hK6=>?_
  by_cases hlt2:i<N
  ·have hlt2':(i:Int)<(N:Int):=by omega
   have hc:=hca i hlt2;refine abz (by simp<;>omega) (aaE (hK6 _ _ (aae λK7 hK7=>abd (aar ?_))));refine AW.c4 4 hc @Lh @CL @O5 hfn ?_;refine aar ?_
   by_cases h0:E i=0
   ·refine abD (by simp_all) (aaE (hK7 _ _ ?_));have f12:=bE (n:=(i:Int)+1) (by omega) (by omega);refine aaJ ?_;simp[f12];refine⟨i+1,Le.pq _,⟨by omega,λj hj=>?_⟩,by omega⟩
    grind
   ·have hres:=hstep i hlt2 h0 hall;have f12:=bE (n:=(k:Int)+1) (by omega) (by omega);refine abz (by simp_all) (acf f12 ?_);exact aaV (aq.t3 rfl 9 (by simp[hres]) (by simp[hres]) (by simp[hres]))
  ·have hlt2':¬(i:Int)<(N:Int):=by omega
   refine abD (by simp<;>omega) (abX (hK3 _ _ ?_));have f12:=bE (n:=(k:Int)+1) (by omega) (by omega);refine aaJ ?_;simp[f12];exact⟨k+1,(Le.Cl [3] 9),⟨by omega,hnext λj hj=>hall j (by omega)⟩,by omega⟩
 ·have hlt':¬(k:Int)<4:=by omega
  have hk4:k=4:=by omega
  subst hk4;have hfin:dL p 4 0=if 0<=p.res/\p.res<p.nn/\fN p p.res≠1 then(0,0,0)else(5,0,7):=by rw[<-hpv];rfl
  refine abD (by rfl) (abX (hK _ _ (aae λK hK=>aae λK1 hK1=>?_)))
  by_cases h1:0<=p.res/\p.res<p.nn
  rotate_left
  ·have hd:decide (0<=p.res/\p.res<(p.nn:Int))=false:=decide_eq_false h1;have hres:dL p 4 0=(5,0,7):=by rw[hfin,if_neg (λh=>h1 ⟨h.1,h.2.1⟩)]
   rw[hd]at hwi;refine ada 3 hwi @nR (hK1 _ _ ?_);refine abA (aar ?_);exact aaV (aq.t3 rfl 9 (by simp[hres]) (by simp[hres]) (by simp[hres]))
  have hd:decide (0<=p.res/\p.res<(p.nn:Int))=true:=decide_eq_true h1;rw[hd]at hwi
  by_cases h2:fN p p.res=1
  ·have hres:dL p 4 0=(5,0,7):=by rw[hfin,if_neg (λh=>h.2.2 h2)]
   rw[h2]at hse;refine aaJ ?_;simp[nR];refine ag.p 3 9 hwi ?_;simp;refine ag.p 3 9 hse ?_;simp;apply hK1;refine abA (aar ?_);exact aaV (aq.t3 rfl 9 (by simp[hres]) (by simp[hres]) (by simp[hres]))
  ·have hres:dL p 4 0=(0,0,0):=by rw[hfin,if_pos ⟨h1.1,h1.2,h2⟩]
   refine aaJ ?_;simp[nR];refine ag.p 3 9 hwi ?_;simp;refine ag.p 3 9 hse ?_;simp[h2];apply hK1;refine abD (by rfl) (aaE (hK _ _ (aar ?_)));exact aaV (aq.t3 rfl 9 (by simp[hres]) (by simp[hres]) (by simp[hres]))
theorem E5(m:Int)(p:PD)(hp:p.ok):aa prog (GG m) 13 [p.A] (.c (.d (.int .i64 (gj p).2.2))):=by
 have h:=NJ m p hp;generalize gj p=v at*
 refine aa.en func13 rfl λ_=>aar ?_;refine acF 1 h ?_;refine aar ?_;exact aaV (aq.rt rfl 2 (by simp))
theorem acu(own fz:Bool)(T:TypeId)(l:List DV)(g:Key->Key):(LB.cells own fz T (l.map CV.d)).like (.cells own fz T (l.map CV.d)) g:=LB.tf.2 ⟨rfl,rfl,by simp,id⟩
theorem P7(T:TypeId)(p:PD)(g:Key->Key):(LB.cells true false T p.cs).like (.cells true false T p.cs) g:=by
 simp
theorem OU(l:List Int)(g:Key->Key):(LB.cells true false 3 (zK l)).like (.cells true false 3 (zK l)) g:=by
 rw[vD];simp
theorem Qf(h:lv k=.hole):au lv k .hole=lv:=by
 funext j
 simp_all
def zB(l:List Int):LB:=if l=[]then .hole else .cells true false 3 (zK l)
def Tf(k:Key)(l:List Int):AV:=if l=[]then .c (.d .nilsl)else .c (.aE k 0 l.length 1)
theorem aaI(lv:Key->LB)(κ:Key)(h:lv κ=.hole)(a:CV):ai prog 30 1 [0] lv κ [.c a]=some (.c (.aE κ 0 1 1),[(κ,.cells true false 3 [a])],[],True):=by
 unfold ai;rw[h];rfl
theorem MM{l:List DV}(h:lv k=.cells own fz T (l.map CV.d))(hl:l.length<=1000):fu lv (.c (.aE k 0 l.length 1))=some (.c (.d (.sl (l.map λx=>[x]))),[k]):=by
 have h1:((l.map CV.d).drop 0).take (l.length*1)=l.map CV.d:=by rw[adJ,ad3];exact adQ (by simp)
 have h2:0+l.length*1<=(l.map CV.d).length/\l.length<=9223372036854775807:=⟨by simp,by omega⟩
 show(cP lv 8 (.aE k 0 l.length 1)).map _=_;simp only[cP,h];rw[if_pos h2,h1,qU];simp only[adm,nJ]
theorem RT{l:List Int}(h:lv k=.cells own fz T (zK l))(hl:l.length<=1000):fu lv (.c (.aE k 0 l.length 1))=some (.c (zC (some l)),[k]):=by
 have:=MM (l:=l.map λx=>DV.int .i64 x) (by rw[<-vD];exact h) (by grind);rwa[ac5,ady]at this
theorem Yk(p:PD)(lv:Key->LB)(hp:p.ok)(i:Nat)(hi:i<p.ni):ak prog 23 lv (.c (eG p.ins)) (.c (.d (.int .i64 (i:Int))))=some (.c (.d (.ptr (p.Bc i).e)),[],[],True):=by
 have:=YE hp lv (i:Int) (by omega) (by omega)
 grind
theorem Kc(l:List Int)(x:Int):zB (l++[x])=.cells true false 3 (zK l++[.d (.int .i64 x)]):=by
 unfold zB;rw[if_neg (by simp)];simp[zK]
theorem Ko(k:Key)(l:List Int)(x:Int):Tf k (l++[x])=.c (.aE k 0 (l.length+1) 1):=by
 unfold Tf;simp
theorem Kr(h:(gj p).2.2=0):eI p=0:=by
 unfold gj at h
 grind
theorem Hh{p:PD}:∀(n k:Nat),(dL p n k).2.2=0->(∀j,k<=j->j<k+n->∀i,i<jG p j->cO p j i=0)/\(0<=p.res/\p.res<p.nn/\fN p p.res≠1)
 |0,k,h=>by
  refine⟨λj h1 h2=>by omega,?_⟩
  by_cases hc:0<=p.res/\p.res<p.nn/\fN p p.res≠1
  ·exact hc
  ·have e:dL p 0 k=(5,0,7):=if_neg hc
   grind
 |n+1,k,h=>by
  have e:dL p (n+1) k=match jX (cO p k) (jG p k)with|some i=>((k:Int)+1,(i:Int),cO p k i)|none=>dL p n (k+1):=rfl
  rw[e]at h
  cases hf:jX (cO p k) (jG p k)with
  |some i=>
   rw[hf]at h;unfold jX at hf
   grind
  |none=>
   rw[hf]at h;obtain⟨h1,h2⟩:=Hh n (k+1) h;refine⟨λj g1 g2 i hi=>?_,h2⟩
   by_cases hj:j=k
   ·subst hj;unfold jX at hf
    grind
   grind
structure PD.good(p:PD):Prop where
 ok:p.ok
 gen:eI p=0
 abZ:∀i,i<p.nf->gw (p.fm i).1 (p.fm i).2=0
 ins:∀i,i<p.ni->uR p (p.Bc i)=0
 nodes:∀i,i<p.nn->kj p i (p.nd i)=0
 states:∀i,i<p.ns->tS p i (p.st i)=0
 res:0<=p.res/\p.res<p.nn/\fN p p.res≠1
theorem u7(hp:p.ok)(h:(gj p).2.2=0):p.good:=by
 have hg:=Kr h;have e:gj p=dL p 4 0:=by unfold gj;rw[if_neg (not_not_intro hg)]
 rw[e]at h;obtain⟨h1,h2⟩:=Hh 4 0 h;exact⟨hp,hg,h1 0 (by omega) (by omega),h1 1 (by omega) (by omega),h1 2 (by omega) (by omega),h1 3 (by omega) (by omega),h2⟩
theorem X4{n:Nd}(h:kj p i n=0):0<=n.f/\n.f<p.nf:=by
 by_cases hf:0<=n.f/\n.f<p.nf
 ·exact hf
 ·exfalso;unfold kj at h;omega
@[simp]theorem ZM(E:TypeId)(o:Option (List (List DV)))(g:Key->Key):(DL E o).bJ g=DL E o:=by
 cases o with
 |none=>rfl
 |some es=>simp only[DL,LB.wB,NA]
@[simp]theorem ZF(E:TypeId)(o:Option (List (List DV)))(b:Bool):(DL E o).fix b=DL E o:=by cases o<;>rfl
structure PD.TN(p:PD):Prop where
 f:p.nf<=1000
 i:p.ni<=1000
 n:p.nn<=1000
 s:p.ns<=1000
theorem Px(a b c d e f g h:CV):fq prog 27 [a,b,c,d,e,f,g,h]=some (.agg [a,b,c,d,e,f,g,h]):=by kernel_rfl
theorem aa.Ue{P:Program}{G:List (List DV)}{us:List AV}{X:AV}{ν:List LB}{ks:List Key}(h:aD P G f us [] (.ret X [] ν))(hd:eJ (bu [] ν) X=some (x,ks)):aa P G f us x:=by
 refine aa.Ba (lv':=bu [] ν) (λF β w vs hS hl hv=>?_) hd;have hlv:bu [] []=λ_=>LB.hole:=iY
 have h2:=h F β w vs (by rw[hlv];exact hS) hl (by grind);refine h2.mono λe w' he=>?_;obtain⟨v,F',β',h3,h4,h5⟩:=he;exact⟨v,F',β',h3,by rw[hlv]at h4;exact h4,h5⟩
theorem Fk{E:TypeId}{o:Option (List (List DV))}{sz:Nat}(h:lv k=DL E o)(hs:∀e∈sO o,e.length=sz)(hl:(sO o).length<=1000):
 cP lv (n+1) (.aE k 0 (sO o).length sz)=some (sD o,if o.isSome then[k]else[]):=by
 cases o with
 |none=>simp only[DL]at h;simp only[cP,h];rfl
 |some es=>
  simp only[DL]at h;have hs:∀e∈es,e.length=sz:=hs;have hl:es.length<=1000:=hl;have h1:=qR (sz:=sz) h hs (by omega);show cP lv (n+1) (.aE k 0 es.length sz)=some (.sl es,[k])
  have hlen:es.flatten.length=es.length*sz:=by
   rw[List.length_flatten]
   have:∀l:List (List DV),(∀e∈l,e.length=sz)->(l.map List.length).sum=l.length*sz:=by
    intro l
    induction l with
    |nil=>simp
    |cons a l ih=>grind
   exact this es hs
  have ht:(es.flatten.map CV.d).take (es.length*sz)=es.flatten.map CV.d:=adQ (by grind);have hl2:es.length<=9223372036854775807:=by omega
  simp only[cP,h,ac5,hlen,adx,aU,hl2,and_self,if_true,adJ,ht,qU,adm,s8 es hs]
def nL:PD:=⟨none,0,none,none,0,0,none,0⟩
theorem ZQ:eO prog 27 [] []=some (.agg nL.cs,[],[],True):=by kernel_rfl
theorem QV(lv:Key->LB)(p:PD)(n:Int):eJ lv (.tup [p.A,.c (.d (.int .i64 n))])=some (.tup [p.A,.c (.d (.int .i64 n))],[]):=by
 obtain⟨f,a,i,nn,b,c,s,d⟩:=p
 cases f<;>cases i<;>cases nn<;>cases s<;>rfl
@[simp]theorem PD.acO(p:PD)(n:Int):(AV.tup [.agg [eG p.f,.d (.int .i64 p.mode),eG p.ins,eG p.nodes,.d (.int .i64 p.head),.d (.int .i64 p.tail),eG p.states,.d (.int .i64 p.res)],.c (.d (.int .i64 n))]).pure=true:=by
 obtain⟨f,a,i,nn,b,c,s,d⟩:=p
 cases f<;>cases i<;>cases nn<;>cases s<;>rfl
theorem NX(h:(gj p).2.2=0):p.TN:=by
 have:=fD (Kr h);exact⟨by omega,by omega,by omega,by omega⟩
def PD.Uf(p:PD)(n:Int):PD:=⟨p.f,p.mode,p.ins,p.nodes,p.head,p.tail,p.states,n⟩
def Ye(p:PD)(n:Int):PD×Int:=if (gj p).2.2≠0 then(nL,(gj p).2.2)else if 0<=n/\n<p.nn/\fN p n≠1 then(p.Uf n,0)else(nL,7)
def iQ(l:List Nd):List CV:=(l.flatMap Nd.e).map CV.d
def flI(l:List In):List CV:=(l.flatMap In.e).map CV.d
theorem Av(n:Nd)(l:List Nd):iQ (n::l)=[CV.d (.int .i64 n.op),.d (.int .i64 n.a),.d (.int .i64 n.b),.d (.int .i64 n.c),.d (.int .i64 n.d),.d (.int .i64 n.f),.d (.str n.v)]++iQ l:=by
 simp[iQ]
def Nd.nG(n:Nd)(x:Int):Nd:=⟨n.op,n.a,n.b,n.c,n.d,x,n.v⟩
theorem mI(l:List Nd):(iQ l).length=l.length*7:=by
 induction l with
 |nil=>rfl
 |cons a l ih=>rw[Av,ac8,ih];simp;omega
def PD.N(p:PD):List Nd:=(sO p.nodes).map P8
def PD.I(p:PD):List In:=(sO p.ins).map TO
@[simp]theorem LB.VQ{b:Bool}{cs:List CV}:(LB.cells own fz T cs).fix b=.cells (own ||b) fz T cs:=rfl
@[simp]theorem Kh(l:List Nd)(g:Key->Key):(iQ l).map (CV.bJ g)=iQ l:=by
 unfold iQ;rw[ady];rfl
@[simp]theorem ZB(l:List In)(g:Key->Key):(flI l).map (CV.bJ g)=flI l:=by
 unfold flI;rw[ady];rfl
theorem pW(h:jk lv)(k:Key):jk (au lv k .bO):=by
 intro k' own es h';unfold au at h';split at h'
 ·cases h'
 ·exact h _ _ _ h'
@[simp]theorem Cj(h:jk lv)(k:Key)(E:TypeId)(o:Option (List (List DV))):jk (au lv k (DL E o)):=by
 cases o with
 |none=>intro k' own es h';simp only[DL,au]at h';split at h';cases h';exact h _ _ _ h'
 |some es=>exact wm h k true false E (es.flatten.map CV.d)
def tD(l:List (List UInt8)):List (List DV):=l.map λs=>[DV.str s]
def tC:Option (List (List UInt8))->CV
 |none=>.d .nilsl
 |some l=>.d (.sl (tD l))
@[simp]theorem YH(o:Option (List (List UInt8))):(AV.c (tC o)).pure=true:=by cases o<;>rfl
@[simp]theorem Xk(o:Option (List (List UInt8))):(AV.c (tC o)).bF=true:=by cases o<;>rfl
@[simp]theorem aaW(o:Option (List (List UInt8)))(g:Key->Key):(tC o).bJ g=tC o:=by cases o<;>rfl
theorem sub_self{p:PD}(hp:p.ok)(h:(gj p).2.2=0):Ye p p.res=(p,0):=by
 have hg:=u7 hp h;unfold Ye;rw[if_neg (not_not_intro h),if_pos hg.res];rfl
def ji(p q:PD):Bool:=decide (p.mode=q.mode)&&decide (p.head=q.head)&&decide (p.tail=q.tail)&&decide (p.res=q.res) &&
 Hs (sO p.f) (sO q.f)&&Hs (sO p.ins) (sO q.ins)&&Hs (sO p.nodes) (sO q.nodes)&&Hs (sO p.states) (sO q.states)
theorem CP(h:LZ e):um e e=true:=by obtain⟨a,b,rfl⟩:=h;simp[um,Xv]
theorem Lt(h:TL e):um e e=true:=by obtain⟨a,b,c,rfl⟩:=h;simp[um,Xv]
theorem Md(h:Sc e):um e e=true:=by obtain⟨a1,a2,a3,a4,a5,a6,s,rfl⟩:=h;simp[um,Xv]
theorem pF:∀{l:List (List DV)},(∀e∈l,um e e=true)->Hs l l=true
 |[],_=>rfl
 |a::l,h=>by simp only[Hs,cy];exact⟨h a (ad9 ..),pF λe he=>h e (ael _ he)⟩
theorem A4(h:p.ok):ji p p=true:=by
 simp[ji,pF (λe he=>CP (h.f e he)),pF (λe he=>Lt (h.ins e he)),pF (λe he=>Md (h.nodes e he)),pF (λe he=>CP (h.states e he))]
def nv(l:List Int)(kk i j:Nat)(x:Int):Int:=if j<i/\j<kk then l.getD x.toNat 0 else x
def Nd.XN(n:Nd)(l:List Int)(i:Nat):Nd:=⟨n.op,nv l (bT n.op) i 0 n.a,nv l (bT n.op) i 1 n.b,nv l (bT n.op) i 2 n.c,nv l (bT n.op) i 3 n.d,n.f,n.v⟩
def Nd.dw(n:Nd)(l:List Int):Nd:=n.XN l 4
theorem KO(l:List Int)(kk i j:Nat)(x:Int)(h:j≠i):nv l kk (i+1) j x=nv l kk i j x:=by
 unfold nv;omega
theorem YK(l:List Int)(kk j:Nat)(x:Int):nv l kk 0 j x=x:=by rfl
theorem QD(f:Key->LB)(x y z x':LB):au (au (au (au f 1000 x) 1001 y) 1002 z) 1000 x'=au (au (au f 1000 x') 1001 y) 1002 z:=by
 funext k;simp only[au]
 grind
abbrev bZ(l:List Int):LB:=.cells false false 3 (zK l)
theorem rL(b:LB):bu [b] []=au (λ_=>.hole) 0 b:=tU b
theorem XS(lv:Key->LB)(κ:Key)(h:lv κ=.hole)(a b c d:CV):ai prog 140 4 [0,1,2,3] lv κ [.c a,.c b,.c c,.c d]=some (.c (.aE κ 0 4 1),[(κ,.cells true false 139 [a,b,c,d])],[],True):=by
 unfold ai;rw[h];rfl
theorem OA(m:Int)(n:Nd)(h1:1<=n.op)(h2:n.op<=15)(l:List Int)(hl:l.length<=1000)(hk:∀x∈aN n,0<=x/\x<l.length):
 aD prog (GG m) 40 [n.A,.c (.aE 0 0 l.length 1)] [bZ l] (.ret (n.dw l).A [bZ l] []):=by
 obtain⟨rest,hix⟩:=ixU h1 h2;have hkl:aN n=n.l4.take (bT n.op):=by unfold aN;rw[if_pos ⟨h1,h2⟩]
 rw[hkl]at hk;have hle:=lR n.op;have hren:∀i,n.XN l i=⟨n.op,nv l (bT n.op) i 0 n.a,nv l (bT n.op) i 1 n.b,nv l (bT n.op) i 2 n.c,nv l (bT n.op) i 3 n.d,n.f,n.v⟩:=λi=>rfl
 unfold Nd.dw;simp only[hren];clear hren;generalize bT n.op=kk at*
 refine aD.IQ func40 rfl (by simp) ?_;rintro⟨_,_,w0,F0,W0,_,jd,β0⟩ rfl rfl rfl hlv0;simp only at hlv0;rw[rL]at hlv0⊢;refine aar ?_;refine aae λK hK=>aae λK1 hK1=>?_;have hbs:∀(lv:Key->LB) (h:lv 1002=.hole) (a b c d:CV),ai prog 140 4 [0,1,2,3] lv 1002 [.c a,.c b,.c c,.c d]=some (.c (.aE 1002 0 4 1),[(1002,.cells true false 139 [a,b,c,d])],[],True):=λlv h a b c d=>XS lv 1002 h a b c d
 refine aaJ ?_;simp[hbs,-ai];apply hK1;refine abd ?_
 refine aco (λ(i:Nat)=>⟨aJ [(1,.c (.aE 0 0 l.length 1)),(2,.c (.ptr 1000 0)),(4,.c (.ptr 1001 0)),(11,.c (.aE 1002 0 4 1)),(12,.c (.d (.int .i64 4))),(13,.c (.d (.int .i64 i)))],
  au (au (au (au (λ_=>.hole) 0 (bZ l)) 1000 (.cells true false 40 ((⟨n.op,nv l kk i 0 n.a,nv l kk i 1 n.b,nv l kk i 2 n.c,nv l kk i 3 n.d,n.f,n.v⟩:Nd).e.map CV.d))) 1001 (.cells true false 40 ((⟨0,0,0,0,0,0,[]⟩:Nd).e.map CV.d))) 1002 (.cells true false 139 [.ptr 1000 1,.ptr 1000 2,.ptr 1000 3,.ptr 1000 4])⟩) 1003
  (λi=>i<=4) (λi=>4-i) 0 (Le.pq _ (by rfl)) (ac1 _) ?_
 rintro i hi
 try simp only at hi
 refine aar ?_;refine aae λK2 hK2=>?_
 by_cases hlt:i<4
 ·have hlt':(i:Int)<4:=by omega
  refine abz (by simp_all) (aaE (hK2 _ _ (aae λK3 hK3=>abd (aae λK4 hK4=>?_))));have hc4:i=0\/i=1\/i=2\/i=3:=by omega
  rcases hc4 with rfl|rfl|rfl|rfl
  ·
   refine acC @aj.eq_1 (hK4 _ _ ?_);have hw:=bE (n:=1) (by omega) (by omega);have nve:∀k x,k≠0->nv l kk 1 k x=nv l kk 0 k x:=λk x h=>KO l kk 0 k x h
   have eo:nv l kk 0 0 n.a=n.a:=by unfold nv;rw[if_neg (by omega)]
   by_cases hjk:0<kk
   ·have hjk':(0:Int)<(kk:Int):=by omega
    have hm:=hk n.a (by
     rw[aeI];exact⟨0,by rw[Nd.jx];omega,rfl⟩)
    obtain⟨q,hq⟩:∃q:Nat,n.a=q:=⟨n.a.toNat,by omega⟩
    have hql:q<l.length:=by rw[hq]at hm;omega
    have hql':(q:Int)<(l.length:Int):=by omega
    have hld:=dh (P:=prog) (T:=3) (by simp) hql;have en:nv l kk 1 0 n.a=l[q]:=by unfold nv;rw[if_pos (by omega),hq,ac9,ac2,bp hql];rfl
    have eo2:nv l kk 0 0 n.a=(q:Int):=by rw[eo,hq]
    refine adb @MU hix hjk' ?_;refine abA (acY eo2 hql' hld @aj.eq_1 (hK3 _ _ ?_));refine aaJ ?_;simp;refine⟨1,Le.pq _ (by simp[nve,en,QD]) (by simp[hw]),by omega,by omega⟩
   ·refine aae λK5 hK5=>?_;have hjk':¬(0:Int)<(kk:Int):=by omega
    have en:nv l kk 1 0 n.a=n.a:=by unfold nv;rw[if_neg (by omega)]
    refine acZ @MU hix hjk' (hK5 _ _ ?_);refine abg (aaE (hK3 _ _ (aaJ ?_)));simp;refine⟨1,Le.pq _ (by grind) (by simp[hw]),by omega,by omega⟩
  ·
   refine acC @aj.eq_1 (hK4 _ _ ?_);have hw:=bE (n:=2) (by omega) (by omega);have nve:∀k x,k≠1->nv l kk 2 k x=nv l kk 1 k x:=λk x h=>KO l kk 1 k x h
   have eo:nv l kk 1 1 n.b=n.b:=by unfold nv;rw[if_neg (by omega)]
   by_cases hjk:1<kk
   ·have hjk':(1:Int)<(kk:Int):=by omega
    have hm:=hk n.b (by
     rw[aeI];exact⟨1,by rw[Nd.jx];omega,rfl⟩)
    obtain⟨q,hq⟩:∃q:Nat,n.b=q:=⟨n.b.toNat,by omega⟩
    have hql:q<l.length:=by rw[hq]at hm;omega
    have hql':(q:Int)<(l.length:Int):=by omega
    have hld:=dh (P:=prog) (T:=3) (by simp) hql;have en:nv l kk 2 1 n.b=l[q]:=by unfold nv;rw[if_pos (by omega),hq,ac9,ac2,bp hql];rfl
    have eo2:nv l kk 1 1 n.b=(q:Int):=by rw[eo,hq]
    refine adb @MU hix hjk' ?_;refine abA (acY eo2 hql' hld @aj.eq_1 (hK3 _ _ ?_));refine aaJ ?_;simp;refine⟨2,Le.pq _ (by simp[nve,en,QD]) (by simp[hw]),by omega,by omega⟩
   ·refine aae λK5 hK5=>?_;have hjk':¬(1:Int)<(kk:Int):=by omega
    have en:nv l kk 2 1 n.b=n.b:=by unfold nv;rw[if_neg (by omega)]
    refine acZ @MU hix hjk' (hK5 _ _ ?_);refine abg (aaE (hK3 _ _ (aaJ ?_)));simp;refine⟨2,Le.pq _ (by grind) (by simp[hw]),by omega,by omega⟩
  ·
   refine acC @aj.eq_1 (hK4 _ _ ?_);have hw:=bE (n:=3) (by omega) (by omega);have nve:∀k x,k≠2->nv l kk 3 k x=nv l kk 2 k x:=λk x h=>KO l kk 2 k x h
   have eo:nv l kk 2 2 n.c=n.c:=by unfold nv;rw[if_neg (by omega)]
   by_cases hjk:2<kk
   ·have hjk':(2:Int)<(kk:Int):=by omega
    have hm:=hk n.c (by
     rw[aeI];exact⟨2,by rw[Nd.jx];omega,rfl⟩)
    obtain⟨q,hq⟩:∃q:Nat,n.c=q:=⟨n.c.toNat,by omega⟩
    have hql:q<l.length:=by rw[hq]at hm;omega
    have hql':(q:Int)<(l.length:Int):=by omega
    have hld:=dh (P:=prog) (T:=3) (by simp) hql;have en:nv l kk 3 2 n.c=l[q]:=by unfold nv;rw[if_pos (by omega),hq,ac9,ac2,bp hql];rfl
    have eo2:nv l kk 2 2 n.c=(q:Int):=by rw[eo,hq]
    refine adb @MU hix hjk' ?_;refine abA (acY eo2 hql' hld @aj.eq_1 (hK3 _ _ ?_));refine aaJ ?_;simp;refine⟨3,Le.pq _ (by simp[nve,en,QD]) (by simp[hw]),by omega,by omega⟩
   ·refine aae λK5 hK5=>?_;have hjk':¬(2:Int)<(kk:Int):=by omega
    have en:nv l kk 3 2 n.c=n.c:=by unfold nv;rw[if_neg (by omega)]
    refine acZ @MU hix hjk' (hK5 _ _ ?_);refine abg (aaE (hK3 _ _ (aaJ ?_)));simp;refine⟨3,Le.pq _ (by grind) (by simp[hw]),by omega,by omega⟩
  ·
   refine acC @aj.eq_1 (hK4 _ _ ?_);have hw:=bE (n:=4) (by omega) (by omega);have nve:∀k x,k≠3->nv l kk 4 k x=nv l kk 3 k x:=λk x h=>KO l kk 3 k x h
   have eo:nv l kk 3 3 n.d=n.d:=by unfold nv;rw[if_neg (by omega)]
   by_cases hjk:3<kk
   ·have hjk':(3:Int)<(kk:Int):=by omega
    have hm:=hk n.d (by
     rw[aeI];exact⟨3,by rw[Nd.jx];omega,rfl⟩)
    obtain⟨q,hq⟩:∃q:Nat,n.d=q:=⟨n.d.toNat,by omega⟩
    have hql:q<l.length:=by rw[hq]at hm;omega
    have hql':(q:Int)<(l.length:Int):=by omega
    have hld:=dh (P:=prog) (T:=3) (by simp) hql;have en:nv l kk 4 3 n.d=l[q]:=by unfold nv;rw[if_pos (by omega),hq,ac9,ac2,bp hql];rfl
    have eo2:nv l kk 3 3 n.d=(q:Int):=by rw[eo,hq]
    refine adb @MU hix hjk' ?_;refine abA (acY eo2 hql' hld @aj.eq_1 (hK3 _ _ ?_));refine aaJ ?_;simp;refine⟨4,Le.pq _ (by simp[nve,en,QD]) (by simp[hw]),by omega,by omega⟩
   ·refine aae λK5 hK5=>?_;have hjk':¬(3:Int)<(kk:Int):=by omega
    have en:nv l kk 4 3 n.d=n.d:=by unfold nv;rw[if_neg (by omega)]
    refine acZ @MU hix hjk' (hK5 _ _ ?_);refine abg (aaE (hK3 _ _ (aaJ ?_)));simp;refine⟨4,Le.pq _ (by grind) (by simp[hw]),by omega,by omega⟩
 have hi4:i=4:=by omega
 subst hi4;refine abg (abX (hK _ _ (acf @aj.eq_1 ?_)));refine acm ?_;refine⟨[(0,0,bZ l)],9,?_,by simp,by simp,by simp,?_,?_,rfl,?_⟩
 ·rw[rL];rfl
 ·intro k hk;simp only[hlv0,au]at hk;split at hk
  ·rename_i h0;subst h0;exact .inr (by simp[aQ])
  grind
 ·intro e he;simp only[fy,aa8,or_false]at he;subst he;show(LB.cells false false 3 (zK l)).like (.cells false false 3 (zK l)) _;rw[vD];simp
 rfl
theorem aX(l:List Int)(g:Key->Key):(zK l).map (CV.bJ g)=zK l:=by rw[vD,ady];rfl
theorem vm(n:Nd):(iQ [n]).length=7:=by rfl
theorem qc(n:Nd):List.take 7 (iQ [n])=iQ [n]:=adQ (by rw[vm];simp)
theorem qY(L M:List Nd):iQ (L++M)=iQ L++iQ M:=by unfold iQ;simp
theorem ag.Tl(κ' kh k:Key){l:List Int}(hc:aD c.P c.G f [x0,.c (.aE 0 0 n 1)] [bZ l] (.ret x [bZ l] []))(hx:x.pure=true)(hx0:x0.pure=true)
 (hk:lv k=.cells own false 3 (zK l)) (hh:lv kh=.hole) (hkk:kh≠k) (hK:K x [(k,.cells own false 3 (zK l))] [kh,k] κ'):ag c f [x0,.c (.aE k 0 n 1)] lv K:=by
 refine ag.Nq κ' kh own [k] [bZ l] [bZ l] [kh,k] hc (by simp) (by grind) rfl rfl (by simp) (λi p q=>?_) hh (by simp[LB.pass]) (by simp) (λho k' hk'=>?_) rfl (λi p q=>?_) (λa ha j hj=>?_) (by simp) ?_
 ·have hi:i=0:=by simp at p;omega
  subst hi;exact⟨own,zK l,hk,(aX l _).symm,λh=>by cases h⟩
 ·simp only[fy,aa8,or_false]at hk';subst hk';rw[hk];exact ho
 ·have hi:i=0\/i=1:=by simp at p;omega
  rcases hi with rfl|rfl
  ·exact⟨AV.eB hx0,(AV.bM hx0 _).symm⟩
  ·exact⟨rfl,rfl⟩
 ·simp only[fy,aa8,or_false]at ha;rcases ha with rfl|rfl
  ·rw[jr hx0]at hj;cases hj
  ·simp only[pz,kM,hk,fy,aec]at hj;rcases hj with rfl|⟨y,hy,hj⟩
   ·simp
   ·unfold zK at hy;rw[adX]at hy;obtain⟨z,_,rfl⟩:=hy;cases hj
 ·rw[AV.bM hx]
  have e:cq (aG [k] [] kh) own [k] [bZ l]=[(k,.cells own false 3 (zK l))]:=by
   simp only[cq,ae5,afK,LB.wB,aX,LB.fix,ae3]
  grind
theorem Sx(lv:Key->LB)(κ:Key)(h:lv κ=.hole)(n:Nd):ai prog 24 1 [0] lv κ [n.A]=some (.c (.aE κ 0 1 7),[(κ,.cells true false 40 (iQ [n]))],[],True):=by
 unfold ai;rw[h];rfl
theorem XI(L:List Nd)(g:Key->Key):(LB.cells false false 40 (iQ L)).like (.cells false false 40 (iQ L)) g:=⟨false,_,rfl,(Kh L g).symm,id⟩
def g7(k7:Key):Key->Key:=λk=>if k=0 then 0 else if k=1 then 1 else if k=2 then 2 else if k=3 then 3 else if k=4 then 4 else if k=5 then 5 else if k=6 then 6 else if k=7 then k7 else 9
theorem abx(p:PD)(g:Key->Key):p.cs.map (CV.bJ g)=p.cs:=by
 simp
theorem Ap(l:List Int)(i:Nat)(x:Int)(h:i<l.length):aj (zK l) i [CV.d (.int .i64 x)]=zK (l.set i x):=by
 unfold aj zK;rw[afV,if_pos h];simp
theorem RO(h:ok B l)(ht:l=[]\/B^(l.length-1)<=val B l):can B l:=by
 refine⟨h,λx hx=>?_⟩;rcases aeT l with rfl|⟨xs,y,rfl⟩
 ·cases hx
 ·rw[aeU]at*
  simp only[List.getLast?_append,List.getLast?_singleton,Option.some_or,ah]at hx;subst hx;intro h0;subst h0;rcases ht with e|ht
  ·simp at e
  ·rw[fF]at ht;simp only[ac8,adY,afu,aeg,ad0]at ht;have:=fV (cJ.1 h).1;omega
theorem Ie(h:can B l)(h0:l≠[]):B^(l.length-1)<=val B l:=by
 rcases aeT l with rfl|⟨xs,y,rfl⟩
 ·grind
 ·rw[aeU]at*
  have hy:y≠0:=h.2 y (by simp);rw[fF];simp only[ac8,adY,afu];have:B^xs.length*1<=B^xs.length*y:=adB _ (by omega);omega
def rC:Option (List Nat)->CV
 |none=>.d .nilsl
 |some l=>.d (.sl (dK .i64 l))
theorem gF(o:Option (List Nat)):nK .i64 o=.c (rC o):=by cases o<;>rfl
@[simp]theorem fZ(lv:Key->LB)(s:Int)(p q:Option (List Nat)):eJ lv (.agg [.d (.int .i64 s),rC p,rC q])=some (.agg [.d (.int .i64 s),rC p,rC q],[]):=by
 cases p<;>cases q<;>rfl
@[simp]theorem YU(o:Option (List Nat)):(rC o).pure=true:=by cases o<;>rfl
@[simp]theorem Yw(o:Option (List Nat)):(AV.c (rC o)).bF=true:=by cases o<;>rfl
@[simp]theorem Xq(o:Option (List Nat)):(AV.c (rC o)).pure=true:=by cases o<;>rfl
@[simp]theorem abj(o:Option (List Nat))(g:Key->Key):(rC o).bJ g=rC o:=by cases o<;>rfl
abbrev rA(s:Int)(p q:Option (List Nat)):AV:=.agg [.d (.int .i64 s),rC p,rC q]
@[simp]theorem Zr(s:Int)(p q:Option (List Nat)):(AV.agg [.d (.int .i64 s),rC p,rC q]).pure=true:=by cases p<;>cases q<;>rfl
theorem XP:eO prog 197 [] []=some (.agg [.d (.int .i64 0),.d .nilsl,.d .nilsl],[],[],True):=by kernel_rfl
theorem bR(b p q:CV):eO prog 197 [0,1,2] [.c b,.c p,.c q]=some (.agg [b,p,q],[],[],True):=by kernel_rfl
theorem Xo(b p q:CV):fq prog 197 [b,p,q]=some (.agg [b,p,q]):=by kernel_rfl
theorem Fb(lv:Key->LB)(κ:Key)(h:lv κ=.hole)(a:CV):ai prog 195 1 [0] lv κ [.c a]=some (.c (.aE κ 0 1 1),[(κ,.cells true false 2 [a])],[],True):=by
 unfold ai;rw[h];rfl
theorem wI(x k:Nat):(x:Int).tmod (k:Int)=((x%k:Nat):Int):=by rfl
theorem n9(x k:Nat):(x:Int).tdiv (k:Int)=((x/k:Nat):Int):=by rfl
theorem R1{κ:Key}{k:IntKind}(h:lv κ=.cells own fz T (wK k l))(hl:l.length<=9223372036854775807):eJ lv (.c (.aE κ 0 l.length 1))=some (nK k (some l),[κ]):=Ei h hl
theorem EM(G:List (List DV)):aa prog G 227 [] (nK .i64 (some [1])):=by
 refine aa.ed func227 rfl λ_=>aar ?_;refine abU λK hK=>?_;simp[Fb,-ai];apply hK;refine acm (κ:=0) (iR.tmp (κ:=0) (X:=.c (.aE 0 0 1 1)) (ks:=[0]) rfl (by simp) ?_);rfl
def Nv(s:Int)(q:Option (List Nat)):Option (List Nat):=if s=0 then some [1]else q
theorem G2(G:List (List DV))(s:Int)(p q:Option (List Nat)):aa prog G 190 [rA s p q] (.c (rC (Nv s q))):=by
 have h1:=EM G;rw[gF]at h1;refine aa.en func190 rfl λ_=>aar ?_;refine aae λK hK=>aar ?_
 by_cases hs:s=0
 ·refine abz (by simp_all) (acF 1 h1 ?_);exact aaV (aq.rt (t:=2) rfl 9 (by simp[Nv,hs]))
 ·refine abD (by simp_all) (aaE (hK _ _ (aar ?_)));exact aaV (aq.rt (t:=2) rfl 9 (by simp[Nv,hs]))
theorem j8(G:List (List DV))(l:List Nat)(hl:l.length<=1000000000000):aa prog G 230 [nK .i64 (some l)] (nK .i64 (some (dG l))):=by
 have dKl:∀(l:List Nat),∀e∈dK .i64 l,e.length=1:=by
  intro l e he;obtain⟨x,_,rfl⟩:=List.mem_map.1 he;rfl
 refine aa.en func230 rfl λ_=>aar ?_;refine aae λK hK=>abd ?_;refine aco (λl'=>⟨aJ [(0,nK .i64 (some l'))],λ_=>.hole⟩) 0 (λl'=>l'.length<=l.length/\N.dG l'=N.dG l) (λl'=>l'.length) l (Le.slots _ (by simp) (by simp)) (by simp) ?_;rintro l' ⟨h0,h1⟩
 have fin:∀(fr:Nat->AV) (κ:Nat),fr 0=nK .i64 (some (N.dG l))->K ⟨fr,λ_=>.hole⟩ κ:=by
  intro fr κ h;apply hK;refine aar ?_;exact acm (aq.tmp rfl 0 (by simp[h]) rfl rfl (by simp))
 refine aae λK2 hK2=>aae λK3 hK3=>?_;refine acE rfl ?_;rcases aeT l' with rfl|⟨xs,x,rfl⟩
 ·simp;apply hK3;refine abg (abX ?_)
  simp_all
 ·rw[aeU]at*
  have h3:xs.length+1<=1000000000000:=by simp at h0;omega
  have h4:i64.wrap ((xs.length:Int))=xs.length:=bE (by omega) (by omega);have h2:(0:Int)<(xs.length:Int)+1:=by omega
  by_cases hx:x=0
  ·subst hx;simp[nK,dK,dm,ku,D3,PA,h2,h4]
   repeat refine aL ?_
   apply hK3;refine abA (aaE (hK2 _ _ (abd (aaJ ?_))));simp[nK,dK,dm,ku,D3,h4];refine⟨⟨by omega,λe he=>?_⟩,?_⟩
   ·rcases he with⟨y,_,rfl⟩|rfl<;>rfl
   refine⟨xs,Le.slots [(0,nK .i64 (some xs))] (by simp[nK,dK]) (by simp),⟨by grind,by rw[<-h1,iZ]⟩,by omega⟩
  ·have hx':¬((x:Int)=0):=by omega
   simp[nK,dK,dm,ku,D3,PA,h2,h4]
   repeat refine aL ?_
   apply hK3;refine abD (by simp_all) (abX ?_);simp;apply fin;simp[nK,dK,<-h1,jJ hx]
theorem oW(G:List (List DV)){a b:Option (List Nat)}(ha:can 1000000000 (dO a))(hb:can 1000000000 (dO b)):aa prog G 188 [nK .i64 a,nK .i64 b] (.c (.d (.int .i64 (eA (val 1000000000 (dO a)) (val 1000000000 (dO b)))))):=by
 refine aD.kK 0 (by simp) (λV v h=>iT h) λhra=>?_;refine aD.kK 1 (by simp) (λV v h=>iT h) λhrb=>?_;refine aa.en func188 rfl λ_=>aar ?_;refine aae λK hK=>aar ?_
 by_cases hl:(dO a).length=(dO b).length
 ·refine abD (by simp_all) (aaE (hK _ _ (aae λK hK=>abU λK1 hK1=>?_)));simp;have e1:=bE (n:=((dO a).length:Int)-1) (by omega) (by omega);simp only[e1];apply hK1;refine abd ?_;refine aco (λ(k:Nat)=>⟨aJ [(0,nK .i64 a),(1,nK .i64 b),(5,.c (.d (.int .i64 ((k:Int)-1))))],λ_=>.hole⟩) 0 (λk=>k<=(dO a).length/\(dO a).drop k=(dO b).drop k) (λk=>k) (dO a).length (Le.mk' _ rfl aW (by simp)) ⟨aU _,by grind⟩ ?_;rintro k ⟨h1,h2⟩;refine aae λK3 hK3=>aar ?_
  cases k with
  |zero=>
   refine abg (abX (hK _ _ (aar ?_)));simp only[adJ]at h2;exact aaV (aq.rt rfl 0 (by simp[nX (congrArg (val 1000000000) h2)]))
  |succ k=>
   have h3:k<(dO b).length:=by omega
   have h4:k<(dO a).length:=by omega
   have e2:((k+1:Nat):Int)-1=k:=by omega
   simp only[e2];refine abA (aaE (hK3 _ _ (aae λK5 hK5=>abd (aae λK6 hK6=>aae λK7 hK7=>?_))));refine acV mixed (by kernel_rfl) rfl rfl ?_;simp[h3,h4];apply hK7
   by_cases hlt:(dO a)[k]<(dO b)[k]
   ·refine abz (by simp_all) (aae λK7 hK7=>adg (hK7 _ _ ?_));have:=qO ha.1 h4 h3 h2 hlt;exact aaV (aq.rt rfl 0 (by simp[kf this]))
   ·refine abD (by simp_all) (aaE (hK6 _ _ (aae λK7 hK7=>?_)));refine acV mixed (by kernel_rfl) rfl rfl ?_;simp[h3,h4];apply hK7
    by_cases hgt:(dO b)[k]<(dO a)[k]
    ·refine abz (by simp_all) (aae λK7 hK7=>adg (hK7 _ _ ?_));have:=qO hb.1 h3 h4 h2.symm hgt;exact aaV (aq.rt rfl 0 (by simp[kW this]))
    ·refine abD (by simp_all) (aaE (hK5 _ _ (aaJ ?_)));simp;have e3:=bE (n:=(k:Int)-1) (by omega) (by omega);simp[e3];have he:(dO a)[k]=(dO b)[k]:=by omega
     refine⟨k,Le.mk' _ (by simp) (by simp) (by simp),⟨by omega,?_⟩,by omega⟩;rw[adV h4,adV h3,he,h2]
 ·refine abz (by simp<;>omega) (aae λK2 hK2=>aar ?_)
  by_cases hlt:(dO a).length<(dO b).length
  ·refine abz (by simp_all) (aar ?_);exact aaV (aq.rt rfl 0 (by simp[kf (lZ (by omega) ha hb hlt)]))
  ·refine abD (by simp_all) (aaE (hK2 _ _ (aar ?_)));exact aaV (aq.rt rfl 0 (by simp[kW (lZ (by omega) hb ha (by omega))]))
theorem Qi(G:List (List DV))(a:Option (List Nat)):aa prog G 265 [nK .i64 a] (.c (.d (.bool (decide (val 1000000000 (dO a)%2=1))))):=by
 refine aa.en func265 rfl λ_=>aar ?_;refine aae λK hK=>?_
 cases hd:dO a with
 |nil=>
  have h1:(dO a).length=0:=by rw[hd];rfl
  refine acC h1 (hK _ _ ?_);exact aaV (aq.rt rfl 0 (by simp[hd]))
 |cons x l=>
  have h1:0<(dO a).length:=by rw[hd];simp
  have h1':(0:Int)<((dO a).length:Int):=by omega
  have h2:(dO a)[0]=x:=by simp[hd]
  have h4:=gU (P:=prog) (T:=195) (lv:=λ_=>.hole) (k:=.i64) (k':=.i64) (o:=a) (i:=0) (by simp) h1;simp only[aft,h2]at h4;have h5:(x:Int).tmod 2=((x%2:Nat):Int):=wI x 2;have h6:val 1000000000 (dO a)%2=x%2:=by rw[hd,bW];omega
  refine acY h1 h1' h4 h5 (hK _ _ ?_);rw[h6];have h7:(x:Int)%2=1↔x%2=1:=by omega
  exact aaV (aq.rt rfl 0 (by simp[h7]))
theorem EB(k:IntKind)(l:List Nat)(x:Nat):wK k l++[CV.d (.int k (x:Int))]=wK k (l++[x]):=by simp[wK]
theorem T5(k:IntKind)(l:List Nat)(g:Key->Key):(wK k l).map (CV.bJ g)=wK k l:=by unfold wK;simp
theorem lI(k:IntKind)(T:TypeId)(l:List Nat)(g:Key->Key):(LB.cells true false T (wK k l)).like (.cells true false T (wK k l)) g:=LB.tf.2 ⟨rfl,rfl,(T5 k l g).symm,id⟩
theorem Ny(G:List (List DV))(a b:Option (List Nat))(ha:can 1000000000 (dO a))(hb:can 1000000000 (dO b))(hal:(dO a).length<=1000000)(hbl:(dO b).length<=1000000):
 aa prog G 268 [nK .i64 a,nK .i64 b] (nK .i64 (some (aI 1000000000 (val 1000000000 (dO a)+val 1000000000 (dO b))))):=by
 have hbs:∀(lv:Key->LB) (h:lv 1=.hole) (a:CV),ai prog 195 1 [0] lv 1 [.c a]=some (.c (.aE 1 0 1 1),[(1,.cells true false 2 [a])],[],True):=λlv h a=>Fb lv 1 h a
 obtain⟨M,hM⟩:∃M,M=max (dO a).length (dO b).length:=⟨_,rfl⟩
 have hmx:(if ((dO a).length:Int)<((dO b).length:Int)then((dO b).length:Int)else((dO a).length:Int))=(M:Int):=by split<;>omega
 have hmx':(if (dO a).length<(dO b).length then((dO b).length:Int)else((dO a).length:Int))=(M:Int):=by split<;>omega
 have hM6:M<=1000000:=by omega
 have e0:=bE (n:=(M:Int)+1) (by omega) (by omega);refine aa.ed func268 rfl λ_=>aar ?_;refine abU λK hK=>?_;simp[eF,hmx',e0]
 repeat refine aL ?_
 apply hK;refine aar ?_;refine aae λK hK=>aar ?_;refine abd ?_
 refine aco (λ(p:List Nat×Nat)=>⟨aJ [(0,nK .i64 a),(1,nK .i64 b),(5,.c (.aE 0 0 p.1.length 1)),(6,.c (.d (.int .i64 p.2))),(7,.c (.d (.int .i64 p.1.length)))],
  au (λ_=>.hole) 0 (.cells true false 2 (wK .i64 p.1))⟩) 1
  (λp=>ok 1000000000 p.1/\p.2<=1/\val 1000000000 p.1+1000000000^p.1.length*p.2=val 1000000000 ((dO a).take p.1.length)+val 1000000000 ((dO b).take p.1.length)/\(p.1.length<=M\/(p.1.length=M+1/\p.2=0/\1000000000^M<=val 1000000000 (dO a)+val 1000000000 (dO b))))
  (λp=>M+2-p.1.length) ([],0) (Le.mk' _ (by simp[wK]) (by simp) (by simp)) (by simp[cK]) ?_
 rintro⟨pre,c⟩ ⟨h1,h2,h3,h4⟩;simp only at h1 h2 h3 h4;have w7:=bE (n:=(pre.length:Int)+1) (by omega) (by omega);refine aae λK3 hK3=>aae λK4 hK4=>?_
 have body:(pre.length<(dO a).length\/pre.length<(dO b).length\/0<c)->∀(fr:Nat->AV) (κ:Nat),fr 0=nK .i64 a->fr 1=nK .i64 b->fr 5=.c (.aE 0 0 pre.length 1)->fr 6=.c (.d (.int .i64 c))->fr 7=.c (.d (.int .i64 pre.length)) ->
  K3 ⟨fr,au (λ_=>.hole) 0 (.cells true false 2 (wK .i64 pre))⟩ κ:=by
  intro hgo fr κ z0 z1 z5 z6 z7;apply hK3;refine aae λK5 hK5=>abd (aae λK6 hK6=>?_)
  have g2:∀(x:Nat) (fr:Nat->AV) (κ:Nat),x<1000000000->val 1000000000 ((dO a).take (pre.length+1))=val 1000000000 ((dO a).take pre.length)+1000000000^pre.length*x->fr 0=nK .i64 a->fr 1=nK .i64 b->fr 5=.c (.aE 0 0 pre.length 1)->fr 6=.c (.d (.int .i64 ((c+x:Nat):Int)))->fr 7=.c (.d (.int .i64 pre.length)) ->
   K6 ⟨fr,au (λ_=>.hole) 0 (.cells true false 2 (wK .i64 pre))⟩ κ:=by
   intro x fr κ hx hxv z0 z1 z5 z6 z7;apply hK6;refine aae λK8 hK8=>?_
   have g3:∀(y:Nat) (fr:Nat->AV) (κ:Nat),y<1000000000->val 1000000000 ((dO b).take (pre.length+1))=val 1000000000 ((dO b).take pre.length)+1000000000^pre.length*y->fr 0=nK .i64 a->fr 1=nK .i64 b->fr 5=.c (.aE 0 0 pre.length 1)->fr 6=.c (.d (.int .i64 ((c+x+y:Nat):Int)))->fr 7=.c (.d (.int .i64 pre.length)) ->
    K8 ⟨fr,au (λ_=>.hole) 0 (.cells true false 2 (wK .i64 pre))⟩ κ:=by
    intro y fr κ hy hyv z0 z1 z5 z6 z7;apply hK8;refine acW 1 ?_;have e1:(((c+x+y:Nat):Int)).tmod 1000000000=(((c+x+y)%1000000000:Nat):Int):=wI _ _;have e2:(((c+x+y:Nat):Int)).tdiv 1000000000=(((c+x+y)/1000000000:Nat):Int):=n9 _ _;have e3:=bE (n:=(((c+x+y)/1000000000:Nat):Int)) (by omega) (by omega);generalize hm:c+x+y=m at*
    have hlen:pre.length+1<=9223372036854775807/\(pre.length+1)*8<=140737488355328:=by omega
    refine abU λK9 hK9=>?_;simp[z5,z6,hbs,dS,keyOf,e1,EB,-ai,-Int.natCast_emod,-Int.natCast_ediv,-Int.natCast_add]
    repeat refine aL ?_
    apply hK9;refine aaJ ?_;simp[z6,e2,e3,-Int.natCast_emod,-Int.natCast_ediv];apply hK5;refine aaJ ?_;simp[z7,w7]
    have hM2:pre.length<=M:=by
     rcases h4 with h4|⟨h4,h5,_⟩
     ·exact h4
     ·omega
    refine⟨pre++[m%1000000000],m/1000000000,Le.keys [(0,2,.cells true false 2 (wK .i64 (pre++[m%1000000000])))] 19 _ rfl rfl (by simp) (by simp) (by simp) ?_ ?_,⟨cJ.2 ⟨h1,bS.2 ⟨by omega,cK _⟩⟩,by omega,?_,?_⟩,by simp;omega⟩
    ·intro e he;simp only[fy,aa8,or_false]at he;subst he;simpa using lI .i64 2 (pre++[m%1000000000]) _
    ·simp[aQ,z0,z1]
    ·have:=oS 1000000000 pre m
     grind
    ·simp only[ac8,adY]
     by_cases hlt:pre.length<M
     ·omega
     ·right;have hx0:pre.length=M:=by omega
      have c1:c=1:=by omega
      have ea:val 1000000000 ((dO a).take pre.length)=val 1000000000 (dO a):=aM (by omega);have eb:val 1000000000 ((dO b).take pre.length)=val 1000000000 (dO b):=aM (by omega);have ea2:val 1000000000 ((dO a).take (pre.length+1))=val 1000000000 (dO a):=aM (by omega);have eb2:val 1000000000 ((dO b).take (pre.length+1))=val 1000000000 (dO b):=aM (by omega);have hp:0<1000000000^pre.length:=adA (by decide);rw[ea,ea2]at hxv;rw[eb,eb2]at hyv
      have hx00:x=0:=by
       rcases ae1 x with h|h
       ·exact h
       ·have:=ad4 hp h;omega
      grind
   refine acv z1 z7 ?_
   by_cases hlb:pre.length<(dO b).length
   ·have hy:(dO b)[pre.length]<1000000000:=hb.1 _ (aZ hlb);have hyv:=bz (B:=1000000000) hlb;have e5:i64.wrap (((c+x:Nat):Int)+((dO b)[pre.length]:Nat))=((c+x+(dO b)[pre.length]:Nat):Int):=by rw[bE (by omega) (by omega)];omega
    refine abz (by simp[hlb]<;>omega) (aaJ ?_);simp[z1,z6,z7,hlb,e5,-Int.natCast_add];exact g3 _ _ _ hy hyv (by simp[z0]) (by simp[z1]) (by simp[z5]) (by simp) (by simp[z7])
   ·refine abD (by simp[hlb]<;>omega) (aaE ?_);simp;exact g3 0 _ _ (by omega) (by rw[aM (by omega),aM (by omega)];rfl) (by simp[z0]) (by simp[z1]) (by simp[z5]) (by simp[z6]) (by simp[z7])
  refine acv z0 z7 ?_
  by_cases hla:pre.length<(dO a).length
  ·have hx:(dO a)[pre.length]<1000000000:=ha.1 _ (aZ hla);have hxv:=bz (B:=1000000000) hla;have e5:i64.wrap ((c:Int)+((dO a)[pre.length]:Nat))=((c+(dO a)[pre.length]:Nat):Int):=by rw[bE (by omega) (by omega)];omega
   refine abz (by simp[hla]<;>omega) (aaJ ?_);simp[z0,z6,z7,hla,e5,-Int.natCast_add];exact g2 _ _ _ hx hxv (by simp[z0]) (by simp[z1]) (by simp[z5]) (by simp) (by simp[z7])
  ·refine abD (by simp[hla]<;>omega) (aaE ?_);simp;exact g2 0 _ _ (by omega) (by rw[aM (by omega),aM (by omega)];rfl) (by simp[z0]) (by simp[z1]) (by simp[z5]) (by simp[z6]) (by simp[z7])
 by_cases c1:pre.length<(dO a).length
 ·refine acC c1 (hK4 _ _ ?_);refine abz (by rfl) (aaE ?_)
  simp_all
 by_cases c2:pre.length<(dO b).length
 ·refine acJ c1 c2 (hK4 _ _ ?_);refine abz (by rfl) (aaE ?_)
  simp_all
 by_cases c3:0<c
 ·have c3':(0:Int)<(c:Int):=by omega
  refine acY c1 c2 c3 c3' (hK4 _ _ ?_);refine abA (aaE ?_)
  simp_all
 obtain rfl:c=0:=by omega
 refine acJ c1 c2 (hK4 _ _ ?_);refine abg (abX (hK _ _ (aar ?_)));rw[aeg,ad0,aM (by omega),aM (by omega)]at h3
 have hc:can 1000000000 pre:=by
  refine RO h1 ?_;rcases h4 with h4|⟨h4,_,h5⟩
  ·by_cases hM0:M=0
   ·grind
   ·right;have hpm:pre.length=M:=by omega
    rw[h3,hpm]
    by_cases hq:(dO a).length=M
    ·have:=Ie ha (λe=>hM0 (by grind))
     grind
    ·have hq2:(dO b).length=M:=by omega
     have:=Ie hb (λe=>hM0 (by grind))
     grind
  ·grind
 have hout:=iE (by decide:2<=1000000000) hc h3;refine acm (κ:=0) (iR.tmp (κ:=0) (X:=.c (.aE 0 0 pre.length 1)) (ks:=[0]) rfl (by simp) ?_);rw[<-hout];exact R1 (own:=true) (fz:=false) (T:=2) (l:=pre) (by simp) (by omega)
theorem pg(G:List (List DV))(a b:Option (List Nat))(oka:ok 1000000000 (dO a))(okb:ok 1000000000 (dO b))(hal:(dO a).length<=1000000)(hbl:(dO b).length<=1000000)(hv:val 1000000000 (dO b)<=val 1000000000 (dO a)):
 aa prog G 267 [nK .i64 a,nK .i64 b] (nK .i64 (some (aI 1000000000 (val 1000000000 (dO a)-val 1000000000 (dO b))))):=by
 have hbs:∀(lv:Key->LB) (h:lv 1=.hole) (a:CV),ai prog 195 1 [0] lv 1 [.c a]=some (.c (.aE 1 0 1 1),[(1,.cells true false 2 [a])],[],True):=λlv h a=>Fb lv 1 h a
 refine aa.Sh func267 rfl λ_=>aar ?_;refine abU λK hK=>?_;simp
 repeat refine aL ?_
 apply hK;refine aar ?_;refine aae λK hK=>aar ?_;refine abd ?_
 refine aco (λ(p:List Nat×Nat)=>⟨aJ [(0,nK .i64 a),(1,nK .i64 b),(5,.c (.aE 0 0 p.1.length 1)),(6,.c (.d (.int .i64 p.2))),(7,.c (.d (.int .i64 p.1.length)))],
  au (λ_=>.hole) 0 (.cells true false 2 (wK .i64 p.1))⟩) 1
  (λp=>ok 1000000000 p.1/\p.1.length<=(dO a).length/\p.2<=1/\val 1000000000 p.1+val 1000000000 ((dO b).take p.1.length)=val 1000000000 ((dO a).take p.1.length)+1000000000^p.1.length*p.2)
  (λp=>(dO a).length-p.1.length) ([],0) (Le.mk' _ (by simp[wK]) (by simp) (by simp)) (by simp[cK]) ?_
 rintro⟨pre,c⟩ ⟨h2,h1,h3,h4⟩;simp only at h1 h2 h3 h4;have w7:=bE (n:=(pre.length:Int)+1) (by omega) (by omega);refine aae λK3 hK3=>aar ?_
 by_cases hlt:pre.length<(dO a).length
 ·have hx:(dO a)[pre.length]<1000000000:=oka _ (aZ hlt);have hxv:=bz (B:=1000000000) hlt;obtain⟨x,hxe⟩:∃x,(dO a)[pre.length]=x:=⟨_,rfl⟩
  rw[hxe]at hx hxv;have w1:=bE (n:=(x:Int)-c) (by omega) (by omega);refine abz (by simp_all) (aaE (hK3 _ _ (aae λK5 hK5=>abd (adb hlt hxe w1 ?_))));refine aae λK6 hK6=>?_
  have g3:∀(y:Nat) (fr:Nat->AV) (κ:Nat),y<1000000000->val 1000000000 ((dO b).take (pre.length+1))=val 1000000000 ((dO b).take pre.length)+1000000000^pre.length*y->fr 0=nK .i64 a->fr 1=nK .i64 b->fr 5=.c (.aE 0 0 pre.length 1)->fr 8=.c (.d (.int .i64 ((x:Int)-c-y)))->fr 7=.c (.d (.int .i64 pre.length)) ->
   K6 ⟨fr,au (λ_=>.hole) 0 (.cells true false 2 (wK .i64 pre))⟩ κ:=by
   intro y fr κ hy hyv z0 z1 z5 z8 z7;apply hK6;refine acW 1 ?_;refine aar ?_;refine aae λK7 hK7=>?_
   have g4:∀(v bb:Nat) (fr:Nat->AV) (κ:Nat),v<1000000000->bb<=1->v+c+y=x+1000000000*bb->fr 0=nK .i64 a->fr 1=nK .i64 b->fr 5=.c (.aE 0 0 pre.length 1)->fr 6=.c (.d (.int .i64 (bb:Int)))->fr 8=.c (.d (.int .i64 (v:Int)))->fr 7=.c (.d (.int .i64 pre.length)) ->
    K7 ⟨fr,au (λ_=>.hole) 0 (.cells true false 2 (wK .i64 pre))⟩ κ:=by
    intro v bb fr κ hv0 hb0 hs z0 z1 z5 z6 z8 z7;apply hK7;refine acW 1 ?_;refine aaJ ?_;simp[z5,z8,hbs,dS,keyOf,EB,-ai]
    repeat refine aL ?_
    apply hK5;refine aaJ ?_;simp[z7,w7];refine⟨pre++[v],bb,Le.keys [(0,2,.cells true false 2 (wK .i64 (pre++[v])))] 19 _ rfl rfl (by simp) (by simp) (by simp) ?_ ?_,⟨cJ.2 ⟨h2,bS.2 ⟨hv0,cK _⟩⟩,by simp;omega,hb0,?_⟩,by simp;omega⟩
    ·intro e he;simp only[fy,aa8,or_false]at he;subst he;simpa using lI .i64 2 (pre++[v]) _
    ·simp[aQ,z0,z1,z6]
    ·rw[ac8,adY,fF,hxv,hyv,adl]
     grind
   refine acf z8 ?_
   by_cases hn:(x:Int)-c-y<0
   ·have w2:i64.wrap ((x:Int)-c-y+1000000000)=((x+1000000000-c-y:Nat):Int):=by rw[bE (by omega) (by omega)];omega
    refine abz (by simp_all) (acv z8 w2 ?_);refine aaJ ?_;simp;exact g4 (x+1000000000-c-y) 1 _ _ (by omega) (by omega) (by omega) (by simp[z0]) (by simp[z1]) (by simp[z5]) (by simp) (by simp) (by simp[z7])
   ·have w2:(x:Int)-c-y=((x-c-y:Nat):Int):=by omega
    refine abD (by simp_all) (aaE ?_);simp;exact g4 (x-c-y) 0 _ _ (by omega) (by omega) (by omega) (by simp[z0]) (by simp[z1]) (by simp[z5]) (by simp) (by simp_all) (by simp[z7])
  refine aar ?_
  by_cases hlb:pre.length<(dO b).length
  ·have hy:(dO b)[pre.length]<1000000000:=okb _ (aZ hlb);have hyv:=bz (B:=1000000000) hlb;have w2:=bE (n:=(x:Int)-c-((dO b)[pre.length]:Nat)) (by omega) (by omega);refine abz (by simp_all) (aaJ ?_);simp[hlb,w2];exact g3 _ _ _ hy hyv (by simp) (by simp) (by simp) (by simp) (by simp)
  ·refine abD (by simp_all) (aaE ?_);simp;exact g3 0 _ _ (by omega) (by rw[aM (by omega),aM (by omega)];rfl) (by simp) (by simp) (by simp) (by simp) (by simp)
 ·refine abD (by simp_all) (abX ?_);simp;have e2:pre.length=(dO a).length:=by omega
  apply hK;refine abU λK hK=>?_;simp
  have hlb:val 1000000000 ((dO b).take pre.length)=val 1000000000 (dO b):=by
   by_cases hb:(dO b).length<=pre.length
   ·exact aM hb
   ·have g1:=cB (B:=1000000000) (dO b) pre.length (by omega);have g2:=fV oka;rw[<-e2]at g2
    have g3:val 1000000000 ((dO b).drop pre.length)=0:=by
     apply adK;intro hne;have:1000000000^pre.length*1<=1000000000^pre.length*val 1000000000 ((dO b).drop pre.length):=adB _ (by omega);omega
    grind
  have hva:val 1000000000 ((dO a).take pre.length)=val 1000000000 (dO a):=aM (by omega)
  have hc:c=0:=by
   apply adK;intro hne;have:c=1:=by omega
   subst this;have:=fV h2;rw[hlb,hva]at h4;omega
  subst hc
  have hout:dG pre=aI 1000000000 (val 1000000000 (dO a)-val 1000000000 (dO b)):=by
   refine eC (by decide) h2 ?_;rw[hlb,hva]at h4;omega
  refine gM.rT (k:=.i64) (l:=pre) 0 1 0 (by simp;rfl) (by omega) (j8 _ _ (by omega)) (by simp) (by simp) (by simp) ?_;simp;apply hK;exact aaV (aq.rt rfl 1 (by simp[hout]))
theorem tN(G:List (List DV))(a b:Option (List Nat))(oka:ok 1000000000 (dO a))(okb:ok 1000000000 (dO b))(ha:(dO a).length<=1000000)(hb:(dO b).length<=1000000):
 aa prog G 189 [nK .i64 a,nK .i64 b] (nK .i64 (some (aI 1000000000 (val 1000000000 (dO a)*val 1000000000 (dO b))))):=by
 refine aa.en func189 rfl λ_=>aar ?_;refine aae λK hK=>?_;have e0:i64.wrap (((dO a).length:Int)+(dO b).length)=(((dO a).length+(dO b).length:Nat):Int):=by rw[bE (by omega) (by omega)];omega
 refine aaJ ?_;simp[e0,-Int.natCast_add]
 repeat refine aL ?_
 apply hK;refine aae λK hK=>aar ?_;refine abd ?_
 refine aco (λ(p:Nat×List Nat)=>⟨aJ [(0,nK .i64 a),(1,nK .i64 b),(5,.c (.aE 0 0 ((dO a).length+(dO b).length) 1)),(6,.c (.d (.int .i64 p.1)))],
  au (λ_=>.hole) 0 (.cells true false 2 (wK .i64 (p.2++List.replicate ((dO a).length-p.1) 0)))⟩) 1
  (λp=>p.1<=(dO a).length/\p.2.length=p.1+(dO b).length/\ok 1000000000 p.2/\val 1000000000 p.2=val 1000000000 ((dO a).take p.1)*val 1000000000 (dO b))
  (λp=>(dO a).length-p.1) (0,List.replicate (dO b).length 0) (Le.mk' _ (by simp[gW,aeO]) (by simp) (by simp)) ⟨by simp,by simp,vi (by omega) _,by simp[rK]⟩ ?_
 rintro⟨i,lo⟩ ⟨h1,h2,h3,h4⟩;simp only at h1 h2 h3 h4;refine aae λK3 hK3=>aar ?_
 by_cases hlt:i<(dO a).length
 ·refine abz (by simp_all) (aaE (hK3 _ _ (aae λK3 hK3=>abd ?_)));have hx:(dO a)[i]<1000000000:=oka _ (aZ hlt);obtain⟨x,hxe⟩:∃x,(dO a)[i]=x:=⟨_,rfl⟩
  rw[hxe]at hx;refine aar ?_;refine aae λK4 hK4=>aar ?_;refine abd ?_
  refine aco (λ(p:Nat×List Nat×Nat)=>⟨aJ [(0,nK .i64 a),(1,nK .i64 b),(5,.c (.aE 0 0 ((dO a).length+(dO b).length) 1)),(6,.c (.d (.int .i64 i))),(7,.c (.d (.int .i64 p.2.2))),(8,.c (.d (.int .i64 p.1)))],
   au (λ_=>.hole) 0 (.cells true false 2 (wK .i64 (p.2.1++List.replicate ((dO a).length-i) 0)))⟩) 2
   (λp=>p.1<=(dO b).length/\p.2.1.length=i+(dO b).length/\ok 1000000000 p.2.1/\p.2.2<1000000000/\val 1000000000 p.2.1+1000000000^(i+p.1)*p.2.2=val 1000000000 ((dO a).take i)*val 1000000000 (dO b)+1000000000^i*(x*val 1000000000 ((dO b).take p.1)))
   (λp=>(dO b).length-p.1) (0,lo,0) (Le.mk' _ (by simp) (by simp) (by simp)) ⟨by simp,h2,h3,by simp,by simp[h4]⟩ ?_
  rintro⟨j,lo2,c⟩ ⟨g1,g2,g3,g4,g5⟩;simp only at g1 g2 g3 g4 g5;refine aae λK6 hK6=>aar ?_
  by_cases hlj:j<(dO b).length
  ·refine abz (by simp_all) (aaE (hK6 _ _ (aae λK8 hK8=>abd (aae λK9 hK9=>?_))));have hy:(dO b)[j]<1000000000:=okb _ (aZ hlj);have hij:i+j<lo2.length:=by omega
   have hij2:i+j<(lo2++List.replicate ((dO a).length-i) 0).length:=by simp;omega
   have hij3:i+j<lo2.length+((dO a).length-i):=by omega
   have ho:lo2[i+j]<1000000000:=g3 _ (aZ hij);have ho2:(lo2++List.replicate ((dO a).length-i) 0)[i+j]=lo2[i+j]:=aea hij;have hb2:val 1000000000 ((dO b).take (j+1))=val 1000000000 ((dO b).take j)+1000000000^j*(dO b)[j]:=bz hlj;have hset:=yI (B:=1000000000) hij;generalize hye:(dO b)[j]=y at hy hb2;generalize hoe:lo2[i+j]=o at ho ho2 hset;have hxy:x*y<=999999999*999999999:=aeo (by omega) (by omega);have e1:i64.wrap ((i:Int)+j)=((i+j:Nat):Int):=by rw[bE (by omega) (by omega)];omega
   have e4:i64.wrap ((x:Int)*y)=((x*y:Nat):Int):=by
    rw[<-Int.natCast_mul];generalize x*y=p at hxy;exact bE (by omega) (by omega)
   have e5:i64.wrap ((c:Int)+o)=((c+o:Nat):Int):=by rw[bE (by omega) (by omega)];omega
   have e6:i64.wrap (((c+o:Nat):Int)+((x*y:Nat):Int))=((c+(x*y+o):Nat):Int):=by
    generalize x*y=p at hxy;rw[bE (by omega) (by omega)];omega
   refine acV mixed (by kernel_rfl) rfl rfl ?_;simp[e1,e4,e5,e6,hij3,ho2,hxe,hye,hlt,hlj,-Int.natCast_add,-Int.natCast_mul]
   repeat refine aL ?_
   apply hK9;have hbd:c+(x*y+o)<1000000000000000000:=by generalize x*y=p at hxy;omega
   generalize hm:c+(x*y+o)=m at hbd;have f1:((m:Nat):Int).tmod 1000000000=((m%1000000000:Nat):Int):=wI _ _
   have f2:aj (wK .i64 (lo2++List.replicate ((dO a).length-i) 0)) (i+j) [CV.d (.int .i64 ((m%1000000000:Nat):Int))]=wK .i64 (lo2.set (i+j) (m%1000000000)++List.replicate ((dO a).length-i) 0):=by
    rw[gx _ hij2,afJ _ _ hij]
   have f3:((m:Nat):Int).tdiv 1000000000=((m/1000000000:Nat):Int):=n9 _ _;have f3':=bE (n:=((m/1000000000:Nat):Int)) (by omega) (by omega);have f4:(i+j:Int)<(dO a).length+(dO b).length:=by omega
   refine abU λK9 hK9=>?_;simp[e1,f1,f2,-Int.natCast_add,-Int.natCast_emod]
   repeat refine aL ?_
   apply hK9;refine aaJ ?_;simp[f3,f3',-Int.natCast_ediv];apply hK8;have f5:=bE (n:=(j:Int)+1) (by omega) (by omega);refine aaJ ?_;simp[f5];refine⟨j+1,lo2.set (i+j) (m%1000000000),m/1000000000,Le.mk' _ (by simp) (by simp) (by simp),⟨by omega,by simp[g2],HF g3 _ (adw _ (by omega)),?_,?_⟩,by omega⟩
   ·omega
   ·rw[hb2,<-hm,<-aez i j 1];exact Fa g5 (by grind)
  ·refine abD (by simp_all) (abX (hK4 _ _ ?_));have ej:j=(dO b).length:=by omega
   subst ej;rw[aM (aU _)]at g5;have e1:i64.wrap ((i:Int)+(dO b).length)=((i+(dO b).length:Nat):Int):=by rw[bE (by omega) (by omega)];omega
   have hz:(dO a).length-i=((dO a).length-i-1)+1:=by omega
   have f2:aj (wK .i64 (lo2++List.replicate ((dO a).length-i) 0)) (i+(dO b).length) [CV.d (.int .i64 (c:Int))]=wK .i64 (lo2++[c]++List.replicate ((dO a).length-i-1) 0):=by
    rw[gx _ (by simp;omega),hz,<-g2,lA];simp
   have f6:i+(dO b).length<lo2.length+((dO a).length-i):=by omega
   refine aaJ ?_;simp[e1,f2,-Int.natCast_add]
   repeat refine aL ?_
   apply hK3;have f5:=bE (n:=(i:Int)+1) (by omega) (by omega);refine aaJ ?_;simp[f5];have f7:(dO a).length-(i+1)=(dO a).length-i-1:=by omega
   refine⟨i+1,lo2++[c],Le.mk' _ (by simp[f7]) (by simp) (by simp),⟨by omega,by simp;omega,cJ.2 ⟨g3,bS.2 ⟨g4,cK _⟩⟩,?_⟩,by omega⟩;rw[fF,g2,g5,bz hlt,hxe,adr,adz]
 ·refine abD (by simp_all) (abX (hK _ _ ?_));have e2:i=(dO a).length:=by omega
  subst e2;refine abU λK hK=>?_;simp;rw[<-h2]
  have hout:dG lo=aI 1000000000 (val 1000000000 (dO a)*val 1000000000 (dO b)):=by
   refine eC (by decide) h3 ?_;rw[h4,aM (aU _)]
  refine gM.rT (k:=.i64) (l:=lo) 0 1 0 (by simp;rfl) (by omega) (j8 _ _ (by omega)) (by simp) (by simp) (by simp) ?_;simp;apply hK;exact aaV (aq.rt rfl 1 (by simp[hout]))
theorem Mi(G:List (List DV))(a:Option (List Nat))(oka:ok 1000000000 (dO a))(ha:(dO a).length<=1000000):
 aa prog G 266 [nK .i64 a] (nK .i64 (some (aI 1000000000 (val 1000000000 (dO a)/2)))):=by
 refine aa.en func266 rfl λ_=>aar ?_;refine abU λK hK=>?_;simp
 repeat refine aL ?_
 apply hK;refine aar ?_;have w0:=bE (n:=((dO a).length:Int)-1) (by omega) (by omega);refine aae λK hK=>acf w0 ?_;refine abd ?_
 refine aco (λ(p:Nat×List Nat×Nat)=>⟨aJ [(0,nK .i64 a),(3,.c (.aE 0 0 (dO a).length 1)),(4,.c (.d (.int .i64 p.2.2))),(5,.c (.d (.int .i64 ((p.1:Int)-1))))],
  au (λ_=>.hole) 0 (.cells true false 2 (wK .i64 (List.replicate p.1 0++p.2.1)))⟩) 1
  (λp=>p.1+p.2.1.length=(dO a).length/\ok 1000000000 p.2.1/\p.2.2<=1/\2*val 1000000000 p.2.1+p.2.2=val 1000000000 ((dO a).drop p.1))
  (λp=>p.1) ((dO a).length,[],0) (Le.mk' _ (by simp[gW]) (by simp) (by simp)) ⟨by simp,cK _,by simp,by simp⟩ ?_
 rintro⟨k,qs,c⟩ ⟨h1,h2,h3,h4⟩;simp only at h1 h2 h3 h4;refine aae λK3 hK3=>aar ?_
 cases k with
 |zero=>
  refine abg (abX (hK _ _ (aae λK hK=>?_)));have hl:qs.length=(dO a).length:=by omega
  refine aaJ ?_;simp;rw[<-hl]
  have hout:dG qs=aI 1000000000 (val 1000000000 (dO a)/2):=by
   refine eC (by decide) h2 ?_;rw[adJ]at h4;omega
  refine gM.rT (k:=.i64) (l:=qs) 0 1 0 (by simp;rfl) (by omega) (j8 _ _ (by omega)) (by simp) (by simp) (by simp) ?_;simp;apply hK;exact aaV (aq.rt rfl 1 (by simp[hout]))
 |succ k=>
  have hk:k<(dO a).length:=by omega
  have e2:((k+1:Nat):Int)-1=k:=by omega
  simp only[e2];have hx:(dO a)[k]<1000000000:=oka _ (aZ hk);have hxv:=c7 (B:=1000000000) hk;obtain⟨x,hxe⟩:∃x,(dO a)[k]=x:=⟨_,rfl⟩
  rw[hxe]at hx hxv;obtain⟨m,hm⟩:∃m,1000000000*c+x=m:=⟨_,rfl⟩
  have w1:i64.wrap ((c:Int)*1000000000)=(m:Int)-x:=by rw[bE (by omega) (by omega)];omega
  have w2:i64.wrap ((m:Int)-x+x)=(m:Int):=by rw[bE (by omega) (by omega)];omega
  refine abA (aaE (hK3 _ _ (aae λK5 hK5=>abd (abU λK6 hK6=>?_))));simp[hk,hxe,w1,w2,-Int.sub_add_cancel,-Int.natCast_add,-Int.natCast_mul];apply hK6;clear w1 w2;have f3:((m:Nat):Int).tdiv 2=((m/2:Nat):Int):=n9 _ 2;have f3':=bE (n:=((m/2:Nat):Int)) (by omega) (by omega);have f4:((m:Nat):Int).tmod 2=((m%2:Nat):Int):=wI _ 2
  have f5:aj (wK .i64 (List.replicate (k+1) 0++qs)) k [CV.d (.int .i64 ((m/2:Nat):Int))]=wK .i64 (List.replicate k 0++((m/2)::qs)):=by
   rw[gx _ (by simp;omega),qH]
  have hk2:(k:Int)<((dO a).length:Int):=by omega
  have hk3:k<k+1+qs.length:=by omega
  refine abU λK6 hK6=>?_;simp[f3,f3',f5,hk2,-Int.natCast_ediv];apply hK6;refine aaJ ?_;simp[f4,-Int.natCast_emod];apply hK5;have w3:=bE (n:=(k:Int)-1) (by omega) (by omega);refine aaJ ?_;simp[w3];refine⟨k,(m/2)::qs,m%2,Le.mk' _ (by simp) (by simp) (by simp),⟨by simp;omega,bS.2 ⟨by omega,h2⟩,by omega,?_⟩,by omega⟩;rw[hxv,bW];omega
theorem RM(k:IntKind)(l:List Nat):(dK k l).flatten.map CV.d=wK k l:=by
 have:(dK k l).flatten=l.map λ(x:Nat)=>DV.int k (x:Int):=by
  unfold dK;induction l with
  |nil=>rfl
  |cons a l ih=>grind
 rw[this,ady];rfl
theorem Uk{k:IntKind}(o:Option (List Nat)):dS lv 1 (nK k o)=some ((dO o).length,wK k (dO o)):=by
 cases o with
 |none=>rfl
 |some l=>
  have h1:(dK k l).all (λe=>e.length==1)=true:=by rw[ab3];intro e he;obtain⟨x,_,rfl⟩:=List.mem_map.1 he;rfl
  show dS lv 1 (.c (.d (.sl (dK k l))))=_;simp only[dS,h1,if_true,RM];simp[dK]
theorem QW(k:IntKind):nK k none=.c (.d .nilsl):=rfl
theorem Q9(k:IntKind)(x:Nat)(l:List Nat):CV.d (.int k (x:Int))::wK k l=wK k (x::l):=rfl
theorem ag.Ng(κ' kh κb:Key){k:IntKind}(hk:lv κb=.cells true false T (wK k l))(hl:l.length<=1000)
 (hc:aa c.P c.G f [x0,nK k (some l)] x) (hx0:x0.pure=true) (hx:x.pure=true) (hh:lv kh=.hole) (hK:K x [(κb,.cells true true T (wK k l))] [kh,κb] κ'):ag c f [x0,.c (.aE κb 0 l.length 1)] lv K:=by
 have e:bk lv (fU [(κb,T,wK k l)]) κb=.cells true true T (wK k l):=by simp[fU,bk,au]
 refine ag.Z0 (us:=[x0,nK k (some l)]) κ' kh [(κb,T,wK k l)] [kh,κb] hc hx (by grind) (by simp) hh rfl (λi p' q'=>?_) (λa ha j hj=>?_) (by simp) hK
 ·have hi:i=0\/i=1:=by simp at p';omega
  rcases hi with rfl|rfl
  ·grind
  ·exact .inr ⟨[κb],Ei e (by omega),by simp⟩
 ·simp only[fy,aa8,or_false]at ha;rcases ha with rfl|rfl
  ·rw[jr hx0]at hj;cases hj
  ·left;simp only[pz,kM,e,fy]at hj;rcases hj with rfl|hj
   ·simp
   ·simp only[aec]at hj;obtain⟨y,hy,hj⟩:=hj;simp only[wK,adX]at hy;obtain⟨z,_,rfl⟩:=hy
    cases hj
theorem sV(o o':Option (List Nat)):(AV.tup [nK .i64 o,nK .i64 o']).pure=true:=by
 cases o<;>cases o'<;>rfl
theorem Xw(hB:0<B)(h:ok B l)(h1:1<=n)(h2:n<=l.length)(h3:l.length<=n+1):val B l/B^(n-1)=l.getD (n-1) 0+B*l.getD n 0:=by
 have e1:=cB (B:=B) l (n-1) (by omega);have e2:=c7 (B:=B) (l:=l) (i:=n-1) (by omega);rw[show n-1+1=n by omega]at e2
 have e3:val B (l.drop n)=l.getD n 0:=by
  by_cases h4:n<l.length
  ·rw[c7 h4,fR (by omega),aeg,ad0,ac2,bp h4];rfl
  ·rw[fR (by omega),ac2,ae0 (by omega)];rfl
 have e4:l.getD (n-1) 0=l[n-1]'(by omega):=by rw[ac2,bp (by omega)];rfl
 have e5:=fV (mF h (n-1));rw[ac7,adO (by omega)]at e5;rw[e1,e2,e3,e4];generalize l[n-1]+B*l.getD n 0=q;exact Nat.div_eq_of_lt_le (by grind) (by grind)
theorem WT(h1:X*P<=V)(h2:vb<(t+1)*P)(hb:0<vb):X/(t+1)<=V/vb:=by
 rw[ae8 hb]
 calc X/(t+1)*vb<=X/(t+1)*((t+1)*P):=adB _ (aei h2)
  _=(X/(t+1)*(t+1))*P:=by grind
  _<=X*P:=adn _ (afc _ _)
  _<=V:=h1
theorem XR(h1:V<(X+1)*P)(h2:t*P<=vb)(ht:0<t):V/vb<=(X+1)/t:=by
 have hP:0<P:=by
  rcases ae1 P with h|h
  ·subst h;omega
  ·exact h
 have hb:0<vb:=adD (ad4 ht hP) h2;rw[ae8 ht];have h3:V/vb*(t*P)<=V:=ab8 (adB _ h2) (afc _ _);rw[<-adz]at h3;have h4:=afW (aee h3 h1);omega
theorem Sv{k R x qs:Nat}(hV:x+B*R=V)(h:vb*qs+R=k):vb*(V/vb+B*qs)+V%vb=x+B*k:=by
 have h1:=afs V vb
 grind
def NB(a b:Option (List Nat)):Option (List Nat):=if dO a=[]then none else some (aI 1000000000 (val 1000000000 (dO a)%val 1000000000 (dO b)))
theorem WG:aI 1000000000 0=[]:=(eH (by decide)).2 rfl
theorem ue(G:List (List DV))(a b:Option (List Nat))(oka:ok 1000000000 (dO a))(hb:can 1000000000 (dO b))(hb0:dO b≠[])(hal:(dO a).length<=100000)(hbl:(dO b).length<=100000):
 aa prog G 229 [nK .i64 a,nK .i64 b] (.tup [nK .i64 (some (aI 1000000000 (val 1000000000 (dO a)/val 1000000000 (dO b)))),nK .i64 (NB a b)]):=by
 have hbs:∀(lv:Key->LB) (h:lv 1=.hole) (a:CV),ai prog 195 1 [0] lv 1 [.c a]=some (.c (.aE 1 0 1 1),[(1,.cells true false 2 [a])],[],True):=λlv h a=>Fb lv 1 h a
 obtain⟨n,hn⟩:∃n,(dO b).length=n:=⟨_,rfl⟩
 obtain⟨vb,hvb⟩:∃vb,val 1000000000 (dO b)=vb:=⟨_,rfl⟩
 have hn1:1<=n:=by rw[<-hn];exact List.length_pos_iff.2 hb0
 have hvp:0<vb:=by rw[<-hvb];exact iP hb hb0
 have hdb:dO b=aI 1000000000 vb:=iE (by decide) hb hvb;have hvl:vb<1000000000^n:=by rw[<-hvb,<-hn];exact fV hb.1
 obtain⟨t,ht⟩:∃t,(dO b)[n-1]?=some t:=⟨_,bp (by omega)⟩
 have ht1:(dO b)[n-1]'(by omega)=t:=(List.getElem?_eq_some_iff.1 ht).2;have htB:t<1000000000:=by rw[<-ht1];exact hb.1 _ (aZ _)
 have ht0:0<t:=by
  have:=hb.2 t (by grind);omega
 have htop:=Xw (B:=1000000000) (by decide) hb.1 hn1 (by omega) (by omega);rw[hvb,ac2,ht,ac2,ae0 (by omega)]at htop;simp only[aeQ,Option.getD_none,aeg,ad0]at htop;have hPp:0<1000000000^(n-1):=adA (by decide);have hb1:t*1000000000^(n-1)<=vb:=by rw[<-htop];exact afc _ _
 have hb2:vb<(t+1)*1000000000^(n-1):=by rw[<-htop];exact Nat.lt_mul_of_div_lt (Nat.lt_succ_self _) hPp
 have cmpG:∀V,aa prog G 188 [(nK .i64 (some (aI 1000000000 (V)))),nK .i64 b] (.c (.d (.int .i64 (eA V vb)))):=λV=>by
  have hcmp:=oW G (a:=some (aI 1000000000 V)) (b:=b) (bx (by decide) V) hb;simp only[bf,bq (by decide:2<=1000000000),hvb]at hcmp;omega
 have cmG:∀W V,aa prog G 188 [(nK .i64 (some (aI 1000000000 (W)))),(nK .i64 (some (aI 1000000000 (V))))] (.c (.d (.int .i64 (eA W V)))):=λW V=>by
  have hcm:=oW G (a:=some (aI 1000000000 W)) (b:=some (aI 1000000000 V)) (bx (by decide) _) (bx (by decide) _);simp only[bf,bq (by decide:2<=1000000000)]at hcm;exact hcm
 have prG:∀mi,mi<1000000000->aa prog G 189 [nK .i64 b,nK .i64 (some [mi])] (nK .i64 (some (aI 1000000000 (vb*mi)))):=λmi hmi=>by
  have hpr:=tN G b (some [mi]) hb.1 (bS.2 ⟨hmi,cK _⟩) (by omega) (by simp)
  simp_all
 have dfG:∀V W,(aI 1000000000 V).length<=1000000->W<=V->aa prog G 267 [(nK .i64 (some (aI 1000000000 (V)))),(nK .i64 (some (aI 1000000000 (W))))] (nK .i64 (some (aI 1000000000 (V-W)))):=λV W hl hle=>by
  have hdl:(aI 1000000000 W).length<=(aI 1000000000 V).length:=dB (by decide) hle;have hdf:=pg G (some (aI 1000000000 V)) (some (aI 1000000000 W)) (bx (by decide) _).1 (bx (by decide) _).1 (by simp;omega) (by simp;omega) (by simp only[bf,bq (by decide:2<=1000000000)];exact hle);simp only[bf,bq (by decide:2<=1000000000)]at hdf;exact hdf
 refine aa.Sh func229 rfl λ_=>aar ?_;refine abU λK hK=>?_;simp
 repeat refine aL ?_
 apply hK;refine acf hn ?_;refine aar ?_;have w0:=bE (n:=((dO a).length:Int)-1) (by omega) (by omega);refine aae λK hK=>acf w0 ?_;refine abd ?_
 refine aco (λ(p:Nat×List Nat×Nat)=>⟨aJ [(0,nK .i64 a),(1,nK .i64 b),(6,.c (.aE 0 0 (dO a).length 1)),(7,.c (.d (.int .i64 n))),(8,nK .i64 (if p.1=(dO a).length then none else some (aI 1000000000 p.2.2))),(9,.c (.d (.int .i64 ((p.1:Int)-1))))],
  au (λ_=>.hole) 0 (.cells true false 2 (wK .i64 (List.replicate p.1 0++p.2.1)))⟩) 1
  (λp=>p.1+p.2.1.length=(dO a).length/\ok 1000000000 p.2.1/\p.2.2<vb/\(p.1=(dO a).length->p.2.2=0)/\vb*val 1000000000 p.2.1+p.2.2=val 1000000000 ((dO a).drop p.1))
  (λp=>p.1) ((dO a).length,[],0) (Le.mk' _ (by simp[gW]) (by simp) (by simp[QW])) ⟨by simp,cK _,hvp,λ_=>rfl,by simp⟩ ?_
 rintro⟨k,qs,R⟩ ⟨h1,h2,h3,h5,h4⟩;simp only at h1 h2 h3 h4 h5;obtain⟨ro,hro⟩:∃ro,(if k=(dO a).length then none else some (aI 1000000000 R))=ro:=⟨_,rfl⟩
 have hdr:dO ro=aI 1000000000 R:=by
  rw[<-hro];split
  ·rename_i h;rw[h5 h,WG];rfl
  ·rfl
 simp only[hro];refine aae λK3 hK3=>aar ?_
 cases k with
 |zero=>
  refine abg (abX (hK _ _ (aae λK hK=>?_)));have hl:qs.length=(dO a).length:=by omega
  rw[adJ]at h4
  have hq:val 1000000000 qs=val 1000000000 (dO a)/vb:=by
   rw[<-h4,Nat.mul_add_div hvp,aeF h3,ad0]
  have hr:R=val 1000000000 (dO a)%vb:=by
   rw[<-h4,Nat.mul_add_mod,adL h3]
  have hout:dG qs=aI 1000000000 (val 1000000000 (dO a)/vb):=eC (by decide) h2 hq
  have hrem:NB a b=ro:=by
   unfold NB;rw[<-hro,hvb,<-hr]
   by_cases h:dO a=[]
   ·grind
   ·rw[if_neg h,if_neg (λe=>h (aeA e.symm))]
  refine aaJ ?_;simp;rw[<-hl];refine gM.rT (T:=2) (k:=.i64) (l:=qs) 1 9 0 (by simp) (by omega) (j8 _ _ (by omega)) (by simp) (by simp) (by simp) ?_;simp;apply hK;exact acm (κ:=0) (aq.QH (κ:=0) (t:=4) (u:=5) rfl 9 (by simp_all) (by simp[hrem]) (by simp) (by simp) (by simp) (by simp) (by simp) (by decide))
 |succ k=>
  have hk:k<(dO a).length:=by omega
  have e2:((k+1:Nat):Int)-1=k:=by omega
  simp only[e2];have hx:(dO a)[k]<1000000000:=oka _ (aZ hk);have hxv:=c7 (B:=1000000000) hk;obtain⟨x,hxe⟩:∃x,(dO a)[k]=x:=⟨_,rfl⟩
  rw[hxe]at hx hxv;obtain⟨V,hV⟩:∃V,x+1000000000*R=V:=⟨_,rfl⟩
  have hRV:V<1000000000*vb:=by
   have:1000000000*(R+1)<=1000000000*vb:=adB _ h3;omega
  have hRl:(aI 1000000000 R).length<=n:=by rw[<-hn,hdb];exact dB (by decide) (aei h3)
  have htr:dG (x::aI 1000000000 R)=aI 1000000000 V:=eC (by decide) (bS.2 ⟨hx,(bx (by decide) R).1⟩) (by rw[bW,bq (by decide),hV]);have hsr:∀lv:Key->LB,dS lv 1 (nK .i64 ro)=some ((aI 1000000000 R).length,wK .i64 (aI 1000000000 R)):=λlv=>by rw[Uk,hdr]
  have hcmp:=cmpG V;have w9:=bE (n:=(k:Int)-1) (by omega) (by omega);have hkn:¬k=(dO a).length:=by omega
  have hnext:vb*val 1000000000 ((V/vb)::qs)+V%vb=val 1000000000 ((dO a).drop k):=by rw[hxv,bW];exact Sv hV h4
  have hqB:V/vb<1000000000:=by rw[aeG hvp];exact hRV
  refine abA (aaE (hK3 _ _ (aae λK5 hK5=>abd (abU λK6 hK6=>?_))));simp[hk,hxe,hbs,hsr,keyOf,Q9,-ai]
  repeat refine aL ?_
  have hc1:(x::aI 1000000000 R).length=1+(aI 1000000000 R).length:=by simp;omega
  rw[<-hc1];refine gM.rT (k:=.i64) (T:=2) (l:=x::aI 1000000000 R) 3 9 2 (by simp) (by simp;omega) (j8 _ _ (by simp;omega)) (by simp) (by simp) (by simp) ?_;simp[htr];apply hK6;refine aae λK6 hK6=>aae λK7 hK7=>?_
  by_cases hlt:V<vb
  ·have hc:=kf hlt;have hq0:V/vb=0:=aeF hlt;rw[hq0,adL hlt]at hnext;refine ada 3 hcmp hc (hK7 _ _ ?_);refine abA (abX (hK5 _ _ (aaJ ?_)));simp[w9];refine⟨k,0::qs,V,Le.keys [(0,0,.cells true false 2 (wK .i64 (List.replicate k 0++0::qs)))] 19 _ rfl rfl (by simp) (by simp) (by simp) ?_ ?_,⟨by simp;omega,bS.2 ⟨by omega,h2⟩,hlt,λh=>absurd h hkn,hnext⟩,by omega⟩
   ·intro e he;simp only[fy,aa8,or_false]at he;subst he;have e:List.replicate k 0++0::qs=List.replicate (k+1) 0++qs:=by rw[List.replicate_succ',adq];rfl
    rw[e];simpa using lI .i64 2 (List.replicate (k+1) 0++qs) _
   ·simp[aQ,hkn]
  ·have hge:vb<=V:=by omega
   have hlen1:n<=(aI 1000000000 V).length:=by rw[<-hn,hdb];exact dB (by decide) hge
   have hlen2:(aI 1000000000 V).length<=n+1:=by
    refine c8 (by decide) ?_;rw[adl,adR];exact adD hRV (adB _ (aei hvl))
   have hX:=Xw (B:=1000000000) (by decide) (bx (by decide) V).1 hn1 hlen1 hlen2;rw[bq (by decide)]at hX;obtain⟨X,hXe⟩:∃X,V/1000000000^(n-1)=X:=⟨_,rfl⟩
   rw[hXe]at hX;have hX1:X*1000000000^(n-1)<=V:=by rw[<-hXe];exact afc _ _
   have hX2:V<(X+1)*1000000000^(n-1):=by rw[<-hXe];exact Nat.lt_mul_of_div_lt (Nat.lt_succ_self _) hPp
   have hlo:=WT hX1 hb2 hvp;have hhi:=XR hX2 hb1 ht0;obtain⟨Q,hQ⟩:∃Q,V/vb=Q:=⟨_,rfl⟩
   rw[hQ]at hlo hhi hnext hqB
   have hcne:¬eA V vb<0:=by
    by_cases e:V=vb
    ·rw[nX e];omega
    ·rw[kW (by omega)];omega
   have hokV:=(bx (B:=1000000000) (by decide) V).1;obtain⟨r1,hr1⟩:∃r1,(aI 1000000000 V)[n-1]'(by omega)=r1:=⟨_,rfl⟩
   have hr1B:r1<1000000000:=by rw[<-hr1];exact hokV _ (aZ _)
   have hr1g:(aI 1000000000 V).getD (n-1) 0=r1:=by rw[ac2,bp (by omega),hr1];rfl
   rw[hr1g]at hX;have wn:i64.wrap ((n:Int)-1)=((n-1:Nat):Int):=by rw[bE (by omega) (by omega)];omega
   have hix1:∀lv,ak prog 195 lv (nK .i64 (some (aI 1000000000 V))) (.c (.d (.int .i64 ((n-1:Nat):Int))))=some (.c (.d (.ptr [DV.int .i64 (r1:Int)])),[],[],True):=λlv=>by
    have:=gU (P:=prog) (T:=195) (lv:=lv) (k:=.i64) (k':=.i64) (o:=some (aI 1000000000 V)) (i:=n-1) (by simp) (by simp;omega);rw[this];simp only[bf,hr1]
   have hixb:∀lv,ak prog 195 lv (nK .i64 b) (.c (.d (.int .i64 ((n-1:Nat):Int))))=some (.c (.d (.ptr [DV.int .i64 (t:Int)])),[],[],True):=λlv=>by
    have:=gU (P:=prog) (T:=195) (lv:=lv) (k:=.i64) (k':=.i64) (o:=b) (i:=n-1) (by simp) (by omega)
    grind
   refine ada 3 hcmp hcne (hK7 _ _ ?_);refine abD (by rfl) (aaE (hK6 _ _ (abU λK6 hK6=>?_)));simp[wn,hix1,-gU];apply hK6;refine aae λK6 hK6=>?_
   have g1:∀(fr:Nat->AV) (κ:Nat),fr 0=nK .i64 a->fr 1=nK .i64 b->fr 6=.c (.aE 0 0 (dO a).length 1)->fr 7=.c (.d (.int .i64 n))->fr 8=nK .i64 (some (aI 1000000000 V))->fr 9=.c (.d (.int .i64 (k:Int)))->fr 10=.c (.d (.int .i64 (X:Int)))->∀lv:Key->LB,lv 0=.cells true false 2 (wK .i64 (List.replicate (k+1) 0++qs))->lv 19=.hole ->
    K6 ⟨fr,lv⟩ κ:=by
    intro fr κ z0 z1 z6 z7 z8 z9 z10 lv l0 l19
    have hX3:X<=1000000000000000000:=by
     have:V/1000000000^(n-1)<1000000000*1000000000:=by
      rw[aeG hPp]
      have e:1000000000*1000000000*1000000000^(n-1)=1000000000*1000000000^n:=by
       obtain⟨n',rfl⟩:∃n',n=n'+1:=⟨n-1,by omega⟩
       rw[afu,adl,adR (1000000000^n') 1000000000,adz]
      rw[e];exact adD hRV (adB _ (aei hvl))
     omega
    apply hK6;refine aae λK7 hK7=>?_;have f1:=bE (n:=(t:Int)+1) (by omega) (by omega);have f2:=bE (n:=(X:Int)+1) (by omega) (by omega)
    have f3:(X:Int).tdiv ((t:Int)+1)=((X/(t+1):Nat):Int):=by
     have:=n9 X (t+1);rwa[Int.natCast_add,Int.natCast_one]at this
    have f4:((X:Int)+1).tdiv (t:Int)=(((X+1)/t:Nat):Int):=by
     have:=n9 (X+1) t;rwa[Int.natCast_add,Int.natCast_one]at this
    have hle1:X/(t+1)<=X:=afd _ _;have hle2:(X+1)/t<=X+1:=afd _ _;obtain⟨D1,hD1⟩:∃D,X/(t+1)=D:=⟨_,rfl⟩
    obtain⟨D2,hD2⟩:∃D,(X+1)/t=D:=⟨_,rfl⟩
    rw[hD1]at hlo f3 hle1;rw[hD2]at hhi f4 hle2;have f5:=bE (n:=(D1:Int)) (by omega) (by omega);have f6:=bE (n:=(D2:Int)) (by omega) (by omega);have t1:¬(t:Int)+1=0:=by omega
    have t2:¬(t:Int)=0:=by omega
    have t3:¬t=0:=by omega
    have hmin:(if (999999999:Int)<(D2:Int)then(999999999:Int)else(D2:Int))=((min D2 999999999:Nat):Int):=by split<;>omega
    have hmin':(if 999999999<D2 then(999999999:Int)else(D2:Int))=((min D2 999999999:Nat):Int):=by split<;>omega
    have hhi2:Q<=min D2 999999999:=by omega
    have hhB:min D2 999999999<=999999999:=by omega
    obtain⟨H,hH⟩:∃H,min D2 999999999=H:=⟨_,rfl⟩
    rw[hH]at hmin hmin' hhi2 hhB;refine acV mixed (by kernel_rfl) rfl rfl ?_;simp[eF,z1,z7,z10,wn,hixb,f1,f2,f3,f4,f5,f6,t1,t3,hmin,-gU];apply hK7;refine aae λK7 hK7=>abd ?_
    refine aco (λ(p:Nat×Nat)=>⟨aJ [(0,nK .i64 a),(1,nK .i64 b),(6,.c (.aE 0 0 (dO a).length 1)),(7,.c (.d (.int .i64 n))),(8,nK .i64 (some (aI 1000000000 V))),(9,.c (.d (.int .i64 (k:Int)))),(11,.c (.d (.int .i64 (p.1:Int)))),(12,.c (.d (.int .i64 (p.2:Int))))],
     au (λ_=>.hole) 0 (.cells true false 2 (wK .i64 (List.replicate (k+1) 0++qs)))⟩) 1
     (λp=>p.1<=Q/\Q<=p.2/\p.2<=999999999) (λp=>p.2-p.1) (D1,H) (Le.keys [(0,0,.cells true false 2 (wK .i64 (List.replicate (k+1) 0++qs)))] 19 _ rfl rfl (by simp) (by simp) (by simp[l19]) ?_ ?_) ⟨hlo,hhi2,hhB⟩ ?_
    ·intro e he;simp only[fy,aa8,or_false]at he;subst he;simpa[l0]using lI .i64 2 (List.replicate (k+1) 0++qs) _
    ·simp[aQ,z0,z1,z6,z7,z8,z9]
    rintro⟨lo,hi⟩ ⟨q1,q2,q3⟩;simp only at q1 q2 q3;refine aae λK8 hK8=>aar ?_
    by_cases hlh:lo<hi
    ·have u1:i64.wrap ((lo:Int)+hi)=((lo+hi:Nat):Int):=by rw[bE (by omega) (by omega)];omega
     have u2:i64.wrap (((lo+hi:Nat):Int)+1)=((lo+hi+1:Nat):Int):=by rw[bE (by omega) (by omega)];omega
     have u3:(((lo+hi+1:Nat):Int)).tdiv 2=(((lo+hi+1)/2:Nat):Int):=n9 _ 2;obtain⟨mi,hmi⟩:∃mi,(lo+hi+1)/2=mi:=⟨_,rfl⟩
     rw[hmi]at u3;have u4:=bE (n:=(mi:Int)) (by omega) (by omega);have u5:=bE (n:=(mi:Int)-1) (by omega) (by omega);have hpr:=prG mi (by omega);have hcm:=cmG (vb*mi) V;refine abz (by simp[hlh]<;>omega) (aaE (hK8 _ _ (abd (abU λK9 hK9=>?_))));simp[u1,u2,u3,u4,-Int.natCast_add];apply hK9;refine aae λK9 hK9=>?_
     by_cases hle:vb*mi<=V
     ·have hc:eA (vb*mi) V<=0:=by
       by_cases e:vb*mi=V
       ·rw[nX e];omega
       ·rw[kf (by omega)];omega
      have hmQ:mi<=Q:=by rw[<-hQ,ae8 hvp,adR];exact hle
      refine aaJ ?_;simp[hbs,-ai];refine ag.Ng (T:=2) (l:=[mi]) 2 9 1 (by simp[wK]) (by simp) hpr (by simp) (by simp) (by simp) ?_;simp;refine ag.p 2 9 hcm ?_;simp[hc];apply hK9;refine abA (aaJ ?_);simp;refine⟨mi,hi,Le.keys [(0,0,.cells true false 2 (wK .i64 (List.replicate (k+1) 0++qs)))] 19 _ rfl rfl (by simp) (by simp) (by simp) ?_ (by simp[aQ]),⟨hmQ,q2,q3⟩,by omega⟩;intro e he;simp only[fy,aa8,or_false]at he;subst he;simpa using lI .i64 2 (List.replicate (k+1) 0++qs) _
     ·have hc:¬eA (vb*mi) V<=0:=by rw[kW (by omega)];omega
      have hmQ:Q<=mi-1:=by
       have:¬mi<=Q:=by rw[<-hQ,ae8 hvp,adR];exact hle
       omega
      have u6:(mi:Int)-1=((mi-1:Nat):Int):=by omega
      refine aaJ ?_;simp[hbs,-ai];refine ag.Ng (T:=2) (l:=[mi]) 2 9 1 (by simp[wK]) (by simp) hpr (by simp) (by simp) (by simp) ?_;simp;refine ag.p 2 9 hcm ?_;simp[hc];apply hK9;refine abg (aaJ ?_);simp[u5];refine⟨lo,mi-1,Le.keys [(0,0,.cells true false 2 (wK .i64 (List.replicate (k+1) 0++qs)))] 19 _ rfl rfl (by simp) (by simp) (by simp) ?_ (by simp[aQ,u6]),⟨q1,hmQ,by omega⟩,by omega⟩;intro e he;simp only[fy,aa8,or_false]at he;subst he;simpa using lI .i64 2 (List.replicate (k+1) 0++qs) _
    ·refine abD (by simp[hlh]<;>omega) (abX (hK7 _ _ ?_));obtain rfl:lo=Q:=by omega
     have f5:aj (wK .i64 (List.replicate (k+1) 0++qs)) k [CV.d (.int .i64 (lo:Int))]=wK .i64 (List.replicate k 0++(lo::qs)):=by
      rw[gx _ (by simp;omega),qH]
     have hk2:(k:Int)<((dO a).length:Int):=by omega
     have hk3:k<k+1+qs.length:=by omega
     refine abU λK8 hK8=>?_;simp[f5,hk2];apply hK8;refine acW 1 ?_;have hpr:=prG lo (by omega);have hle:vb*lo<=V:=by rw[<-hQ];exact Nat.mul_div_le _ _
     have hdf:=dfG V (vb*lo) (by omega) hle
     have hmod:V-vb*lo=V%vb:=by
      have:=afs V vb;rw[hQ]at this;omega
     rw[hmod]at hdf;refine aaJ ?_;simp[hbs,-ai];refine ag.Ng (T:=2) (l:=[lo]) 2 9 1 (by simp[wK]) (by simp) hpr (by simp) (by simp) (by simp) ?_;simp;refine ag.p 2 9 hdf ?_;simp;apply hK5;refine aaJ ?_;simp[w9];refine⟨k,lo::qs,V%vb,Le.keys [(0,0,.cells true false 2 (wK .i64 (List.replicate k 0++lo::qs)))] 19 _ rfl rfl (by simp) (by simp) (by simp) ?_ ?_,⟨by simp;omega,bS.2 ⟨by omega,h2⟩,adw _ hvp,λh=>absurd h hkn,hnext⟩,by omega⟩
     ·intro e he;simp only[fy,aa8,or_false]at he;subst he;simpa using lI .i64 2 (List.replicate k 0++lo::qs) _
     ·simp[aQ,hkn]
   refine aar ?_
   by_cases hln:n<(aI 1000000000 V).length
   ·obtain⟨r2,hr2⟩:∃r2,(aI 1000000000 V)[n]=r2:=⟨_,rfl⟩
    have hr2B:r2<1000000000:=by rw[<-hr2];exact hokV _ (aZ _)
    have hr2g:(aI 1000000000 V).getD n 0=r2:=by rw[ac2,bp hln,hr2];rfl
    rw[hr2g]at hX
    have hix2:∀lv,ak prog 195 lv (nK .i64 (some (aI 1000000000 V))) (.c (.d (.int .i64 ((n:Nat):Int))))=some (.c (.d (.ptr [DV.int .i64 (r2:Int)])),[],[],True):=λlv=>by
     have:=gU (P:=prog) (T:=195) (lv:=lv) (k:=.i64) (k':=.i64) (o:=some (aI 1000000000 V)) (i:=n) (by simp) (by simpa using hln);rw[this];simp only[bf,hr2]
    have v1:i64.wrap (1000000000*(r2:Int))=((1000000000*r2:Nat):Int):=by rw[bE (by omega) (by omega)];omega
    have v2:i64.wrap ((r1:Int)+((1000000000*r2:Nat):Int))=(X:Int):=by rw[bE (by omega) (by omega)];omega
    refine abz (by simp[hln]<;>omega) (aaJ ?_);simp[hix2,v1,v2,-gU,-Int.natCast_mul];exact g1 _ _ (by simp) (by simp) (by simp) (by simp) (by simp) (by simp) (by simp) _ (by simp) (by simp)
   ·have hX0:X=r1:=by
     rw[ac2,ae0 (by omega)]at hX;simpa using hX
    refine abD (by simp[hln]<;>omega) (aaE ?_);simp;exact g1 _ _ (by simp) (by simp) (by simp) (by simp) (by simp) (by simp) (by simp[hX0]) _ (by simp) (by simp)
theorem FB(ha:A%2=0)(hb:B%2=1):Nat.gcd (A/2) B=Nat.gcd A B:=by
 have h:Nat.Coprime 2 B:=by
  have:Nat.gcd 2 B=Nat.gcd (B%2) 2:=Nat.gcd_rec 2 B;unfold Nat.Coprime;rw[this,hb];rfl
 have e:A=2*(A/2):=by omega
 conv=>rhs;rw[e]
 exact(Nat.Coprime.gcd_mul_left_cancel _ h).symm
theorem HW(ha:A%2=0)(hb:B%2=0):2*Nat.gcd (A/2) (B/2)=Nat.gcd A B:=by
 rw[<-Nat.gcd_mul_left]
 grind
theorem Pk(h:B<=A):Nat.gcd (A-B) B=Nat.gcd A B:=by
 simp_all
theorem OC{tw:Nat}(h:2^tw<=vb)(hl:(aI 1000000000 vb).length<=n):tw<30*n:=by
 have h1:=sH (B:=1000000000) (by decide) (n:=vb);have h2:1000000000^(aI 1000000000 vb).length<=1000000000^n:=adS (by decide) hl;have h3:1000000000^n<=(2^30)^n:=aeY (by decide) n;rw[<-aef]at h3;exact(afG (by decide:1<2)).1 (aee h (adD h1 (ab8 h2 h3)))
theorem Tz:(aI 1000000000 n).length=0↔n=0:=by
 rw[List.length_eq_zero_iff];exact eH (by decide)
theorem My(G:List (List DV))(A:Nat):aa prog G 265 [(nK .i64 (some (aI 1000000000 (A))))] (.c (.d (.bool (decide (A%2=1))))):=by
 have h:=Qi G (some (aI 1000000000 A))
 rwa[bf,bq (by decide)]at h
theorem IF(G:List (List DV))(A:Nat)(h:(aI 1000000000 A).length<=100000):aa prog G 266 [(nK .i64 (some (aI 1000000000 (A))))] (nK .i64 (some (aI 1000000000 (A/2)))):=by
 have h:=Mi G (some (aI 1000000000 A)) (bx (by decide) A).1 (by rw[bf];omega)
 rwa[bf,bq (by decide)]at h
theorem CA(G:List (List DV))(A B:Nat)(h:(aI 1000000000 A).length<=1000000)(h':(aI 1000000000 B).length<=1000000):aa prog G 268 [(nK .i64 (some (aI 1000000000 (A)))),(nK .i64 (some (aI 1000000000 (B))))] (nK .i64 (some (aI 1000000000 (A+B)))):=by
 have h:=Ny G (some (aI 1000000000 A)) (some (aI 1000000000 B)) (bx (by decide) A) (bx (by decide) B) h h'
 rwa[bf,bf,bq (by decide),bq (by decide)]at h
theorem At(G:List (List DV))(A B:Nat)(h:(aI 1000000000 A).length<=1000000)(hle:B<=A):aa prog G 267 [(nK .i64 (some (aI 1000000000 (A)))),(nK .i64 (some (aI 1000000000 (B))))] (nK .i64 (some (aI 1000000000 (A-B)))):=by
 have hl:=dB (B:=1000000000) (by decide) hle;have h:=pg G (some (aI 1000000000 A)) (some (aI 1000000000 B)) (bx (by decide) A).1 (bx (by decide) B).1 h (by rw[bf];omega) (by rw[bf,bf,bq (by decide),bq (by decide)];exact hle)
 rwa[bf,bf,bq (by decide),bq (by decide)]at h
theorem rI(G:List (List DV))(A B:Nat):aa prog G 188 [(nK .i64 (some (aI 1000000000 (A)))),(nK .i64 (some (aI 1000000000 (B))))] (.c (.d (.int .i64 (eA A B)))):=by
 have h:=oW G (a:=some (aI 1000000000 A)) (b:=some (aI 1000000000 B)) (bx (by decide) A) (bx (by decide) B)
 rwa[bf,bf,bq (by decide),bq (by decide)]at h
theorem Dp(G:List (List DV))(va vb:Nat)(ha0:0<va)(hb0:0<vb)(hal:(aI 1000000000 va).length<=100000)(hbl:(aI 1000000000 vb).length<=100000):
 aa prog G 228 [(nK .i64 (some (aI 1000000000 (va)))),(nK .i64 (some (aI 1000000000 (vb))))] (nK .i64 (some (aI 1000000000 (Nat.gcd va vb)))):=by
 have hdv:=ue G (some (aI 1000000000 va)) (some (aI 1000000000 vb)) (bx (by decide) va).1 (bx (by decide) vb) (by rw[bf];intro h;have:=(eH (by decide)).1 h;omega) hal hbl
 have hrm:NB (some (aI 1000000000 va)) (some (aI 1000000000 vb))=some (aI 1000000000 (va%vb)):=by
  unfold NB;rw[bf,bf,if_neg (by intro h;have:=(eH (by decide)).1 h;omega),bq (by decide),bq (by decide)]
 rw[hrm]at hdv;have dle:∀n,n<=vb->(aI 1000000000 n).length<=100000:=λn h=>ab8 (dB (by decide) h) hbl
 have tw_le:∀tw,2^tw<=vb->tw<3000000:=λtw h=>adD (OC h hbl) (by decide)
 have hg0:Nat.gcd va vb=Nat.gcd (va%vb) vb:=by rw[aeX,Nat.gcd_rec]
 have oddG:∀A,aa prog G 265 [(nK .i64 (some (aI 1000000000 (A))))] (.c (.d (.bool (decide (A%2=1))))):=λA=>My G A
 have halfG:∀A,A<=vb->aa prog G 266 [(nK .i64 (some (aI 1000000000 (A))))] (nK .i64 (some (aI 1000000000 (A/2)))):=λA h=>IF G A (dle A h)
 have sumG:∀A,A<=vb->aa prog G 268 [(nK .i64 (some (aI 1000000000 (A)))),(nK .i64 (some (aI 1000000000 (A))))] (nK .i64 (some (aI 1000000000 (A+A)))):=λA h=>CA G A A (by grind) (by grind)
 have diffG:∀A B,A<=vb->B<=A->aa prog G 267 [(nK .i64 (some (aI 1000000000 (A)))),(nK .i64 (some (aI 1000000000 (B))))] (nK .i64 (some (aI 1000000000 (A-B)))):=λA B h h'=>At G A B (by grind) h'
 have cmpG:∀A B,aa prog G 188 [(nK .i64 (some (aI 1000000000 (A)))),(nK .i64 (some (aI 1000000000 (B))))] (.c (.d (.int .i64 (eA A B)))):=λA B=>rI G A B
 refine aa.en func228 rfl λ_=>aar ?_;refine abU λK hK=>?_;simp;refine ag.pure 0 9 hdv (sV _ _) (by simp) rfl ?_;simp;apply hK;refine aae λK hK=>aar ?_
 by_cases hm:va%vb=0
 ·have h1:aI 1000000000 (va%vb)=[]:=(eH (by decide)).2 hm;have hgv:Nat.gcd va vb=vb:=by rw[hg0,hm,afR]
  rw[hgv];refine abz (by simp_all) (aar ?_);exact aaV (aq.rt (t:=4) rfl 9 (by simp))
 have h1:¬aI 1000000000 (va%vb)=[]:=λh=>hm ((eH (by decide)).1 h)
 have hmlt:va%vb<vb:=adw _ hb0;refine abD (by simp_all) (aaE (hK _ _ (aar ?_)));refine aae λK hK=>abd ?_
 refine aco (λ(p:Nat×Nat×Nat)=>⟨aJ [(0,(nK .i64 (some (aI 1000000000 (p.1))))),(1,(nK .i64 (some (aI 1000000000 (p.2.1))))),(5,.c (.d (.int .i64 (p.2.2:Int))))],λ_=>.hole⟩) 0
  (λp=>0<p.1/\0<p.2.1/\p.1<=vb/\p.2.1<=vb/\2^p.2.2*Nat.gcd p.1 p.2.1=Nat.gcd va vb/\2^p.2.2*p.2.1<=vb) (λp=>p.1) (va%vb,vb,0) (Le.mk' _ rfl aW (by simp)) ⟨by omega,hb0,by omega,aU _,by simp[hg0],by simp⟩ ?_
 rintro⟨A,B,tw⟩ ⟨hA,hB,hA2,hB2,hg,ht⟩;simp only at hA hB hA2 hB2 hg ht;have htw:tw<3000000:=tw_le tw (ab8 (Nat.le_mul_of_pos_right _ hB) ht);have wt:=bE (n:=(tw:Int)+1) (by omega) (by omega);have oA:=oddG A;have oB:=oddG B;have hAl:=dle (A) (by omega);have hBl:=dle (B) (by omega)
 have st2:(A%2=1\/B%2=1)->∀(fr:Nat->AV) (κ:Nat),fr 0=(nK .i64 (some (aI 1000000000 (A))))->fr 1=(nK .i64 (some (aI 1000000000 (B))))->fr 5=.c (.d (.int .i64 (tw:Int)))->K ⟨fr,λ_=>.hole⟩ κ:=by
  intro hodd fr κ z0 z1 z5;apply hK;refine aae λK hK=>abd ?_
  refine aco (λ(p:Nat×Nat)=>⟨aJ [(0,(nK .i64 (some (aI 1000000000 (p.1))))),(1,(nK .i64 (some (aI 1000000000 (p.2))))),(5,.c (.d (.int .i64 (tw:Int))))],λ_=>.hole⟩) 0
   (λp=>0<p.2/\p.1<=vb/\p.2<=vb/\(p.1%2=1\/p.2%2=1)/\2^tw*Nat.gcd p.1 p.2=Nat.gcd va vb) (λp=>p.1+p.2) (A,B) (Le.mk' _ rfl aW (by simp_all)) ⟨hB,hA2,hB2,hodd,hg⟩ ?_
  rintro⟨C,D⟩ ⟨i1,i2,i3,i4,i5⟩;simp only at i1 i2 i3 i4 i5
  have fin:∀(Z:Nat) (fr:Nat->AV) (κ:Nat),Z<=vb->2^tw*Z=Nat.gcd va vb->fr 1=(nK .i64 (some (aI 1000000000 (Z))))->fr 5=.c (.d (.int .i64 (tw:Int)))->K ⟨fr,λ_=>.hole⟩ κ:=by
   intro Z fr κ hZ0 hZ z1 z5;apply hK;refine aae λK hK=>aar ?_;refine abd ?_;refine aco (λ(i:Nat)=>⟨aJ [(1,(nK .i64 (some (aI 1000000000 (Z*2^i))))),(5,.c (.d (.int .i64 (tw:Int)))),(6,.c (.d (.int .i64 (i:Int))))],λ_=>.hole⟩) 0 (λi=>i<=tw) (λi=>tw-i) 0 (Le.mk' _ rfl aW (by simp_all)) (ac1 _) ?_;intro i hi
   try simp only at hi
   refine aae λK2 hK2=>aar ?_
   by_cases hlt:i<tw
   ·have wi:=bE (n:=(i:Int)+1) (by omega) (by omega);have hgv:Nat.gcd va vb<=vb:=Nat.gcd_le_right _ hb0
    have hle:Z*2^i<=vb:=by
     rw[adR];exact ab8 (adn Z (adS (by decide) (aei hlt))) (by omega)
    have hll:=dle (Z*2^i) (by omega);have hs:=sumG (Z*2^i) hle;have he:Z*2^i+Z*2^i=Z*2^(i+1):=by rw[adl,<-adz];omega
    rw[he]at hs;refine abz (by simp_all) (aaE (hK2 _ _ (aae λK5 hK5=>abd (AW.m0 0 hs (hK5 _ _ ?_)))));refine aaJ ?_;simp[wi];exact⟨i+1,Le.mk' _ rfl aW (by simp),by omega,by omega⟩
   ·obtain rfl:i=tw:=by omega
    refine abD (by simp) (abX (hK _ _ (aar ?_)));rw[<-hZ,adR];exact aaV (aq.rt (t:=4) rfl 9 (by simp))
  have hCl:=dle (C) (by omega);refine aae λK2 hK2=>aar ?_
  by_cases hC0:C=0
  ·have h2:¬0<(aI 1000000000 C).length:=by rw[Nat.pos_iff_ne_zero];exact λh=>h (Tz.2 hC0)
   subst hC0;rw[afR]at i5;refine abD (by rfl) (abX ?_);simp;exact fin D _ _ i3 i5 (by simp) (by simp)
  have h2:0<(aI 1000000000 C).length:=aeW λh=>hC0 (Tz.1 h)
  refine abz (by simp_all) (aaE (hK2 _ _ (abd (aae λK5 hK5=>abd ?_))))
  refine aco (λ(C':Nat)=>⟨aJ [(0,(nK .i64 (some (aI 1000000000 (C'))))),(1,(nK .i64 (some (aI 1000000000 (D))))),(5,.c (.d (.int .i64 (tw:Int))))],λ_=>.hole⟩) 0
   (λC'=>0<C'/\C'<=C/\(C' % 2=1\/D%2=1)/\Nat.gcd C' D=Nat.gcd C D) (λC'=>C') C (Le.mk' _ rfl aW (by simp)) ⟨by omega,aU _,i4,rfl⟩ ?_
  rintro C' ⟨j1,j2,j3,j4⟩;have oC:=oddG C';have hhC:=halfG C' (by omega);refine aae λK6 hK6=>abU λK7 hK7=>?_;simp
  by_cases c1:C' % 2=1
  rotate_left
  ·have hd1:D%2=1:=by omega
   refine ag.p 0 9 oC ?_;simp[c1];apply hK7;refine abA (aaE (hK6 _ _ (abd (aaJ ?_))));simp;refine ag.p 0 9 hhC ?_;simp;exact⟨C' / 2,Le.mk' _ rfl aW (by simp),⟨by omega,by omega,.inr hd1,by rw[FB (by omega) hd1,j4]⟩,by omega⟩
  refine ag.p 0 9 oC ?_;simp[c1];apply hK7;refine abg (abX (hK5 _ _ (aae λK8 hK8=>abd ?_)))
  refine aco (λ(D':Nat)=>⟨aJ [(0,(nK .i64 (some (aI 1000000000 (C'))))),(1,(nK .i64 (some (aI 1000000000 (D'))))),(5,.c (.d (.int .i64 (tw:Int))))],λ_=>.hole⟩) 0
   (λD'=>0<D'/\D'<=D/\Nat.gcd C' D'=Nat.gcd C D) (λD'=>D') D (Le.mk' _ rfl aW (by simp)) ⟨i1,aU _,j4⟩ ?_
  rintro D' ⟨l1,l2,l3⟩;have oD:=oddG D';have hhD:=halfG D' (by omega);refine aae λK9 hK9=>abU λK10 hK10=>?_;simp
  by_cases d1:D' % 2=1
  rotate_left
  ·refine ag.p 0 9 oD ?_;simp[d1];apply hK10;refine abA (aaE (hK9 _ _ (abd (aaJ ?_))));simp;refine ag.p 0 9 hhD ?_;simp;exact⟨D' / 2,Le.mk' _ rfl aW (by simp),⟨by omega,by omega,by rw[aeX,FB (by omega) c1,aeX,l3]⟩,by omega⟩
  have hDl:=dle (D') (by omega);refine ag.p 0 9 oD ?_;simp[d1];apply hK10;refine abg (abX (hK8 _ _ ?_));rw[<-l3]at i5;refine aae λK11 hK11=>aae λK12 hK12=>?_
  by_cases hD1:D'=1
  ·subst hD1;have e1:aI 1000000000 1=[1]:=(iE (by decide:2<=1000000000) (l:=[1]) ⟨by intro d hd;simp at hd;omega,by simp⟩ (by simp)).symm;have e2:=gU (P:=prog) (T:=195) (lv:=λ_=>.hole) (k:=.i64) (k':=.i64) (o:=some [1]) (i:=0) (by simp) (by simp);simp only[aft,bf,adW]at e2;rw[e1];rw[aff,ad3]at i5;refine aaJ ?_;simp[e2,-gU];apply hK12;refine abA (abX ?_);simp;exact fin 1 _ _ (by omega) (by omega) (by simp[e1]) (by simp)
  have one:∀lv:Key->LB,(aI 1000000000 D').length=1->ak prog 195 lv (nK .i64 (some (aI 1000000000 D'))) (.c (.d (.int .i64 0)))=some (.c (.d (.ptr [DV.int .i64 (D':Int)])),[],[],True):=λlv h=>by
   have h0:0<(dO (some (aI 1000000000 D'))).length:=by rw[bf];omega
   have h2:=gU (P:=prog) (T:=195) (lv:=lv) (k:=.i64) (k':=.i64) (o:=some (aI 1000000000 D')) (i:=0) (by simp) h0
   have hx:(aI 1000000000 D')[0]'(by omega)=D':=by
    obtain⟨x,hx⟩:∃x,aI 1000000000 D'=[x]:=by match hd:aI 1000000000 D',h with|[x],_=>exact⟨x,rfl⟩
    have hv:=bq (B:=1000000000) (by decide) D';rw[hx]at hv;simp at hv;simp[hx,hv]
   simp only[aft,bf,hx]at h2;exact h2
  have hD1':¬(D':Int)=1:=by omega
  have rest:∀(fr:Nat->AV) (κ:Nat),fr 0=(nK .i64 (some (aI 1000000000 (C'))))->fr 1=(nK .i64 (some (aI 1000000000 (D'))))->fr 5=.c (.d (.int .i64 (tw:Int)))->K11 ⟨fr,λ_=>.hole⟩ κ:=by
   intro fr κ z0 z1 z5;apply hK11;refine aae λK13 hK13=>?_
   have fin2:∀(X Y:Nat) (fr:Nat->AV) (κ:Nat),Y<=X->X<=vb->0<Y->Y%2=1->X%2=1->X+Y=C'+D'->Nat.gcd X Y=Nat.gcd C' D'->fr 0=(nK .i64 (some (aI 1000000000 (X))))->fr 1=(nK .i64 (some (aI 1000000000 (Y))))->fr 5=.c (.d (.int .i64 (tw:Int)))->K13 ⟨fr,λ_=>.hole⟩ κ:=by
    intro X Y fr κ hXY hXv hY hY1 hX1 hs hgg z0 z1 z5;have hdf:=diffG X Y hXv hXY;apply hK13;refine aaJ ?_;simp[z0,z1];refine ag.p 0 9 hdf ?_;simp;refine⟨X-Y,Y,Le.mk' _ rfl aW (by simp[z1,z5]),⟨hY,by omega,by omega,.inr hY1,by rw[Pk hXY,hgg];exact i5⟩,by omega⟩
   have hcm:=cmpG C' D';refine aae λK14 hK14=>?_
   by_cases hlt:C'<D'
   ·have hc:eA C' D'<0:=by rw[kf hlt];omega
    refine aaJ ?_;simp[z0,z1];refine ag.p 0 9 hcm ?_;simp[hc];apply hK14;refine abA (aaJ ?_);simp[z0,z1];exact fin2 D' C' _ _ (by omega) (by omega) j1 c1 d1 (by omega) (aeX _ _) (by simp) (by simp) (by simp[z5])
   ·have hc:¬eA C' D'<0:=by
     by_cases e:C'=D'
     ·rw[nX e];omega
     ·rw[kW (by omega)];omega
    refine aaJ ?_;simp[z0,z1];refine ag.p 0 9 hcm ?_;simp[hc];apply hK14;refine abg (aaE ?_);simp;exact fin2 C' D' _ _ (by omega) (by omega) l1 d1 c1 rfl rfl (by simp[z0]) (by simp[z1]) (by simp[z5])
  by_cases hl1:(aI 1000000000 D').length=1
  ·have o1:=λlv=>one lv hl1
   refine aaJ ?_;simp[hl1,o1,hD1',-gU];apply hK12;refine abg (aaE ?_);simp;exact rest _ _ (by simp) (by simp) (by simp)
  ·have hl1':¬((aI 1000000000 D').length:Int)=1:=by omega
   refine acJ hl1 hl1' (hK12 _ _ ?_);refine abg (aaE ?_);simp;exact rest _ _ (by simp) (by simp) (by simp)
 refine aae λK2 hK2=>abU λK3 hK3=>?_;simp
 by_cases a1:A%2=1
 ·refine ag.p 0 9 oA ?_;simp[a1];apply hK3;refine abg (abX ?_)
  simp_all
 by_cases b1:B%2=1
 ·refine ag.p 0 9 oA ?_;simp[a1];refine ag.p 0 9 oB ?_;simp[b1];apply hK3;refine abg (abX ?_)
  simp_all
 have hhA:=halfG A (by omega);have hhB:=halfG B (by omega);refine ag.p 0 9 oA ?_;simp[a1];refine ag.p 0 9 oB ?_;simp[b1];apply hK3;refine abA (aaE (hK2 _ _ (abd (abU λK5 hK5=>?_))));simp;refine ag.p 0 9 hhA ?_;simp;refine ag.p 0 9 hhB ?_;simp;apply hK5;refine aaJ ?_;simp[wt];refine⟨A/2,B/2,tw+1,Le.mk' _ rfl aW (by simp),⟨by omega,by omega,by omega,by omega,?_,?_⟩,by omega⟩
 ·rw[adl,adz,HW (by omega) (by omega)];exact hg
 ·have e:2^(tw+1)*(B/2)=2^tw*(2*(B/2)):=by rw[adl,adz]
  rw[e,show 2*(B/2)=B by omega];exact ht
def gb(x:Rat):Int:=if x.num=0 then 0 else if x.num<0 then -1 else 1
def kI(x:Rat):Option (List Nat):=if x.num=0 then none else some (aI 1000000000 x.num.natAbs)
def oG(x:Rat):Option (List Nat):=if x.num=0 then none else some (aI 1000000000 x.den)
abbrev dM(x:Rat):AV:=rA (gb x) (kI x) (oG x)
theorem oP(x:Rat):dO (kI x)=aI 1000000000 x.num.natAbs:=by
 unfold kI;split
 ·simp_all
 ·rfl
theorem Gi{x:Rat}(h:x.num=0):x.den=1:=by
 simp_all
theorem UT:aI 1000000000 1=[1]:=(iE (by decide:2<=1000000000) (l:=[1]) ⟨by intro d hd;grind,by simp⟩ (by simp)).symm
theorem Ve(x:Rat):Nv (gb x) (oG x)=some (aI 1000000000 x.den):=by
 unfold Nv gb oG
 by_cases h:x.num=0
 ·rw[if_pos h,if_pos rfl,Gi h,UT]
 grind
theorem Uv(n:Nat):(aI 1000000000 n).length<=2*nl n:=by
 refine c8 (by decide) ?_;rw[aef];exact adD (AI n) (aeY (by decide) _)
theorem wM(G:List (List DV)):aa prog G 227 [] (nK .i64 (some (aI 1000000000 (1)))):=by rw[UT];exact EM G
theorem Ck(G:List (List DV))(A B:Nat)(hB:0<B)(h:(aI 1000000000 A).length<=100000)(h':(aI 1000000000 B).length<=100000):∃o,aa prog G 229 [(nK .i64 (some (aI 1000000000 (A)))),(nK .i64 (some (aI 1000000000 (B))))] (.tup [(nK .i64 (some (aI 1000000000 (A/B)))),nK .i64 o]):=by
 have h:=ue G (some (aI 1000000000 A)) (some (aI 1000000000 B)) (bx (by decide) A).1 (bx (by decide) B) (by rw[bf];intro e;have:=(eH (by decide)).1 e;omega) h h';rw[bf,bf,bq (by decide),bq (by decide)]at h
 grind
theorem Si(neg:Bool){Q:Nat}(hP:P≠0)(hQ:Q≠0):dM (mkRat (eY neg P) Q)=rA (if neg then -1 else 1) (some (aI 1000000000 (P/Nat.gcd P Q))) (some (aI 1000000000 (Q/Nat.gcd P Q))):=by
 obtain⟨n1,n2⟩:=jA neg (a:=P) hQ;have hg:P/Nat.gcd P Q≠0:=aeh (Nat.div_pos (Nat.le_of_dvd (by omega) (afv _ _)) (afe _ (by omega)))
 have h0:(mkRat (eY neg P) Q).num≠0:=by
  rw[n1];unfold eY;split<;>omega
 unfold dM gb kI oG;rw[if_neg h0,if_neg h0,if_neg h0,n1,n2,uv]
 cases neg with
 |true=>
  rw[if_pos (show eY true (P/Nat.gcd P Q)<0 from Int.neg_neg_of_pos (Int.ofNat_lt.2 (aeW hg)))];rfl
 |false=>
  rfl
theorem Ls:dM 0=rA 0 none none:=rfl
attribute [local irreducible] cU
theorem Ma(G:List (List DV))(s:Int)(neg:Bool)(P Q:Nat)(p:Option (List Nat))(hp:dO p=aI 1000000000 P)(hs:P≠0->s=if neg then -1 else 1)(hQ:0<Q)(hPl:(aI 1000000000 P).length<=100000)(hQl:(aI 1000000000 Q).length<=100000):
 aa prog G 181 [.c (.d (.int .i64 s)),nK .i64 p,(nK .i64 (some (aI 1000000000 (Q))))] (dM (mkRat (eY neg P) Q)):=by
 have oneG:=wM G;have cmG:=λA B=>rI G A B
 by_cases hP0:P=0
 ·subst hP0;have e0:dO p=[]:=by rw[hp];exact WG
  have e2:eY neg 0=0:=by cases neg<;>rfl
  have e1:mkRat (eY neg 0) Q=0:=by rw[e2];exact Rat.zero_mkRat Q
  rw[e1,Ls];refine aa.enc func181 rfl (λlv=>fZ lv _ _ _) λ_=>aar ?_;refine aae λK hK=>acf e0 ?_;refine abA (acf @XP ?_);refine acm ?_;refine cU.cell (T:=197) (t:=6) (k:=0) (off:=0) (own:=true) (fz:=false) (U:=197) (cs:=[.d (.int .i64 0),.d .nilsl,.d .nilsl]) rfl ?_ ?_ ?_
  ·simp
  ·rfl
  rfl
 have hp1:p=some (aI 1000000000 P):=by
  cases p with
  |none=>exact absurd ((eH (by decide)).1 hp.symm) hP0
  |some l=>simp_all
 subst hp1;have hs1:=hs hP0;have hs0:¬s=0:=by rw[hs1];split<;>omega
 rw[Si neg hP0 (by omega),<-hs1];have hdv:=Dp G P Q (by omega) hQ hPl hQl;obtain⟨g,hg⟩:∃g,Nat.gcd P Q=g:=⟨_,rfl⟩
 have hg0:0<g:=by rw[<-hg];exact afe _ (by omega)
 have hgl:(aI 1000000000 g).length<=100000:=ab8 (dB (by decide) (by rw[<-hg];exact Nat.gcd_le_right _ hQ)) hQl;obtain⟨o1,hd1⟩:=Ck G P g hg0 hPl hgl;obtain⟨o2,hd2⟩:=Ck G Q g hg0 hQl hgl;rw[hg]at hdv⊢;have hne:¬aI 1000000000 P=[]:=λe=>hP0 ((eH (by decide)).1 e)
 have c0:∀A B,(eA A B=0)↔A=B:=λA B=>by unfold eA;omega
 refine aa.enc func181 rfl (λlv=>fZ lv _ _ _) λ_=>aar ?_;refine aae λK hK=>acv hne hs0 ?_;refine abg (aaE (hK _ _ (aae λK hK=>?_)))
 by_cases h1:P=1
 ·have hc:=(c0 P 1).2 h1;have hg1:g=1:=by rw[<-hg,h1,Nat.gcd_one_left]
  refine abU λK1 hK1=>?_;simp;refine ag.p 1 9 oneG ?_;simp;refine ag.p 1 9 (cmG P 1) ?_;simp[hc];apply hK1;refine abA (acv @bR @gF ?_);refine acm ?_;refine cU.cell (T:=197) (t:=6) (k:=0) (off:=0) (own:=true) (fz:=false) (U:=197) (cs:=[.d (.int .i64 s),rC (some (aI 1000000000 P)),rC (some (aI 1000000000 Q))]) rfl ?_ ?_ ?_
  ·simp
  ·rfl
  simp_all
 have hc1:¬eA P 1=0:=λe=>h1 ((c0 P 1).1 e)
 by_cases h2:Q=1
 ·have hc:=(c0 Q 1).2 h2;have hg1:g=1:=by rw[<-hg,h2,aff]
  refine abU λK1 hK1=>?_;simp;refine ag.p 1 9 oneG ?_;simp;refine ag.p 1 9 (cmG P 1) ?_;simp[hc1];refine ag.p 1 9 oneG ?_;simp;refine ag.p 1 9 (cmG Q 1) ?_;simp[hc];apply hK1;refine abA (acv @bR @gF ?_);refine acm ?_;refine cU.cell (T:=197) (t:=6) (k:=0) (off:=0) (own:=true) (fz:=false) (U:=197) (cs:=[.d (.int .i64 s),rC (some (aI 1000000000 P)),rC (some (aI 1000000000 Q))]) rfl ?_ ?_ ?_
  ·simp
  ·rfl
  simp_all
 have hc2:¬eA Q 1=0:=λe=>h2 ((c0 Q 1).1 e)
 refine abU λK1 hK1=>?_;simp;refine ag.p 1 9 oneG ?_;simp;refine ag.p 1 9 (cmG P 1) ?_;simp[hc1];refine ag.p 1 9 oneG ?_;simp;refine ag.p 1 9 (cmG Q 1) ?_;simp[hc2];apply hK1;refine abg (aaE (hK _ _ (acF 1 hdv ?_)));refine aae λK hK=>?_
 have fin:∀(fr:Nat->AV) (κ:Nat),fr 0=.c (.d (.int .i64 s))->fr 1=(nK .i64 (some (aI 1000000000 (P/g))))->fr 2=(nK .i64 (some (aI 1000000000 (Q/g))))->fr 6=.c (.ptr 0 0) ->
  K ⟨fr,au (λ_=>.hole) 0 (.cells true false 197 [.d (.int .i64 0),.d .nilsl,.d .nilsl])⟩ κ:=by
  intro fr κ z0 z1 z2 z6;apply hK;refine AW.f6 z0 z1 z2 z6 @gF @bR ?_;refine acm ?_;refine cU.cell (T:=197) (t:=6) (k:=0) (off:=0) (own:=true) (fz:=false) (U:=197) (cs:=[.d (.int .i64 s),rC (some (aI 1000000000 (P/g))),rC (some (aI 1000000000 (Q/g)))]) rfl ?_ ?_ ?_
  ·simp[z6]
  ·rfl
  ·rfl
 by_cases hg1:g=1
 ·have hc:=(c0 g 1).2 hg1;refine abU λK1 hK1=>?_;simp;refine ag.p 1 9 oneG ?_;simp;refine ag.p 1 9 (cmG g 1) ?_;simp[hc];apply hK1;refine abg (aaE ?_)
  simp_all
 ·have hc:¬eA g 1=0:=λe=>hg1 ((c0 g 1).1 e)
  refine abU λK1 hK1=>?_;simp;refine ag.p 1 9 oneG ?_;simp;refine ag.p 1 9 (cmG g 1) ?_;simp[hc];apply hK1;refine abA (abU λK1 hK1=>?_);simp;refine ag.pure 1 9 hd1 (sV _ _) (by simp) (by simp) ?_;simp;apply hK1;refine aaJ ?_;simp;refine ag.pure 1 9 hd2 (sV _ _) (by simp) (by simp) ?_;simp
  simp_all
end Go.Am
namespace Go.Am
open Go.Am.Ty Go.Proofs N
attribute [local irreducible] cU
def yw(x:Rat):gb x=0\/gb x=1\/gb x = -1:=by unfold gb;omega
def nP{x:Rat}:gb x=0↔x.num=0:=by unfold gb;omega
def qe{x:Rat}(h:x.num≠0):gb x=if decide (x.num<0)then -1 else 1:=by
 unfold gb;grind
def JS(x:Rat):(iJ x).num=(x.num.natAbs:Int)/\(iJ x).den=x.den:=by
 unfold iJ;split
 ·rename_i h
  have:x.num<0:=by
   have:=(Rat.lt_iff x 0).1 h;simpa using this
  rw[Rat.neg_num,Rat.neg_den];omega
 ·rename_i h
  have:¬x.num<0:=λhn=>h ((Rat.lt_iff x 0).2 (by simp_all))
  omega
def Nj(x:Rat):dM (-x)=rA (-gb x) (kI x) (oG x):=by
 unfold dM gb kI oG;rw[Rat.neg_num,Rat.neg_den,Int.natAbs_neg]
 grind
def PV(x:Rat):dM (iJ x)=rA (gb x*gb x) (kI x) (oG x):=by
 obtain⟨e1,e2⟩:=JS x;unfold dM gb kI oG
 grind
def Pq{n L:Nat}(h:nl n<=L):(aI 1000000000 n).length<=2*L:=ab8 (Uv n) (by omega)
def lE(G:List (List DV))(x:Rat):aa prog G 190 [dM x] (.c (rC (some (aI 1000000000 x.den)))):=by
 have:=G2 G (gb x) (kI x) (oG x)
 rwa[Ve]at this
def iK(G:List (List DV))(p q:Option (List Nat))(A B L:Nat)(hp:dO p=aI 1000000000 A)(hq:dO q=aI 1000000000 B)(hA:nl A<=L)(hB:nl B<=L)(hL:L<=400000):aa prog G 189 [.c (rC p),.c (rC q)] (.c (rC (some (aI 1000000000 (A*B))))):=by
 have h1:=Pq hA;have h2:=Pq hB;have h:=tN G p q (by rw[hp];exact(bx (by decide) _).1) (by rw[hq];exact(bx (by decide) _).1) (by grind) (by grind);rw[hp,hq,bq (by decide),bq (by decide)]at h;rw[<-gF,<-gF,<-gF];exact h
def Fu(G:List (List DV))(A B L:Nat)(hA:nl A<=L)(hB:nl B<=L)(hL:L<=400000):aa prog G 268 [.c (rC (some (aI 1000000000 A))),.c (rC (some (aI 1000000000 B)))] (.c (rC (some (aI 1000000000 (A+B))))):=by
 have h1:=Pq hA;have h2:=Pq hB;have:=CA G A B (by omega) (by omega);rw[gF,gF,gF]at this;omega
def F8(G:List (List DV))(A B L:Nat)(hA:nl A<=L)(hL:L<=400000)(h:B<=A):aa prog G 267 [.c (rC (some (aI 1000000000 A))),.c (rC (some (aI 1000000000 B)))] (.c (rC (some (aI 1000000000 (A-B))))):=by
 have h1:=Pq hA;have:=At G A B (by omega) h;rw[gF,gF,gF]at this;omega
def AD(G:List (List DV))(A B:Nat):aa prog G 188 [.c (rC (some (aI 1000000000 A))),.c (rC (some (aI 1000000000 B)))] (.c (.d (.int .i64 (eA A B)))):=by
 have:=rI G A B;rw[gF,gF]at this;omega
def vv(G:List (List DV))(s:Int)(neg:Bool)(P Q L:Nat)(p:Option (List Nat))(hp:dO p=aI 1000000000 P)(hs:P≠0->s=if neg then -1 else 1)(hQ:0<Q)(hP:nl P<=L)(hQl:nl Q<=L)(hL:L<=50000):
 aa prog G 181 [.c (.d (.int .i64 s)),.c (rC p),.c (rC (some (aI 1000000000 Q)))] (dM (mkRat (eY neg P) Q)):=by
 have h1:=Pq hP;have h2:=Pq hQl;have:=Ma G s neg P Q p hp hs hQ (by omega) (by omega);rw[gF,gF]at this;omega
def Om(G:List (List DV))(x:Rat):aa prog G 286 [dM x] (dM (-x)):=by
 have hr:=yw x;have hw:=bE (n:=-gb x) (by omega) (by omega);rw[Nj];refine aa.enc func286 rfl (λlv=>fZ lv _ _ _) λ_=>aar ?_;refine acv hw @bR ?_;refine acm ?_;refine cU.cell (T:=197) (t:=2) (k:=1) (off:=0) (own:=true) (fz:=false) (U:=197) (cs:=[.d (.int .i64 (-gb x)),rC (kI x),rC (oG x)]) rfl ?_ ?_ ?_
 ·simp
 ·rfl
 rfl
def AP(G:List (List DV))(x:Rat):aa prog G 232 [dM x] (dM (iJ x)):=by
 have hr:=yw x;have hw:i64.wrap (gb x*gb x)=gb x*gb x:=by rcases hr with h|h|h<;>rw[h]<;>rfl
 rw[PV];refine aa.enc func232 rfl (λlv=>fZ lv _ _ _) λ_=>aar ?_;refine acv hw @bR ?_;refine acm ?_;refine cU.cell (T:=197) (t:=2) (k:=1) (off:=0) (own:=true) (fz:=false) (U:=197) (cs:=[.d (.int .i64 (gb x*gb x)),rC (kI x),rC (oG x)]) rfl ?_ ?_ ?_
 ·simp
 ·rfl
 rfl
def AB(G:List (List DV))(x:Rat):aa prog G 185 [dM x] (.c (.d (.bool (decide (x.den=1))))):=by
 have hb:=lE G x;have ho:=wM G;rw[gF]at ho;have hc:=AD G x.den 1;have e:(eA x.den 1=0)↔x.den=1:=by unfold eA;(repeat' split)<;>omega
 refine aa.en func185 rfl λ_=>aar ?_;refine abU λK hK=>?_;simp;refine ag.p 1 9 hb ?_;simp;refine ag.p 1 9 ho ?_;simp;refine ag.p 1 9 hc ?_;simp;apply hK;exact aaV (aq.rt (t:=2) rfl 9 (by simp[e]))
def Jy(x:Rat):vA (decide (x.num<0)) (fB x.num.natAbs)=gb x:=by
 unfold vA gb;rw[mU];simp only[eH (by decide:2<=4294967296),decide_eq_true_eq];simp
def US(x y:Rat):jc x y=if gb x<gb y then -1 else if gb y<gb x then 1 else gb x*eA (x.num.natAbs*y.den) (y.num.natAbs*x.den):=by
 rw[<-Kk];unfold Ua;rw[Jy,Jy,pR,pR,vF,vF];omega
def ua(G:List (List DV))(x y:Rat)(hx:kF x 20000)(hy:kF y 20000):aa prog G 136 [dM x,dM y] (.c (.d (.int .i64 (jc x y)))):=by
 have b1:=lE G x;have b2:=lE G y;have m1:=iK G (kI x) (some (aI 1000000000 y.den)) x.num.natAbs y.den 20000 (oP x) rfl hx.1 hy.2 (by decide);have m2:=iK G (kI y) (some (aI 1000000000 x.den)) y.num.natAbs x.den 20000 (oP y) rfl hy.1 hx.2 (by decide);have cc:=AD G (x.num.natAbs*y.den) (y.num.natAbs*x.den);have hr:=US x y
 have hw:i64.wrap (gb x*eA (x.num.natAbs*y.den) (y.num.natAbs*x.den))=gb x*eA (x.num.natAbs*y.den) (y.num.natAbs*x.den):=by
  have h1:=ET (x.num.natAbs*y.den) (y.num.natAbs*x.den);rcases yw x with h|h|h<;>rw[h]<;>exact bE (by omega) (by omega)
 rw[hr];refine aa.en func136 rfl λ_=>aar ?_;refine aae λK hK=>abd (aar ?_)
 by_cases h1:gb x<gb y
 ·refine abz (by simp_all) (aar ?_);exact aaV (aq.rt (t:=4) rfl 9 (by simp[h1]))
 ·refine abD (by simp_all) (aar ?_)
  by_cases h2:gb y<gb x
  ·refine abz (by simp_all) (aar ?_);exact aaV (aq.rt (t:=4) rfl 9 (by simp_all))
  ·refine abD (by simp_all) (aaE (hK _ _ (aae λK hK=>?_)));refine acs mixed (by kernel_rfl) rfl ?_;simp;refine ag.p 2 9 b2 ?_;simp;refine ag.p 2 9 m1 ?_;simp;refine ag.p 2 9 b1 ?_;simp;refine ag.p 2 9 m2 ?_;simp;refine ag.p 2 9 cc ?_;simp;simp[hw];refine⟨by kernel_rfl,?_⟩;apply hK;exact aaV (aq.rt (t:=4) rfl 9 (by simp[h1,h2]))
end Go.Am
namespace Go.Am
open Go.Am.Ty Go.Proofs N
attribute [local irreducible] cU
def lz(lv:Key->LB)(s:Int)(p q:Option (List Nat))(n:Int):eJ lv (.tup [rA s p q,.c (.d (.int .i64 n))])=some (.tup [rA s p q,.c (.d (.int .i64 n))],[]):=by
 cases p<;>cases q<;>rfl
def cU.ref{c:Ctx}{fn:Func}{z:Rat}{t k:Nat}{s:az}{κ:Nat}(hr:fn.results=#[.cell t 197])(ht:s.fr t=.c (.ptr k 0))(hk:s.lv k=.cells true false 197 [.d (.int .i64 (gb z)),rC (kI z),rC (oG z)])(hP:c.P=prog):cU c fn (dM z) .ret s κ:=
 cU.cell hr ht hk (by simp_all)
def OJ(G:List (List DV))(x y:Rat)(hx:kF x 10000)(hy:kF y 10000):aa prog G 285 [dM x,dM y] (dM (x+y)):=by
 have b1:=lE G x;have b2:=lE G y;have m1:=iK G (kI x) (some (aI 1000000000 y.den)) x.num.natAbs y.den 10000 (oP x) rfl hx.1 hy.2 (by decide);have m2:=iK G (kI y) (some (aI 1000000000 x.den)) y.num.natAbs x.den 10000 (oP y) rfl hy.1 hx.2 (by decide);have m3:=iK G (some (aI 1000000000 x.den)) (some (aI 1000000000 y.den)) x.den y.den 10000 rfl rfl hx.2 hy.2 (by decide);have l1:=gT x.num.natAbs y.den;have l2:=gT y.num.natAbs x.den;have l3:=gT x.den y.den;have hq0:0<x.den*y.den:=ad4 x.den_pos y.den_pos;have hx1:=hx.1;have hx2:=hx.2;have hy1:=hy.1;have hy2:=hy.2;have zx:x.num.natAbs*y.den=0↔x.num=0:=by rw[Nat.mul_eq_zero];have:=y.den_nz;omega
 have zy:y.num.natAbs*x.den=0↔y.num=0:=by rw[Nat.mul_eq_zero];have:=x.den_nz;omega
 rw[Jd];generalize x.num.natAbs*y.den=A at*
 generalize y.num.natAbs*x.den=B at*
 generalize x.den*y.den=Q at*
 have ad:=Fu G A B 20000 (by omega) (by omega) (by decide);have l4:=HH A B;have cm:=AD G A B;have mk:=λ(s:Int) (neg:Bool) (P:Nat) (hs:P≠0->s=if neg then -1 else 1) (hP:nl P<=20001)=>vv G s neg P Q 20001 (some (aI 1000000000 P)) rfl hs hq0 hP (by omega) (by decide)
 have df1:A<B->_:=λh=>F8 G B A 20000 (by omega) (by decide) (aei h)
 have df2:¬A<B->_:=λh=>F8 G A B 20000 (by omega) (by decide) (Nat.not_lt.1 h)
 have nA:∀n,n<=A->nl n<=20001:=λn h=>by have:=mu h;omega
 have nB:∀n,n<=B->nl n<=20001:=λn h=>by have:=mu h;omega
 refine aa.enc func285 rfl (λlv=>fZ lv _ _ _) λ_=>aar ?_;refine aae λK hK=>?_;refine acs mixed (by kernel_rfl) rfl ?_;simp;refine ag.p 3 9 b2 ?_;simp;refine ag.p 3 9 m1 ?_;simp;refine ag.p 3 9 b1 ?_;simp;refine ag.p 3 9 m2 ?_;simp;refine⟨by kernel_rfl,?_⟩;apply hK;refine aae λK hK=>?_;refine acs mixed (by kernel_rfl) rfl ?_;simp;refine ag.p 3 9 b1 ?_;simp;refine ag.p 3 9 b2 ?_;simp;refine ag.p 3 9 m3 ?_;simp;refine⟨by kernel_rfl,?_⟩;apply hK;refine aae λK hK=>aae λK1 hK1=>?_
 by_cases hs:gb x=0\/gb y=0\/gb x=gb y
 ·obtain⟨s,hse⟩:∃s,(if gb x=0 then gb y else gb x)=s:=⟨_,rfl⟩
  obtain⟨neg,hn1,hn2⟩:∃neg:Bool,(A+B≠0->s=if neg then -1 else 1)/\eY (decide (x.num<0)) A+eY (decide (y.num<0)) B=eY neg (A+B):=by
   by_cases hx0:x.num=0
   ·have hA:A=0:=zx.2 hx0;have hs1:s=gb y:=by rw[<-hse,if_pos (nP.2 hx0)]
    refine⟨decide (y.num<0),λh=>?_,?_⟩
    ·rw[hs1];exact qe (λe=>h (by omega))
    ·rw[hA,adx];have:eY (decide (x.num<0)) 0=0:=by unfold eY;split<;>rfl
     omega
   ·have hs1:s=gb x:=by rw[<-hse,if_neg (λe=>hx0 (nP.1 e))]
    refine⟨decide (x.num<0),λ_=>?_,?_⟩
    ·rw[hs1];exact qe hx0
    ·by_cases hy0:y.num=0
     ·have hB:B=0:=zy.2 hy0;rw[hB,ad0];have:eY (decide (y.num<0)) 0=0:=by unfold eY;split<;>rfl
      omega
     ·have he:gb x=gb y:=by
       rcases hs with h|h|h
       ·omega
       ·exact absurd (nP.1 h) hy0
       ·exact h
      rw[qe hx0,qe hy0]at he
      have hd:decide (x.num<0)=decide (y.num<0):=by
       cases h1:decide (x.num<0)<;>cases h2:decide (y.num<0)<;>simp[h1,h2]at he ⊢
      rw[hd,DM]
  have mk1:=mk s neg (A+B) hn1 (by omega);rw[<-hn2]at mk1
  by_cases c1:gb x=0
  ·refine acC c1 (hK1 _ _ ?_);refine abA (acf c1 ?_);refine aae λK1 hK1=>aar ?_;refine abA ?_;rw[if_pos c1]at hse;refine acC hse (hK1 _ _ ?_);refine abU λK1 hK1=>?_;simp;refine ag.p 3 9 ad ?_;simp;refine ag.p 3 9 mk1 ?_;simp;simp[aj];apply hK1;exact acm (cU.ref (k:=2) rfl (by simp) (by simp) rfl)
  ·rw[if_neg c1]at hse
   by_cases c2:gb y=0
   ·refine acJ c1 c2 (hK1 _ _ ?_);refine abA (acf hse ?_);refine aae λK1 hK1=>aar ?_;have c3:¬s=0:=by rw[<-hse];exact c1
    refine abD (by simp_all) (aaE (hK1 _ _ (abU λK1 hK1=>?_)));simp;refine ag.p 3 9 ad ?_;simp;refine ag.p 3 9 mk1 ?_;simp;simp[aj];apply hK1;exact acm (cU.ref (k:=2) rfl (by simp) (by simp) rfl)
   ·have c4:gb x=gb y:=hs.elim (λh=>absurd h c1) λh=>h.elim (λh=>absurd h c2) id
    have c5:gb y=s:=by rw[<-c4];exact hse
    have c3:¬s=0:=by rw[<-hse];exact c1
    refine aaJ ?_;simp[hse,c5,c3];apply hK1;refine abA (acf hse ?_);refine aae λK1 hK1=>aar ?_;refine abD (by simp_all) (aaE (hK1 _ _ (abU λK1 hK1=>?_)));simp;refine ag.p 3 9 ad ?_;simp;refine ag.p 3 9 mk1 ?_;simp;simp[aj];apply hK1;exact acm (cU.ref (k:=2) rfl (by simp) (by simp) rfl)
 ·have c1:¬gb x=0:=λh=>hs (.inl h)
  have c2:¬gb y=0:=λh=>hs (.inr (.inl h))
  have c3:¬gb x=gb y:=λh=>hs (.inr (.inr h))
  have hx0:x.num≠0:=λh=>c1 (nP.2 h)
  have hy0:y.num≠0:=λh=>c2 (nP.2 h)
  have hne:decide (x.num<0)≠decide (y.num<0):=λh=>c3 (by rw[qe hx0,qe hy0,h])
  refine acZ c1 c2 c3 (hK1 _ _ ?_);refine abg (aaE (hK _ _ (aae λK hK=>aae λK1 hK1=>?_)))
  by_cases hlt:A<B
  ·have hc:eA A B<0:=by rw[kf hlt];omega
   have d1:=df1 hlt;have mk1:=mk (gb y) (decide (y.num<0)) (B-A) (λ_=>qe hy0) (nB _ (Nat.sub_le _ _));rw[<-H6 hne hlt]at mk1;refine ada 3 cm hc (hK1 _ _ ?_);refine abA (aae λK1 hK1=>?_);refine acs mixed (by kernel_rfl) rfl ?_;simp;refine ag.p 3 9 d1 ?_;simp;refine ag.p 3 9 mk1 ?_;simp;simp[aj];refine⟨by kernel_rfl,?_⟩;apply hK1;exact acm (cU.ref (k:=2) rfl (by simp) (by simp) rfl)
  ·have hc:¬eA A B<0:=by
    by_cases e:A=B
    ·rw[nX e];omega
    ·rw[kW (by omega)];omega
   have d1:=df2 hlt;have mk1:=mk (gb x) (decide (x.num<0)) (A-B) (λ_=>qe hx0) (nA _ (Nat.sub_le _ _));rw[<-Hx hne hlt]at mk1;refine ada 3 cm hc (hK1 _ _ ?_);refine abg (aaE (hK _ _ (aae λK hK=>?_)));refine acs mixed (by kernel_rfl) rfl ?_;simp;refine ag.p 3 9 d1 ?_;simp;refine ag.p 3 9 mk1 ?_;simp;simp[aj];refine⟨by kernel_rfl,?_⟩;apply hK;exact acm (cU.ref (k:=2) rfl (by simp) (by simp) rfl)
def M4(G:List (List DV))(x y:Rat)(hx:kF x 10000)(hy:kF y 10000):aa prog G 270 [dM x,dM y] (dM (x-y)):=by
 have h1:=Om G y;have h2:=OJ G x (-y) hx (yz hy);rw[<-afQ]at h2;refine aa.enc func270 rfl (λlv=>fZ lv _ _ _) λ_=>aar ?_;refine aae λK hK=>?_;refine acs mixed (by kernel_rfl) rfl ?_;simp;refine ag.p 3 9 h1 ?_;simp;refine ag.p 3 9 h2 ?_;simp;simp[aj];refine⟨by kernel_rfl,?_⟩;apply hK;exact acm (cU.ref (k:=2) rfl (by simp) (by simp) rfl)
end Go.Am
namespace Go.Am
open Go.Am.Ty Go.Proofs N
attribute [local irreducible] cU
def Sf{x:Rat}(h:x.num≠0):kI x=some (aI 1000000000 x.num.natAbs):=if_neg h
def D9{x:Rat}(h:x.num≠0):oG x=some (aI 1000000000 x.den):=if_neg h
def NT(G:List (List DV))(x y:Rat)(hx:kF x 10000)(hy:kF y 10000)(hy0:0<y.num):
 aa prog G 234 [dM x,dM y] (.tup [dM (mkRat (eY (decide (x.num<0)) (x.num.natAbs*y.den)) (x.den*y.num.natAbs)),.c (.d (.int .i64 0))]):=by
 have hyn:y.num≠0:=by omega
 have b1:=lE G x;have m1:=iK G (kI x) (oG y) x.num.natAbs y.den 10000 (oP x) (by rw[D9 hyn];rfl) hx.1 hy.2 (by decide);have m2:=iK G (some (aI 1000000000 x.den)) (kI y) x.den y.num.natAbs 10000 rfl (oP y) hx.2 hy.1 (by decide);have l1:=gT x.num.natAbs y.den;have l2:=gT x.den y.num.natAbs;have hx1:=hx.1;have hx2:=hx.2;have hy1:=hy.1;have hy2:=hy.2;have sy:gb y=1:=by unfold gb;rw[if_neg hyn,if_neg (by omega)]
 have sy0:¬gb y=0:=by rw[sy];decide
 have hw:i64.wrap (gb x*gb y)=gb x:=by
  rw[sy,Int.mul_one];rcases yw x with h|h|h<;>rw[h]<;>rfl
 have mk:=vv G (gb x) (decide (x.num<0)) (x.num.natAbs*y.den) (x.den*y.num.natAbs) 20000 (some (aI 1000000000 (x.num.natAbs*y.den))) rfl (λh=>qe (λe=>h (by grind))) (ad4 x.den_pos (by omega)) (by omega) (by omega) (by decide);generalize mkRat (eY (decide (x.num<0)) (x.num.natAbs*y.den)) (x.den*y.num.natAbs)=z at*
 generalize x.num.natAbs*y.den=A at*
 generalize x.den*y.num.natAbs=B at*
 refine aa.enc func234 rfl (λlv=>lz lv _ _ _ _) λ_=>aar ?_;refine aae λK hK=>aar ?_;refine abD (by simp_all) (aaE (hK _ _ (aae λK hK=>?_)));refine acs mixed (by kernel_rfl) rfl ?_;simp[hw];refine ag.p 3 9 m1 ?_;simp;refine ag.p 3 9 b1 ?_;simp;refine ag.p 3 9 m2 ?_;simp;refine ag.p 3 9 mk ?_;simp[aj];refine⟨by kernel_rfl,?_⟩;apply hK;refine acm ?_;refine cU.wY (x:=dM z) (y:=.c (.d (.int .i64 0))) (T:=197) (t:=4) (u:=5) (k:=2) (off:=0) (own:=true) (fz:=false) (U:=197) (cs:=[.d (.int .i64 (gb z)),rC (kI z),rC (oG z)]) rfl ?_ ?_ ?_ ?_ rfl rfl
 ·simp
 ·simp
 ·rfl
 ·simp
def CH(m:Int):aa prog (GG m) 271 [.c (.d (.int .i64 1))] (dM 1):=by
 have h:aa prog (GG m) 271 [.c (.d (.int .i64 1))] (.agg [.d (.int .i64 1),.d (.sl [[.int .i64 1]]),.d (.sl [[.int .i64 1]])]):=aa.F4 (DQ m 60) (by kernel_rfl)
 have e:dM 1=.agg [.d (.int .i64 1),.d (.sl [[.int .i64 1]]),.d (.sl [[.int .i64 1]])]:=by
  show rA 1 (some (aI 1000000000 1)) (some (aI 1000000000 1))=_;rw[UT];rfl
 grind
def A8(G:List (List DV)):∀(k:Nat),k<=100000->aa prog G 288 [.c (.d (.int .i64 (k:Int)))] (.c (rC (some (aI 1000000000 (2^k))))):=by
 intro k
 induction k using Nat.strongRecOn with
 |ind k ih=>
 intro hk;have ho:=wM G;rw[gF]at ho
 by_cases h0:k=0
 ·subst h0;have h0':((0:Nat):Int)=0:=rfl;refine aa.en func288 rfl λ_=>aar ?_;refine aae λK hK=>aar ?_;refine abA (acF 1 ho ?_);exact aaV (aq.rt (t:=2) rfl 9 (by simp))
 have hk0:¬(k:Int)=0:=by omega
 have ih2:=ih (k/2) (by omega) (by omega);have e1:(k:Int).tdiv 2=((k/2:Nat):Int):=n9 k 2;have w1:=bE (n:=((k/2:Nat):Int)) (by omega) (by omega);have e2:(k:Int).tmod 2=((k%2:Nat):Int):=wI k 2;have n2:=qx (k/2);have m1:=iK G (some (aI 1000000000 (2^(k/2)))) (some (aI 1000000000 (2^(k/2)))) (2^(k/2)) (2^(k/2)) 10000 rfl rfl (by omega) (by omega) (by decide);rw[<-ad7]at m1;have n3:=qx (k/2+k/2);have ad:=Fu G (2^(k/2+k/2)) (2^(k/2+k/2)) 10000 (by omega) (by omega) (by decide);have e3:2^(k/2+k/2)+2^(k/2+k/2)=2^(k/2+k/2+1):=by rw[adl];omega
 rw[e3]at ad;refine aa.en func288 rfl λ_=>aar ?_;refine aae λK hK=>aar ?_;refine abD (by simp_all) (aaE (hK _ _ (abU λK hK=>?_)));simp[e1,w1,-Int.natCast_ediv];refine ag.p 1 9 ih2 ?_;simp;apply hK;refine acF 1 m1 ?_;refine aae λK hK=>aae λK1 hK1=>?_
 by_cases ho:k%2=1
 ·have e4:k=k/2+k/2+1:=by omega
  have ho':(k:Int)%2=1:=by omega
  refine aaJ ?_;simp[e2,ho,-Int.natCast_emod];apply hK1;refine abz (by rfl) (AW.m0 1 ad (hK _ _ ?_));refine aar ?_;rw[<-e4];exact aaV (aq.rt (t:=2) rfl 9 (by simp))
 ·have e4:k=k/2+k/2:=by omega
  have ho':¬(k:Int)%2=1:=by omega
  refine aaJ ?_;simp[e2,-Int.natCast_emod];apply hK1;refine abD (by simp[ho']<;>omega) (aaE (hK _ _ (aar ?_)));rw[<-e4];exact aaV (aq.rt (t:=2) rfl 9 (by simp))
end Go.Am
