/- Helpers. -/
import Derived.Test.YticmbkclbnjnaaaGreatDoorJn04

set_option linter.all false
set_option maxHeartbeats 8000000
set_option maxRecDepth 100000
open Go.IntKind
open Go.Proofs.Tryz
namespace Go.Am
abbrev aeT:=@List.eq_nil_or_concat
abbrev aeU:=@List.concat_eq_append
open Go.Am.Ty Go.Proofs N
def By(G:List (List DV))(l:List Nat):aa prog G 252 [tY l] (tY (N.dG l)):=by
 refine aD.kK 0 (by simp) (λV v h=>NQ h) λhl=>?_;refine aa.o9 func252 rfl (by simp) ?_;rintro⟨_,_,w0,F0,W0,_,jd,β0⟩ rfl rfl rfl;refine aae λK hK=>?_;refine acE rfl ?_;simp;apply hK;clear hK K;refine aae λK hK=>abd ?_;refine aco (λl'=>⟨aJ [(0,tY l')],λ_=>.hole⟩) 0 (λl'=>l'.length<=l.length/\N.dG l'=N.dG l) (λl'=>l'.length) l (Le.slots _ (by simp[tY,AV.bF]) (by simp)) (by simp) ?_;rintro l' ⟨h0,h1⟩
 have fin:∀(fr:Nat->AV) (κ:Nat),fr 0=tY (N.dG l)->K ⟨fr,λ_=>.hole⟩ κ:=by
  intro fr κ h;apply hK;clear hK;refine aae λK hK=>?_;refine acE rfl ?_;simp;apply hK;clear hK;exact acm (aq.tmp rfl 0 (by simp[h]) rfl rfl rfl)
 refine aae λK2 hK2=>aae λK3 hK3=>?_;refine acE rfl ?_;rcases aeT l' with rfl|⟨xs,x,rfl⟩
 ·simp[tY,dm,ku,yj];apply hK3;refine adf (b:=false) (by simp) (abX ?_);simp;apply fin;simp[tY,<-h1]
 ·rw[aeU]at*
  have h3:xs.length+1<=9223372036854775807:=by have:=hl.1;simp at h0;omega
  have h4:i64.wrap ((xs.length:Int))=xs.length:=c6 ⟨by simp only[Cf];omega,by simp only[rR];omega⟩;have h2:(0:Int)<(xs.length:Int)+1:=by omega
  by_cases hx:x=0
  ·subst hx;simp[tY,dm,ku,yj,uy,h2,h4];refine⟨by omega,?_⟩;apply hK3;clear hK3 K3;refine adf (b:=true) (by simp) (aaE ?_);simp;apply hK2;clear hK2 K2;refine abd ?_;refine acE rfl ?_;simp[tY,dm,ku,yj,h4];refine⟨⟨by omega,λe he=>?_⟩,?_⟩
   ·rcases he with he|rfl
    ·exact X1 _ _ he
    ·rfl
   refine⟨xs,Le.slots [(0,tY xs)] (by simp[tY,AV.bF]) (by simp),⟨by grind,by rw[<-h1,iZ]⟩,by omega⟩
  ·have hx':¬((x:Int)=0):=by omega
   simp[tY,dm,ku,yj,uy,h2,h4];refine⟨by omega,?_⟩;apply hK3;clear hK3 K3;refine adf (b:=false) (by simp[hx]) (abX ?_);simp;apply fin;simp[tY,<-h1,jJ hx]
end Go.Am
namespace Go.Am
open Go.Am.Ty Go.Proofs
variable {e e':List DV}{lv:Key->LB}{o:Option (List (List DV))}{T:TypeId}{P:Program}
theorem aaT(a b c d:Int):Bw prog 20 60 (.agg [.d (.int .i64 a),.d (.int .i64 b)]) (.agg [.d (.int .i64 c),.d (.int .i64 d)])=some ((a==c)&&((b==d)&&true)):=by
 kernel_rfl
theorem abn(a b c d:Int):Bw prog 20 44 (.agg [.d (.int .i64 a),.d (.int .i64 b)]) (.agg [.d (.int .i64 c),.d (.int .i64 d)])=some ((a==c)&&((b==d)&&true)):=by
 kernel_rfl
theorem adj(a c:Int)(s t s' t':List UInt8):Bw prog 20 38 (.agg [.d (.int .i64 a),.d (.str s),.d (.str t)]) (.agg [.d (.int .i64 c),.d (.str s'),.d (.str t')])=some ((a==c)&&((s==s')&&((t==t')&&true))):=by
 kernel_rfl
theorem adu(a1 a2 a3 a4 a5 a6 b1 b2 b3 b4 b5 b6:Int)(s t:List UInt8):Bw prog 20 40 (.agg [.d (.int .i64 a1),.d (.int .i64 a2),.d (.int .i64 a3),.d (.int .i64 a4),.d (.int .i64 a5),.d (.int .i64 a6),.d (.str s)]) (.agg [.d (.int .i64 b1),.d (.int .i64 b2),.d (.int .i64 b3),.d (.int .i64 b4),.d (.int .i64 b5),.d (.int .i64 b6),.d (.str t)])=some ((a1==b1)&&((a2==b2)&&((a3==b3)&&((a4==b4)&&((a5==b5)&&((a6==b6)&&((s==t)&&true))))))):=by
 kernel_rfl
def eG:Option (List (List DV))->CV
 |none=>.d .nilsl
 |some es=>.d (.sl es)
abbrev pV(o:Option (List (List DV))):AV:=.c (eG o)
def sO(o:Option (List (List DV))):List (List DV):=o.getD []
@[simp]theorem Yf(o:Option (List (List DV))):(AV.c (eG o)).pure=true:=by cases o<;>rfl
@[simp]theorem VV(o:Option (List (List DV))):(AV.c (eG o)).bF=true:=by cases o<;>rfl
theorem yg{V:Vw}{v:Value}(h:V.av v (pV o)):(sO o).length<=9223372036854775807:=by
 cases o with
 |none=>simp[sO]
 |some es=>
  obtain⟨h,_⟩:=h
  cases h with
  |sl b off cap sz es vs hl hc hb hm ho hr=>exact hb
theorem cE(h:(fk P T).isSome=true):dm P T lv (pV o)=some (.c (.d (.int .i64 (sO o).length)),[],[],True):=by
 obtain⟨⟨e,z⟩,h⟩:=Option.isSome_iff_exists.1 h
 cases o<;>simp[dm,pV,eG,sO,ku,h,keyOf]
theorem jZ{k':IntKind}{i sz:Nat}(h:(fk P T).map (·.2)=some sz)(hi:i<(sO o).length)(hs:(sO o)[i].length=sz):
 ak P T lv (pV o) (.c (.d (.int k' (i:Int))))=some (.c (.d (.ptr (sO o)[i])),[],[],True):=by
 obtain⟨⟨e,z⟩,h0,rfl⟩:=Option.map_eq_some_iff.1 h
 cases o with
 |none=>cases hi
 |some es=>
  have hi':i<es.length:=hi;have hs':(es[i]'hi').length=z:=hs;have e1:es.getD i []=es[i]'hi':=by rw[ac2,bp hi'];rfl
  have e2:((0:Int)<=(i:Int)/\(i:Int)<(es.length:Int)/\(es.getD i []).length=z)=True:=by
   rw[e1,eq_iff_iff];exact⟨λ_=>trivial,λ_=>⟨by omega,by omega,hs'⟩⟩
  show ak P T lv (.c (.d (.sl es))) (.c (.d (.int k' (i:Int))))=some (.c (.d (.ptr (es[i]'hi'))),[],[],True)
  simp_all
def Xv:DV->DV->Bool
 |.int _ a,.int _ b=>a==b
 |.str s,.str t=>s==t
 |_,_=>false
def um:List DV->List DV->Bool
 |[],[]=>true
 |a::l,b::m=>Xv a b&&um l m
 |_,_=>false
def Hs:List (List DV)->List (List DV)->Bool
 |[],[]=>true
 |a::l,b::m=>um a b&&Hs l m
 |_,_=>false
def LZ(e:List DV):Prop:=∃a b,e=[.int .i64 a,.int .i64 b]
def TL(e:List DV):Prop:=∃a s t,e=[.int .i64 a,.str s,.str t]
def Sc(e:List DV):Prop:=∃a1 a2 a3 a4 a5 a6 s,e=[.int .i64 a1,.int .i64 a2,.int .i64 a3,.int .i64 a4,.int .i64 a5,.int .i64 a6,.str s]
theorem Yj(h:LZ e)(h':LZ e'):Bw prog 20 60 (.agg (e.map .d)) (.agg (e'.map .d))=some (um e e'):=by
 obtain⟨a,b,rfl⟩:=h;obtain⟨c,d,rfl⟩:=h';exact aaT a b c d
theorem X0(h:LZ e)(h':LZ e'):Bw prog 20 44 (.agg (e.map .d)) (.agg (e'.map .d))=some (um e e'):=by
 obtain⟨a,b,rfl⟩:=h;obtain⟨c,d,rfl⟩:=h';exact abn a b c d
theorem Yv(h:TL e)(h':TL e'):Bw prog 20 38 (.agg (e.map .d)) (.agg (e'.map .d))=some (um e e'):=by
 obtain⟨a,s,t,rfl⟩:=h;obtain⟨c,s',t',rfl⟩:=h';rfl
theorem TI(h:Sc e)(h':Sc e'):Bw prog 20 40 (.agg (e.map .d)) (.agg (e'.map .d))=some (um e e'):=by
 obtain⟨a1,a2,a3,a4,a5,a6,s,rfl⟩:=h;obtain⟨b1,b2,b3,b4,b5,b6,t,rfl⟩:=h';rfl
theorem X9(h:LZ e):bh prog 60 lv (.c (.d (.ptr e)))=some (.agg (e.map .d),[],[],True):=by
 obtain⟨a,b,rfl⟩:=h;rfl
theorem WU(h:LZ e):bh prog 44 lv (.c (.d (.ptr e)))=some (.agg (e.map .d),[],[],True):=by
 obtain⟨a,b,rfl⟩:=h;rfl
theorem Xr(h:TL e):bh prog 38 lv (.c (.d (.ptr e)))=some (.agg (e.map .d),[],[],True):=by
 obtain⟨a,s,t,rfl⟩:=h;rfl
theorem XC(h:Sc e):bh prog 40 lv (.c (.d (.ptr e)))=some (.agg (e.map .d),[],[],True):=by
 obtain⟨a1,a2,a3,a4,a5,a6,s,rfl⟩:=h;rfl
theorem oo(h:LZ e):e.length=2:=by obtain⟨a,b,rfl⟩:=h;rfl
theorem vq(h:TL e):e.length=3:=by obtain⟨a,b,c,rfl⟩:=h;rfl
theorem KN(h:Sc e):e.length=7:=by obtain⟨a1,a2,a3,a4,a5,a6,s,rfl⟩:=h;rfl
theorem nb{x y:AV}{b:Bool}(hg:prog.eqGuardType prog.depth T=false)(hx:∃cs,x=.agg cs)(h:Bw prog 20 T x y=some b):aK prog .neq T x y=some (.c (.d (.bool (!b))),[],[],True):=by
 obtain⟨cs,rfl⟩:=hx;unfold aK;simp[hg,oy,h]
end Go.Am
namespace Go.Am
open Go.Am.Ty Go.Proofs N
variable {i:Nat}{l m es:List (List DV)}{n:Int}{s:List UInt8}
theorem mixed:prog.follows .mixedOrders=true:=by kernel_rfl
theorem iq{a b:Option (List Nat)}{G:List (List DV)}(ha:can 4294967296 (dO a))(hb:can 4294967296 (dO b)):aa prog G 167 [nK .u32 a,nK .u32 b] (.c (.d (.int .i64 (eA (val 4294967296 (dO a)) (val 4294967296 (dO b)))))):=by
 refine aD.kK 0 (by simp) (λV v h=>iT h) λhra=>?_;refine aD.kK 1 (by simp) (λV v h=>iT h) λhrb=>?_;refine aa.en func167 rfl λ_=>aar ?_;refine aae λK hK=>aar ?_
 by_cases hl:(dO a).length=(dO b).length
 ·refine abD (by simp_all) (aaE (hK _ _ (aae λK hK=>abU λK1 hK1=>?_)));simp;have e1:=bE (n:=((dO a).length:Int)-1) (by omega) (by omega);simp only[e1];apply hK1;refine abd ?_;refine aco (λ(k:Nat)=>⟨aJ [(0,nK .u32 a),(1,nK .u32 b),(5,.c (.d (.int .i64 ((k:Int)-1))))],λ_=>.hole⟩) 0 (λk=>k<=(dO a).length/\(dO a).drop k=(dO b).drop k) (λk=>k) (dO a).length (Le.mk' _ rfl aW (by simp)) ⟨aU _,by grind⟩ ?_;rintro k ⟨h1,h2⟩;refine aae λK3 hK3=>aar ?_
  cases k with
  |zero=>
   refine abg (abX (hK _ _ (aar ?_)));simp only[adJ]at h2;exact aaV (aq.rt rfl 0 (by simp[nX (congrArg (val 4294967296) h2)]))
  |succ k=>
   have h3:k<(dO b).length:=by omega
   have h4:k<(dO a).length:=by omega
   have e2:((k+1:Nat):Int)-1=k:=by omega
   simp only[e2];refine abA (aaE (hK3 _ _ (aae λK5 hK5=>abd (aae λK6 hK6=>?_))));refine acV mixed (by kernel_rfl) rfl rfl ?_;simp[h3,h4];apply hK6
   by_cases hd:(dO a)[k]=(dO b)[k]
   ·refine abD (by simp_all) (aaE (hK5 _ _ (aaJ ?_)));simp;have e3:=bE (n:=(k:Int)-1) (by omega) (by omega);simp[e3];refine⟨k,Le.mk' _ (by simp) (by simp) (by simp),⟨by omega,?_⟩,by omega⟩;rw[adV h4,adV h3,hd,h2]
   ·refine abz (by simp<;>omega) (aae λK6 hK6=>aae λK7 hK7=>?_);refine acV mixed (by kernel_rfl) rfl rfl ?_;simp[h3,h4];apply hK7
    by_cases hlt:(dO a)[k]<(dO b)[k]
    ·refine abz (by simp_all) (aar ?_);have:=qO ha.1 h4 h3 h2 hlt;exact aaV (aq.rt rfl 0 (by simp[kf this]))
    ·refine abD (by simp_all) (aaE (hK6 _ _ (aar ?_)));have:=qO hb.1 h3 h4 h2.symm (by omega);exact aaV (aq.rt rfl 0 (by simp[kW this]))
 ·refine abz (by simp<;>omega) (aae λK2 hK2=>aar ?_)
  by_cases hlt:(dO a).length<(dO b).length
  ·refine abz (by simp_all) (aar ?_);exact aaV (aq.rt rfl 0 (by simp[kf (lZ (by omega) ha hb hlt)]))
  ·refine abD (by simp_all) (aaE (hK2 _ _ (aar ?_)));exact aaV (aq.rt rfl 0 (by simp[kW (lZ (by omega) hb ha (by omega))]))
theorem oF:∀{l m:List (List DV)},Hs l m=true↔∃h:l.length=m.length,∀i (hi:i<l.length),um l[i] (m[i]'(h▸hi))=true
 |[],[]=>by simp[Hs]
 |[],b::m=>by simp[Hs]
 |a::l,[]=>by simp[Hs]
 |a::l,b::m=>by
  simp only[Hs,cy,oF (l:=l) (m:=m)];constructor
  ·grind
  ·rintro⟨h1,h2⟩;refine⟨h2 0 (by simp),by grind,λi hi=>?_⟩;exact h2 (i+1) (by grind)
theorem oX(h:l.length≠m.length):Hs l m=false:=by
 cases e:Hs l m with
 |false=>rfl
 |true=>exact absurd (oF.1 e).1 h
theorem rB(hi:i<l.length)(hm:i<m.length)(h:um l[i] m[i]=false):Hs l m=false:=by
 cases e:Hs l m with
 |false=>rfl
 |true=>have:=(oF.1 e).2 i hi;grind
structure PD where
 f:Option (List (List DV))
 mode:Int
 ins:Option (List (List DV))
 nodes:Option (List (List DV))
 head:Int
 tail:Int
 states:Option (List (List DV))
 res:Int
@[simp] def PD.cs(p:PD):List CV:=[eG p.f,.d (.int .i64 p.mode),eG p.ins,eG p.nodes,.d (.int .i64 p.head),.d (.int .i64 p.tail),eG p.states,.d (.int .i64 p.res)]
abbrev PD.A(p:PD):AV:=.agg p.cs
structure PD.ok(p:PD):Prop where
 f:∀e∈sO p.f,LZ e
 ins:∀e∈sO p.ins,TL e
 nodes:∀e∈sO p.nodes,Sc e
 states:∀e∈sO p.states,LZ e
def Lu:DV->Int
 |.str s=>s.length
 |_=>0
def Wp(es:List (List DV)):Nat->Int
 |0=>0
 |i+1=>i64.wrap (i64.wrap (Wp es i+Lu ((es.getD i []).getD 1 .nilp))+Lu ((es.getD i []).getD 2 .nilp))
def V3(n:Int)(es:List (List DV)):Nat->Int
 |0=>n
 |i+1=>i64.wrap (V3 n es i+Lu ((es.getD i []).getD 6 .nilp))
theorem Py{a:Int}{t:List UInt8}(hn:n=Wp es i)(hi:i<es.length)(he:es[i]=[.int .i64 a,.str s,.str t]):
 i64.wrap (i64.wrap (n+s.length)+t.length)=Wp es (i+1):=by
 have e6:es.getD i []=[.int .i64 a,.str s,.str t]:=by rw[ac2,bp hi,he];rfl
 have e7:Lu (List.getD [DV.int .i64 a,.str s,.str t] 1 .nilp)=s.length:=rfl;have e8:Lu (List.getD [DV.int .i64 a,.str s,.str t] 2 .nilp)=t.length:=rfl;rw[Wp,e6,e7,e8,hn]
theorem ON{n0:Int}{a1 a2 a3 a4 a5 a6:Int}(hn:n=V3 n0 es i)(hi:i<es.length)(he:es[i]=[.int .i64 a1,.int .i64 a2,.int .i64 a3,.int .i64 a4,.int .i64 a5,.int .i64 a6,.str s]):
 i64.wrap (n+s.length)=V3 n0 es (i+1):=by
 have e6:es.getD i []=[.int .i64 a1,.int .i64 a2,.int .i64 a3,.int .i64 a4,.int .i64 a5,.int .i64 a6,.str s]:=by rw[ac2,bp hi,he];rfl
 have e7:Lu (List.getD [DV.int .i64 a1,.int .i64 a2,.int .i64 a3,.int .i64 a4,.int .i64 a5,.int .i64 a6,.str s] 6 .nilp)=s.length:=rfl;rw[V3,e6,e7,hn]
def qq(p:PD):Bool:=decide (100<(sO p.f).length) ||decide (100<(sO p.ins).length) ||decide (100<(sO p.nodes).length) ||decide (100<(sO p.states).length) ||
 decide (2000<V3 (Wp (sO p.ins) (sO p.ins).length) (sO p.nodes) (sO p.nodes).length)
theorem PD.WC{V:Vw}{v:Value}{p:PD}(h:V.av v p.A):(sO p.f).length<=9223372036854775807/\(sO p.ins).length<=9223372036854775807/\(sO p.nodes).length<=9223372036854775807/\(sO p.states).length<=9223372036854775807:=by
 obtain⟨arr,rfl,hs,hc⟩:=h;have hs8:arr.size=8:=hs;exact⟨yg (hc 0 (by simp) (by omega)),yg (hc 2 (by simp) (by omega)),yg (hc 3 (by simp) (by omega)),yg (hc 6 (by simp) (by omega))⟩
theorem NY(G:List (List DV))(p:PD)(hp:p.ok):aa prog G 4 [p.A] (.c (.d (.bool (qq p)))):=by
 refine aD.kK 0 (by simp) (λV v h=>PD.WC h) λhr=>?_;obtain⟨hr0,hr2,hr3,hr6⟩:=hr;have lp0:∀(lv:Key->LB) (o:Option (List (List DV))),dm prog 22 lv (pV o)=some (.c (.d (.int .i64 (sO o).length)),[],[],True):=λlv o=>cE (by simp)
 have lp2:∀(lv:Key->LB) (o:Option (List (List DV))),dm prog 23 lv (pV o)=some (.c (.d (.int .i64 (sO o).length)),[],[],True):=λlv o=>cE (by simp)
 have lp3:∀(lv:Key->LB) (o:Option (List (List DV))),dm prog 24 lv (pV o)=some (.c (.d (.int .i64 (sO o).length)),[],[],True):=λlv o=>cE (by simp)
 have lp6:∀(lv:Key->LB) (o:Option (List (List DV))),dm prog 25 lv (pV o)=some (.c (.d (.int .i64 (sO o).length)),[],[],True):=λlv o=>cE (by simp)
 refine aa.en func4 rfl λ_=>aar ?_;refine aae λK hK=>aae λK1 hK1=>?_
 by_cases h0:100<(sO p.f).length
 ·have i0:(100:Int)<((sO p.f).length:Int):=by omega
  refine acJ lp0 i0 (hK1 _ _ ?_);refine abA (aar ?_);exact aaV (aq.rt rfl 2 (by simp[qq,h0]))
 have i0:¬(100:Int)<((sO p.f).length:Int):=by omega
 by_cases h2:100<(sO p.ins).length
 ·have i2:(100:Int)<((sO p.ins).length:Int):=by omega
  refine acY lp0 lp2 i0 i2 (hK1 _ _ ?_);refine abA (aar ?_);exact aaV (aq.rt rfl 2 (by simp[qq,h2]))
 have i2:¬(100:Int)<((sO p.ins).length:Int):=by omega
 by_cases h3:100<(sO p.nodes).length
 ·have i3:(100:Int)<((sO p.nodes).length:Int):=by omega
  refine aaJ ?_;simp[lp0,lp2,lp3,i0,i2,i3];apply hK1;refine abA (aar ?_);exact aaV (aq.rt rfl 2 (by simp[qq,h3]))
 have i3:¬(100:Int)<((sO p.nodes).length:Int):=by omega
 by_cases h6:100<(sO p.states).length
 ·have i6:(100:Int)<((sO p.states).length:Int):=by omega
  refine aaJ ?_;simp[lp0,lp2,lp3,lp6,i0,i2,i3,i6];apply hK1;refine abA (aar ?_);exact aaV (aq.rt rfl 2 (by simp[qq,h6]))
 have i6:¬(100:Int)<((sO p.states).length:Int):=by omega
 refine aaJ ?_;simp[lp0,lp2,lp3,lp6,i0,i2,i3,i6];apply hK1;refine abg (aaE (hK _ _ (aar ?_)));refine aae λK hK=>aar ?_;refine abd ?_
 refine aco (λ(q:Nat×Int)=>⟨aJ [(1,.c (.ptr 0 0)),(3,.c (.d (.int .i64 q.2))),(4,.c (.d (.int .i64 q.1)))],au (λ_=>.hole) 0 (.cells true false 27 p.cs)⟩) 1
  (λq=>q.1<=(sO p.ins).length/\q.2=Wp (sO p.ins) q.1) (λq=>(sO p.ins).length-q.1) (0,0) (Le.mk' _ (by simp) (by simp) (by simp)) ⟨by simp,rfl⟩ ?_
 rintro⟨i,n⟩ ⟨hi,hn⟩;simp only at hi hn;refine aae λK3 hK3=>acf lp2 ?_
 by_cases hi2:i<(sO p.ins).length
 ·refine abz (by simp_all) (aaE (hK3 _ _ ?_));obtain⟨a,s,t,he⟩:=hp.ins _ (aZ hi2)
  have hx:∀lv:Key->LB,ak prog 23 lv (pV p.ins) (.c (.d (.int .i64 (i:Int))))=some (.c (.d (.ptr [.int .i64 a,.str s,.str t])),[],[],True):=λlv=>by
   rw[jZ (sz:=3) (by simp) hi2 (by rw[he];rfl),he]
  refine aae λK5 hK5=>abd ?_;refine acV mixed (by kernel_rfl) rfl rfl ?_;simp[hx];apply hK5;have e3:=bE (n:=(i:Int)+1) (by omega) (by omega);refine aaJ ?_;simp[e3];refine⟨i+1,i64.wrap (i64.wrap (n+s.length)+t.length),Le.mk' _ (by simp) (by simp) (by simp),⟨by omega,?_⟩,by omega⟩;exact Py hn hi2 he
 ·refine abD (by simp_all) (abX (hK _ _ ?_));have hii:i=(sO p.ins).length:=by omega
  subst hii;refine aae λK hK=>aar ?_;refine abd ?_
  refine aco (λ(q:Nat×Int)=>⟨aJ [(1,.c (.ptr 0 0)),(3,.c (.d (.int .i64 q.2))),(5,.c (.d (.int .i64 q.1)))],au (λ_=>.hole) 0 (.cells true false 27 p.cs)⟩) 1
   (λq=>q.1<=(sO p.nodes).length/\q.2=V3 n (sO p.nodes) q.1) (λq=>(sO p.nodes).length-q.1) (0,n) (Le.mk' _ (by simp) (by simp) (by simp)) ⟨by simp,rfl⟩ ?_
  rintro⟨i,n'⟩ ⟨hi,hn'⟩;simp only at hi hn';refine aae λK3 hK3=>acf lp3 ?_
  by_cases hi3:i<(sO p.nodes).length
  ·refine abz (by simp_all) (aaE (hK3 _ _ ?_));obtain⟨a1,a2,a3,a4,a5,a6,s,he⟩:=hp.nodes _ (aZ hi3)
   have hx:∀lv:Key->LB,ak prog 24 lv (pV p.nodes) (.c (.d (.int .i64 (i:Int))))=some (.c (.d (.ptr [.int .i64 a1,.int .i64 a2,.int .i64 a3,.int .i64 a4,.int .i64 a5,.int .i64 a6,.str s])),[],[],True):=λlv=>by
    rw[jZ (sz:=7) (by simp) hi3 (by rw[he];rfl),he]
   refine aae λK5 hK5=>abd (acC hx (hK5 _ _ ?_))
   have e3:=bE (n:=(i:Int)+1) (by omega) (by omega);refine aaJ ?_;simp[e3];refine⟨i+1,i64.wrap (n'+s.length),Le.mk' _ (by simp) (by simp) (by simp),⟨by omega,?_⟩,by omega⟩;exact ON hn' hi3 he
  ·refine abD (by simp_all) (abX (hK _ _ ?_));have hii:i=(sO p.nodes).length:=by omega
   subst hii;refine aar ?_
   have hb:qq p=decide (2000<n'):=by
    simp[qq,h0,h2,h3,h6,hn',hn]
   exact aaV (aq.rt rfl 2 (by simp[hb]))
end Go.Am
