/- Helpers. -/
import Derived.Test.YtfkfimmphlpllaaGreatDoorGn05

set_option linter.all false
set_option maxHeartbeats 8000000
set_option maxRecDepth 100000
open Go.IntKind
open Go.Proofs.Tryz
namespace Go.Am
abbrev abu:=@List.eq_nil_or_concat
abbrev abv:=@List.concat_eq_append
abbrev Zp:=@Int.toNat_natCast
open Go.Am.Ty Go.Proofs N
def zX(G:List (List DV))(l:List Nat):aa prog G 331 [sY l] (sY (N.di l)):=by
 refine aA.jR 0 (by simp) (λV v h=>KP h) λhl=>?_;refine aa.nZ func331 rfl (by rw[Tryz.ntmps331];simp) ?_;rintro⟨_,_,w0,F0,W0,_,iV,β0⟩ rfl rfl rfl;refine aaa λK hK=>?_;refine aat rfl ?_;simp;apply hK;clear hK K;refine aaa λK hK=>aaf ?_;refine aao (λl'=>⟨aU [(0,sY l')],λ_=>.hole⟩) 0 (λl'=>l'.length<=l.length/\N.di l'=N.di l) (λl'=>l'.length) l (Le.slots _ (by simp[sY,AV.bC]) (by simp)) (by simp) ?_;rintro l' ⟨h0,h1⟩
 have fin:∀(fr:Nat->AV) (κ:Nat),fr 0=sY (N.di l)->K ⟨fr,λ_=>.hole⟩ κ:=by
  intro fr κ h;apply hK;clear hK;refine aaa λK hK=>?_;refine aat rfl ?_;simp;apply hK;clear hK;exact aal (au.tmp rfl 0 (by simp[h]) rfl rfl rfl)
 refine aaa λK2 hK2=>aaa λK3 hK3=>?_;refine aat rfl ?_;rcases abu l' with rfl|⟨xs,x,rfl⟩
 ·simp[sY,eJ,lE,xM];apply hK3;refine aaB (b:=false) (by simp) (aan ?_);simp;apply fin;simp[sY,<-h1]
 ·rw[abv]at*
  have h3:xs.length+1<=9223372036854775807:=by have:=hl.1;simp at h0;omega
  have h4:i64.wrap ((xs.length:Int))=xs.length:=cM ⟨by simp only[Bl];omega,by simp only[qj];omega⟩;have h2:(0:Int)<(xs.length:Int)+1:=by omega
  by_cases hx:x=0
  ·subst hx;simp[sY,eJ,lE,xM,mI,h2,h4];refine⟨by omega,?_⟩;apply hK3;clear hK3 K3;refine aaB (b:=true) (by simp) (aad ?_);simp;apply hK2;clear hK2 K2;refine aaf ?_;refine aat rfl ?_;simp[sY,eJ,lE,xM,h2,h4];refine⟨⟨by omega,λe he=>?_⟩,?_⟩
   ·rcases he with he|rfl
    ·exact Uh _ _ he
    ·rfl
   refine⟨xs,Le.slots [(0,sY xs)] (by simp[sY,AV.bC]) (by simp),⟨by simp at h0;omega,by rw[<-h1,iQ]⟩,by omega⟩
  ·have hx':¬((x:Int)=0):=by omega
   simp[sY,eJ,lE,xM,mI,h2,h4,hx'];refine⟨by omega,?_⟩;apply hK3;clear hK3 K3;refine aaB (b:=false) (by simp[hx]) (aan ?_);simp;apply fin;simp[sY,<-h1,jI hx]
end Go.Am
namespace Go.Am
open Go.Am.Ty Go.Proofs
variable {e e':List DV}{lv:Key->LB}{o:Option (List (List DV))}{T:TypeId}{P:Program}
def WW(a b c d:Int):Bh prog 20 81 (.agg [.d (.int .i64 a),.d (.int .i64 b)]) (.agg [.d (.int .i64 c),.d (.int .i64 d)])=some ((a==c)&&((b==d)&&true)):=by
 kernel_rfl
def Wc(a b c d:Int):Bh prog 20 69 (.agg [.d (.int .i64 a),.d (.int .i64 b)]) (.agg [.d (.int .i64 c),.d (.int .i64 d)])=some ((a==c)&&((b==d)&&true)):=by
 kernel_rfl
def V6(a c:Int)(s t s' t':List UInt8):Bh prog 20 67 (.agg [.d (.int .i64 a),.d (.str s),.d (.str t)]) (.agg [.d (.int .i64 c),.d (.str s'),.d (.str t')])=some ((a==c)&&((s==s')&&((t==t')&&true))):=by
 kernel_rfl
def Xj(a1 a2 a3 a4 a5 a6 b1 b2 b3 b4 b5 b6:Int)(s t:List UInt8):Bh prog 20 55 (.agg [.d (.int .i64 a1),.d (.int .i64 a2),.d (.int .i64 a3),.d (.int .i64 a4),.d (.int .i64 a5),.d (.int .i64 a6),.d (.str s)]) (.agg [.d (.int .i64 b1),.d (.int .i64 b2),.d (.int .i64 b3),.d (.int .i64 b4),.d (.int .i64 b5),.d (.int .i64 b6),.d (.str t)])=some ((a1==b1)&&((a2==b2)&&((a3==b3)&&((a4==b4)&&((a5==b5)&&((a6==b6)&&((s==t)&&true))))))):=by
 kernel_rfl
def dc:Option (List (List DV))->CV
 |none=>.d .nilsl
 |some es=>.d (.sl es)
abbrev oV(o:Option (List (List DV))):AV:=.c (dc o)
def sO(o:Option (List (List DV))):List (List DV):=o.getD []
@[simp]def UF(o:Option (List (List DV))):(AV.c (dc o)).pure=true:=by cases o<;>rfl
@[simp]def Sy(o:Option (List (List DV))):(AV.c (dc o)).bC=true:=by cases o<;>rfl
def xB{V:Vw}{v:Value}(h:V.av v (oV o)):(sO o).length<=9223372036854775807:=by
 cases o with
 |none=>simp[sO]
 |some es=>
  obtain⟨h,_⟩:=h
  cases h with
  |sl b off cap sz es vs hl hc hb hm ho hr=>exact hb
theorem cE(h:(fh P T).isSome=true):eJ P T lv (oV o)=some (.c (.d (.int .i64 (sO o).length)),[],[],True):=by
 obtain⟨⟨e,z⟩,h⟩:=Option.isSome_iff_exists.1 h
 cases o<;>simp[eJ,oV,dc,sO,lE,h,keyOf]
theorem j9{k':IntKind}{i sz:Nat}(h:(fh P T).map (·.2)=some sz)(hi:i<(sO o).length)(hs:(sO o)[i].length=sz):
 aq P T lv (oV o) (.c (.d (.int k' (i:Int))))=some (.c (.d (.ptr (sO o)[i])),[],[],True):=by
 obtain⟨⟨e,z⟩,h0,rfl⟩:=Option.map_eq_some_iff.1 h
 cases o with
 |none=>cases hi
 |some es=>
  have hi':i<es.length:=hi;have hs':(es[i]'hi').length=z:=hs;have e1:es.getD i []=es[i]'hi':=by rw[Y8,cy hi'];rfl
  have e2:((0:Int)<=(i:Int)/\(i:Int)<(es.length:Int)/\(es.getD i []).length=z)=True:=by
   rw[e1,eq_iff_iff];exact⟨λ_=>trivial,λ_=>⟨by omega,by omega,hs'⟩⟩
  show aq P T lv (.c (.d (.sl es))) (.c (.d (.int k' (i:Int))))=some (.c (.d (.ptr (es[i]'hi'))),[],[],True);unfold aq;have h2:(Int.toNat (i:Int))=i:=Zp i;simp only[h2];rw[h0];show some (AV.c (.d (.ptr (es.getD i []))),[],[],(0:Int)<=(i:Int)/\(i:Int)<(es.length:Int)/\(es.getD i []).length=z)=_;rw[e2,e1]
def VG:DV->DV->Bool
 |.int _ a,.int _ b=>a==b
 |.str s,.str t=>s==t
 |_,_=>false
def uq:List DV->List DV->Bool
 |[],[]=>true
 |a::l,b::m=>VG a b&&uq l m
 |_,_=>false
def Fl:List (List DV)->List (List DV)->Bool
 |[],[]=>true
 |a::l,b::m=>uq a b&&Fl l m
 |_,_=>false
def J8(e:List DV):Prop:=∃a b,e=[.int .i64 a,.int .i64 b]
def Qx(e:List DV):Prop:=∃a s t,e=[.int .i64 a,.str s,.str t]
def P3(e:List DV):Prop:=∃a1 a2 a3 a4 a5 a6 s,e=[.int .i64 a1,.int .i64 a2,.int .i64 a3,.int .i64 a4,.int .i64 a5,.int .i64 a6,.str s]
def UM(h:J8 e)(h':J8 e'):Bh prog 20 81 (.agg (e.map .d)) (.agg (e'.map .d))=some (uq e e'):=by
 obtain⟨a,b,rfl⟩:=h;obtain⟨c,d,rfl⟩:=h';exact WW a b c d
def TK(h:J8 e)(h':J8 e'):Bh prog 20 69 (.agg (e.map .d)) (.agg (e'.map .d))=some (uq e e'):=by
 obtain⟨a,b,rfl⟩:=h;obtain⟨c,d,rfl⟩:=h';exact Wc a b c d
def UB(h:Qx e)(h':Qx e'):Bh prog 20 67 (.agg (e.map .d)) (.agg (e'.map .d))=some (uq e e'):=by
 obtain⟨a,s,t,rfl⟩:=h;obtain⟨c,s',t',rfl⟩:=h';exact V6 a c s t s' t'
def S1(h:P3 e)(h':P3 e'):Bh prog 20 55 (.agg (e.map .d)) (.agg (e'.map .d))=some (uq e e'):=by
 obtain⟨a1,a2,a3,a4,a5,a6,s,rfl⟩:=h;obtain⟨b1,b2,b3,b4,b5,b6,t,rfl⟩:=h';exact Xj a1 a2 a3 a4 a5 a6 b1 b2 b3 b4 b5 b6 s t
def To(h:J8 e):bk prog 81 lv (.c (.d (.ptr e)))=some (.agg (e.map .d),[],[],True):=by
 obtain⟨a,b,rfl⟩:=h;kernel_rfl
def S2(h:J8 e):bk prog 69 lv (.c (.d (.ptr e)))=some (.agg (e.map .d),[],[],True):=by
 obtain⟨a,b,rfl⟩:=h;kernel_rfl
def Uz(h:Qx e):bk prog 67 lv (.c (.d (.ptr e)))=some (.agg (e.map .d),[],[],True):=by
 obtain⟨a,s,t,rfl⟩:=h;kernel_rfl
def TQ(h:P3 e):bk prog 55 lv (.c (.d (.ptr e)))=some (.agg (e.map .d),[],[],True):=by
 obtain⟨a1,a2,a3,a4,a5,a6,s,rfl⟩:=h;kernel_rfl
def iI(h:J8 e):e.length=2:=by obtain⟨a,b,rfl⟩:=h;rfl
def mW(h:Qx e):e.length=3:=by obtain⟨a,b,c,rfl⟩:=h;rfl
def mO(h:P3 e):e.length=7:=by obtain⟨a1,a2,a3,a4,a5,a6,s,rfl⟩:=h;rfl
def nb{x y:AV}{b:Bool}(hg:prog.eqGuardType prog.depth T=false)(hx:∃cs,x=.agg cs)(h:Bh prog 20 T x y=some b):aI prog .neq T x y=some (.c (.d (.bool (!b))),[],[],True):=by
 obtain⟨cs,rfl⟩:=hx;unfold aI;simp[hg,pg,h]
end Go.Am
namespace Go.Am
open Go.Am.Ty Go.Proofs N
variable {i:Nat}{l m es:List (List DV)}{n:Int}{s:List UInt8}
def mixed:prog.follows .mixedOrders=true:=by kernel_rfl
theorem gF{a b:Option (List Nat)}{G:List (List DV)}(ha:can 4294967296 (dO a))(hb:can 4294967296 (dO b)):aa prog G 240 [nK .u32 a,nK .u32 b] (.c (.d (.int .i64 (ec (val 4294967296 (dO a)) (val 4294967296 (dO b)))))):=by
 refine aA.jR 0 (by simp) (λV v h=>iJ h) λhra=>?_;refine aA.jR 1 (by simp) (λV v h=>iJ h) λhrb=>?_;refine aa.en func240 rfl λ_=>aab ?_;refine aaa λK hK=>aab ?_
 by_cases hl:(dO a).length=(dO b).length
 ·refine aaj (by simp[hl]<;>omega) (aad (hK _ _ (aaa λK hK=>aak λK1 hK1=>?_)));simp;have e1:=bF (n:=((dO a).length:Int)-1) (by omega) (by omega);simp only[e1];apply hK1;refine aaf ?_;refine aao (λ(k:Nat)=>⟨aU [(0,nK .u32 a),(1,nK .u32 b),(5,.c (.d (.int .i64 ((k:Int)-1))))],λ_=>.hole⟩) 0 (λk=>k<=(dO a).length/\(dO a).drop k=(dO b).drop k) (λk=>k) (dO a).length (Le.mk' _ rfl bg (by simp)) ⟨aY _,by rw[List.drop_length,hl,List.drop_length]⟩ ?_;rintro k ⟨h1,h2⟩;refine aaa λK3 hK3=>aab ?_
  cases k with
  |zero=>
   refine aah (aan (hK _ _ (aab ?_)));simp only[Y9]at h2;exact aae (au.rt rfl 0 (by simp[nU (congrArg (val 4294967296) h2)]))
  |succ k=>
   have h3:k<(dO b).length:=by omega
   have h4:k<(dO a).length:=by omega
   have e2:((k+1:Nat):Int)-1=k:=by omega
   simp only[e2];refine aai (aad (hK3 _ _ (aaa λK5 hK5=>aaf (aaa λK6 hK6=>?_))));refine aav mixed (by kernel_rfl) rfl rfl ?_;simp[h3,h4];apply hK6
   by_cases hd:(dO a)[k]=(dO b)[k]
   ·refine aaj (by simp[hd]<;>omega) (aad (hK5 _ _ (aac ?_)));simp;have e3:=bF (n:=(k:Int)-1) (by omega) (by omega);simp[e3];refine⟨k,Le.mk' _ (by simp) (by simp) (by simp[e3]),⟨by omega,?_⟩,by omega⟩;rw[Z6 h4,Z6 h3,hd,h2]
   ·refine aag (by simp[hd]<;>omega) (aaa λK6 hK6=>aaa λK7 hK7=>?_);refine aav mixed (by kernel_rfl) rfl rfl ?_;simp[h3,h4];apply hK7
    by_cases hlt:(dO a)[k]<(dO b)[k]
    ·refine aag (by simp[hlt]<;>omega) (aab ?_);have:=pK ha.1 h4 h3 h2 hlt;exact aae (au.rt rfl 0 (by simp[jO this]))
    ·refine aaj (by simp[hlt]<;>omega) (aad (hK6 _ _ (aab ?_)));have:=pK hb.1 h3 h4 h2.symm (by omega);exact aae (au.rt rfl 0 (by simp[kI this]))
 ·refine aag (by simp[hl]<;>omega) (aaa λK2 hK2=>aab ?_)
  by_cases hlt:(dO a).length<(dO b).length
  ·refine aag (by simp[hlt]<;>omega) (aab ?_);exact aae (au.rt rfl 0 (by simp[jO (lz (by omega) ha hb hlt)]))
  ·refine aaj (by simp[hlt]<;>omega) (aad (hK2 _ _ (aab ?_)));exact aae (au.rt rfl 0 (by simp[kI (lz (by omega) hb ha (by omega))]))
def mM:∀{l m:List (List DV)},Fl l m=true↔∃h:l.length=m.length,∀i (hi:i<l.length),uq l[i] (m[i]'(h▸hi))=true
 |[],[]=>by simp[Fl]
 |[],b::m=>by simp[Fl]
 |a::l,[]=>by simp[Fl]
 |a::l,b::m=>by
  simp only[Fl,cn,mM (l:=l) (m:=m)];constructor
  ·rintro⟨h1,h2,h3⟩;refine⟨by simp[h2],λi hi=>?_⟩
   cases i with
   |zero=>exact h1
   |succ i=>exact h3 i (by simpa using hi)
  ·rintro⟨h1,h2⟩;refine⟨h2 0 (by simp),by simpa using h1,λi hi=>?_⟩;exact h2 (i+1) (by simpa using hi)
def ng(h:l.length≠m.length):Fl l m=false:=by
 cases e:Fl l m with
 |false=>rfl
 |true=>exact absurd (mM.1 e).1 h
def p6(hi:i<l.length)(hm:i<m.length)(h:uq l[i] m[i]=false):Fl l m=false:=by
 cases e:Fl l m with
 |false=>rfl
 |true=>have:=(mM.1 e).2 i hi;rw[h]at this;cases this
structure PD where
 f:Option (List (List DV))
 mode:Int
 ins:Option (List (List DV))
 nodes:Option (List (List DV))
 head:Int
 tail:Int
 states:Option (List (List DV))
 res:Int
@[simp] def PD.cs(p:PD):List CV:=[dc p.f,.d (.int .i64 p.mode),dc p.ins,dc p.nodes,.d (.int .i64 p.head),.d (.int .i64 p.tail),dc p.states,.d (.int .i64 p.res)]
abbrev PD.A(p:PD):AV:=.agg p.cs
structure PD.ok(p:PD):Prop where
 f:∀e∈sO p.f,J8 e
 ins:∀e∈sO p.ins,Qx e
 nodes:∀e∈sO p.nodes,P3 e
 states:∀e∈sO p.states,J8 e
def JB:DV->Int
 |.str s=>s.length
 |_=>0
def SL(es:List (List DV)):Nat->Int
 |0=>0
 |i+1=>i64.wrap (i64.wrap (SL es i+JB ((es.getD i []).getD 1 .nilp))+JB ((es.getD i []).getD 2 .nilp))
def Su(n:Int)(es:List (List DV)):Nat->Int
 |0=>n
 |i+1=>i64.wrap (Su n es i+JB ((es.getD i []).getD 6 .nilp))
def LK{a:Int}{t:List UInt8}(hn:n=SL es i)(hi:i<es.length)(he:es[i]=[.int .i64 a,.str s,.str t]):
 i64.wrap (i64.wrap (n+s.length)+t.length)=SL es (i+1):=by
 have e6:es.getD i []=[.int .i64 a,.str s,.str t]:=by rw[Y8,cy hi,he];rfl
 have e7:JB (List.getD [DV.int .i64 a,.str s,.str t] 1 .nilp)=s.length:=rfl;have e8:JB (List.getD [DV.int .i64 a,.str s,.str t] 2 .nilp)=t.length:=rfl;rw[SL,e6,e7,e8,hn]
def MI{n0:Int}{a1 a2 a3 a4 a5 a6:Int}(hn:n=Su n0 es i)(hi:i<es.length)(he:es[i]=[.int .i64 a1,.int .i64 a2,.int .i64 a3,.int .i64 a4,.int .i64 a5,.int .i64 a6,.str s]):
 i64.wrap (n+s.length)=Su n0 es (i+1):=by
 have e6:es.getD i []=[.int .i64 a1,.int .i64 a2,.int .i64 a3,.int .i64 a4,.int .i64 a5,.int .i64 a6,.str s]:=by rw[Y8,cy hi,he];rfl
 have e7:JB (List.getD [DV.int .i64 a1,.int .i64 a2,.int .i64 a3,.int .i64 a4,.int .i64 a5,.int .i64 a6,.str s] 6 .nilp)=s.length:=rfl;rw[Su,e6,e7,hn]
def oT(p:PD):Bool:=decide (100<(sO p.f).length) ||decide (100<(sO p.ins).length) ||decide (100<(sO p.nodes).length) ||decide (100<(sO p.states).length) ||
 decide (2000<Su (SL (sO p.ins) (sO p.ins).length) (sO p.nodes) (sO p.nodes).length)
def PD.TH{V:Vw}{v:Value}{p:PD}(h:V.av v p.A):(sO p.f).length<=9223372036854775807/\(sO p.ins).length<=9223372036854775807/\(sO p.nodes).length<=9223372036854775807/\(sO p.states).length<=9223372036854775807:=by
 obtain⟨arr,rfl,hs,hc⟩:=h;have hs8:arr.size=8:=hs;exact⟨xB (hc 0 (by simp) (by omega)),xB (hc 2 (by simp) (by omega)),xB (hc 3 (by simp) (by omega)),xB (hc 6 (by simp) (by omega))⟩
theorem ML(G:List (List DV))(p:PD)(hp:p.ok):aa prog G 16 [p.A] (.c (.d (.bool (oT p)))):=by
 refine aA.jR 0 (by simp) (λV v h=>PD.TH h) λhr=>?_;obtain⟨hr0,hr2,hr3,hr6⟩:=hr;have lp0:∀(lv:Key->LB) (o:Option (List (List DV))),eJ prog 22 lv (oV o)=some (.c (.d (.int .i64 (sO o).length)),[],[],True):=λlv o=>cE (by simp)
 have lp2:∀(lv:Key->LB) (o:Option (List (List DV))),eJ prog 23 lv (oV o)=some (.c (.d (.int .i64 (sO o).length)),[],[],True):=λlv o=>cE (by simp)
 have lp3:∀(lv:Key->LB) (o:Option (List (List DV))),eJ prog 24 lv (oV o)=some (.c (.d (.int .i64 (sO o).length)),[],[],True):=λlv o=>cE (by simp)
 have lp6:∀(lv:Key->LB) (o:Option (List (List DV))),eJ prog 25 lv (oV o)=some (.c (.d (.int .i64 (sO o).length)),[],[],True):=λlv o=>cE (by simp)
 refine aa.en func16 rfl λ_=>aab ?_;refine aaa λK hK=>aaa λK1 hK1=>?_
 by_cases h0:100<(sO p.f).length
 ·have i0:(100:Int)<((sO p.f).length:Int):=by omega
  refine aau lp0 i0 (hK1 _ _ ?_);refine aai (aab ?_);exact aae (au.rt rfl 2 (by simp[oT,h0]))
 have i0:¬(100:Int)<((sO p.f).length:Int):=by omega
 by_cases h2:100<(sO p.ins).length
 ·have i2:(100:Int)<((sO p.ins).length:Int):=by omega
  refine aay lp0 lp2 i0 i2 (hK1 _ _ ?_);refine aai (aab ?_);exact aae (au.rt rfl 2 (by simp[oT,h2]))
 have i2:¬(100:Int)<((sO p.ins).length:Int):=by omega
 by_cases h3:100<(sO p.nodes).length
 ·have i3:(100:Int)<((sO p.nodes).length:Int):=by omega
  refine aac ?_;simp[lp0,lp2,lp3,i0,i2,i3];apply hK1;refine aai (aab ?_);exact aae (au.rt rfl 2 (by simp[oT,h3]))
 have i3:¬(100:Int)<((sO p.nodes).length:Int):=by omega
 by_cases h6:100<(sO p.states).length
 ·have i6:(100:Int)<((sO p.states).length:Int):=by omega
  refine aac ?_;simp[lp0,lp2,lp3,lp6,i0,i2,i3,i6];apply hK1;refine aai (aab ?_);exact aae (au.rt rfl 2 (by simp[oT,h6]))
 have i6:¬(100:Int)<((sO p.states).length:Int):=by omega
 refine aac ?_;simp[lp0,lp2,lp3,lp6,i0,i2,i3,i6];apply hK1;refine aah (aad (hK _ _ (aab ?_)));refine aaa λK hK=>aab ?_;refine aaf ?_
 refine aao (λ(q:Nat×Int)=>⟨aU [(1,.c (.ptr 0 0)),(3,.c (.d (.int .i64 q.2))),(4,.c (.d (.int .i64 q.1)))],az (λ_=>.hole) 0 (.cells true false 27 p.cs)⟩) 1
  (λq=>q.1<=(sO p.ins).length/\q.2=SL (sO p.ins) q.1) (λq=>(sO p.ins).length-q.1) (0,0) (Le.mk' _ (by simp) (by simp) (by simp)) ⟨by simp,rfl⟩ ?_
 rintro⟨i,n⟩ ⟨hi,hn⟩;simp only at hi hn;refine aaa λK3 hK3=>aam lp2 ?_
 by_cases hi2:i<(sO p.ins).length
 ·refine aag (by simp[hi2]<;>omega) (aad (hK3 _ _ ?_));obtain⟨a,s,t,he⟩:=hp.ins _ (bh hi2)
  have hx:∀lv:Key->LB,aq prog 23 lv (oV p.ins) (.c (.d (.int .i64 (i:Int))))=some (.c (.d (.ptr [.int .i64 a,.str s,.str t])),[],[],True):=λlv=>by
   rw[j9 (sz:=3) (by simp) hi2 (by rw[he];rfl),he]
  refine aaa λK5 hK5=>aaf ?_;refine aav mixed (by kernel_rfl) rfl rfl ?_;simp[hx];apply hK5;have e3:=bF (n:=(i:Int)+1) (by omega) (by omega);refine aac ?_;simp[e3];refine⟨i+1,i64.wrap (i64.wrap (n+s.length)+t.length),Le.mk' _ (by simp) (by simp) (by simp),⟨by omega,?_⟩,by omega⟩;exact LK hn hi2 he
 ·refine aaj (by simp[hi2]<;>omega) (aan (hK _ _ ?_));have hii:i=(sO p.ins).length:=by omega
  subst hii;refine aaa λK hK=>aab ?_;refine aaf ?_
  refine aao (λ(q:Nat×Int)=>⟨aU [(1,.c (.ptr 0 0)),(3,.c (.d (.int .i64 q.2))),(5,.c (.d (.int .i64 q.1)))],az (λ_=>.hole) 0 (.cells true false 27 p.cs)⟩) 1
   (λq=>q.1<=(sO p.nodes).length/\q.2=Su n (sO p.nodes) q.1) (λq=>(sO p.nodes).length-q.1) (0,n) (Le.mk' _ (by simp) (by simp) (by simp)) ⟨by simp,rfl⟩ ?_
  rintro⟨i,n'⟩ ⟨hi,hn'⟩;simp only at hi hn';refine aaa λK3 hK3=>aam lp3 ?_
  by_cases hi3:i<(sO p.nodes).length
  ·refine aag (by simp[hi3]<;>omega) (aad (hK3 _ _ ?_));obtain⟨a1,a2,a3,a4,a5,a6,s,he⟩:=hp.nodes _ (bh hi3)
   have hx:∀lv:Key->LB,aq prog 24 lv (oV p.nodes) (.c (.d (.int .i64 (i:Int))))=some (.c (.d (.ptr [.int .i64 a1,.int .i64 a2,.int .i64 a3,.int .i64 a4,.int .i64 a5,.int .i64 a6,.str s])),[],[],True):=λlv=>by
    rw[j9 (sz:=7) (by simp) hi3 (by rw[he];rfl),he]
   refine aaa λK5 hK5=>aaf (aas hx (hK5 _ _ ?_))
   have e3:=bF (n:=(i:Int)+1) (by omega) (by omega);refine aac ?_;simp[e3];refine⟨i+1,i64.wrap (n'+s.length),Le.mk' _ (by simp) (by simp) (by simp),⟨by omega,?_⟩,by omega⟩;exact MI hn' hi3 he
  ·refine aaj (by simp[hi3]<;>omega) (aan (hK _ _ ?_));have hii:i=(sO p.nodes).length:=by omega
   subst hii;refine aab ?_
   have hb:oT p=decide (2000<n'):=by
    simp[oT,h0,h2,h3,h6,hn',hn]
   exact aae (au.rt rfl 2 (by simp[hb]))
end Go.Am
