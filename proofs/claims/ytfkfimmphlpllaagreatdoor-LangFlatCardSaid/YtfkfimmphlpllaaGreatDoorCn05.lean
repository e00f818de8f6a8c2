/- Helpers: an abstract machine for Go functions, and walks of functions of the program. -/
import Derived.Test.YtfkfimmphlpllaaGreatDoorCn04

set_option linter.all false

namespace Go.Am
open Go.Am.Ty Go.Proofs N
theorem vT (G:List (List DV))(l:List Nat):ah Tryz.prog G 331 [pV l] (pV (N.eD l)):=by
 refine aC.gu 0 (by simp) (fun V v h=>Jh h) fun hl=>?_
 refine ah.aU Go.Proofs.Tryz.func331 rfl (by rw [Tryz.ntmps331];simp) ?_
 rintro⟨_,_,w0,F0,W0,_,bu,β0⟩ rfl rfl rfl
 refine AW.ag fun K hK=>?_
 refine AW.aa rfl ?_
 simp
 apply hK;clear hK K
 refine AW.ag fun K hK=>AW.block ?_
 refine AW.b9 (fun l'=>⟨bp [(0,pV l')],fun _=>.hole⟩) 0 (fun l'=>l'.length≤l.length∧N.eD l'=N.eD l) (fun l'=>l'.length) l (Le.slots _ (by simp [pV,AV.bD]) (by simp)) (by simp) ?_
 rintro l' ⟨h0,h1⟩
 have fin:∀ (fr:Nat→AV) (κ:Nat),fr 0=pV (N.eD l)→K ⟨fr,fun _=>.hole⟩ κ:=by
  intro fr κ h
  apply hK;clear hK
  refine AW.ag fun K hK=>?_
  refine AW.aa rfl ?_
  simp
  apply hK;clear hK
  exact AW.ret (aK.tmp rfl 0 (by simp [h]) rfl rfl rfl)
 refine AW.ag fun K2 hK2=>AW.ag fun K3 hK3=>?_
 refine AW.aa rfl ?_
 rcases List.eq_nil_or_concat l' with rfl|⟨xs,x,rfl⟩
 ·simp [pV,eE,lJ,tE]
  apply hK3
  refine AW.cond (b:=false) (by simp) (AW.exit ?_)
  simp
  apply fin
  simp [pV,← h1]
 ·rw [List.concat_eq_append] at *
  have h3:xs.length+1≤9223372036854775807:=by have:=hl.1;simp at h0;omega
  have h4:IntKind.i64.wrap ((xs.length:Int))=xs.length:=cC ⟨by simp only [zN];omega,by simp only [oV];omega⟩
  have h2:(0:Int)<(xs.length:Int)+1:=by omega
  by_cases hx:x=0
  ·subst hx
   simp [pV,eE,lJ,tE,kC,h2,h4]
   refine⟨by omega,?_⟩
   apply hK3;clear hK3 K3
   refine AW.cond (b:=true) (by simp) (AW.skip ?_)
   simp
   apply hK2;clear hK2 K2
   refine AW.block ?_
   refine AW.aa rfl ?_
   simp [pV,eE,lJ,tE,h2,h4]
   refine⟨⟨by omega,fun e he=>?_⟩,?_⟩
   ·rcases he with he|rfl
    ·exact Tl _ _ he
    ·rfl
   refine⟨xs,Le.slots [(0,pV xs)] (by simp [pV,AV.bD]) (by simp),⟨by simp at h0;omega,by rw [← h1,iy]⟩,by omega⟩
  ·have hx':¬ ((x:Int)=0):=by omega
   simp [pV,eE,lJ,tE,kC,h2,h4,hx']
   refine⟨by omega,?_⟩
   apply hK3;clear hK3 K3
   refine AW.cond (b:=false) (by simp [hx]) (AW.exit ?_)
   simp
   apply fin
   simp [pV,← h1,jm hx]
end Go.Am

namespace Go.Am
open Go.Am.Ty Go.Proofs
theorem Xm (a b c d:Int):xq Tryz.prog 20 81 (.agg [.d (.int .i64 a),.d (.int .i64 b)]) (.agg [.d (.int .i64 c),.d (.int .i64 d)])=some ((a == c) && ((b == d) && true)):=by
 kernel_rfl
theorem Y7 (a b c d:Int):xq Tryz.prog 20 69 (.agg [.d (.int .i64 a),.d (.int .i64 b)]) (.agg [.d (.int .i64 c),.d (.int .i64 d)])=some ((a == c) && ((b == d) && true)):=by
 kernel_rfl
theorem YZ (a c:Int)(s t s' t':List UInt8):xq Tryz.prog 20 67 (.agg [.d (.int .i64 a),.d (.str s),.d (.str t)]) (.agg [.d (.int .i64 c),.d (.str s'),.d (.str t')])=some ((a == c) && ((s == s') && ((t == t') && true))):=by
 kernel_rfl
theorem Y3 (a1 a2 a3 a4 a5 a6 b1 b2 b3 b4 b5 b6:Int)(s t:List UInt8):xq Tryz.prog 20 55 (.agg [.d (.int .i64 a1),.d (.int .i64 a2),.d (.int .i64 a3),.d (.int .i64 a4),.d (.int .i64 a5),.d (.int .i64 a6),.d (.str s)]) (.agg [.d (.int .i64 b1),.d (.int .i64 b2),.d (.int .i64 b3),.d (.int .i64 b4),.d (.int .i64 b5),.d (.int .i64 b6),.d (.str t)])=some ((a1 == b1) && ((a2 == b2) && ((a3 == b3) && ((a4 == b4) && ((a5 == b5) && ((a6 == b6) && ((s == t) && true))))))):=by
 kernel_rfl
end Go.Am

namespace Go.Am
open Go.Am.Ty Go.Proofs
def dg:Option (List (List DV))→CV
 | none=>.d .nilsl
 | some es=>.d (.sl es)
abbrev mS (o:Option (List (List DV))):AV:=.c (dg o)
def sO (o:Option (List (List DV))):List (List DV):=o.getD []
@[simp] theorem Ta (o:Option (List (List DV))):(AV.c (dg o)).pure=true:=by cases o <;> rfl
@[simp] theorem Pc (o:Option (List (List DV))):(AV.c (dg o)).bD=true:=by cases o <;> rfl
theorem fW {V:Vw}{v:Value}{o:Option (List (List DV))}(h:V.av v (mS o)):(sO o).length≤9223372036854775807:=by
 cases o with
 | none=>simp [sO]
 | some es=>
  obtain⟨h,_⟩:=h
  cases h with
  | sl b off cap sz es vs hl hc hb hm ho hr=>exact hb
theorem bY {P:Program}{T:TypeId}{lv:Key→LB}{o:Option (List (List DV))}(h:(eG P T).isSome=true):eE P T lv (mS o)=some (.c (.d (.int .i64 (sO o).length)),[],[],True):=by
 obtain⟨⟨e,z⟩,h⟩:=Option.isSome_iff_exists.1 h
 cases o <;> simp [eE,mS,dg,sO,lJ,h,keyOf]
theorem iJ {P:Program}{T:TypeId}{lv:Key→LB}{k':IntKind}{o:Option (List (List DV))}{i sz:Nat}(h:(eG P T).map (·.2)=some sz) (hi:i<(sO o).length) (hs:(sO o)[i].length=sz) :
 ak P T lv (mS o) (.c (.d (.int k' (i:Int))))=some (.c (.d (.ptr (sO o)[i])),[],[],True):=by
 obtain⟨⟨e,z⟩,h0,rfl⟩:=Option.map_eq_some_iff.1 h
 cases o with
 | none=>cases hi
 | some es=>
  have hi':i<es.length:=hi
  have hs':(es[i]'hi').length=z:=hs
  have e1:es.getD i []=es[i]'hi':=by rw [List.getD_eq_getElem?_getD,List.getElem?_eq_getElem hi'];rfl
  have e2:((0:Int)≤(i:Int)∧(i:Int)<(es.length:Int)∧(es.getD i []).length=z)=True:=by
   rw [e1,eq_iff_iff];exact⟨fun _=>trivial,fun _=>⟨by omega,by omega,hs'⟩⟩
  show ak P T lv (.c (.d (.sl es))) (.c (.d (.int k' (i:Int))))=some (.c (.d (.ptr (es[i]'hi'))),[],[],True)
  unfold ak
  have h2:(Int.toNat (i:Int))=i:=Int.toNat_natCast i
  simp only [h2]
  rw [h0]
  show some (AV.c (.d (.ptr (es.getD i []))),[],[],(0:Int)≤(i:Int)∧(i:Int)<(es.length:Int)∧(es.getD i []).length=z)=_
  rw [e2,e1]
def Wq:DV→DV→Bool
 | .int _ a,.int _ b=>a == b
 | .str s,.str t=>s == t
 | _,_=>false
def rC:List DV→List DV→Bool
 | [],[]=>true
 | a::l,b::m=>Wq a b && rC l m
 | _,_=>false
def tY:List (List DV)→List (List DV)→Bool
 | [],[]=>true
 | a::l,b::m=>rC a b && tY l m
 | _,_=>false
def Cg (e:List DV):Prop:=∃ a b,e=[.int .i64 a,.int .i64 b]
def Jo (e:List DV):Prop:=∃ a s t,e=[.int .i64 a,.str s,.str t]
def Hu (e:List DV):Prop:=∃ a1 a2 a3 a4 a5 a6 s,e=[.int .i64 a1,.int .i64 a2,.int .i64 a3,.int .i64 a4,.int .i64 a5,.int .i64 a6,.str s]
theorem UJ {e e':List DV}(h:Cg e) (h':Cg e'):xq Tryz.prog 20 81 (.agg (e.map .d)) (.agg (e'.map .d))=some (rC e e'):=by
 obtain⟨a,b,rfl⟩:=h;obtain⟨c,d,rfl⟩:=h';exact Xm a b c d
theorem Q8 {e e':List DV}(h:Cg e) (h':Cg e'):xq Tryz.prog 20 69 (.agg (e.map .d)) (.agg (e'.map .d))=some (rC e e'):=by
 obtain⟨a,b,rfl⟩:=h;obtain⟨c,d,rfl⟩:=h';exact Y7 a b c d
theorem Uh {e e':List DV}(h:Jo e) (h':Jo e'):xq Tryz.prog 20 67 (.agg (e.map .d)) (.agg (e'.map .d))=some (rC e e'):=by
 obtain⟨a,s,t,rfl⟩:=h;obtain⟨c,s',t',rfl⟩:=h';exact YZ a c s t s' t'
theorem T6 {e e':List DV}(h:Hu e) (h':Hu e'):xq Tryz.prog 20 55 (.agg (e.map .d)) (.agg (e'.map .d))=some (rC e e'):=by
 obtain⟨a1,a2,a3,a4,a5,a6,s,rfl⟩:=h;obtain⟨b1,b2,b3,b4,b5,b6,t,rfl⟩:=h';exact Y3 a1 a2 a3 a4 a5 a6 b1 b2 b3 b4 b5 b6 s t
theorem TO {lv:Key→LB}{e:List DV}(h:Cg e):bR Tryz.prog 81 lv (.c (.d (.ptr e)))=some (.agg (e.map .d),[],[],True):=by
 obtain⟨a,b,rfl⟩:=h;kernel_rfl
theorem Rc {lv:Key→LB}{e:List DV}(h:Cg e):bR Tryz.prog 69 lv (.c (.d (.ptr e)))=some (.agg (e.map .d),[],[],True):=by
 obtain⟨a,b,rfl⟩:=h;kernel_rfl
theorem UN {lv:Key→LB}{e:List DV}(h:Jo e):bR Tryz.prog 67 lv (.c (.d (.ptr e)))=some (.agg (e.map .d),[],[],True):=by
 obtain⟨a,s,t,rfl⟩:=h;kernel_rfl
theorem UF {lv:Key→LB}{e:List DV}(h:Hu e):bR Tryz.prog 55 lv (.c (.d (.ptr e)))=some (.agg (e.map .d),[],[],True):=by
 obtain⟨a1,a2,a3,a4,a5,a6,s,rfl⟩:=h;kernel_rfl
theorem ia {e:List DV}(h:Cg e):e.length=2:=by obtain⟨a,b,rfl⟩:=h;rfl
theorem qJ {e:List DV}(h:Jo e):e.length=3:=by obtain⟨a,b,c,rfl⟩:=h;rfl
theorem kX {e:List DV}(h:Hu e):e.length=7:=by obtain⟨a1,a2,a3,a4,a5,a6,s,rfl⟩:=h;rfl
theorem nb {T:TypeId}{x y:AV}{b:Bool}(hg:Tryz.prog.eqGuardType Tryz.prog.depth T=false) (hx:∃ cs,x=.agg cs) (h:xq Tryz.prog 20 T x y=some b):aI Tryz.prog .neq T x y=some (.c (.d (.bool (!b))),[],[],True):=by
 obtain⟨cs,rfl⟩:=hx
 unfold aI
 simp [hg,mL,h]
end Go.Am

namespace Go.Am
open Go.Am.Ty Go.Proofs N
theorem mixed:Tryz.prog.follows .mixedOrders=true:=by kernel_rfl
theorem fq {a b:Option (List Nat)}{G:List (List DV)}(ha:can 4294967296 (dO a)) (hb:can 4294967296 (dO b)):ah Tryz.prog G 240 [nK .u32 a,nK .u32 b] (.c (.d (.int .i64 (jH (val 4294967296 (dO a)) (val 4294967296 (dO b)))))):=by
 refine aC.gu 0 (by simp) (fun V v h=>gV h) fun hra=>?_
 refine aC.gu 1 (by simp) (fun V v h=>gV h) fun hrb=>?_
 refine ah.aU Go.Proofs.Tryz.func240 rfl (by rw [Tryz.ntmps240];simp) ?_
 rintro⟨_,_,w0,F0,W0,_,bu,β0⟩ rfl rfl rfl
 refine AW.ag fun K hK=>?_
 refine AW.aa rfl ?_
 simp
 apply hK;clear hK K
 refine AW.ag fun K hK=>AW.ag fun K1 hK1=>?_
 refine AW.aa rfl ?_
 simp
 apply hK1;clear hK1 K1
 by_cases hl:(dO a).length=(dO b).length
 ·refine AW.cond (b:=false) (by first|(simp [hl];done)|(simp [hl];omega)) ?_
  refine AW.skip ?_
  simp
  apply hK;clear hK K
  refine AW.ag fun K hK=>AW.ag fun K1 hK1=>?_
  refine AW.aa rfl ?_
  simp
  have e1:=cX (n:=((dO a).length:Int) - 1) (by omega) (by omega)
  simp only [e1]
  apply hK1;clear hK1 K1
  refine AW.block ?_
  refine AW.b9 (fun (k:Nat)=>⟨bp [(0,nK .u32 a),(1,nK .u32 b),(5,.c (.d (.int .i64 ((k:Int) - 1))))],fun _=>.hole⟩) 0 (fun k=>k≤(dO a).length∧(dO a).drop k=(dO b).drop k) (fun k=>k) (dO a).length (Le.mk' _ rfl aL (by simp)) ⟨Nat.le_refl _,by rw [List.drop_length,hl,List.drop_length]⟩ ?_
  rintro k ⟨h1,h2⟩
  refine AW.ag fun K3 hK3=>AW.ag fun K4 hK4=>?_
  refine AW.aa rfl ?_
  simp
  apply hK4;clear hK4 K4
  cases k with
  | zero=>
   refine AW.cond (b:=false) (by first|(simp [];done)|(simp [];omega)) ?_
   refine AW.exit ?_
   simp
   apply hK
   refine AW.ag fun K hK=>?_
   refine AW.aa rfl ?_
   simp
   apply hK;clear hK K
   simp only [List.drop_zero] at h2
   exact AW.ret (κ:=0) (aK.tmp (κ:=0) rfl 0 (by simp [Lx (congrArg (val 4294967296) h2)]) (by first|rfl|simp) (by first|rfl|simp) (by first|rfl|simp))
  | succ k=>
   have h3:k<(dO b).length:=by omega
   have h4:k<(dO a).length:=by omega
   have e2:((k+1:Nat):Int) - 1=k:=by omega
   simp only [e2]
   refine AW.cond (b:=true) (by first|(simp [];done)|(simp [];omega)) ?_
   refine AW.skip ?_
   simp
   apply hK3
   refine AW.ag fun K5 hK5=>?_
   refine AW.block ?_
   refine AW.ag fun K6 hK6=>?_
   refine AW.jj mixed (by kernel_rfl) rfl rfl ?_
   simp [h3,h4]
   apply hK6;clear hK6 K6
   by_cases hd:(dO a)[k]=(dO b)[k]
   ·refine AW.cond (b:=false) (by first|(simp [hd];done)|(simp [hd];omega)) ?_
    refine AW.skip ?_
    simp
    apply hK5
    refine AW.aa rfl ?_
    simp
    have e3:=cX (n:=(k:Int) - 1) (by omega) (by omega)
    simp [e3]
    refine⟨k,Le.mk' _ (by simp) (by simp) (by simp [e3]),⟨by omega,?_⟩,by omega⟩
    rw [List.drop_eq_getElem_cons h4,List.drop_eq_getElem_cons h3,hd,h2]
   ·refine AW.cond (b:=true) (by first|(simp [hd];done)|(simp [hd];omega)) ?_
    refine AW.ag fun K6 hK6=>AW.ag fun K7 hK7=>?_
    refine AW.jj mixed (by kernel_rfl) rfl rfl ?_
    simp [h3,h4]
    apply hK7;clear hK7 K7
    by_cases hlt:(dO a)[k]<(dO b)[k]
    ·refine AW.cond (b:=true) (by first|(simp [hlt];done)|(simp [hlt];omega)) ?_
     refine AW.ag fun K7 hK7=>?_
     refine AW.aa rfl ?_
     simp
     apply hK7;clear hK7 K7
     have:=xd ha.1 h4 h3 h2 hlt
     exact AW.ret (κ:=0) (aK.tmp (κ:=0) rfl 0 (by simp [zI this]) (by first|rfl|simp) (by first|rfl|simp) (by first|rfl|simp))
    ·refine AW.cond (b:=false) (by first|(simp [hlt];done)|(simp [hlt];omega)) ?_
     refine AW.skip ?_
     simp
     apply hK6;clear hK6 K6
     refine AW.ag fun K7 hK7=>?_
     refine AW.aa rfl ?_
     simp
     apply hK7;clear hK7 K7
     have:=xd hb.1 h3 h4 h2.symm (by omega)
     exact AW.ret (κ:=0) (aK.tmp (κ:=0) rfl 0 (by simp [DN this]) (by first|rfl|simp) (by first|rfl|simp) (by first|rfl|simp))
 ·refine AW.cond (b:=true) (by first|(simp [hl];done)|(simp [hl];omega)) ?_
  refine AW.ag fun K2 hK2=>AW.ag fun K1 hK1=>?_
  refine AW.aa rfl ?_
  simp
  apply hK1;clear hK1 K1
  by_cases hlt:(dO a).length<(dO b).length
  ·refine AW.cond (b:=true) (by first|(simp [hlt];done)|(simp [hlt];omega)) ?_
   refine AW.ag fun K7 hK7=>?_
   refine AW.aa rfl ?_
   simp
   apply hK7;clear hK7 K7
   exact AW.ret (κ:=0) (aK.tmp (κ:=0) rfl 0 (by simp [zI (oX (by omega) ha hb hlt)]) (by first|rfl|simp) (by first|rfl|simp) (by first|rfl|simp))
  ·refine AW.cond (b:=false) (by first|(simp [hlt];done)|(simp [hlt];omega)) ?_
   refine AW.skip ?_
   simp
   apply hK2
   refine AW.ag fun K7 hK7=>?_
   refine AW.aa rfl ?_
   simp
   apply hK7;clear hK7 K7
   exact AW.ret (κ:=0) (aK.tmp (κ:=0) rfl 0 (by simp [DN (oX (by omega) hb ha (by omega))]) (by first|rfl|simp) (by first|rfl|simp) (by first|rfl|simp))
end Go.Am

namespace Go.Am
open Go.Am.Ty Go.Proofs N
theorem lA:∀ {l m:List (List DV)},tY l m=true↔∃ h:l.length=m.length,∀ i (hi:i<l.length),rC l[i] (m[i]'(h ▸ hi))=true
 | [],[]=>by simp [tY]
 | [],b::m=>by simp [tY]
 | a::l,[]=>by simp [tY]
 | a::l,b::m=>by
  simp only [tY,Bool.and_eq_true,lA (l:=l) (m:=m)]
  constructor
  ·rintro⟨h1,h2,h3⟩
   refine⟨by simp [h2],fun i hi=>?_⟩
   cases i with
   | zero=>exact h1
   | succ i=>exact h3 i (by simpa using hi)
  ·rintro⟨h1,h2⟩
   refine⟨h2 0 (by simp),by simpa using h1,fun i hi=>?_⟩
   exact h2 (i+1) (by simpa using hi)
theorem lE {l m:List (List DV)}(h:l.length≠m.length):tY l m=false:=by
 cases e:tY l m with
 | false=>rfl
 | true=>exact absurd (lA.1 e).1 h
theorem nG {l m:List (List DV)}{i:Nat}(hi:i<l.length) (hm:i<m.length) (h:rC l[i] m[i]=false):tY l m=false:=by
 cases e:tY l m with
 | false=>rfl
 | true=>have:=(lA.1 e).2 i hi;rw [h] at this;cases this
set_option maxHeartbeats 1000000 in
theorem B1 (G:List (List DV))(o o':Option (List (List DV)))(h:∀ e∈sO o,Cg e)(h':∀ e∈sO o',Cg e):ah Tryz.prog G 100 [mS o,mS o'] (.c (.d (.bool (tY (sO o) (sO o'))))):=by
 refine aC.gu 0 (by simp) (fun V v h=>fW h) fun hr=>?_
 refine aC.gu 1 (by simp) (fun V v h=>fW h) fun hr'=>?_
 have lp:∀ (lv:Key→LB) (o:Option (List (List DV))),eE Tryz.prog 22 lv (mS o)=some (.c (.d (.int .i64 (sO o).length)),[],[],True):=fun lv o=>bY (by simp)
 refine ah.aU Go.Proofs.Tryz.func100 rfl (by rw [Tryz.ntmps100];simp) ?_
 rintro⟨_,_,w0,F0,W0,_,bu,β0⟩ rfl rfl rfl
 refine AW.ag fun K hK=>?_
 refine AW.aa rfl ?_
 simp
 apply hK;clear hK K
 refine AW.ag fun K hK=>?_
 refine AW.ag fun K1 hK1=>?_
 refine AW.aa rfl ?_
 simp [lp]
 apply hK1;clear hK1 K1
 by_cases hl:(sO o).length=(sO o').length
 ·refine AW.cond (b:=false) (by first|(simp [hl];done)|(simp [hl];omega)) ?_
  refine AW.skip ?_
  simp
  apply hK;clear hK K
  refine AW.ag fun K hK=>?_
  refine AW.ag fun K1 hK1=>?_
  refine AW.aa rfl ?_
  simp [lp]
  apply hK1;clear hK1 K1
  refine AW.block ?_
  refine AW.b9 (fun (i:Nat)=>⟨bp [(0,mS o),(1,mS o'),(12,.c (.d (.int .i64 (sO o).length))),(13,.c (.d (.int .i64 i)))],fun _=>.hole⟩) 0
   (fun i=>i≤(sO o).length∧∀ j (hj:j<i) (h1:j<(sO o).length) (h2:j<(sO o').length),rC (sO o)[j] (sO o')[j]=true)
   (fun i=>(sO o).length - i) 0 (Le.mk' _ rfl (by intro k own es h;cases h) (by simp)) (by simp) ?_
  rintro i ⟨hi,hall⟩
  refine AW.ag fun K1 hK1=>?_
  refine AW.aa rfl ?_
  simp
  apply hK1;clear hK1 K1
  by_cases hi2:i<(sO o).length
  ·have hi3:i<(sO o').length:=by omega
   have he:=h _ (List.getElem_mem hi2)
   have he':=h' _ (List.getElem_mem hi3)
   have hx:=iJ (P:=Tryz.prog) (T:=22) (lv:=fun _=>.hole) (k':=.i64) (o:=o) (i:=i) (sz:=2) (by simp) hi2 (ia he)
   have hy:=iJ (P:=Tryz.prog) (T:=22) (lv:=fun _=>.hole) (k':=.i64) (o:=o') (i:=i) (sz:=2) (by simp) hi3 (ia he')
   have l1:=TO (lv:=fun _=>.hole) he
   have l2:=TO (lv:=fun _=>.hole) he'
   have hnb:=nb (T:=81) (by kernel_rfl) ⟨_,rfl⟩ (UJ he he')
   refine AW.ag fun K1 hK1=>?_
   refine AW.cond (b:=true) (by first|(simp [hi2];done)|(simp [hi2];omega)) ?_
   refine AW.skip ?_
   simp
   apply hK1;clear hK1 K1
   refine AW.ag fun K1 hK1=>?_
   refine AW.block ?_
   refine AW.ag fun K2 hK2=>?_
   refine AW.aa rfl ?_
   simp
   apply hK2;clear hK2 K2
   refine AW.ag fun K2 hK2=>?_
   refine AW.jj mixed (by kernel_rfl) rfl rfl ?_
   simp [hx,hy,l1,l2,hnb,-bR]
   apply hK2;clear hK2 K2
   by_cases hq:rC (sO o)[i] (sO o')[i]=true
   ·refine AW.cond (b:=false) (by first|(simp [hq];done)|(simp [hq];omega)) ?_
    refine AW.skip ?_
    simp
    apply hK1;clear hK1 K1
    have e3:=cX (n:=(i:Int)+1) (by omega) (by omega)
    refine AW.aa rfl ?_
    simp [e3]
    refine⟨i+1,Le.mk' _ (by simp) (by simp) (by simp),⟨by omega,?_⟩,by omega⟩
    intro j hj h1 h2
    by_cases hji:j=i
    ·subst hji;exact hq
    ·exact hall j (by omega) h1 h2
   ·have hq':rC (sO o)[i] (sO o')[i]=false:=by simpa using hq
    refine AW.cond (b:=true) (by first|(simp [hq'];done)|(simp [hq'];omega)) ?_
    refine AW.ag fun K2 hK2=>?_
    refine AW.aa rfl ?_
    simp
    apply hK2;clear hK2 K2
    have:=nG hi2 hi3 hq'
    exact AW.ret (κ:=0) (aK.tmp (κ:=0) rfl 4 (by simp [this]) (by first|rfl|simp) (by first|rfl|simp) (by first|rfl|simp))
  ·refine AW.ag fun K1 hK1=>?_
   refine AW.cond (b:=false) (by first|(simp [hi2];done)|(simp [hi2];omega)) ?_
   refine AW.exit ?_
   simp
   apply hK
   refine AW.ag fun K3 hK3=>?_
   refine AW.aa rfl ?_
   simp
   apply hK3;clear hK3 K3
   have:=lA.2 ⟨hl,fun j hj=>hall j (by omega) hj (by omega)⟩
   exact AW.ret (κ:=0) (aK.tmp (κ:=0) rfl 4 (by simp [this]) (by first|rfl|simp) (by first|rfl|simp) (by first|rfl|simp))
 ·refine AW.cond (b:=true) (by first|(simp [hl];done)|(simp [hl];omega)) ?_
  refine AW.ag fun K1 hK1=>?_
  refine AW.aa rfl ?_
  simp
  apply hK1;clear hK1 K1
  have:=lE hl
  exact AW.ret (κ:=0) (aK.tmp (κ:=0) rfl 4 (by simp [this]) (by first|rfl|simp) (by first|rfl|simp) (by first|rfl|simp))
set_option maxHeartbeats 1000000 in
theorem Bo (G:List (List DV))(o o':Option (List (List DV)))(h:∀ e∈sO o,Jo e)(h':∀ e∈sO o',Jo e):ah Tryz.prog G 101 [mS o,mS o'] (.c (.d (.bool (tY (sO o) (sO o'))))):=by
 refine aC.gu 0 (by simp) (fun V v h=>fW h) fun hr=>?_
 refine aC.gu 1 (by simp) (fun V v h=>fW h) fun hr'=>?_
 have lp:∀ (lv:Key→LB) (o:Option (List (List DV))),eE Tryz.prog 23 lv (mS o)=some (.c (.d (.int .i64 (sO o).length)),[],[],True):=fun lv o=>bY (by simp)
 refine ah.aU Go.Proofs.Tryz.func101 rfl (by rw [Tryz.ntmps101];simp) ?_
 rintro⟨_,_,w0,F0,W0,_,bu,β0⟩ rfl rfl rfl
 refine AW.ag fun K hK=>?_
 refine AW.aa rfl ?_
 simp
 apply hK;clear hK K
 refine AW.ag fun K hK=>?_
 refine AW.ag fun K1 hK1=>?_
 refine AW.aa rfl ?_
 simp [lp]
 apply hK1;clear hK1 K1
 by_cases hl:(sO o).length=(sO o').length
 ·refine AW.cond (b:=false) (by first|(simp [hl];done)|(simp [hl];omega)) ?_
  refine AW.skip ?_
  simp
  apply hK;clear hK K
  refine AW.ag fun K hK=>?_
  refine AW.ag fun K1 hK1=>?_
  refine AW.aa rfl ?_
  simp [lp]
  apply hK1;clear hK1 K1
  refine AW.block ?_
  refine AW.b9 (fun (i:Nat)=>⟨bp [(0,mS o),(1,mS o'),(12,.c (.d (.int .i64 (sO o).length))),(13,.c (.d (.int .i64 i)))],fun _=>.hole⟩) 0
   (fun i=>i≤(sO o).length∧∀ j (hj:j<i) (h1:j<(sO o).length) (h2:j<(sO o').length),rC (sO o)[j] (sO o')[j]=true)
   (fun i=>(sO o).length - i) 0 (Le.mk' _ rfl (by intro k own es h;cases h) (by simp)) (by simp) ?_
  rintro i ⟨hi,hall⟩
  refine AW.ag fun K1 hK1=>?_
  refine AW.aa rfl ?_
  simp
  apply hK1;clear hK1 K1
  by_cases hi2:i<(sO o).length
  ·have hi3:i<(sO o').length:=by omega
   have he:=h _ (List.getElem_mem hi2)
   have he':=h' _ (List.getElem_mem hi3)
   have hx:=iJ (P:=Tryz.prog) (T:=23) (lv:=fun _=>.hole) (k':=.i64) (o:=o) (i:=i) (sz:=3) (by simp) hi2 (qJ he)
   have hy:=iJ (P:=Tryz.prog) (T:=23) (lv:=fun _=>.hole) (k':=.i64) (o:=o') (i:=i) (sz:=3) (by simp) hi3 (qJ he')
   have l1:=UN (lv:=fun _=>.hole) he
   have l2:=UN (lv:=fun _=>.hole) he'
   have hnb:=nb (T:=67) (by kernel_rfl) ⟨_,rfl⟩ (Uh he he')
   refine AW.ag fun K1 hK1=>?_
   refine AW.cond (b:=true) (by first|(simp [hi2];done)|(simp [hi2];omega)) ?_
   refine AW.skip ?_
   simp
   apply hK1;clear hK1 K1
   refine AW.ag fun K1 hK1=>?_
   refine AW.block ?_
   refine AW.ag fun K2 hK2=>?_
   refine AW.aa rfl ?_
   simp
   apply hK2;clear hK2 K2
   refine AW.ag fun K2 hK2=>?_
   refine AW.jj mixed (by kernel_rfl) rfl rfl ?_
   simp [hx,hy,l1,l2,hnb,-bR]
   apply hK2;clear hK2 K2
   by_cases hq:rC (sO o)[i] (sO o')[i]=true
   ·refine AW.cond (b:=false) (by first|(simp [hq];done)|(simp [hq];omega)) ?_
    refine AW.skip ?_
    simp
    apply hK1;clear hK1 K1
    have e3:=cX (n:=(i:Int)+1) (by omega) (by omega)
    refine AW.aa rfl ?_
    simp [e3]
    refine⟨i+1,Le.mk' _ (by simp) (by simp) (by simp),⟨by omega,?_⟩,by omega⟩
    intro j hj h1 h2
    by_cases hji:j=i
    ·subst hji;exact hq
    ·exact hall j (by omega) h1 h2
   ·have hq':rC (sO o)[i] (sO o')[i]=false:=by simpa using hq
    refine AW.cond (b:=true) (by first|(simp [hq'];done)|(simp [hq'];omega)) ?_
    refine AW.ag fun K2 hK2=>?_
    refine AW.aa rfl ?_
    simp
    apply hK2;clear hK2 K2
    have:=nG hi2 hi3 hq'
    exact AW.ret (κ:=0) (aK.tmp (κ:=0) rfl 4 (by simp [this]) (by first|rfl|simp) (by first|rfl|simp) (by first|rfl|simp))
  ·refine AW.ag fun K1 hK1=>?_
   refine AW.cond (b:=false) (by first|(simp [hi2];done)|(simp [hi2];omega)) ?_
   refine AW.exit ?_
   simp
   apply hK
   refine AW.ag fun K3 hK3=>?_
   refine AW.aa rfl ?_
   simp
   apply hK3;clear hK3 K3
   have:=lA.2 ⟨hl,fun j hj=>hall j (by omega) hj (by omega)⟩
   exact AW.ret (κ:=0) (aK.tmp (κ:=0) rfl 4 (by simp [this]) (by first|rfl|simp) (by first|rfl|simp) (by first|rfl|simp))
 ·refine AW.cond (b:=true) (by first|(simp [hl];done)|(simp [hl];omega)) ?_
  refine AW.ag fun K1 hK1=>?_
  refine AW.aa rfl ?_
  simp
  apply hK1;clear hK1 K1
  have:=lE hl
  exact AW.ret (κ:=0) (aK.tmp (κ:=0) rfl 4 (by simp [this]) (by first|rfl|simp) (by first|rfl|simp) (by first|rfl|simp))
set_option maxHeartbeats 1000000 in
theorem BQ (G:List (List DV))(o o':Option (List (List DV)))(h:∀ e∈sO o,Hu e)(h':∀ e∈sO o',Hu e):ah Tryz.prog G 102 [mS o,mS o'] (.c (.d (.bool (tY (sO o) (sO o'))))):=by
 refine aC.gu 0 (by simp) (fun V v h=>fW h) fun hr=>?_
 refine aC.gu 1 (by simp) (fun V v h=>fW h) fun hr'=>?_
 have lp:∀ (lv:Key→LB) (o:Option (List (List DV))),eE Tryz.prog 24 lv (mS o)=some (.c (.d (.int .i64 (sO o).length)),[],[],True):=fun lv o=>bY (by simp)
 refine ah.aU Go.Proofs.Tryz.func102 rfl (by rw [Tryz.ntmps102];simp) ?_
 rintro⟨_,_,w0,F0,W0,_,bu,β0⟩ rfl rfl rfl
 refine AW.ag fun K hK=>?_
 refine AW.aa rfl ?_
 simp
 apply hK;clear hK K
 refine AW.ag fun K hK=>?_
 refine AW.ag fun K1 hK1=>?_
 refine AW.aa rfl ?_
 simp [lp]
 apply hK1;clear hK1 K1
 by_cases hl:(sO o).length=(sO o').length
 ·refine AW.cond (b:=false) (by first|(simp [hl];done)|(simp [hl];omega)) ?_
  refine AW.skip ?_
  simp
  apply hK;clear hK K
  refine AW.ag fun K hK=>?_
  refine AW.ag fun K1 hK1=>?_
  refine AW.aa rfl ?_
  simp [lp]
  apply hK1;clear hK1 K1
  refine AW.block ?_
  refine AW.b9 (fun (i:Nat)=>⟨bp [(0,mS o),(1,mS o'),(12,.c (.d (.int .i64 (sO o).length))),(13,.c (.d (.int .i64 i)))],fun _=>.hole⟩) 0
   (fun i=>i≤(sO o).length∧∀ j (hj:j<i) (h1:j<(sO o).length) (h2:j<(sO o').length),rC (sO o)[j] (sO o')[j]=true)
   (fun i=>(sO o).length - i) 0 (Le.mk' _ rfl (by intro k own es h;cases h) (by simp)) (by simp) ?_
  rintro i ⟨hi,hall⟩
  refine AW.ag fun K1 hK1=>?_
  refine AW.aa rfl ?_
  simp
  apply hK1;clear hK1 K1
  by_cases hi2:i<(sO o).length
  ·have hi3:i<(sO o').length:=by omega
   have he:=h _ (List.getElem_mem hi2)
   have he':=h' _ (List.getElem_mem hi3)
   have hx:=iJ (P:=Tryz.prog) (T:=24) (lv:=fun _=>.hole) (k':=.i64) (o:=o) (i:=i) (sz:=7) (by simp) hi2 (kX he)
   have hy:=iJ (P:=Tryz.prog) (T:=24) (lv:=fun _=>.hole) (k':=.i64) (o:=o') (i:=i) (sz:=7) (by simp) hi3 (kX he')
   have l1:=UF (lv:=fun _=>.hole) he
   have l2:=UF (lv:=fun _=>.hole) he'
   have hnb:=nb (T:=55) (by kernel_rfl) ⟨_,rfl⟩ (T6 he he')
   refine AW.ag fun K1 hK1=>?_
   refine AW.cond (b:=true) (by first|(simp [hi2];done)|(simp [hi2];omega)) ?_
   refine AW.skip ?_
   simp
   apply hK1;clear hK1 K1
   refine AW.ag fun K1 hK1=>?_
   refine AW.block ?_
   refine AW.ag fun K2 hK2=>?_
   refine AW.aa rfl ?_
   simp
   apply hK2;clear hK2 K2
   refine AW.ag fun K2 hK2=>?_
   refine AW.jj mixed (by kernel_rfl) rfl rfl ?_
   simp [hx,hy,l1,l2,hnb,-bR]
   apply hK2;clear hK2 K2
   by_cases hq:rC (sO o)[i] (sO o')[i]=true
   ·refine AW.cond (b:=false) (by first|(simp [hq];done)|(simp [hq];omega)) ?_
    refine AW.skip ?_
    simp
    apply hK1;clear hK1 K1
    have e3:=cX (n:=(i:Int)+1) (by omega) (by omega)
    refine AW.aa rfl ?_
    simp [e3]
    refine⟨i+1,Le.mk' _ (by simp) (by simp) (by simp),⟨by omega,?_⟩,by omega⟩
    intro j hj h1 h2
    by_cases hji:j=i
    ·subst hji;exact hq
    ·exact hall j (by omega) h1 h2
   ·have hq':rC (sO o)[i] (sO o')[i]=false:=by simpa using hq
    refine AW.cond (b:=true) (by first|(simp [hq'];done)|(simp [hq'];omega)) ?_
    refine AW.ag fun K2 hK2=>?_
    refine AW.aa rfl ?_
    simp
    apply hK2;clear hK2 K2
    have:=nG hi2 hi3 hq'
    exact AW.ret (κ:=0) (aK.tmp (κ:=0) rfl 4 (by simp [this]) (by first|rfl|simp) (by first|rfl|simp) (by first|rfl|simp))
  ·refine AW.ag fun K1 hK1=>?_
   refine AW.cond (b:=false) (by first|(simp [hi2];done)|(simp [hi2];omega)) ?_
   refine AW.exit ?_
   simp
   apply hK
   refine AW.ag fun K3 hK3=>?_
   refine AW.aa rfl ?_
   simp
   apply hK3;clear hK3 K3
   have:=lA.2 ⟨hl,fun j hj=>hall j (by omega) hj (by omega)⟩
   exact AW.ret (κ:=0) (aK.tmp (κ:=0) rfl 4 (by simp [this]) (by first|rfl|simp) (by first|rfl|simp) (by first|rfl|simp))
 ·refine AW.cond (b:=true) (by first|(simp [hl];done)|(simp [hl];omega)) ?_
  refine AW.ag fun K1 hK1=>?_
  refine AW.aa rfl ?_
  simp
  apply hK1;clear hK1 K1
  have:=lE hl
  exact AW.ret (κ:=0) (aK.tmp (κ:=0) rfl 4 (by simp [this]) (by first|rfl|simp) (by first|rfl|simp) (by first|rfl|simp))
set_option maxHeartbeats 1000000 in
theorem B5 (G:List (List DV))(o o':Option (List (List DV)))(h:∀ e∈sO o,Cg e)(h':∀ e∈sO o',Cg e):ah Tryz.prog G 103 [mS o,mS o'] (.c (.d (.bool (tY (sO o) (sO o'))))):=by
 refine aC.gu 0 (by simp) (fun V v h=>fW h) fun hr=>?_
 refine aC.gu 1 (by simp) (fun V v h=>fW h) fun hr'=>?_
 have lp:∀ (lv:Key→LB) (o:Option (List (List DV))),eE Tryz.prog 25 lv (mS o)=some (.c (.d (.int .i64 (sO o).length)),[],[],True):=fun lv o=>bY (by simp)
 refine ah.aU Go.Proofs.Tryz.func103 rfl (by rw [Tryz.ntmps103];simp) ?_
 rintro⟨_,_,w0,F0,W0,_,bu,β0⟩ rfl rfl rfl
 refine AW.ag fun K hK=>?_
 refine AW.aa rfl ?_
 simp
 apply hK;clear hK K
 refine AW.ag fun K hK=>?_
 refine AW.ag fun K1 hK1=>?_
 refine AW.aa rfl ?_
 simp [lp]
 apply hK1;clear hK1 K1
 by_cases hl:(sO o).length=(sO o').length
 ·refine AW.cond (b:=false) (by first|(simp [hl];done)|(simp [hl];omega)) ?_
  refine AW.skip ?_
  simp
  apply hK;clear hK K
  refine AW.ag fun K hK=>?_
  refine AW.ag fun K1 hK1=>?_
  refine AW.aa rfl ?_
  simp [lp]
  apply hK1;clear hK1 K1
  refine AW.block ?_
  refine AW.b9 (fun (i:Nat)=>⟨bp [(0,mS o),(1,mS o'),(12,.c (.d (.int .i64 (sO o).length))),(13,.c (.d (.int .i64 i)))],fun _=>.hole⟩) 0
   (fun i=>i≤(sO o).length∧∀ j (hj:j<i) (h1:j<(sO o).length) (h2:j<(sO o').length),rC (sO o)[j] (sO o')[j]=true)
   (fun i=>(sO o).length - i) 0 (Le.mk' _ rfl (by intro k own es h;cases h) (by simp)) (by simp) ?_
  rintro i ⟨hi,hall⟩
  refine AW.ag fun K1 hK1=>?_
  refine AW.aa rfl ?_
  simp
  apply hK1;clear hK1 K1
  by_cases hi2:i<(sO o).length
  ·have hi3:i<(sO o').length:=by omega
   have he:=h _ (List.getElem_mem hi2)
   have he':=h' _ (List.getElem_mem hi3)
   have hx:=iJ (P:=Tryz.prog) (T:=25) (lv:=fun _=>.hole) (k':=.i64) (o:=o) (i:=i) (sz:=2) (by simp) hi2 (ia he)
   have hy:=iJ (P:=Tryz.prog) (T:=25) (lv:=fun _=>.hole) (k':=.i64) (o:=o') (i:=i) (sz:=2) (by simp) hi3 (ia he')
   have l1:=Rc (lv:=fun _=>.hole) he
   have l2:=Rc (lv:=fun _=>.hole) he'
   have hnb:=nb (T:=69) (by kernel_rfl) ⟨_,rfl⟩ (Q8 he he')
   refine AW.ag fun K1 hK1=>?_
   refine AW.cond (b:=true) (by first|(simp [hi2];done)|(simp [hi2];omega)) ?_
   refine AW.skip ?_
   simp
   apply hK1;clear hK1 K1
   refine AW.ag fun K1 hK1=>?_
   refine AW.block ?_
   refine AW.ag fun K2 hK2=>?_
   refine AW.aa rfl ?_
   simp
   apply hK2;clear hK2 K2
   refine AW.ag fun K2 hK2=>?_
   refine AW.jj mixed (by kernel_rfl) rfl rfl ?_
   simp [hx,hy,l1,l2,hnb,-bR]
   apply hK2;clear hK2 K2
   by_cases hq:rC (sO o)[i] (sO o')[i]=true
   ·refine AW.cond (b:=false) (by first|(simp [hq];done)|(simp [hq];omega)) ?_
    refine AW.skip ?_
    simp
    apply hK1;clear hK1 K1
    have e3:=cX (n:=(i:Int)+1) (by omega) (by omega)
    refine AW.aa rfl ?_
    simp [e3]
    refine⟨i+1,Le.mk' _ (by simp) (by simp) (by simp),⟨by omega,?_⟩,by omega⟩
    intro j hj h1 h2
    by_cases hji:j=i
    ·subst hji;exact hq
    ·exact hall j (by omega) h1 h2
   ·have hq':rC (sO o)[i] (sO o')[i]=false:=by simpa using hq
    refine AW.cond (b:=true) (by first|(simp [hq'];done)|(simp [hq'];omega)) ?_
    refine AW.ag fun K2 hK2=>?_
    refine AW.aa rfl ?_
    simp
    apply hK2;clear hK2 K2
    have:=nG hi2 hi3 hq'
    exact AW.ret (κ:=0) (aK.tmp (κ:=0) rfl 4 (by simp [this]) (by first|rfl|simp) (by first|rfl|simp) (by first|rfl|simp))
  ·refine AW.ag fun K1 hK1=>?_
   refine AW.cond (b:=false) (by first|(simp [hi2];done)|(simp [hi2];omega)) ?_
   refine AW.exit ?_
   simp
   apply hK
   refine AW.ag fun K3 hK3=>?_
   refine AW.aa rfl ?_
   simp
   apply hK3;clear hK3 K3
   have:=lA.2 ⟨hl,fun j hj=>hall j (by omega) hj (by omega)⟩
   exact AW.ret (κ:=0) (aK.tmp (κ:=0) rfl 4 (by simp [this]) (by first|rfl|simp) (by first|rfl|simp) (by first|rfl|simp))
 ·refine AW.cond (b:=true) (by first|(simp [hl];done)|(simp [hl];omega)) ?_
  refine AW.ag fun K1 hK1=>?_
  refine AW.aa rfl ?_
  simp
  apply hK1;clear hK1 K1
  have:=lE hl
  exact AW.ret (κ:=0) (aK.tmp (κ:=0) rfl 4 (by simp [this]) (by first|rfl|simp) (by first|rfl|simp) (by first|rfl|simp))
end Go.Am

namespace Go.Am
open Go.Am.Ty Go.Proofs N
structure PD where
 f:Option (List (List DV))
 mode:Int
 ins:Option (List (List DV))
 nodes:Option (List (List DV))
 head:Int
 tail:Int
 states:Option (List (List DV))
 res:Int
@[simp] def PD.cs (p:PD):List CV:=[dg p.f,.d (.int .i64 p.mode),dg p.ins,dg p.nodes,.d (.int .i64 p.head),.d (.int .i64 p.tail),dg p.states,.d (.int .i64 p.res)]
abbrev PD.A (p:PD):AV:=.agg p.cs
structure PD.ok (p:PD):Prop where
 f:∀ e∈sO p.f,Cg e
 ins:∀ e∈sO p.ins,Jo e
 nodes:∀ e∈sO p.nodes,Hu e
 states:∀ e∈sO p.states,Cg e
def FI:DV→Int
 | .str s=>s.length
 | _=>0
def Pn (es:List (List DV)):Nat→Int
 | 0=>0
 | i+1=>IntKind.i64.wrap (IntKind.i64.wrap (Pn es i+FI ((es.getD i []).getD 1 .nilp))+FI ((es.getD i []).getD 2 .nilp))
def P1 (n:Int)(es:List (List DV)):Nat→Int
 | 0=>n
 | i+1=>IntKind.i64.wrap (P1 n es i+FI ((es.getD i []).getD 6 .nilp))
theorem Ie {es:List (List DV)}{i:Nat}{n a:Int}{s t:List UInt8}(hn:n=Pn es i) (hi:i<es.length) (he:es[i]=[.int .i64 a,.str s,.str t]) :
 IntKind.i64.wrap (IntKind.i64.wrap (n+s.length)+t.length)=Pn es (i+1):=by
 have e6:es.getD i []=[.int .i64 a,.str s,.str t]:=by rw [List.getD_eq_getElem?_getD,List.getElem?_eq_getElem hi,he];rfl
 have e7:FI (List.getD [DV.int .i64 a,.str s,.str t] 1 .nilp)=s.length:=rfl
 have e8:FI (List.getD [DV.int .i64 a,.str s,.str t] 2 .nilp)=t.length:=rfl
 rw [Pn,e6,e7,e8,hn]
theorem Hz {n0:Int}{es:List (List DV)}{i:Nat}{n a1 a2 a3 a4 a5 a6:Int}{s:List UInt8}(hn:n=P1 n0 es i) (hi:i<es.length) (he:es[i]=[.int .i64 a1,.int .i64 a2,.int .i64 a3,.int .i64 a4,.int .i64 a5,.int .i64 a6,.str s]) :
 IntKind.i64.wrap (n+s.length)=P1 n0 es (i+1):=by
 have e6:es.getD i []=[.int .i64 a1,.int .i64 a2,.int .i64 a3,.int .i64 a4,.int .i64 a5,.int .i64 a6,.str s]:=by rw [List.getD_eq_getElem?_getD,List.getElem?_eq_getElem hi,he];rfl
 have e7:FI (List.getD [DV.int .i64 a1,.int .i64 a2,.int .i64 a3,.int .i64 a4,.int .i64 a5,.int .i64 a6,.str s] 6 .nilp)=s.length:=rfl
 rw [P1,e6,e7,hn]
def m5 (p:PD):Bool:=decide (100<(sO p.f).length) || decide (100<(sO p.ins).length) || decide (100<(sO p.nodes).length) || decide (100<(sO p.states).length) ||
 decide (2000<P1 (Pn (sO p.ins) (sO p.ins).length) (sO p.nodes) (sO p.nodes).length)
theorem PD.Vh {V:Vw}{v:Value}{p:PD}(h:V.av v p.A):(sO p.f).length≤9223372036854775807∧(sO p.ins).length≤9223372036854775807∧(sO p.nodes).length≤9223372036854775807∧(sO p.states).length≤9223372036854775807:=by
 obtain⟨arr,rfl,hs,hc⟩:=h
 have hs8:arr.size=8:=hs
 exact⟨fW (hc 0 (by simp) (by omega)),fW (hc 2 (by simp) (by omega)),fW (hc 3 (by simp) (by omega)),fW (hc 6 (by simp) (by omega))⟩
set_option maxHeartbeats 2000000 in
theorem IT (G:List (List DV))(p:PD)(hp:p.ok):ah Tryz.prog G 16 [p.A] (.c (.d (.bool (m5 p)))):=by
 refine aC.gu 0 (by simp) (fun V v h=>PD.Vh h) fun hr=>?_
 obtain⟨hr0,hr2,hr3,hr6⟩:=hr
 have lp0:∀ (lv:Key→LB) (o:Option (List (List DV))),eE Tryz.prog 22 lv (mS o)=some (.c (.d (.int .i64 (sO o).length)),[],[],True):=fun lv o=>bY (by simp)
 have lp2:∀ (lv:Key→LB) (o:Option (List (List DV))),eE Tryz.prog 23 lv (mS o)=some (.c (.d (.int .i64 (sO o).length)),[],[],True):=fun lv o=>bY (by simp)
 have lp3:∀ (lv:Key→LB) (o:Option (List (List DV))),eE Tryz.prog 24 lv (mS o)=some (.c (.d (.int .i64 (sO o).length)),[],[],True):=fun lv o=>bY (by simp)
 have lp6:∀ (lv:Key→LB) (o:Option (List (List DV))),eE Tryz.prog 25 lv (mS o)=some (.c (.d (.int .i64 (sO o).length)),[],[],True):=fun lv o=>bY (by simp)
 refine ah.aU Go.Proofs.Tryz.func16 rfl (by rw [Tryz.ntmps16];simp) ?_
 rintro⟨_,_,w0,F0,W0,_,bu,β0⟩ rfl rfl rfl
 refine AW.ag fun K hK=>?_
 refine AW.aa rfl ?_
 simp
 apply hK;clear hK K
 refine AW.ag fun K hK=>?_
 refine AW.ag fun K1 hK1=>?_
 by_cases h0:100<(sO p.f).length
 ·have i0:(100:Int)<((sO p.f).length:Int):=by omega
  refine AW.aa rfl ?_
  simp [lp0,i0]
  apply hK1;clear hK1 K1
  refine AW.cond (b:=true) (by first|(simp [];done)|(simp [];omega)) ?_
  refine AW.ag fun K1 hK1=>?_
  refine AW.aa rfl ?_
  simp
  apply hK1;clear hK1 K1
  exact AW.ret (κ:=0) (aK.tmp (κ:=0) rfl 2 (by simp [m5,h0]) (by first|rfl|simp) (by first|rfl|simp) (by first|rfl|simp))
 have i0:¬ (100:Int)<((sO p.f).length:Int):=by omega
 by_cases h2:100<(sO p.ins).length
 ·have i2:(100:Int)<((sO p.ins).length:Int):=by omega
  refine AW.aa rfl ?_
  simp [lp0,lp2,i0,i2]
  apply hK1;clear hK1 K1
  refine AW.cond (b:=true) (by first|(simp [];done)|(simp [];omega)) ?_
  refine AW.ag fun K1 hK1=>?_
  refine AW.aa rfl ?_
  simp
  apply hK1;clear hK1 K1
  exact AW.ret (κ:=0) (aK.tmp (κ:=0) rfl 2 (by simp [m5,h2]) (by first|rfl|simp) (by first|rfl|simp) (by first|rfl|simp))
 have i2:¬ (100:Int)<((sO p.ins).length:Int):=by omega
 by_cases h3:100<(sO p.nodes).length
 ·have i3:(100:Int)<((sO p.nodes).length:Int):=by omega
  refine AW.aa rfl ?_
  simp [lp0,lp2,lp3,i0,i2,i3]
  apply hK1;clear hK1 K1
  refine AW.cond (b:=true) (by first|(simp [];done)|(simp [];omega)) ?_
  refine AW.ag fun K1 hK1=>?_
  refine AW.aa rfl ?_
  simp
  apply hK1;clear hK1 K1
  exact AW.ret (κ:=0) (aK.tmp (κ:=0) rfl 2 (by simp [m5,h3]) (by first|rfl|simp) (by first|rfl|simp) (by first|rfl|simp))
 have i3:¬ (100:Int)<((sO p.nodes).length:Int):=by omega
 by_cases h6:100<(sO p.states).length
 ·have i6:(100:Int)<((sO p.states).length:Int):=by omega
  refine AW.aa rfl ?_
  simp [lp0,lp2,lp3,lp6,i0,i2,i3,i6]
  apply hK1;clear hK1 K1
  refine AW.cond (b:=true) (by first|(simp [];done)|(simp [];omega)) ?_
  refine AW.ag fun K1 hK1=>?_
  refine AW.aa rfl ?_
  simp
  apply hK1;clear hK1 K1
  exact AW.ret (κ:=0) (aK.tmp (κ:=0) rfl 2 (by simp [m5,h6]) (by first|rfl|simp) (by first|rfl|simp) (by first|rfl|simp))
 have i6:¬ (100:Int)<((sO p.states).length:Int):=by omega
 refine AW.aa rfl ?_
 simp [lp0,lp2,lp3,lp6,i0,i2,i3,i6]
 apply hK1;clear hK1 K1
 refine AW.cond (b:=false) (by first|(simp [];done)|(simp [];omega)) ?_
 refine AW.skip ?_
 simp
 apply hK;clear hK K
 refine AW.ag fun K hK=>?_
 refine AW.aa rfl ?_
 simp
 apply hK;clear hK K
 refine AW.ag fun K hK=>?_
 refine AW.ag fun K1 hK1=>?_
 refine AW.aa rfl ?_
 simp
 apply hK1;clear hK1 K1
 refine AW.block ?_
 refine AW.b9 (fun (q:Nat × Int)=>⟨bp [(1,.c (.ptr 0 0)),(3,.c (.d (.int .i64 q.2))),(4,.c (.d (.int .i64 q.1)))],aB (fun _=>.hole) 0 (.cells true false 27 p.cs)⟩) 1
  (fun q=>q.1≤(sO p.ins).length∧q.2=Pn (sO p.ins) q.1) (fun q=>(sO p.ins).length - q.1) (0,0) (Le.mk' _ (by simp) (by simp) (by simp)) ⟨by simp,rfl⟩ ?_
 rintro⟨i,n⟩ ⟨hi,hn⟩
 simp only at hi hn
 refine AW.ag fun K3 hK3=>AW.ag fun K4 hK4=>?_
 refine AW.aa rfl ?_
 simp [lp2]
 apply hK4;clear hK4 K4
 by_cases hi2:i<(sO p.ins).length
 ·refine AW.cond (b:=true) (by first|(simp [hi2];done)|(simp [hi2];omega)) ?_
  refine AW.skip ?_
  simp
  apply hK3
  obtain⟨a,s,t,he⟩:=hp.ins _ (List.getElem_mem hi2)
  have hx:∀ lv:Key→LB,ak Tryz.prog 23 lv (mS p.ins) (.c (.d (.int .i64 (i:Int))))=some (.c (.d (.ptr [.int .i64 a,.str s,.str t])),[],[],True):=fun lv=>by
   rw [iJ (sz:=3) (by simp) hi2 (by rw [he];rfl),he]
  refine AW.ag fun K5 hK5=>?_
  refine AW.block ?_
  refine AW.jj mixed (by kernel_rfl) rfl rfl ?_
  simp [hx]
  apply hK5;clear hK5 K5
  have e3:=cX (n:=(i:Int)+1) (by omega) (by omega)
  refine AW.aa rfl ?_
  simp [e3]
  refine⟨i+1,IntKind.i64.wrap (IntKind.i64.wrap (n+s.length)+t.length),Le.mk' _ (by simp) (by simp) (by simp),⟨by omega,?_⟩,by omega⟩
  exact Ie hn hi2 he
 ·refine AW.cond (b:=false) (by first|(simp [hi2];done)|(simp [hi2];omega)) ?_
  refine AW.exit ?_
  simp
  apply hK
  have hii:i=(sO p.ins).length:=by omega
  subst hii
  refine AW.ag fun K hK=>?_
  refine AW.ag fun K1 hK1=>?_
  refine AW.aa rfl ?_
  simp
  apply hK1;clear hK1 K1
  refine AW.block ?_
  refine AW.b9 (fun (q:Nat × Int)=>⟨bp [(1,.c (.ptr 0 0)),(3,.c (.d (.int .i64 q.2))),(5,.c (.d (.int .i64 q.1)))],aB (fun _=>.hole) 0 (.cells true false 27 p.cs)⟩) 1
   (fun q=>q.1≤(sO p.nodes).length∧q.2=P1 n (sO p.nodes) q.1) (fun q=>(sO p.nodes).length - q.1) (0,n) (Le.mk' _ (by simp) (by simp) (by simp)) ⟨by simp,rfl⟩ ?_
  rintro⟨i,n'⟩ ⟨hi,hn'⟩
  simp only at hi hn'
  refine AW.ag fun K3 hK3=>AW.ag fun K4 hK4=>?_
  refine AW.aa rfl ?_
  simp [lp3]
  apply hK4;clear hK4 K4
  by_cases hi3:i<(sO p.nodes).length
  ·refine AW.cond (b:=true) (by first|(simp [hi3];done)|(simp [hi3];omega)) ?_
   refine AW.skip ?_
   simp
   apply hK3
   obtain⟨a1,a2,a3,a4,a5,a6,s,he⟩:=hp.nodes _ (List.getElem_mem hi3)
   have hx:∀ lv:Key→LB,ak Tryz.prog 24 lv (mS p.nodes) (.c (.d (.int .i64 (i:Int))))=some (.c (.d (.ptr [.int .i64 a1,.int .i64 a2,.int .i64 a3,.int .i64 a4,.int .i64 a5,.int .i64 a6,.str s])),[],[],True):=fun lv=>by
    rw [iJ (sz:=7) (by simp) hi3 (by rw [he];rfl),he]
   refine AW.ag fun K5 hK5=>?_
   refine AW.block ?_
   refine AW.aa rfl ?_
   simp [hx]
   apply hK5;clear hK5 K5
   have e3:=cX (n:=(i:Int)+1) (by omega) (by omega)
   refine AW.aa rfl ?_
   simp [e3]
   refine⟨i+1,IntKind.i64.wrap (n'+s.length),Le.mk' _ (by simp) (by simp) (by simp),⟨by omega,?_⟩,by omega⟩
   exact Hz hn' hi3 he
  ·refine AW.cond (b:=false) (by first|(simp [hi3];done)|(simp [hi3];omega)) ?_
   refine AW.exit ?_
   simp
   apply hK
   have hii:i=(sO p.nodes).length:=by omega
   subst hii
   refine AW.ag fun K3 hK3=>?_
   refine AW.aa rfl ?_
   simp
   apply hK3;clear hK3 K3
   have hb:m5 p=decide (2000<n'):=by
    simp [m5,h0,h2,h3,h6,hn',hn]
   exact AW.ret (κ:=0) (aK.tmp (κ:=0) rfl 2 (by simp [hb]) (by first|rfl|simp) (by first|rfl|simp) (by first|rfl|simp))
end Go.Am
